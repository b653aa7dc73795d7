import PyProof.Rows.All
import HandS.ForMost
import HandS.Flow
import HandS.Style
import HandS.IsInst
import HandS.TupAny
import HandS.TupLe
import HandS.TupMul
import HandS.Gcd
import HandS.Wide
import HandS.Conv
import HandS.Deep
import HandS.SortInts
import HandS.Rev
import KE.KMathG
import KE.KMathGC
import KE.KTupSum
import HandS.RevRange
import HandS.Zip
import PySem.Challenge.RW_toldheights_k40_whole_odd_heights
set_option Elab.async false
set_option linter.all false
set_option autoImplicit false
set_option maxRecDepth 100000
set_option maxHeartbeats 2000000
namespace L2.Z
open PySem PySem.Spec PyProof.Rows

abbrev D := PyData
/-- who owns an address: none nobody, some none another, some (some i) slot i -/
abbrev Ow := Addr → Option (Option Nat)

mutual
def Rep (H : Hp) (ow : Ow) : D → V → Prop
  | .none, v => v = V.non
  | .bool b, v => v = V.bl b
  | .int i, v => v = V.int i
  | .str x, v => v = V.str x
  | .list xs, v => ∃ a vs, v = V.ref a ∧ H a = some (.lst vs) ∧ ow a = none ∧ Reps H ow xs vs
  | .tuple xs, v => ∃ a vs, v = V.ref a ∧ H a = some (.tup vs) ∧ ow a = none ∧ Reps H ow xs vs
  | .dict _, _ => False
def Reps (H : Hp) (ow : Ow) : List D → List V → Prop
  | [], vs => vs = []
  | x :: xs, vs => ∃ v r, vs = v :: r ∧ Rep H ow x v ∧ Reps H ow xs r
end

/-- what nobody owns here stays and stays unowned -/
structure Calm (H : Hp) (ow : Ow) (H' : Hp) (ow' : Ow) : Prop where
  at' : ∀ a o, H a = some o → (∀ i, ow a ≠ some (some i)) → H' a = some o ∧ ow' a = ow a
  grow : ∀ a o, H a = some o → ∃ o', H' a = some o'
  slot : ∀ a o i j, H a = some o → ow a = some (some i) → ow' a = some (some j) → j = i
theorem Calm.refl {H : Hp} {ow : Ow} : Calm H ow H ow := ⟨fun _ _ h _ => ⟨h, rfl⟩, fun _ o h => ⟨o, h⟩, fun a o i j _ h h' => by rw [h] at h'; injection h' with h'; injection h' with h'; exact h'.symm⟩
theorem Calm.trans {H H1 H2 : Hp} {ow o1 o2 : Ow} (a : Calm H ow H1 o1) (b : Calm H1 o1 H2 o2) : Calm H ow H2 o2 := ⟨fun c o h n => by
  obtain ⟨h1, e1⟩ := a.at' c o h n
  obtain ⟨h2, e2⟩ := b.at' c o h1 (by rw [e1]; exact n)
  exact ⟨h2, e2.trans e1⟩, fun c o h => by
  obtain ⟨u, h1⟩ := a.grow c o h
  exact b.grow c u h1, fun c o i j h e1 e2 => by
  obtain ⟨u, h1⟩ := a.grow c o h
  have key : ∀ k, o1 c = some (some k) → j = i := fun k ek => by
    have x1 := a.slot c o i k h e1 ek
    have x2 := b.slot c u k j h1 ek e2
    exact x2.trans x1
  cases q : o1 c with
  | none =>
    obtain ⟨_, z⟩ := b.at' c u h1 (by rw [q]; intro i z; cases z)
    rw [q, e2] at z; cases z
  | some y =>
    cases y with
    | none =>
      obtain ⟨_, z⟩ := b.at' c u h1 (by rw [q]; intro i z; cases z)
      rw [q, e2] at z; cases z
    | some k => exact key k q⟩
theorem Calm.gone {H H' : Hp} {ow ow' : Ow} (c : Calm H ow H' ow') {a : Addr} (h : H' a = none) : H a = none := by
  cases e : H a with
  | none => rfl
  | some o => obtain ⟨o', h'⟩ := c.grow a o e; rw [h] at h'; cases h'
theorem Calm.rd {H H' : Hp} {ow ow' : Ow} (c : Calm H ow H' ow') {a : Addr} {u : HO} (r : H a = some u) (n : ow a = none) : H' a = some u ∧ ow' a = none := by
  obtain ⟨h, e⟩ := c.at' a _ r (by rw [n]; intro i h; cases h)
  exact ⟨h, e.trans n⟩
/-- what the representations lean on -/
def Keeps (H : Hp) (ow : Ow) (H' : Hp) (ow' : Ow) : Prop := ∀ a u, H a = some u → ow a = none → H' a = some u ∧ ow' a = none
theorem Calm.keeps {H H' : Hp} {ow ow' : Ow} (c : Calm H ow H' ow') : Keeps H ow H' ow' := fun _ _ r n => c.rd r n
mutual
theorem Rep.mono {H H' : Hp} {ow ow' : Ow} (k : Keeps H ow H' ow') : ∀ (d : D) {v : V}, Rep H ow d v → Rep H' ow' d v
  | .none, v, h => by rw [Rep] at h ⊢; exact h
  | .bool _, v, h => by rw [Rep] at h ⊢; exact h
  | .int _, v, h => by rw [Rep] at h ⊢; exact h
  | .str _, v, h => by rw [Rep] at h ⊢; exact h
  | .list xs, v, h => by
    rw [Rep] at h ⊢
    obtain ⟨a, vs, e, r, n, q⟩ := h
    obtain ⟨r', n'⟩ := k a _ r n
    exact ⟨a, vs, e, r', n', Reps.mono k xs q⟩
  | .tuple xs, v, h => by
    rw [Rep] at h ⊢
    obtain ⟨a, vs, e, r, n, q⟩ := h
    obtain ⟨r', n'⟩ := k a _ r n
    exact ⟨a, vs, e, r', n', Reps.mono k xs q⟩
  | .dict _, v, h => by rw [Rep] at h; exact h.elim
theorem Reps.mono {H H' : Hp} {ow ow' : Ow} (k : Keeps H ow H' ow') : ∀ (xs : List D) {vs : List V}, Reps H ow xs vs → Reps H' ow' xs vs
  | [], vs, h => by rw [Reps] at h ⊢; exact h
  | x :: xs, vs, h => by
    rw [Reps] at h ⊢
    obtain ⟨v, r, e, h1, h2⟩ := h
    exact ⟨v, r, e, Rep.mono k x h1, Reps.mono k xs h2⟩
end
theorem Reps.nil {H : Hp} {ow : Ow} : Reps H ow [] [] := by rw [Reps]
theorem Reps.cons {H : Hp} {ow : Ow} {x : D} {v : V} {xs : List D} {vs : List V} (a : Rep H ow x v) (b : Reps H ow xs vs) : Reps H ow (x :: xs) (v :: vs) := by
  rw [Reps]; exact ⟨v, vs, rfl, a, b⟩
theorem Reps.length {H : Hp} {ow : Ow} : ∀ {xs : List D} {vs : List V}, Reps H ow xs vs → vs.length = xs.length
  | [], vs, h => by rw [Reps] at h; rw [h]; rfl
  | x :: xs, vs, h => by
    rw [Reps] at h
    obtain ⟨v, r, rfl, _, h2⟩ := h
    simp [Reps.length h2]
theorem Reps.get {H : Hp} {ow : Ow} : ∀ {xs : List D} {vs : List V} {i : Nat} {x : D}, Reps H ow xs vs → xs[i]? = some x → ∃ v, vs[i]? = some v ∧ Rep H ow x v
  | [], vs, i, x, h, e => by simp at e
  | y :: xs, vs, 0, x, h, e => by
    rw [Reps] at h
    obtain ⟨v, r, rfl, h1, _⟩ := h
    simp at e; subst e
    exact ⟨v, rfl, h1⟩
  | y :: xs, vs, i + 1, x, h, e => by
    rw [Reps] at h
    obtain ⟨v, r, rfl, _, h2⟩ := h
    obtain ⟨v', e', q⟩ := Reps.get (i := i) h2 (by simpa using e)
    exact ⟨v', by simpa using e', q⟩
theorem Reps.get' {H : Hp} {ow : Ow} : ∀ {xs : List D} {vs : List V} {i : Nat} {v : V}, Reps H ow xs vs → vs[i]? = some v → ∃ x, xs[i]? = some x ∧ Rep H ow x v := fun {xs vs i v} h e => by
  have hl := h.length
  have hi : i < vs.length := by
    rcases Nat.lt_or_ge i vs.length with z | z
    · exact z
    · rw [List.getElem?_eq_none z] at e; cases e
  have hx : xs[i]? = some (xs[i]'(by omega)) := List.getElem?_eq_getElem (by omega)
  obtain ⟨v', e', q⟩ := h.get hx
  rw [e] at e'; cases e'
  exact ⟨_, hx, q⟩
theorem Reps.append {H : Hp} {ow : Ow} : ∀ {xs ys : List D} {vs ws : List V}, Reps H ow xs vs → Reps H ow ys ws → Reps H ow (xs ++ ys) (vs ++ ws)
  | [], ys, vs, ws, h, k => by rw [Reps] at h; subst h; exact k
  | x :: xs, ys, vs, ws, h, k => by
    rw [Reps] at h
    obtain ⟨v, r, rfl, h1, h2⟩ := h
    exact Reps.cons h1 (Reps.append h2 k)
theorem Reps.take {H : Hp} {ow : Ow} : ∀ {xs : List D} {vs : List V} (n : Nat), Reps H ow xs vs → Reps H ow (xs.take n) (vs.take n)
  | xs, vs, 0, h => by simp only [List.take_zero]; exact Reps.nil
  | [], vs, n + 1, h => by rw [Reps] at h; subst h; exact Reps.nil
  | x :: xs, vs, n + 1, h => by
    rw [Reps] at h
    obtain ⟨v, r, rfl, h1, h2⟩ := h
    exact Reps.cons h1 (Reps.take n h2)
theorem Reps.drop {H : Hp} {ow : Ow} : ∀ {xs : List D} {vs : List V} (n : Nat), Reps H ow xs vs → Reps H ow (xs.drop n) (vs.drop n)
  | xs, vs, 0, h => by simpa using h
  | [], vs, n + 1, h => by rw [Reps] at h; subst h; exact Reps.nil
  | x :: xs, vs, n + 1, h => by
    rw [Reps] at h
    obtain ⟨v, r, rfl, h1, h2⟩ := h
    exact Reps.drop n h2
theorem Reps.set {H : Hp} {ow : Ow} {y : D} {w : V} (hy : Rep H ow y w) : ∀ {xs : List D} {vs : List V} (n : Nat), Reps H ow xs vs → Reps H ow (xs.set n y) (vs.set n w)
  | [], vs, n, h => by rw [Reps] at h; subst h; exact Reps.nil
  | x :: xs, vs, 0, h => by
    rw [Reps] at h
    obtain ⟨v, r, rfl, h1, h2⟩ := h
    exact Reps.cons hy h2
  | x :: xs, vs, n + 1, h => by
    rw [Reps] at h
    obtain ⟨v, r, rfl, h1, h2⟩ := h
    exact Reps.cons h1 (Reps.set hy n h2)
theorem Reps.eraseIdx {H : Hp} {ow : Ow} : ∀ {xs : List D} {vs : List V} (n : Nat), Reps H ow xs vs → Reps H ow (xs.eraseIdx n) (vs.eraseIdx n)
  | [], vs, n, h => by rw [Reps] at h; subst h; exact Reps.nil
  | x :: xs, vs, 0, h => by
    rw [Reps] at h
    obtain ⟨v, r, rfl, h1, h2⟩ := h
    exact h2
  | x :: xs, vs, n + 1, h => by
    rw [Reps] at h
    obtain ⟨v, r, rfl, h1, h2⟩ := h
    exact Reps.cons h1 (Reps.eraseIdx n h2)
theorem Reps.reverse {H : Hp} {ow : Ow} : ∀ {xs : List D} {vs : List V}, Reps H ow xs vs → Reps H ow xs.reverse vs.reverse
  | [], vs, h => by rw [Reps] at h; subst h; exact Reps.nil
  | x :: xs, vs, h => by
    rw [Reps] at h
    obtain ⟨v, r, rfl, h1, h2⟩ := h
    rw [List.reverse_cons, List.reverse_cons]
    exact Reps.append (Reps.reverse h2) (Reps.cons h1 Reps.nil)
theorem Reps.ints {H : Hp} {ow : Ow} : ∀ (ns : List Int), Reps H ow (ns.map PyData.int) (ns.map V.int)
  | [] => Reps.nil
  | n :: ns => Reps.cons (by rw [Rep]) (Reps.ints ns)
theorem Reps.ints_of {H : Hp} {ow : Ow} : ∀ {ns : List Int} {vs : List V}, Reps H ow (ns.map PyData.int) vs → vs = ns.map V.int
  | [], vs, h => by rw [List.map_nil, Reps] at h; exact h
  | n :: ns, vs, h => by
    rw [List.map_cons, Reps] at h
    obtain ⟨v, r, rfl, h1, h2⟩ := h
    rw [Rep] at h1
    rw [h1, Reps.ints_of h2, List.map_cons]

/-! ### slots -/
inductive W where
  | d (x : D)
  | own (xs : List D)
  | src (cs : List Int) (rs : List Int)
def RepW (H : Hp) (ow : Ow) (i : Nat) : W → V → Prop
  | .d x, v => Rep H ow x v
  | .own xs, v => ∃ a vs, v = V.ref a ∧ H a = some (.lst vs) ∧ ow a = some (some i) ∧ Reps H ow xs vs
  | .src cs rs, v => ∃ a b, v = V.ref a ∧ H a = some (.lst (V.ref b :: rs.map V.int)) ∧ H b = some (.lst (cs.map V.int)) ∧ ow a = some (some i) ∧ ow b = some (some i) ∧ a ≠ b
abbrev Env := List (Option W)
/-- owned things stand -/
def Wf (H : Hp) (ow : Ow) : Prop := ∀ a, ow a ≠ none → ∃ vs, H a = some (.lst vs)
structure Ok (H : Hp) (ow : Ow) (σ : St) (env : Env) : Prop where
  wf : Wf H ow
  slot : ∀ i w, env[i]? = some (some w) → ∃ v, σ[i]? = some (some v) ∧ RepW H ow i w v
  len : env.length = σ.length
theorem RepW.mono {H H' : Hp} {ow ow' : Ow} {i : Nat} (k : Keeps H ow H' ow') (k2 : ∀ a u, H a = some u → ow a = some (some i) → H' a = some u ∧ ow' a = some (some i)) : ∀ {w : W} {v : V}, RepW H ow i w v → RepW H' ow' i w v
  | .d x, v, h => Rep.mono k x h
  | .own xs, v, ⟨a, vs, e, h, n, r⟩ => ⟨a, vs, e, (k2 a _ h n).1, (k2 a _ h n).2, Reps.mono k xs r⟩
  | .src cs rs, v, ⟨a, b, e, h1, h2, n1, n2, d⟩ => ⟨a, b, e, (k2 a _ h1 n1).1, (k2 b _ h2 n2).1, (k2 a _ h1 n1).2, (k2 b _ h2 n2).2, d⟩

/-- what an expression gives: a value, or the list that a slot owns -/
inductive R where
  | val (w : W)
  | var (i : Nat)
/-- a value's representation: a list that nobody else has is owned by another than the frame's slots -/
def RepT (H0 H : Hp) (ow : Ow) : W → V → Prop
  | .d x, v => Rep H ow x v
  | .own xs, v => ∃ a vs, v = V.ref a ∧ H a = some (.lst vs) ∧ ow a = some none ∧ H0 a = none ∧ Reps H ow xs vs
  | .src cs rs, v => ∃ a b, v = V.ref a ∧ H a = some (.lst (V.ref b :: rs.map V.int)) ∧ H b = some (.lst (cs.map V.int)) ∧ ow a = some none ∧ ow b = some none ∧ a ≠ b ∧ H0 a = none ∧ H0 b = none
def RepR (H0 H : Hp) (ow : Ow) (σ : St) : R → V → Prop
  | .val w, v => RepT H0 H ow w v
  | .var i, v => σ[i]? = some (some v)
abbrev ME := Env → Option (R × Env)
structure Post (H : Hp) (ow : Ow) (σ : St) (env' : Env) (H' : Hp) (ow' : Ow) (v : V) (r : R) : Prop where
  ok : Ok H' ow' σ env'
  calm : Calm H ow H' ow'
  rep : RepR H H' ow' σ r v
def tM (m : ME) : TE := fun σ H Q => ∃ ow env r env', Ok H ow σ env ∧ m env = some (r, env') ∧ ∀ v H' ow', Post H ow σ env' H' ow' v r → Q v H'
/-- the content of a result, read late -/
def cont (env : Env) : R → Option D
  | .val (.d x) => some x
  | .val (.own xs) => some (.list xs)
  | .val (.src _ _) => none
  | .var i => match env[i]? with
    | some (some (.own xs)) => some (.list xs)
    | some (some (.d x)) => some x
    | _ => none
/-- content: a list's top may be owned -/
def RepC (H : Hp) (ow : Ow) : D → V → Prop
  | .list xs, v => ∃ a vs, v = V.ref a ∧ H a = some (.lst vs) ∧ Reps H ow xs vs
  | d, v => Rep H ow d v
theorem Rep.c {H : Hp} {ow : Ow} {d : D} {v : V} (h : Rep H ow d v) : RepC H ow d v := by
  cases d with
  | list xs => rw [Rep] at h; obtain ⟨a, vs, e, r, _, q⟩ := h; exact ⟨a, vs, e, r, q⟩
  | _ => exact h
theorem RepC.mono {H H' : Hp} {ow ow' : Ow} (k : Keeps H ow H' ow') {d : D} {v : V} (hl : ∀ a vs, v = V.ref a → H a = some (.lst vs) → H' a = some (.lst vs)) (h : RepC H ow d v) : RepC H' ow' d v := by
  cases d with
  | list xs => obtain ⟨a, vs, e, r, q⟩ := h; exact ⟨a, vs, e, hl a vs e r, Reps.mono k xs q⟩
  | _ => exact Rep.mono k _ h
/-- a result that came at H1, ow1 (begun at H0), read at H2, ow2 -/
theorem cont_rep {H0 H1 H2 : Hp} {ow1 ow2 : Ow} {σ : St} {env2 : Env} {r : R} {v : V} {d : D} (h : RepR H0 H1 ow1 σ r v) (c : Calm H1 ow1 H2 ow2) (ok : Ok H2 ow2 σ env2) (e : cont env2 r = some d) : RepC H2 ow2 d v := by
  cases r with
  | val w =>
    cases w with
    | d x => cases e; exact (Rep.mono c.keeps _ h).c
    | own xs =>
      cases e
      obtain ⟨a, vs, ev, ha, ho, _, q⟩ := h
      exact ⟨a, vs, ev, (c.at' a _ ha (by rw [ho]; intro i z; cases z)).1, Reps.mono c.keeps xs q⟩
    | src cs rs => cases e
  | var i =>
    have hv : σ[i]? = some (some v) := h
    simp only [cont] at e
    split at e
    · rename_i xs hx
      cases e
      obtain ⟨v', hv', q⟩ := ok.slot i _ hx
      rw [hv] at hv'; cases hv'
      obtain ⟨a, vs, ev, ha, _, q⟩ := q
      exact ⟨a, vs, ev, ha, q⟩
    · rename_i x hx
      cases e
      obtain ⟨v', hv', q⟩ := ok.slot i _ hx
      rw [hv] at hv'; cases hv'
      exact Rep.c q
    · cases e
theorem RepT.later {H0 H1 H2 : Hp} {ow1 ow2 : Ow} (c : Calm H1 ow1 H2 ow2) : ∀ {w : W} {v : V}, RepT H0 H1 ow1 w v → RepT H0 H2 ow2 w v
  | .d x, v, h => Rep.mono c.keeps x h
  | .own xs, v, ⟨a, vs, e, h, n, z, r⟩ => by
    obtain ⟨h', n'⟩ := c.at' a _ h (by rw [n]; intro i z; cases z)
    exact ⟨a, vs, e, h', n'.trans n, z, Reps.mono c.keeps xs r⟩
  | .src cs rs, v, ⟨a, b, e, h1, h2, n1, n2, d, z1, z2⟩ => by
    obtain ⟨h1', n1'⟩ := c.at' a _ h1 (by rw [n1]; intro i z; cases z)
    obtain ⟨h2', n2'⟩ := c.at' b _ h2 (by rw [n2]; intro i z; cases z)
    exact ⟨a, b, e, h1', h2', n1'.trans n1, n2'.trans n2, d, z1, z2⟩
theorem RepT.fresh {H0 H0' H1 : Hp} {ow1 : Ow} (c : ∀ a, H0' a = none → H0 a = none) : ∀ {w : W} {v : V}, RepT H0' H1 ow1 w v → RepT H0 H1 ow1 w v
  | .d x, v, h => h
  | .own xs, v, ⟨a, vs, e, h, n, z, r⟩ => ⟨a, vs, e, h, n, c a z, r⟩
  | .src cs rs, v, ⟨a, b, e, h1, h2, n1, n2, d, z1, z2⟩ => ⟨a, b, e, h1, h2, n1, n2, d, c a z1, c b z2⟩
theorem RepR.later {H0 H1 H2 : Hp} {ow1 ow2 : Ow} {σ : St} (c : Calm H1 ow1 H2 ow2) {r : R} {v : V} (h : RepR H0 H1 ow1 σ r v) : RepR H0 H2 ow2 σ r v := by
  cases r with
  | val w => exact RepT.later c h
  | var i => exact h
theorem RepR.fresh {H0 H0' H1 : Hp} {ow1 : Ow} {σ : St} (c : ∀ a, H0' a = none → H0 a = none) {r : R} {v : V} (h : RepR H0' H1 ow1 σ r v) : RepR H0 H1 ow1 σ r v := by
  cases r with
  | val w => exact RepT.fresh c h
  | var i => exact h
/-- a new thing came, all else as it was -/
structure New (H : Hp) (ow : Ow) (H' : Hp) (ow' : Ow) : Prop where
  wf : Wf H ow → Wf H' ow'
  same : ∀ a o, H a = some o → H' a = some o ∧ ow' a = ow a
theorem New.refl {H : Hp} {ow : Ow} : New H ow H ow := ⟨id, fun _ _ h => ⟨h, rfl⟩⟩
theorem New.calm {H H' : Hp} {ow ow' : Ow} (n : New H ow H' ow') : Calm H ow H' ow' := ⟨fun a o h _ => n.same a o h, fun a o h => ⟨o, (n.same a o h).1⟩, fun a o i j h e1 e2 => by
  rw [(n.same a o h).2, e1] at e2; injection e2 with e2; injection e2 with e2; exact e2.symm⟩
theorem New.ok {H H' : Hp} {ow ow' : Ow} {σ : St} {env : Env} (n : New H ow H' ow') (ok : Ok H ow σ env) : Ok H' ow' σ env :=
  ⟨n.wf ok.wf, fun i w e => by
    obtain ⟨v, hv, q⟩ := ok.slot i w e
    exact ⟨v, hv, RepW.mono n.calm.keeps (fun a u h z => ⟨(n.same a u h).1, (n.same a u h).2.trans z⟩) q⟩, ok.len⟩
def setOw (ow : Ow) (a : Addr) (x : Option (Option Nat)) : Ow := fun b => if b = a then x else ow b
theorem setOw_same {ow : Ow} {a : Addr} {x} : setOw ow a x a = x := by unfold setOw; rw [if_pos rfl]
theorem setOw_ne {ow : Ow} {a b : Addr} {x} (h : b ≠ a) : setOw ow a x b = ow b := by unfold setOw; rw [if_neg h]
theorem New.made {H : Hp} {ow : Ow} {p : Addr} {o : HO} (x : Option (Option Nat)) (hp : H p = none) (hx : x ≠ none → ∃ vs, o = .lst vs := by first | (intro h; exact absurd rfl h) | (intro _; exact ⟨_, rfl⟩)) : New H ow (upd H p o) (setOw ow p x) :=
  ⟨fun wf a ha => by
    by_cases e : a = p
    · subst e
      rw [setOw_same] at ha
      obtain ⟨vs, hv⟩ := hx ha
      exact ⟨vs, by rw [upd_same, hv]⟩
    · rw [setOw_ne e] at ha
      obtain ⟨u, hu⟩ := wf a ha
      exact ⟨u, by rw [upd_ne e]; exact hu⟩, fun a u h => by
    have e : a ≠ p := ne_of_none h hp
    exact ⟨by rw [upd_ne e]; exact h, setOw_ne e⟩⟩
theorem New.keeps {H H' : Hp} {ow ow' : Ow} (n : New H ow H' ow') : Keeps H ow H' ow' := n.calm.keeps
end L2.Z

namespace L2.Z
open PySem PySem.Spec PyProof.Rows
variable {X : Cx}
theorem PE.weak {e : Expr} {t t' : TE} (h : PE X e t) (w : ∀ σ H Q, t' σ H Q → t σ H Q) : PE X e t' := ⟨fun pins s σ H Q I q => h.run pins s σ H Q I (w σ H Q q)⟩
theorem PT.weak {e : Expr} {t t' : TT} (h : PT X e t) (w : ∀ σ H Q, t' σ H Q → t σ H Q) : PT X e t' := ⟨fun pins s σ H Q I q => h.run pins s σ H Q I (w σ H Q q)⟩
theorem PW.weak {e : Expr} {t t' : TT} (h : PW X e t) (w : ∀ σ H Q, t' σ H Q → t σ H Q) : PW X e t' := ⟨fun wh pins s σ H Q I q => h.run wh pins s σ H Q I (w σ H Q q)⟩
theorem PA.weak {es : List Expr} {t t' : TA} (h : PA X es t) (w : ∀ σ H Q, t' σ H Q → t σ H Q) : PA X es t' := ⟨fun pos pins s σ H Q I q => h.run pos pins s σ H Q I (w σ H Q q)⟩
theorem PS.weak {st : Stmt} {t t' : TS} (h : PS X st t) (w : ∀ D σ H, t' D σ H → t D σ H) : PS X st t' := ⟨fun pins s σ H D I q => h.run pins s σ H D I (w D σ H q)⟩
theorem PSs.weak {st : List Stmt} {t t' : TS} (h : PSs X st t) (w : ∀ D σ H, t' D σ H → t D σ H) : PSs X st t' := ⟨fun pins s σ H D I q => h.run pins s σ H D I (w D σ H q)⟩

structure JE (X : Cx) (e : Expr) (m : ME) : Prop where
  pe : PE X e (tM m)
abbrev MT := Env → Option (Bool × Env)
def tMT (m : MT) : TT := fun σ H Q => ∃ ow env b env', Ok H ow σ env ∧ m env = some (b, env') ∧ ∀ H' ow', Ok H' ow' σ env' → Calm H ow H' ow' → Q b H'
structure JT (X : Cx) (e : Expr) (m : MT) : Prop where
  pt : PT X e (tMT m)
structure JW (X : Cx) (e : Expr) (m : MT) : Prop where
  pw : PW X e (tMT m)
abbrev MA := Env → Option (List R × Env)
/-- results from the left, each fresh list made behind those ahead of it -/
def RepRs (H0 H : Hp) (ow : Ow) (σ : St) : List R → List V → Prop
  | [], vs => vs = []
  | r :: rs, vs => ∃ v t H1, vs = v :: t ∧ RepR H0 H ow σ r v ∧ (∀ a, H1 a = none → H0 a = none) ∧ (∀ w a, r = .val w → v = .ref a → ∃ o, H1 a = some o) ∧ RepRs H1 H ow σ rs t
def tMA (m : MA) : TA := fun σ H Q => ∃ ow env rs env', Ok H ow σ env ∧ m env = some (rs, env') ∧ ∀ vs H' ow', Ok H' ow' σ env' → Calm H ow H' ow' → RepRs H H' ow' σ rs vs → Q vs H'
structure JA (X : Cx) (es : List Expr) (m : MA) : Prop where
  pa : PA X es (tMA m)

/-! ### names, constants -/
def mVar (i : Nat) : ME := fun env => match env[i]? with
  | some (some (.d x)) => some (.val (.d x), env)
  | some (some _) => some (.var i, env)
  | _ => none
theorem je_var {i : Nat} {x : Str} {pos : Pos} (hN : X.N[i]? = some x) (hv : Vis X.env.scope x) (hd : (x == ("__debug__" : Str)) = false := by decide) (hcd : (x == ("__classdict__" : Str)) = false := by decide) : JE X (.Name x pos) (mVar i) :=
  ⟨PE.weak (pe_var hN hv hd hcd) fun σ H Q ⟨ow, env, r, env', ok, e, q⟩ => by
    unfold mVar at e
    split at e
    · rename_i x hx
      cases e
      obtain ⟨v, hv, h⟩ := ok.slot i _ hx
      exact ⟨v, hv, q v H ow ⟨ok, .refl, h⟩⟩
    · rename_i w _ hx
      cases e
      obtain ⟨v, hv, h⟩ := ok.slot i _ hx
      exact ⟨v, hv, q v H ow ⟨ok, .refl, hv⟩⟩
    · cases e⟩
def mC (d : D) : ME := fun env => some (.val (.d d), env)
theorem je_int {i j pos} : JE X (.Constant (.int i) j pos) (mC (.int i)) := ⟨PE.weak pe_int fun σ H Q ⟨ow, env, r, env', ok, e, q⟩ => by
  cases e; exact q _ H ow ⟨ok, .refl, by show Rep H ow (.int i) (V.int i); rw [Rep]⟩⟩
theorem je_bl {i j pos} : JE X (.Constant (.bool i) j pos) (mC (.bool i)) := ⟨PE.weak pe_bl fun σ H Q ⟨ow, env, r, env', ok, e, q⟩ => by
  cases e; exact q _ H ow ⟨ok, .refl, by show Rep H ow (.bool i) (V.bl i); rw [Rep]⟩⟩
theorem je_str {i j pos} : JE X (.Constant (.str i) j pos) (mC (.str i)) := ⟨PE.weak pe_str fun σ H Q ⟨ow, env, r, env', ok, e, q⟩ => by
  cases e; exact q _ H ow ⟨ok, .refl, by show Rep H ow (.str i) (V.str i); rw [Rep]⟩⟩
theorem je_non {j pos} : JE X (.Constant .none j pos) (mC .none) := ⟨PE.weak pe_non fun σ H Q ⟨ow, env, r, env', ok, e, q⟩ => by
  cases e; exact q _ H ow ⟨ok, .refl, by show Rep H ow .none V.non; rw [Rep]⟩⟩

/-! ### operators -/
def BinOK (X : Cx) (f : Value → Value → Sem Value) (g : D → D → Option W) : Prop := ∃ r, OpR X f r ∧ ∀ H ow d1 d2 x y w Q, Wf H ow → RepC H ow d1 x → RepC H ow d2 y → g d1 d2 = some w →
  (∀ v H' ow', New H ow H' ow' → RepT H H' ow' w v → Q v H') → r x y H Q
theorem BinOK.or {f g1 g2} (a : BinOK X f g1) (b : BinOK X f g2) : BinOK X f (fun x y => match g1 x y with | some w => some w | none => g2 x y) := by
  obtain ⟨r1, o1, h1⟩ := a
  obtain ⟨r2, o2, h2⟩ := b
  refine ⟨_, o1.or o2, fun H ow d1 d2 x y w Q wf c1 c2 e q => ?_⟩
  cases e1 : g1 d1 d2 with
  | some w1 =>
    simp only [e1] at e
    cases e
    exact .inl (h1 H ow d1 d2 x y w Q wf c1 c2 e1 q)
  | none =>
    simp only [e1] at e
    exact .inr (h2 H ow d1 d2 x y w Q wf c1 c2 e q)
def mBin (g : D → D → Option W) (a b : ME) : ME := fun env => match a env with
  | none => none
  | some (r1, env1) => match b env1 with
    | none => none
    | some (r2, env2) => match cont env2 r1, cont env2 r2 with
      | some d1, some d2 => match g d1 d2 with
        | some w => some (.val w, env2)
        | none => none
      | _, _ => none
theorem mBin_some {g : D → D → Option W} {a b : ME} {env env' : Env} {r : R} (h : mBin g a b env = some (r, env')) :
    ∃ r1 env1 r2 d1 d2 w, a env = some (r1, env1) ∧ b env1 = some (r2, env') ∧ cont env' r1 = some d1 ∧ cont env' r2 = some d2 ∧ g d1 d2 = some w ∧ r = .val w := by
  unfold mBin at h
  split at h
  · cases h
  · rename_i r1 env1 h1
    split at h
    · cases h
    · rename_i r2 env2 h2
      split at h
      · rename_i d1 d2 c1 c2
        split at h
        · rename_i w hg
          cases h
          exact ⟨r1, env1, r2, d1, d2, w, h1, h2, c1, c2, hg, rfl⟩
        · cases h
      · cases h
/-- two operands have come -/
theorem tOp_of {g : D → D → Option W} {ma mb : ME} {r : R2} {σ : St} {H : Hp} {Q : VK}
    (hr : ∀ H ow d1 d2 x y w Q, Wf H ow → RepC H ow d1 x → RepC H ow d2 y → g d1 d2 = some w → (∀ v H' ow', New H ow H' ow' → RepT H H' ow' w v → Q v H') → r x y H Q)
    (h : tM (mBin g ma mb) σ H Q) : tOp r (tM ma) (tM mb) σ H Q := by
  obtain ⟨ow, env, r', env', ok, e, q⟩ := h
  obtain ⟨r1, env1, r2, d1, d2, w, h1, h2, c1, c2, hg, rfl⟩ := mBin_some e
  refine ⟨ow, env, r1, env1, ok, h1, fun v1 H1 ow1 p1 => ?_⟩
  refine ⟨ow1, env1, r2, env', p1.ok, h2, fun v2 H2 ow2 p2 => ?_⟩
  have k1 := cont_rep p1.rep p2.calm p2.ok c1
  have k2 := cont_rep p2.rep .refl p2.ok c2
  refine hr H2 ow2 d1 d2 v1 v2 w Q p2.ok.wf k1 k2 hg fun v H' ow' n rt => ?_
  have c := (p1.calm.trans p2.calm)
  exact q v H' ow' ⟨n.ok p2.ok, c.trans n.calm, RepT.fresh (fun a z => c.gone z) rt⟩
theorem je_bin {op : Operator} {g} {a b : Expr} {ma mb : ME} {pos : Pos} (ho : BinOK X (binaryOp op) g) (ha : JE X a ma) (hb : JE X b mb) : JE X (.BinOp a op b pos) (mBin g ma mb) := by
  obtain ⟨r, o, hr⟩ := ho
  exact ⟨PE.weak (pe_op o ha.pe hb.pe) fun σ H Q h => tOp_of hr h⟩
theorem je_cmp {op : CmpOp} {g} {a b : Expr} {ma mb : ME} {pos : Pos} (ho : BinOK X (compareOp op) g) (ha : JE X a ma) (hb : JE X b mb) (hm : behindInMarks op b = false) : JE X (.Compare a [op] [b] pos) (mBin g ma mb) := by
  obtain ⟨r, o, hr⟩ := ho
  exact ⟨PE.weak (pe_cmpR o ha.pe hb.pe hm) fun σ H Q h => tOp_of hr h⟩
/-- a bool as a test -/
def mTest (m : ME) : MT := fun env => match m env with
  | some (.val (.d (.bool b)), env') => some (b, env')
  | _ => none
theorem mTest_some {m : ME} {env env' : Env} {b : Bool} (h : mTest m env = some (b, env')) : m env = some (.val (.d (.bool b)), env') := by
  unfold mTest at h
  split at h
  · rename_i h1; cases h; exact h1
  · cases h
theorem tTest_of {m : ME} {t : TE} {σ : St} {H : Hp} {Q : Bool → Hp → Prop} (ht : ∀ Q, tM m σ H Q → t σ H Q) (h : tMT (mTest m) σ H Q) : tTest t σ H Q := by
  obtain ⟨ow, env, b, env', ok, e, q⟩ := h
  refine ht _ ⟨ow, env, _, env', ok, mTest_some e, fun v H' ow' p => ?_⟩
  have rp : Rep H' ow' (.bool b) v := p.rep
  rw [Rep] at rp
  exact ⟨b, rp, q H' ow' p.ok p.calm⟩
theorem jt_cmp {op : CmpOp} {g} {a b : Expr} {ma mb : ME} {pos : Pos} (ho : BinOK X (compareOp op) g) (ha : JE X a ma) (hb : JE X b mb) (hm : behindInMarks op b = false) : JT X (.Compare a [op] [b] pos) (mTest (mBin g ma mb)) := by
  obtain ⟨r, o, hr⟩ := ho
  exact ⟨PT.weak (pt_cmpR o ha.pe hb.pe hm) fun σ H Q h => tTest_of (fun Q q => tOp_of hr q) h⟩
/-- a < b < c -/
def mChain (g g' : D → D → Option W) (a b c : ME) : ME := fun env => match a env with
  | none => none
  | some (r1, env1) => match b env1 with
    | none => none
    | some (r2, env2) => match cont env2 r1, cont env2 r2 with
      | some d1, some d2 => match g d1 d2 with
        | some (.d (.bool true)) => match c env2 with
          | none => none
          | some (r3, env3) => match cont env3 r2, cont env3 r3 with
            | some d2', some d3 => match g' d2' d3 with
              | some w => some (.val w, env3)
              | none => none
            | _, _ => none
        | some (.d (.bool false)) => some (.val (.d (.bool false)), env2)
        | _ => none
      | _, _ => none
theorem tChain_of {g g' : D → D → Option W} {ma mb mc : ME} {r r' : R2} {σ : St} {H : Hp} {Q : VK}
    (hr : ∀ H ow d1 d2 x y w Q, Wf H ow → RepC H ow d1 x → RepC H ow d2 y → g d1 d2 = some w → (∀ v H' ow', New H ow H' ow' → RepT H H' ow' w v → Q v H') → r x y H Q)
    (hr' : ∀ H ow d1 d2 x y w Q, Wf H ow → RepC H ow d1 x → RepC H ow d2 y → g' d1 d2 = some w → (∀ v H' ow', New H ow H' ow' → RepT H H' ow' w v → Q v H') → r' x y H Q)
    (h : tM (mChain g g' ma mb mc) σ H Q) : tChain r r' (tM ma) (tM mb) (tM mc) σ H Q := by
  obtain ⟨ow, env, rr, env', ok, e, q⟩ := h
  unfold mChain at e
  split at e
  · cases e
  rename_i r1 env1 h1
  split at e
  · cases e
  rename_i r2 env2 h2
  split at e
  rotate_left
  · cases e
  rename_i d1 d2 c1 c2
  refine ⟨ow, env, r1, env1, ok, h1, fun v1 H1 ow1 p1 => ?_⟩
  refine ⟨ow1, env1, r2, env2, p1.ok, h2, fun v2 H2 ow2 p2 => ?_⟩
  have k1 := cont_rep p1.rep p2.calm p2.ok c1
  have k2 := cont_rep p2.rep .refl p2.ok c2
  have c := (p1.calm.trans p2.calm)
  split at e
  · rename_i hg
    refine hr H2 ow2 d1 d2 v1 v2 _ _ p2.ok.wf k1 k2 hg fun v H' ow' n rt => ?_
    have rt : Rep H' ow' (.bool true) v := rt
    rw [Rep] at rt
    refine ⟨true, rt, ?_⟩
    rw [if_pos rfl]
    split at e
    · cases e
    rename_i r3 env3 h3
    split at e
    rotate_left
    · cases e
    rename_i d2' d3 c2' c3
    split at e
    rotate_left
    · cases e
    rename_i w hg'
    cases e
    refine ⟨ow', env2, r3, _, n.ok p2.ok, h3, fun v3 H3 ow3 p3 => ?_⟩
    have k2' := cont_rep p2.rep (n.calm.trans p3.calm) p3.ok c2'
    have k3 := cont_rep p3.rep .refl p3.ok c3
    refine hr' H3 ow3 d2' d3 v2 v3 w Q p3.ok.wf k2' k3 hg' fun v4 H4 ow4 n4 rt4 => ?_
    have c' := (c.trans n.calm).trans p3.calm
    exact q v4 H4 ow4 ⟨n4.ok p3.ok, c'.trans n4.calm, RepT.fresh (fun a z => c'.gone z) rt4⟩
  · rename_i hg
    cases e
    refine hr H2 ow2 d1 d2 v1 v2 _ _ p2.ok.wf k1 k2 hg fun v H' ow' n rt => ?_
    have rt : Rep H' ow' (.bool false) v := rt
    rw [Rep] at rt
    refine ⟨false, rt, ?_⟩
    rw [if_neg (by decide)]
    exact q _ H' ow' ⟨n.ok p2.ok, c.trans n.calm, by show Rep H' ow' (.bool false) (V.bl false); rw [Rep]⟩
  · cases e
theorem je_chain {op op' : CmpOp} {g g'} {a b c : Expr} {ma mb mc : ME} {pos : Pos} (ho : BinOK X (compareOp op) g) (ho' : BinOK X (compareOp op') g') (ha : JE X a ma) (hb : JE X b mb) (hc : JE X c mc)
    (hm : lastMarks [op, op'] [b, c] = false := by with_unfolding_all rfl) : JE X (.Compare a [op, op'] [b, c] pos) (mChain g g' ma mb mc) := by
  obtain ⟨r, o, hr⟩ := ho
  obtain ⟨r', o', hr'⟩ := ho'
  exact ⟨PE.weak (pe_chain o o' ha.pe hb.pe hc.pe hm) fun σ H Q h => tChain_of hr hr' h⟩
theorem jt_chain {op op' : CmpOp} {g g'} {a b c : Expr} {ma mb mc : ME} {pos : Pos} (ho : BinOK X (compareOp op) g) (ho' : BinOK X (compareOp op') g') (ha : JE X a ma) (hb : JE X b mb) (hc : JE X c mc)
    (hm : lastMarks [op, op'] [b, c] = false := by with_unfolding_all rfl) : JT X (.Compare a [op, op'] [b, c] pos) (mTest (mChain g g' ma mb mc)) := by
  obtain ⟨r, o, hr⟩ := ho
  obtain ⟨r', o', hr'⟩ := ho'
  exact ⟨PT.weak (pt_chain o o' ha.pe hb.pe hc.pe hm) fun σ H Q h => tTest_of (fun Q q => tChain_of hr hr' q) h⟩
/-! ### truth -/
def truD : D → Option Bool
  | .none => some false
  | .bool b => some b
  | .int i => some (i != 0)
  | .str x => if x.length ≤ sizeLine then some ((x.length : Int) != 0) else none
  | .list xs => some (!xs.isEmpty)
  | .tuple xs => some (!xs.isEmpty)
  | .dict _ => none
theorem isEmpty_len {α β : Type} {xs : List α} {ys : List β} (h : xs.length = ys.length) : xs.isEmpty = ys.isEmpty := by
  cases xs <;> cases ys <;> simp_all
theorem tru_c {K : PySem.W.Frag} {H : Hp} {ow : Ow} {d : D} {v : V} {b : Bool} (h : RepC H ow d v) (e : truD d = some b) : TruV K v H b := by
  cases d with
  | none => have h : Rep H ow .none v := h; rw [Rep] at h; subst h; cases e; rfl
  | bool k => have h : Rep H ow (.bool k) v := h; rw [Rep] at h; subst h; cases e; rfl
  | int i => have h : Rep H ow (.int i) v := h; rw [Rep] at h; subst h; cases e; rfl
  | str x =>
    have h : Rep H ow (.str x) v := h
    rw [Rep] at h; subst h
    by_cases hx : x.length ≤ sizeLine
    · simp only [truD, if_pos hx] at e
      cases e; exact ⟨hx, rfl⟩
    · simp only [truD, if_neg hx] at e
      cases e
  | list xs =>
    obtain ⟨a, vs, rfl, r, q⟩ := h
    cases e
    exact .inl ⟨vs, SqL.of r, by rw [isEmpty_len q.length]⟩
  | tuple xs =>
    have h : Rep H ow (.tuple xs) v := h
    rw [Rep] at h
    obtain ⟨a, vs, rfl, r, _, q⟩ := h
    cases e
    exact .inr (.inl ⟨vs, SqT.of r, by rw [isEmpty_len q.length]⟩)
  | dict _ => cases e
def mTruth (m : ME) : MT := fun env => match m env with
  | some (r, env') => match cont env' r with
    | some d => match truD d with
      | some b => some (b, env')
      | none => none
    | none => none
  | none => none
theorem mTruth_some {m : ME} {env env' : Env} {b : Bool} (h : mTruth m env = some (b, env')) : ∃ r d, m env = some (r, env') ∧ cont env' r = some d ∧ truD d = some b := by
  unfold mTruth at h
  split at h
  · rename_i r env1 h1
    split at h
    · rename_i d hc
      split at h
      · rename_i k hk
        cases h
        exact ⟨r, d, h1, hc, hk⟩
      · cases h
    · cases h
  · cases h
theorem jt_truth {a : Expr} {m : ME} (ha : JE X a m) (he : ∀ whole, isTrue a X.env whole = (do let v ← whole; standAt a.pos; holding [v] (truthy v)) := by intro _; rfl) : JT X a (mTruth m) :=
  ⟨PT.weak (pt_truth ha.pe he) fun σ H Q h => by
    obtain ⟨ow, env, b, env', ok, e, q⟩ := h
    obtain ⟨r, d, h1, hc, hk⟩ := mTruth_some e
    refine ⟨ow, env, r, env', ok, h1, fun v H' ow' p => ?_⟩
    exact ⟨b, tru_c (cont_rep p.rep .refl p.ok hc) hk, q H' ow' p.ok p.calm⟩⟩
def mNot (m : MT) : MT := fun env => match m env with
  | some (b, env') => some (!b, env')
  | none => none
theorem jt_not {a : Expr} {m : MT} {pos : Pos} (ha : JT X a m) : JT X (.UnaryOp .Not a pos) (mNot m) :=
  ⟨PT.weak (pt_not ha.pt) fun σ H Q h => by
    obtain ⟨ow, env, b, env', ok, e, q⟩ := h
    unfold mNot at e
    split at e
    · rename_i k env1 h1
      cases e
      exact ⟨ow, env, k, _, ok, h1, q⟩
    · cases e⟩
def mAnd (a b : MT) : MT := fun env => match a env with
  | some (true, env1) => b env1
  | some (false, env1) => some (false, env1)
  | none => none
def mOr (a b : MT) : MT := fun env => match a env with
  | some (true, env1) => some (true, env1)
  | some (false, env1) => b env1
  | none => none
theorem jw_and1 {a : Expr} {m : MT} {pos : Pos} (ha : JT X a m) : JW X (.BoolOp .And [a] pos) m := ⟨pw_and1 ha.pt⟩
theorem jw_or1 {a : Expr} {m : MT} {pos : Pos} (ha : JT X a m) : JW X (.BoolOp .Or [a] pos) m := ⟨pw_or1 ha.pt⟩
theorem jw_and {a b : Expr} {rest : List Expr} {m m' : MT} {pos : Pos} (ha : JT X a m) (hb : JW X (.BoolOp .And (b :: rest) pos) m') : JW X (.BoolOp .And (a :: b :: rest) pos) (mAnd m m') :=
  ⟨PW.weak (pw_and ha.pt hb.pw) fun σ H Q h => by
    obtain ⟨ow, env, k, env', ok, e, q⟩ := h
    unfold mAnd at e
    split at e
    · rename_i env1 h1
      refine ⟨ow, env, true, _, ok, h1, fun H1 ow1 ok1 c1 => ?_⟩
      refine show tMT m' σ H1 Q from ?_
      exact ⟨ow1, env1, k, env', ok1, e, fun H' ow' ok' c' => q H' ow' ok' (c1.trans c')⟩
    · rename_i env1 h1
      cases e
      refine ⟨ow, env, false, _, ok, h1, fun H1 ow1 ok1 c1 => ?_⟩
      exact show Q false H1 from q H1 ow1 ok1 c1
    · cases e⟩
theorem jw_or {a b : Expr} {rest : List Expr} {m m' : MT} {pos : Pos} (ha : JT X a m) (hb : JW X (.BoolOp .Or (b :: rest) pos) m') : JW X (.BoolOp .Or (a :: b :: rest) pos) (mOr m m') :=
  ⟨PW.weak (pw_or ha.pt hb.pw) fun σ H Q h => by
    obtain ⟨ow, env, k, env', ok, e, q⟩ := h
    unfold mOr at e
    split at e
    · rename_i env1 h1
      cases e
      refine ⟨ow, env, true, _, ok, h1, fun H1 ow1 ok1 c1 => ?_⟩
      exact show Q true H1 from q H1 ow1 ok1 c1
    · rename_i env1 h1
      refine ⟨ow, env, false, _, ok, h1, fun H1 ow1 ok1 c1 => ?_⟩
      refine show tMT m' σ H1 Q from ?_
      exact ⟨ow1, env1, k, env', ok1, e, fun H' ow' ok' c' => q H' ow' ok' (c1.trans c')⟩
    · cases e⟩
theorem JW.jt {e : Expr} {m : MT} (h : JW X e m) : JT X e m := ⟨h.pw.pt⟩
/-- x and y, x or y as values -/
def mAndV (a b : ME) : ME := fun env => match a env with
  | some (r, env1) => match cont env1 r with
    | some d => match truD d with
      | some true => b env1
      | some false => some (r, env1)
      | none => none
    | none => none
  | none => none
def mOrV (a b : ME) : ME := fun env => match a env with
  | some (r, env1) => match cont env1 r with
    | some d => match truD d with
      | some true => some (r, env1)
      | some false => b env1
      | none => none
    | none => none
  | none => none
theorem je_one {op} {a : Expr} {m : ME} {pos : Pos} (h : JE X a m) : JE X (.BoolOp op [a] pos) m := ⟨pe_one h.pe⟩
theorem je_and {a b : Expr} {rest : List Expr} {m m' : ME} {pos : Pos} (ha : JE X a m) (hb : JE X (.BoolOp .And (b :: rest) pos) m') : JE X (.BoolOp .And (a :: b :: rest) pos) (mAndV m m') :=
  ⟨PE.weak (pe_andT ha.pe hb.pe) fun σ H Q h => by
    obtain ⟨ow, env, rr, env', ok, e, q⟩ := h
    unfold mAndV at e
    split at e
    rotate_left
    · cases e
    rename_i r env1 h1
    split at e
    rotate_left
    · cases e
    rename_i d hc
    split at e
    · rename_i hk
      refine ⟨ow, env, r, env1, ok, h1, fun v H1 ow1 p1 => ⟨true, tru_c (cont_rep p1.rep .refl p1.ok hc) hk, ?_⟩⟩
      refine show tM m' σ H1 Q from ?_
      exact ⟨ow1, env1, rr, env', p1.ok, e, fun v2 H' ow' p => q v2 H' ow' ⟨p.ok, p1.calm.trans p.calm, RepR.fresh (fun a z => p1.calm.gone z) p.rep⟩⟩
    · rename_i hk
      cases e
      refine ⟨ow, env, _, env', ok, h1, fun v H1 ow1 p1 => ⟨false, tru_c (cont_rep p1.rep .refl p1.ok hc) hk, ?_⟩⟩
      exact show Q v H1 from q v H1 ow1 p1
    · cases e⟩
theorem je_or {a b : Expr} {rest : List Expr} {m m' : ME} {pos : Pos} (ha : JE X a m) (hb : JE X (.BoolOp .Or (b :: rest) pos) m') : JE X (.BoolOp .Or (a :: b :: rest) pos) (mOrV m m') :=
  ⟨PE.weak (pe_orT ha.pe hb.pe) fun σ H Q h => by
    obtain ⟨ow, env, rr, env', ok, e, q⟩ := h
    unfold mOrV at e
    split at e
    rotate_left
    · cases e
    rename_i r env1 h1
    split at e
    rotate_left
    · cases e
    rename_i d hc
    split at e
    · rename_i hk
      cases e
      refine ⟨ow, env, _, env', ok, h1, fun v H1 ow1 p1 => ⟨true, tru_c (cont_rep p1.rep .refl p1.ok hc) hk, ?_⟩⟩
      exact show Q v H1 from q v H1 ow1 p1
    · rename_i hk
      refine ⟨ow, env, r, env1, ok, h1, fun v H1 ow1 p1 => ⟨false, tru_c (cont_rep p1.rep .refl p1.ok hc) hk, ?_⟩⟩
      refine show tM m' σ H1 Q from ?_
      exact ⟨ow1, env1, rr, env', p1.ok, e, fun v2 H' ow' p => q v2 H' ow' ⟨p.ok, p1.calm.trans p.calm, RepR.fresh (fun a z => p1.calm.gone z) p.rep⟩⟩
    · cases e⟩
def mNotV (m : ME) : ME := fun env => match m env with
  | some (r, env') => match cont env' r with
    | some d => match truD d with
      | some b => some (.val (.d (.bool (!b))), env')
      | none => none
    | none => none
  | none => none
theorem je_not {a : Expr} {m : ME} {pos : Pos} (ha : JE X a m) : JE X (.UnaryOp .Not a pos) (mNotV m) :=
  ⟨PE.weak (pe_notT ha.pe) fun σ H Q h => by
    obtain ⟨ow, env, rr, env', ok, e, q⟩ := h
    unfold mNotV at e
    split at e
    rotate_left
    · cases e
    rename_i r env1 h1
    split at e
    rotate_left
    · cases e
    rename_i d hc
    split at e
    rotate_left
    · cases e
    rename_i k hk
    cases e
    refine ⟨ow, env, r, env', ok, h1, fun v H1 ow1 p1 => ⟨k, tru_c (cont_rep p1.rep .refl p1.ok hc) hk, ?_⟩⟩
    exact q _ H1 ow1 ⟨p1.ok, p1.calm, by show Rep H1 ow1 (.bool (!k)) (V.bl (!k)); rw [Rep]⟩⟩
def mIf (c : MT) (a b : ME) : ME := fun env => match c env with
  | some (true, env1) => a env1
  | some (false, env1) => b env1
  | none => none
theorem je_if {c a b : Expr} {mc : MT} {ma mb : ME} {pos : Pos} (hc : JT X c mc) (ha : JE X a ma) (hb : JE X b mb) : JE X (.IfExp c a b pos) (mIf mc ma mb) :=
  ⟨PE.weak (pe_ifExp hc.pt ha.pe hb.pe) fun σ H Q h => by
    obtain ⟨ow, env, rr, env', ok, e, q⟩ := h
    unfold mIf at e
    split at e
    · rename_i env1 h1
      refine ⟨ow, env, true, _, ok, h1, fun H1 ow1 ok1 c1 => ?_⟩
      refine show tM ma σ H1 Q from ?_
      exact ⟨ow1, env1, rr, env', ok1, e, fun v2 H' ow' p => q v2 H' ow' ⟨p.ok, c1.trans p.calm, RepR.fresh (fun a z => c1.gone z) p.rep⟩⟩
    · rename_i env1 h1
      refine ⟨ow, env, false, _, ok, h1, fun H1 ow1 ok1 c1 => ?_⟩
      refine show tM mb σ H1 Q from ?_
      exact ⟨ow1, env1, rr, env', ok1, e, fun v2 H' ow' p => q v2 H' ow' ⟨p.ok, c1.trans p.calm, RepR.fresh (fun a z => c1.gone z) p.rep⟩⟩
    · cases e⟩
/-! ### argument lists -/
def mNil : MA := fun env => some ([], env)
def mCons (a : ME) (r : MA) : MA := fun env => match a env with
  | some (x, env1) => match r env1 with
    | some (xs, env2) => some (x :: xs, env2)
    | none => none
  | none => none
theorem RepRs.later {H1 H2 : Hp} {ow1 ow2 : Ow} {σ : St} (c : Calm H1 ow1 H2 ow2) : ∀ {H0 : Hp} {rs : List R} {vs : List V}, RepRs H0 H1 ow1 σ rs vs → RepRs H0 H2 ow2 σ rs vs
  | _, [], vs, h => h
  | _, r :: rs, vs, ⟨v, t, H', e, h, g, z, q⟩ => ⟨v, t, H', e, h.later c, g, z, RepRs.later c q⟩
theorem RepRs.fresh {H0 H0' H1 : Hp} {ow1 : Ow} {σ : St} (c : ∀ a, H0' a = none → H0 a = none) : ∀ {rs : List R} {vs : List V}, RepRs H0' H1 ow1 σ rs vs → RepRs H0 H1 ow1 σ rs vs
  | [], vs, h => h
  | r :: rs, vs, ⟨v, t, H', e, h, g, z, q⟩ => ⟨v, t, H', e, h.fresh c, fun a y => c a (g a y), z, q⟩
theorem Rep.there {H : Hp} {ow : Ow} {d : D} {a : Addr} (h : Rep H ow d (.ref a)) : ∃ o, H a = some o := by
  cases d with
  | list xs => rw [Rep] at h; obtain ⟨b, vs, e, q, _⟩ := h; cases e; exact ⟨_, q⟩
  | tuple xs => rw [Rep] at h; obtain ⟨b, vs, e, q, _⟩ := h; cases e; exact ⟨_, q⟩
  | _ => rw [Rep] at h; first | cases h | exact h.elim
theorem RepT.there {H0 H : Hp} {ow : Ow} {w : W} {a : Addr} (h : RepT H0 H ow w (.ref a)) : ∃ o, H a = some o := by
  cases w with
  | d x => exact Rep.there h
  | own xs => obtain ⟨b, vs, e, q, _⟩ := h; cases e; exact ⟨_, q⟩
  | src cs rs => obtain ⟨b, c, e, q, _⟩ := h; cases e; exact ⟨_, q⟩
theorem ja_nil : JA X [] mNil := ⟨PA.weak pa_nil fun σ H Q h => by
  obtain ⟨ow, env, rs, env', ok, e, q⟩ := h
  cases e
  exact q [] H ow ok .refl rfl⟩
theorem ja_cons {e : Expr} {es : List Expr} {m : ME} {r : MA} (ha : JE X e m) (hr : JA X es r) (hs : starEach (e :: es) X.env = (false, eval e X.env) :: starEach es X.env := by rfl) : JA X (e :: es) (mCons m r) :=
  ⟨PA.weak (pa_cons ha.pe hr.pa hs) fun σ H Q h => by
    obtain ⟨ow, env, rs, env', ok, e, q⟩ := h
    unfold mCons at e
    split at e
    rotate_left
    · cases e
    rename_i x env1 h1
    split at e
    rotate_left
    · cases e
    rename_i xs env2 h2
    cases e
    refine ⟨ow, env, x, env1, ok, h1, fun v H1 ow1 p1 => ?_⟩
    refine ⟨ow1, env1, xs, env', p1.ok, h2, fun vs H2 ow2 ok2 c2 rr => ?_⟩
    exact q (v :: vs) H2 ow2 ok2 (p1.calm.trans c2) ⟨v, vs, H1, rfl, p1.rep.later c2, fun a z => p1.calm.gone z, fun w a e1 e2 => by subst e1 e2; exact RepT.there p1.rep, rr⟩⟩
end L2.Z

namespace L2.Z
open PySem PySem.Spec PyProof.Rows
variable {X : Cx}
/-! ### freezing -/
def fz (env : Env) : R → Option (D × Env)
  | .val (.d x) => some (x, env)
  | .val (.own xs) => some (.list xs, env)
  | .val (.src _ _) => none
  | .var i => match env[i]? with
    | some (some (.own xs)) => some (.list xs, env.set i (some (.d (.list xs))))
    | some (some (.d x)) => some (x, env)
    | _ => none
/-- an owned list is let go: nobody owns it, nobody changes it any more -/
theorem letgo_keeps {H : Hp} {ow : Ow} {a : Addr} (h : ow a ≠ none) : Keeps H ow H (setOw ow a none) := fun b u r n => by
  have e : b ≠ a := by rintro rfl; exact h n
  exact ⟨r, by rw [setOw_ne e]; exact n⟩
theorem letgo_wf {H : Hp} {ow : Ow} {a : Addr} (wf : Wf H ow) : Wf H (setOw ow a none) := fun b hb => by
  by_cases e : b = a
  · subst e; rw [setOw_same] at hb; exact absurd rfl hb
  · rw [setOw_ne e] at hb; exact wf b hb
/-- a value that only this expression has -/
theorem fz_ok {H0 H : Hp} {ow0 ow : Ow} {σ : St} {env env' : Env} {r : R} {v : V} {d : D} (ok : Ok H ow σ env) (c : Calm H0 ow0 H ow) (h : RepR H0 H ow σ r v) (e : fz env r = some (d, env')) :
    ∃ ow', Ok H ow' σ env' ∧ Calm H0 ow0 H ow' ∧ Rep H ow' d v := by
  cases r with
  | val w =>
    cases w with
    | d x => cases e; exact ⟨ow, ok, c, h⟩
    | own xs =>
      cases e
      obtain ⟨a, vs, rfl, ha, no, z, q⟩ := h
      have hne : ow a ≠ none := by rw [no]; simp
      refine ⟨setOw ow a none, ⟨letgo_wf ok.wf, fun i w hi => ?_, ok.len⟩, ⟨fun b o hb nb => ?_, c.grow, fun b o i j hb e1 e2 => ?_⟩, ?_⟩
      · obtain ⟨v, hv, q⟩ := ok.slot i w hi
        refine ⟨v, hv, RepW.mono (letgo_keeps hne) (fun b u hb ob => ⟨hb, ?_⟩) q⟩
        have e : b ≠ a := by rintro rfl; rw [no] at ob; cases ob
        rw [setOw_ne e]; exact ob
      · obtain ⟨h1, h2⟩ := c.at' b o hb nb
        have e : b ≠ a := by rintro rfl; rw [z] at hb; cases hb
        exact ⟨h1, by rw [setOw_ne e]; exact h2⟩
      · have e : b ≠ a := by rintro rfl; rw [z] at hb; cases hb
        rw [setOw_ne e] at e2
        exact c.slot b o i j hb e1 e2
      · rw [Rep]; exact ⟨a, vs, rfl, ha, setOw_same, Reps.mono (letgo_keeps hne) xs q⟩
    | src cs rs => cases e
  | var i =>
    have hv : σ[i]? = some (some v) := h
    simp only [fz] at e
    split at e
    · rename_i xs hx
      cases e
      obtain ⟨v', hv', q⟩ := ok.slot i _ hx
      rw [hv] at hv'; cases hv'
      obtain ⟨a, vs, rfl, ha, no, q⟩ := q
      have hne : ow a ≠ none := by rw [no]; simp
      have rl : Rep H (setOw ow a none) (.list xs) (.ref a) := by
        rw [Rep]; exact ⟨a, vs, rfl, ha, setOw_same, Reps.mono (letgo_keeps hne) xs q⟩
      refine ⟨setOw ow a none, ⟨letgo_wf ok.wf, fun j w hj => ?_, by rw [List.length_set]; exact ok.len⟩, ⟨fun b o hb nb => ?_, c.grow, fun b o i2 j2 hb e1 e2 => ?_⟩, rl⟩
      · by_cases eij : i = j
        · subst eij
          have hl : i < env.length := by
            rcases Nat.lt_or_ge i env.length with z | z
            · exact z
            · rw [List.getElem?_eq_none z] at hx; cases hx
          rw [List.getElem?_set_self hl] at hj
          cases hj
          exact ⟨_, hv, rl⟩
        · rw [List.getElem?_set_ne eij] at hj
          obtain ⟨v2, hv2, q2⟩ := ok.slot j w hj
          refine ⟨v2, hv2, RepW.mono (letgo_keeps hne) (fun b u hb ob => ⟨hb, ?_⟩) q2⟩
          have e : b ≠ a := by
            rintro rfl; rw [no] at ob
            injection ob with ob; injection ob with ob
            exact eij ob
          rw [setOw_ne e]; exact ob
      · obtain ⟨h1, h2⟩ := c.at' b o hb nb
        have e : b ≠ a := by
          rintro rfl
          rw [no] at h2
          exact nb i h2.symm
        exact ⟨h1, by rw [setOw_ne e]; exact h2⟩
      · have e : b ≠ a := by rintro rfl; rw [setOw_same] at e2; cases e2
        rw [setOw_ne e] at e2
        exact c.slot b o i2 j2 hb e1 e2
    · rename_i x hx
      cases e
      obtain ⟨v', hv', q⟩ := ok.slot i _ hx
      rw [hv] at hv'; cases hv'
      exact ⟨ow, ok, c, q⟩
    · cases e
/-- an expression whose value is kept by a container -/
def mFz (m : ME) : ME := fun env => match m env with
  | some (r, env1) => match fz env1 r with
    | some (d, env2) => some (.val (.d d), env2)
    | none => none
  | none => none
theorem je_fz {e : Expr} {m : ME} (h : JE X e m) : JE X e (mFz m) :=
  ⟨PE.weak h.pe fun σ H Q hh => by
    obtain ⟨ow, env, rr, env', ok, e, q⟩ := hh
    unfold mFz at e
    split at e
    rotate_left
    · cases e
    rename_i r env1 h1
    split at e
    rotate_left
    · cases e
    rename_i d env2 h2
    cases e
    refine ⟨ow, env, r, env1, ok, h1, fun v H1 ow1 p1 => ?_⟩
    obtain ⟨ow', ok', c', rp⟩ := fz_ok p1.ok p1.calm p1.rep h2
    exact q v H1 ow' ⟨ok', c', rp⟩⟩
/-- a fresh list let go, a slot's list left to it -/
def mFt (m : ME) : ME := fun env => match m env with
  | some (.val (.own xs), env1) => some (.val (.d (.list xs)), env1)
  | some (r, env1) => some (r, env1)
  | none => none
theorem je_ft {e : Expr} {m : ME} (h : JE X e m) : JE X e (mFt m) :=
  ⟨PE.weak h.pe fun σ H Q hh => by
    obtain ⟨ow, env, rr, env', ok, e, q⟩ := hh
    unfold mFt at e
    split at e
    · rename_i xs env1 h1
      cases e
      refine ⟨ow, env, _, _, ok, h1, fun v H1 ow1 p1 => ?_⟩
      obtain ⟨ow', ok', c', rp⟩ := fz_ok (r := .val (.own xs)) p1.ok p1.calm p1.rep rfl
      exact q v H1 ow' ⟨ok', c', rp⟩
    · rename_i r env1 h1 hne
      cases e
      exact ⟨ow, env, _, _, ok, hne, q⟩
    · cases e⟩

/-! ### what operators do -/
theorem res_d {H : Hp} {ow : Ow} {d : D} {v : V} {Q : VK} (r : Rep H ow d v) (q : ∀ v H' ow', New H ow H' ow' → RepT H H' ow' (.d d) v → Q v H') : Q v H := q v H ow .refl r
theorem res_new {H : Hp} {ow : Ow} {xs : List D} {vs : List V} {p : Addr} {Q : VK} (hp : H p = none) (wf : Wf H ow) (r : Reps H ow xs vs)
    (q : ∀ v H' ow', New H ow H' ow' → RepT H H' ow' (.own xs) v → Q v H') : Q (.ref p) (upd H p (.lst vs)) := by
  have n : New H ow (upd H p (.lst vs)) (setOw ow p (some none)) := New.made _ hp
  exact q _ _ _ n ⟨p, vs, rfl, upd_same, setOw_same, hp, Reps.mono n.keeps xs r⟩
theorem res_tup {H : Hp} {ow : Ow} {xs : List D} {vs : List V} {p : Addr} {Q : VK} (hp : H p = none) (r : Reps H ow xs vs)
    (q : ∀ v H' ow', New H ow H' ow' → RepT H H' ow' (.d (.tuple xs)) v → Q v H') : Q (.ref p) (upd H p (.tup vs)) := by
  have n : New H ow (upd H p (.tup vs)) (setOw ow p none) := New.made _ hp
  refine q _ _ _ n ?_
  show Rep _ _ (.tuple xs) _
  rw [Rep]
  exact ⟨p, vs, rfl, upd_same, setOw_same, Reps.mono n.keeps xs r⟩
theorem repI {H : Hp} {ow : Ow} {i : Int} {v : V} (h : RepC H ow (.int i) v) : v = .int i := by
  have h : Rep H ow (.int i) v := h; rw [Rep] at h; exact h
theorem repS {H : Hp} {ow : Ow} {i : Str} {v : V} (h : RepC H ow (.str i) v) : v = .str i := by
  have h : Rep H ow (.str i) v := h; rw [Rep] at h; exact h
theorem repB {H : Hp} {ow : Ow} {i : Bool} {v : V} (h : RepC H ow (.bool i) v) : v = .bl i := by
  have h : Rep H ow (.bool i) v := h; rw [Rep] at h; exact h
theorem repN {H : Hp} {ow : Ow} {v : V} (h : RepC H ow .none v) : v = .non := by
  have h : Rep H ow .none v := h; rw [Rep] at h; exact h
theorem repT {H : Hp} {ow : Ow} {xs : List D} {v : V} (h : RepC H ow (.tuple xs) v) : ∃ a vs, v = V.ref a ∧ H a = some (.tup vs) ∧ ow a = none ∧ Reps H ow xs vs := by
  have h : Rep H ow (.tuple xs) v := h; rw [Rep] at h; exact h
theorem rpI {H : Hp} {ow : Ow} {i : Int} : Rep H ow (.int i) (.int i) := by rw [Rep]
theorem rpB {H : Hp} {ow : Ow} {i : Bool} : Rep H ow (.bool i) (.bl i) := by rw [Rep]
theorem rpS {H : Hp} {ow : Ow} {i : Str} : Rep H ow (.str i) (.str i) := by rw [Rep]
theorem rpN {H : Hp} {ow : Ow} : Rep H ow .none .non := by rw [Rep]
/-- on ints -/
def gI (C : Int → Int → Bool) (g : Int → Int → D) : D → D → Option W
  | .int i, .int j => if C i j = true then some (.d (g i j)) else none
  | _, _ => none
theorem binI {f : Value → Value → Sem Value} {C : Int → Int → Prop} {Cb : Int → Int → Bool} {g : Int → Int → Int} (o : OpR X f (rI C fun i j => .int (g i j))) (hC : ∀ i j, Cb i j = true → C i j) : BinOK X f (gI Cb fun i j => .int (g i j)) :=
  ⟨_, o, fun H ow d1 d2 x y w Q wf c1 c2 e q => by
    unfold gI at e
    split at e
    rotate_left
    · cases e
    rename_i i j
    split at e
    rotate_left
    · cases e
    rename_i hc
    cases e
    exact ⟨i, j, repI c1, repI c2, hC _ _ hc, res_d rpI q⟩⟩
theorem binI0 {f : Value → Value → Sem Value} {g : Int → Int → Int} (o : OpR X f (rI0 fun i j => .int (g i j))) : BinOK X f (gI (fun _ _ => true) fun i j => .int (g i j)) :=
  ⟨_, o, fun H ow d1 d2 x y w Q wf c1 c2 e q => by
    unfold gI at e
    split at e
    rotate_left
    · cases e
    rename_i i j
    cases e
    exact ⟨i, j, repI c1, repI c2, res_d rpI q⟩⟩
theorem binB0 {f : Value → Value → Sem Value} {g : Int → Int → Bool} (o : OpR X f (rI0 fun i j => .bl (g i j))) : BinOK X f (gI (fun _ _ => true) fun i j => .bool (g i j)) :=
  ⟨_, o, fun H ow d1 d2 x y w Q wf c1 c2 e q => by
    unfold gI at e
    split at e
    rotate_left
    · cases e
    rename_i i j
    cases e
    exact ⟨i, j, repI c1, repI c2, res_d rpB q⟩⟩
def cMul (i j : Int) : Bool := decide (i.natAbs.log2 + j.natAbs.log2 < 1000000)
def cDiv (_ j : Int) : Bool := decide (0 < j) && decide (j.natAbs.log2 < 9000)
def cMod (_ j : Int) : Bool := decide (0 < j)
def cPow (i j : Int) : Bool := decide (0 ≤ j) && decide (j ≤ 1000000) && decide (i.natAbs < 2 ^ 64)
theorem cMul_ok {i j : Int} (h : cMul i j = true) : CMulW i j := by unfold cMul at h; unfold CMulW; exact of_decide_eq_true h
theorem cDiv_ok {i j : Int} (h : cDiv i j = true) : CDivW i j := by
  unfold cDiv at h
  rw [Bool.and_eq_true] at h
  exact ⟨of_decide_eq_true h.1, of_decide_eq_true h.2⟩
theorem cMod_ok {i j : Int} (h : cMod i j = true) : 0 < j := of_decide_eq_true h
theorem cPow_ok {i j : Int} (h : cPow i j = true) : CPow i j := by
  unfold cPow at h
  rw [Bool.and_eq_true, Bool.and_eq_true] at h
  exact ⟨of_decide_eq_true h.1.1, of_decide_eq_true h.1.2, of_decide_eq_true h.2⟩
theorem bo_addI : BinOK X (binaryOp .Add) (gI (fun _ _ => true) fun i j => .int (i + j)) := binI0 op_add
theorem bo_sub : BinOK X (binaryOp .Sub) (gI (fun _ _ => true) fun i j => .int (i - j)) := binI0 op_sub
theorem bo_mulI : BinOK X (binaryOp .Mult) (gI cMul fun i j => .int (i * j)) := binI op_mulW fun _ _ => cMul_ok
theorem bo_fdiv : BinOK X (binaryOp .FloorDiv) (gI cDiv fun i j => .int (i / j)) := binI op_fdivW fun _ _ => cDiv_ok
theorem bo_mod : BinOK X (binaryOp .Mod) (gI cMod fun i j => .int (i % j)) := binI op_mod fun _ _ => cMod_ok
theorem bo_pow : BinOK X (binaryOp .Pow) (gI cPow fun i j => .int (i ^ j.toNat)) := binI op_pow fun _ _ => cPow_ok
theorem bo_shl : BinOK X (binaryOp .LShift) (gI cPow fun i j => .int (i * 2 ^ j.toNat)) := binI op_shl fun _ _ => cPow_ok
theorem bo_shr : BinOK X (binaryOp .RShift) (gI (fun _ j => decide (0 ≤ j)) fun i j => .int (i / 2 ^ j.toNat)) := binI op_shr fun _ _ h => of_decide_eq_true h
theorem bo_and : BinOK X (binaryOp .BitAnd) (gI (fun _ _ => true) fun i j => .int (Builtin.bitAnd i j)) := binI0 op_and
theorem bo_ltI : BinOK X (compareOp .Lt) (gI (fun _ _ => true) fun i j => .bool (decide (i < j))) := binB0 op_lt
theorem bo_leI : BinOK X (compareOp .LtE) (gI (fun _ _ => true) fun i j => .bool (decide (i ≤ j))) := binB0 op_le
theorem bo_gtI : BinOK X (compareOp .Gt) (gI (fun _ _ => true) fun i j => .bool (decide (j < i))) := binB0 op_gt
theorem bo_geI : BinOK X (compareOp .GtE) (gI (fun _ _ => true) fun i j => .bool (decide (j ≤ i))) := binB0 op_ge
/-- + of lists, of tuples -/
def lenLine : Nat := 16000000
theorem lenLine_le {n : Nat} (h : n ≤ lenLine) : n ≤ sizeLine := by rw [sizeLine_eq]; unfold lenLine at h; omega
def gCatL : D → D → Option W
  | .list xs, .list ys => if xs.length + ys.length ≤ lenLine then some (.own (xs ++ ys)) else none
  | _, _ => none
def gCatT : D → D → Option W
  | .tuple xs, .tuple ys => if xs.length + ys.length ≤ lenLine then some (.d (.tuple (xs ++ ys))) else none
  | _, _ => none
theorem bo_catL : BinOK X (binaryOp .Add) gCatL :=
  ⟨_, op_cat, fun H ow d1 d2 x y w Q wf c1 c2 e q => by
    unfold gCatL at e
    split at e
    rotate_left
    · cases e
    rename_i xs ys
    split at e
    rotate_left
    · cases e
    rename_i hz
    cases e
    obtain ⟨a, vs, rfl, ra, qa⟩ := c1
    obtain ⟨b, us, rfl, rb, qb⟩ := c2
    refine ⟨a, b, vs, us, rfl, rfl, ra, rb, ?_, fun p hp => res_new hp wf (qa.append qb) q⟩
    rw [qa.length, qb.length]
    exact lenLine_le hz⟩
theorem bo_catT : BinOK X (binaryOp .Add) gCatT :=
  ⟨_, op_catA, fun H ow d1 d2 x y w Q wf c1 c2 e q => by
    unfold gCatT at e
    split at e
    rotate_left
    · cases e
    rename_i xs ys
    split at e
    rotate_left
    · cases e
    rename_i hz
    cases e
    obtain ⟨a, vs, rfl, ra, na, qa⟩ := repT c1
    obtain ⟨b, us, rfl, rb, nb, qb⟩ := repT c2
    refine ⟨a, b, vs, us, rfl, rfl, SqT.of ra, SqT.of rb, ?_, fun e => ?_, fun _ e => ?_, fun _ _ p hp => res_tup hp (qa.append qb) q⟩
    · rw [qa.length, qb.length]
      exact lenLine_le hz
    · have : xs = [] := by
        have := qa.length; rw [e] at this; exact List.length_eq_zero_iff.mp this.symm
      subst this
      exact res_d (d := .tuple ([] ++ ys)) (by rw [List.nil_append, Rep]; exact ⟨b, us, rfl, rb, nb, qb⟩) q
    · have : ys = [] := by
        have := qb.length; rw [e] at this; exact List.length_eq_zero_iff.mp this.symm
      subst this
      exact res_d (d := .tuple (xs ++ [])) (by rw [List.append_nil, Rep]; exact ⟨a, vs, rfl, ra, na, qa⟩) q⟩
def gAdd (x y : D) : Option W := match x, y with
  | .int i, .int j => some (.d (.int (i + j)))
  | .list xs, .list ys => if xs.length + ys.length ≤ lenLine then some (.own (xs ++ ys)) else none
  | .tuple xs, .tuple ys => if xs.length + ys.length ≤ lenLine then some (.d (.tuple (xs ++ ys))) else none
  | _, _ => none
theorem BinOK.eq {f g g'} (h : BinOK X f g) (e : ∀ x y, g' x y = g x y) : BinOK X f g' := by
  obtain ⟨r, o, hr⟩ := h
  exact ⟨r, o, fun H ow d1 d2 x y w Q wf c1 c2 ee q => hr H ow d1 d2 x y w Q wf c1 c2 (by rw [← e]; exact ee) q⟩
theorem bo_add : BinOK X (binaryOp .Add) gAdd := by
  refine BinOK.eq (bo_addI.or (bo_catL.or bo_catT)) fun x y => ?_
  cases x <;> cases y <;> first | rfl | (simp only [gAdd, gI, gCatL, gCatT]; split <;> rfl)
/-- list * int, tuple * int -/
def gRepL : D → D → Option W
  | .list xs, .int k => if k ≤ 1000000 ∧ xs.length * k.toNat ≤ lenLine then some (.own (List.replicate k.toNat xs).flatten) else none
  | _, _ => none
end L2.Z

namespace L2.Z
open PySem PySem.Spec PyProof.Rows
variable {X : Cx}
theorem reps_rep {H : Hp} {ow : Ow} {xs : List D} {vs : List V} (r : Reps H ow xs vs) : ∀ n : Nat, Reps H ow (List.replicate n xs).flatten (List.replicate n vs).flatten
  | 0 => by simp only [List.replicate_zero, List.flatten_nil]; exact Reps.nil
  | n + 1 => by
    simp only [List.replicate_succ, List.flatten_cons]
    exact r.append (reps_rep r n)
def gRep : D → D → Option W
  | .list xs, .int k => if 0 ≤ k ∧ k ≤ 1000000 ∧ xs.length * k.toNat ≤ lenLine then some (.own (List.replicate k.toNat xs).flatten) else none
  | _, _ => none
theorem bo_repL : BinOK X (binaryOp .Mult) gRep :=
  ⟨_, op_rep, fun H ow d1 d2 x y w Q wf c1 c2 e q => by
    unfold gRep at e
    split at e
    rotate_left
    · cases e
    rename_i xs k
    split at e
    rotate_left
    · cases e
    rename_i hz
    obtain ⟨h0, hk, hz⟩ := hz
    obtain ⟨a, vs, rfl, ra, qa⟩ := c1
    have e2 := repI c2
    subst e2
    cases e
    refine ⟨a, k, vs, rfl, rfl, ra, by omega, by omega, ?_, fun p hp => res_new hp wf (reps_rep qa k.toNat) q⟩
    rw [qa.length]; exact lenLine_le hz⟩
def gMul (x y : D) : Option W := match x, y with
  | .int i, .int j => if cMul i j = true then some (.d (.int (i * j))) else none
  | .list xs, .int k => if 0 ≤ k ∧ k ≤ 1000000 ∧ xs.length * k.toNat ≤ lenLine then some (.own (List.replicate k.toNat xs).flatten) else none
  | _, _ => none
theorem bo_mul : BinOK X (binaryOp .Mult) gMul := by
  refine BinOK.eq (bo_mulI.or bo_repL) fun x y => ?_
  cases x <;> cases y <;> first | rfl | (simp only [gMul, gI, gRep]; split <;> rfl)
/-! ### == -/
mutual
theorem Rep.dp {K : PySem.W.Frag} {H : Hp} {ow : Ow} : ∀ (d : D) {v : V}, Rep H ow d v → Dp K H v d
  | .none, v, h => by rw [Rep] at h; subst h; exact .non
  | .bool b, v, h => by rw [Rep] at h; subst h; exact .bl b
  | .int i, v, h => by rw [Rep] at h; subst h; exact .int i
  | .str x, v, h => by rw [Rep] at h; subst h; exact .str x
  | .list xs, v, h => by rw [Rep] at h; obtain ⟨a, vs, rfl, r, _, q⟩ := h; exact .lst (SqL.of r) (Reps.dp xs q)
  | .tuple xs, v, h => by rw [Rep] at h; obtain ⟨a, vs, rfl, r, _, q⟩ := h; exact .tup (SqT.of r) (Reps.dp xs q)
  | .dict _, v, h => by rw [Rep] at h; exact h.elim
theorem Reps.dp {K : PySem.W.Frag} {H : Hp} {ow : Ow} : ∀ (xs : List D) {vs : List V}, Reps H ow xs vs → DpAll K H vs xs
  | [], vs, h => by rw [Reps] at h; subst h; exact .nil
  | x :: xs, vs, h => by rw [Reps] at h; obtain ⟨v, r, rfl, h1, h2⟩ := h; exact .cons (Rep.dp x h1) (Reps.dp xs h2)
end
theorem RepC.dp {K : PySem.W.Frag} {H : Hp} {ow : Ow} {d : D} {v : V} (h : RepC H ow d v) : Dp K H v d := by
  cases d with
  | list xs => obtain ⟨a, vs, rfl, r, q⟩ := h; exact .lst (SqL.of r) (Reps.dp xs q)
  | _ => exact Rep.dp (ow := ow) _ h
def gEq (x y : D) : Option W := match x, y with
  | .int i, .int j => some (.d (.bool (decide (i = j))))
  | x, y => if (SeqAt.shaped x && SeqAt.shaped y) = true then some (.d (.bool (PyData.eqv x y))) else none
def gNe (x y : D) : Option W := match x, y with
  | .int i, .int j => some (.d (.bool (!decide (i = j))))
  | x, y => if (SeqAt.shaped x && SeqAt.shaped y) = true then some (.d (.bool (!PyData.eqv x y))) else none
theorem shI (i : Int) : SeqAt.shaped (.int i) = true := by simp [SeqAt.shaped, PyData.canLay0, PyData.depth]
theorem gEq_ex {x y : D} {w : W} (h : gEq x y = some w) : SeqAt.shaped x = true ∧ SeqAt.shaped y = true ∧ w = .d (.bool (PyData.eqv x y)) := by
  unfold gEq at h
  split at h
  · rename_i i j
    cases h
    exact ⟨shI i, shI j, by simp [PyData.eqv]; exact (Bool.beq_eq_decide_eq i j).symm⟩
  · split at h
    · rename_i hs
      rw [Bool.and_eq_true] at hs
      cases h
      exact ⟨hs.1, hs.2, rfl⟩
    · cases h
theorem gNe_ex {x y : D} {w : W} (h : gNe x y = some w) : SeqAt.shaped x = true ∧ SeqAt.shaped y = true ∧ w = .d (.bool (!PyData.eqv x y)) := by
  unfold gNe at h
  split at h
  · rename_i i j
    cases h
    exact ⟨shI i, shI j, by simp [PyData.eqv]; rw [Bool.beq_eq_decide_eq i j]⟩
  · split at h
    · rename_i hs
      rw [Bool.and_eq_true] at hs
      cases h
      exact ⟨hs.1, hs.2, rfl⟩
    · cases h
theorem bo_eq (hu : X.A.units + 64 < cLine) : BinOK X (compareOp .Eq) gEq :=
  ⟨_, op_eqD hu, fun H ow d1 d2 x y w Q wf c1 c2 e q => by
    obtain ⟨s1, s2, rfl⟩ := gEq_ex e
    exact ⟨d1, d2, c1.dp, c2.dp, s1, s2, res_d rpB q⟩⟩
theorem bo_ne (hu : X.A.units + 64 < cLine) : BinOK X (compareOp .NotEq) gNe :=
  ⟨_, op_neD hu, fun H ow d1 d2 x y w Q wf c1 c2 e q => by
    obtain ⟨s1, s2, rfl⟩ := gNe_ex e
    exact ⟨d1, d2, c1.dp, c2.dp, s1, s2, res_d rpB q⟩⟩
/-! ### in -/
def flatD : D → Bool
  | .none => true
  | .bool _ => true
  | .int _ => true
  | .str _ => true
  | _ => false
def gInL (n : Bool) : D → D → Option W
  | x, .list xs => if (SeqAt.shaped x && SeqAt.shaped (.list xs)) = true then some (.d (.bool (if n = true then !(xs.any fun z => PyData.eqv z x) else xs.any fun z => PyData.eqv z x))) else none
  | _, _ => none
def gInT (n : Bool) : D → D → Option W
  | x, .tuple xs => if (flatD x && xs.all flatD) = true then some (.d (.bool (if n = true then !(xs.any fun z => PyData.eqv z x) else xs.any fun z => PyData.eqv z x))) else none
  | _, _ => none
def gIn (n : Bool) (x y : D) : Option W := match gInL n x y with
  | some w => some w
  | none => gInT n x y
theorem flat_v {H : Hp} {ow : Ow} {d : D} {v : V} (h : Rep H ow d v) (f : flatD d = true) : flatV v = true := by
  cases d <;> first | (rw [Rep] at h; subst h; rfl) | cases f
theorem eqV_d {H : Hp} {ow : Ow} {d1 d2 : D} {v1 v2 : V} (h1 : Rep H ow d1 v1) (f1 : flatD d1 = true) (h2 : Rep H ow d2 v2) (f2 : flatD d2 = true) : eqV v1 v2 = PyData.eqv d1 d2 := by
  cases d1 <;> first | (rw [Rep] at h1; subst h1) | cases f1
  all_goals (cases d2 <;> first | (rw [Rep] at h2; subst h2; simp [eqV, PyData.eqv]) | cases f2)
theorem flats_v {H : Hp} {ow : Ow} {d : D} {v : V} (h : Rep H ow d v) (f : flatD d = true) : ∀ {xs : List D} {vs : List V}, Reps H ow xs vs → xs.all flatD = true → vs.all flatV = true ∧ inV v vs = xs.any fun z => PyData.eqv z d
  | [], vs, r, _ => by rw [Reps] at r; subst r; exact ⟨rfl, rfl⟩
  | x :: xs, vs, r, fs => by
    rw [Reps] at r
    obtain ⟨u, t, rfl, r1, r2⟩ := r
    rw [List.all_cons, Bool.and_eq_true] at fs
    obtain ⟨q1, q2⟩ := flats_v h f r2 fs.2
    refine ⟨by rw [List.all_cons, flat_v r1 fs.1, q1]; rfl, ?_⟩
    unfold inV at q2 ⊢
    rw [List.any_cons, List.any_cons, q2, eqV_d r1 fs.1 h f]
theorem bo_inL (hu : X.A.units + 65 < cLine) : BinOK X (compareOp .In) (gInL false) :=
  ⟨_, op_inD hu, fun H ow d1 d2 x y w Q wf c1 c2 e q => by
    unfold gInL at e
    split at e
    rotate_left
    · cases e
    split at e
    rotate_left
    · cases e
    rename_i xs hs
    rw [Bool.and_eq_true] at hs
    cases e
    exact ⟨_, _, c1.dp, c2.dp, hs.1, hs.2, res_d rpB q⟩⟩
theorem bo_notInL (hu : X.A.units + 65 < cLine) : BinOK X (compareOp .NotIn) (gInL true) :=
  ⟨_, op_notInD hu, fun H ow d1 d2 x y w Q wf c1 c2 e q => by
    unfold gInL at e
    split at e
    rotate_left
    · cases e
    split at e
    rotate_left
    · cases e
    rename_i xs hs
    rw [Bool.and_eq_true] at hs
    cases e
    exact ⟨_, _, c1.dp, c2.dp, hs.1, hs.2, res_d rpB q⟩⟩
theorem flat_rep {H : Hp} {ow : Ow} {d : D} {v : V} (h : RepC H ow d v) (f : flatD d = true) : Rep H ow d v := by
  cases d <;> first | exact h | cases f
theorem bo_inT : BinOK X (compareOp .In) (gInT false) :=
  ⟨_, op_in_seq, fun H ow d1 d2 x y w Q wf c1 c2 e q => by
    unfold gInT at e
    split at e
    rotate_left
    · cases e
    split at e
    rotate_left
    · cases e
    rename_i xs hs
    rw [Bool.and_eq_true] at hs
    cases e
    obtain ⟨a, vs, rfl, ra, na, qa⟩ := repT c2
    have r1 := flat_rep c1 hs.1
    obtain ⟨f1, f2⟩ := flats_v r1 hs.1 qa hs.2
    exact ⟨a, vs, rfl, .inr (SqT.of ra), flat_v r1 hs.1, f1, by rw [f2]; exact res_d rpB q⟩⟩
theorem bo_notInT : BinOK X (compareOp .NotIn) (gInT true) :=
  ⟨_, op_notIn_seq, fun H ow d1 d2 x y w Q wf c1 c2 e q => by
    unfold gInT at e
    split at e
    rotate_left
    · cases e
    split at e
    rotate_left
    · cases e
    rename_i xs hs
    rw [Bool.and_eq_true] at hs
    cases e
    obtain ⟨a, vs, rfl, ra, na, qa⟩ := repT c2
    have r1 := flat_rep c1 hs.1
    obtain ⟨f1, f2⟩ := flats_v r1 hs.1 qa hs.2
    exact ⟨a, vs, rfl, .inr (SqT.of ra), flat_v r1 hs.1, f1, by rw [f2]; exact res_d rpB q⟩⟩
theorem bo_in (hu : X.A.units + 65 < cLine) : BinOK X (compareOp .In) (gIn false) := (bo_inL hu).or bo_inT
theorem bo_notIn (hu : X.A.units + 65 < cLine) : BinOK X (compareOp .NotIn) (gIn true) := (bo_notInL hu).or bo_notInT
/-! ### is None, is True -/
def isD : D → D → Bool
  | .none, .none => true
  | .bool a, .bool b => a == b
  | _, _ => false
def simpD : D → Bool
  | .none => true
  | .bool _ => true
  | _ => false
def gIs (n : Bool) (x y : D) : Option W := if simpD y = true then some (.d (.bool (if n = true then !isD x y else isD x y))) else none
def simpV : V → Bool
  | .non => true
  | .bl _ => true
  | _ => false
theorem op_isS : OpR X (compareOp .Is) (fun x y H Q => simpV y = true ∧ Q (.bl (decide (x = y))) H) := by
  intro pins s σ H x y v u Q I rx ry h
  obtain ⟨hs, q⟩ := h
  cases y with
  | non =>
    cases ry
    refine wpAny_is_plain (by cases v <;> first | rfl | (cases x <;> first | (cases rx; done) | (obtain ⟨t, e⟩ := rx; cases e) )) ⟨.bl _, H, I, rfl, ?_⟩
    rw [RelV.none_iff rx]; exact q
  | bl b =>
    cases ry
    refine wpAny_is_plain (by cases v <;> first | rfl | (cases x <;> first | (cases rx; done) | (obtain ⟨t, e⟩ := rx; cases e) )) ⟨.bl _, H, I, rfl, ?_⟩
    have e : (v == Value.bool b) = decide (x = V.bl b) := by
      by_cases hv : v = Value.bool b
      · subst hv
        have : x = V.bl b := by cases x <;> first | (cases rx; rfl) | (obtain ⟨t, e⟩ := rx; cases e) | cases rx
        subst this
        simp
      · have : x ≠ V.bl b := by rintro rfl; exact hv rx
        rw [decide_eq_false this]
        exact beq_eq_false_iff_ne.mpr hv
    rw [e]; exact q
  | _ => cases hs
theorem op_isNotS : OpR X (compareOp .IsNot) (fun x y H Q => simpV y = true ∧ Q (.bl (!decide (x = y))) H) := by
  intro pins s σ H x y v u Q I rx ry h
  obtain ⟨hs, q⟩ := h
  cases y with
  | non =>
    cases ry
    refine wpAny_isNot_plain (by cases v <;> first | rfl | (cases x <;> first | (cases rx; done) | (obtain ⟨t, e⟩ := rx; cases e) )) ⟨.bl _, H, I, rfl, ?_⟩
    rw [RelV.none_iff rx]; exact q
  | bl b =>
    cases ry
    refine wpAny_isNot_plain (by cases v <;> first | rfl | (cases x <;> first | (cases rx; done) | (obtain ⟨t, e⟩ := rx; cases e) )) ⟨.bl _, H, I, rfl, ?_⟩
    have e : (v == Value.bool b) = decide (x = V.bl b) := by
      by_cases hv : v = Value.bool b
      · subst hv
        have : x = V.bl b := by cases x <;> first | (cases rx; rfl) | (obtain ⟨t, e⟩ := rx; cases e) | cases rx
        subst this
        simp
      · have : x ≠ V.bl b := by rintro rfl; exact hv rx
        rw [decide_eq_false this]
        exact beq_eq_false_iff_ne.mpr hv
    rw [e]; exact q
  | _ => cases hs
theorem is_v {H : Hp} {ow : Ow} {d1 d2 : D} {v1 v2 : V} (h1 : RepC H ow d1 v1) (h2 : RepC H ow d2 v2) (s : simpD d2 = true) : simpV v2 = true ∧ decide (v1 = v2) = isD d1 d2 := by
  cases d2 with
  | none =>
    have e := repN h2
    subst e
    refine ⟨rfl, ?_⟩
    cases d1 with
    | none => rw [repN h1]; rfl
    | bool b => rw [repB h1]; rfl
    | int b => rw [repI h1]; rfl
    | str b => rw [repS h1]; rfl
    | list b => obtain ⟨a, vs, rfl, _⟩ := h1; rfl
    | tuple b => obtain ⟨a, vs, rfl, _⟩ := repT h1; rfl
    | dict b => have h1 : Rep H ow (.dict b) v1 := h1; rw [Rep] at h1; exact h1.elim
  | bool k =>
    have e := repB h2
    subst e
    refine ⟨rfl, ?_⟩
    cases d1 with
    | none => rw [repN h1]; rfl
    | bool b => rw [repB h1]; cases b <;> cases k <;> rfl
    | int b => rw [repI h1]; rfl
    | str b => rw [repS h1]; rfl
    | list b => obtain ⟨a, vs, rfl, _⟩ := h1; rfl
    | tuple b => obtain ⟨a, vs, rfl, _⟩ := repT h1; rfl
    | dict b => have h1 : Rep H ow (.dict b) v1 := h1; rw [Rep] at h1; exact h1.elim
  | _ => cases s
theorem bo_is : BinOK X (compareOp .Is) (gIs false) :=
  ⟨_, op_isS, fun H ow d1 d2 x y w Q wf c1 c2 e q => by
    unfold gIs at e
    split at e
    rotate_left
    · cases e
    rename_i hs
    cases e
    obtain ⟨s2, e2⟩ := is_v c1 c2 hs
    exact ⟨s2, by rw [e2]; exact res_d rpB q⟩⟩
theorem bo_isNot : BinOK X (compareOp .IsNot) (gIs true) :=
  ⟨_, op_isNotS, fun H ow d1 d2 x y w Q wf c1 c2 e q => by
    unfold gIs at e
    split at e
    rotate_left
    · cases e
    rename_i hs
    cases e
    obtain ⟨s2, e2⟩ := is_v c1 c2 hs
    exact ⟨s2, by rw [e2]; exact res_d rpB q⟩⟩
end L2.Z

namespace L2.Z
open PySem PySem.Spec PyProof.Rows
variable {X : Cx}
/-! ### one operand -/
def mUn (g : D → Option W) (m : ME) : ME := fun env => match m env with
  | some (r, env') => match cont env' r with
    | some d => match g d with
      | some w => some (.val w, env')
      | none => none
    | none => none
  | none => none
theorem mUn_some {g : D → Option W} {m : ME} {env env' : Env} {r : R} (h : mUn g m env = some (r, env')) : ∃ r1 d w, m env = some (r1, env') ∧ cont env' r1 = some d ∧ g d = some w ∧ r = .val w := by
  unfold mUn at h
  split at h
  · rename_i r1 env1 h1
    split at h
    · rename_i d hc
      split at h
      · rename_i w hw
        cases h
        exact ⟨r1, d, w, h1, hc, hw, rfl⟩
      · cases h
    · cases h
  · cases h
def gNeg : D → Option W
  | .int i => some (.d (.int (-i)))
  | _ => none
theorem je_neg {a : Expr} {m : ME} {pos : Pos} (ha : JE X a m) : JE X (.UnaryOp .USub a pos) (mUn gNeg m) :=
  ⟨PE.weak (pe_un un_neg ha.pe) fun σ H Q h => by
    obtain ⟨ow, env, rr, env', ok, e, q⟩ := h
    obtain ⟨r1, d, w, h1, hc, hw, rfl⟩ := mUn_some e
    refine ⟨ow, env, r1, env', ok, h1, fun v H1 ow1 p1 => ?_⟩
    have rc := cont_rep p1.rep .refl p1.ok hc
    unfold gNeg at hw
    split at hw
    · rename_i i
      cases hw
      exact ⟨i, repI rc, q _ H1 ow1 ⟨p1.ok, p1.calm, rpI (H := H1) (ow := ow1)⟩⟩
    · cases hw⟩
/-! ### displays -/
def dOf : R → Option D
  | .val (.d x) => some x
  | _ => none
def dsOf : List R → Option (List D)
  | [] => some []
  | r :: rs => match dOf r, dsOf rs with
    | some x, some xs => some (x :: xs)
    | _, _ => none
theorem dsOf_rep {H : Hp} {ow : Ow} {σ : St} : ∀ {H0 : Hp} {rs : List R} {vs : List V} {ds : List D}, RepRs H0 H ow σ rs vs → dsOf rs = some ds → Reps H ow ds vs
  | _, [], vs, ds, h, e => by cases e; cases (show vs = [] from h); exact Reps.nil
  | _, r :: rs, vs, ds, h, e => by
    obtain ⟨v, t, H', rfl, h1, _, _, h2⟩ := h
    unfold dsOf at e
    split at e
    · rename_i x xs e1 e2
      cases e
      cases r with
      | val w =>
        cases w with
        | d y => cases e1; exact Reps.cons h1 (dsOf_rep h2 e2)
        | _ => cases e1
      | var i => cases e1
    · cases e
theorem dsOf_len : ∀ {rs : List R} {ds : List D}, dsOf rs = some ds → ds.length = rs.length
  | [], ds, e => by cases e; rfl
  | r :: rs, ds, e => by
    unfold dsOf at e
    split at e
    · rename_i x xs e1 e2
      cases e
      simp [dsOf_len e2]
    · cases e
def mTup (ma : MA) : ME := fun env => match ma env with
  | some (rs, env') => match dsOf rs with
    | some ds => if ds.length ≤ lenLine then some (.val (.d (.tuple ds)), env') else none
    | none => none
  | none => none
def mLst (ma : MA) : ME := fun env => match ma env with
  | some (rs, env') => match dsOf rs with
    | some ds => if ds.length ≤ lenLine then some (.val (.own ds), env') else none
    | none => none
  | none => none
theorem je_tup {es : List Expr} {k : Nat} {m : MA} {pos : Pos} (h : JA X es m) : JE X (.Tuple es k pos) (mTup m) :=
  ⟨PE.weak (pe_tup h.pa) fun σ H Q hh => by
    obtain ⟨ow, env, rr, env', ok, e, q⟩ := hh
    unfold mTup at e
    split at e
    rotate_left
    · cases e
    rename_i rs env1 h1
    split at e
    rotate_left
    · cases e
    rename_i ds h2
    split at e
    rotate_left
    · cases e
    rename_i hl
    cases e
    refine ⟨ow, env, rs, _, ok, h1, fun vs H1 ow1 ok1 c1 rp => ?_⟩
    have rs' := dsOf_rep rp h2
    refine ⟨by rw [rs'.length]; exact lenLine_le hl, fun p hp => res_tup (Q := Q) hp rs' fun v H' ow' n rt => ?_⟩
    exact q v H' ow' ⟨n.ok ok1, c1.trans n.calm, RepT.fresh (fun a z => c1.gone z) rt⟩⟩
theorem je_lst {es : List Expr} {m : MA} {pos : Pos} (h : JA X es m) : JE X (.List es pos) (mLst m) :=
  ⟨PE.weak (pe_lst h.pa) fun σ H Q hh => by
    obtain ⟨ow, env, rr, env', ok, e, q⟩ := hh
    unfold mLst at e
    split at e
    rotate_left
    · cases e
    rename_i rs env1 h1
    split at e
    rotate_left
    · cases e
    rename_i ds h2
    split at e
    rotate_left
    · cases e
    rename_i hl
    cases e
    refine ⟨ow, env, rs, _, ok, h1, fun vs H1 ow1 ok1 c1 rp => ?_⟩
    have rs' := dsOf_rep rp h2
    refine ⟨by rw [rs'.length]; exact lenLine_le hl, fun p hp => res_new (Q := Q) hp ok1.wf rs' fun v H' ow' n rt => ?_⟩
    exact q v H' ow' ⟨n.ok ok1, c1.trans n.calm, RepT.fresh (fun a z => c1.gone z) rt⟩⟩
/-! ### built-ins by values -/
def RepCs (H : Hp) (ow : Ow) : List D → List V → Prop
  | [], vs => vs = []
  | d :: ds, vs => ∃ v t, vs = v :: t ∧ RepC H ow d v ∧ RepCs H ow ds t
def conts (env : Env) : List R → Option (List D)
  | [] => some []
  | r :: rs => match cont env r, conts env rs with
    | some x, some xs => some (x :: xs)
    | _, _ => none
theorem conts_rep {H : Hp} {ow : Ow} {σ : St} {env : Env} (ok : Ok H ow σ env) : ∀ {H0 : Hp} {rs : List R} {vs : List V} {ds : List D}, RepRs H0 H ow σ rs vs → conts env rs = some ds → RepCs H ow ds vs
  | _, [], vs, ds, h, e => by cases e; exact h
  | _, r :: rs, vs, ds, h, e => by
    obtain ⟨v, t, H', rfl, h1, _, _, h2⟩ := h
    unfold conts at e
    split at e
    · rename_i x xs e1 e2
      cases e
      exact ⟨v, t, rfl, cont_rep h1 .refl ok e1, conts_rep ok h2 e2⟩
    · cases e
def CallOK (X : Cx) (f : Value) (g : List D → Option W) : Prop := ∃ r, CallR X f r ∧ ∀ H ow ds vs w Q, Wf H ow → RepCs H ow ds vs → g ds = some w →
  (∀ v H' ow', New H ow H' ow' → RepT H H' ow' w v → Q v H') → r vs H Q
theorem CallR.or {f : Value} {r r' : List V → Hp → VK → Prop} (h : CallR X f r) (h' : CallR X f r') : CallR X f (fun xs H Q => r xs H Q ∨ r' xs H Q) := by
  intro pins s σ H xs us Q I rx q
  rcases q with q | q
  · exact h pins s σ H xs us Q I rx q
  · exact h' pins s σ H xs us Q I rx q
theorem CallOK.or {f g1 g2} (a : CallOK X f g1) (b : CallOK X f g2) : CallOK X f (fun x => match g1 x with | some w => some w | none => g2 x) := by
  obtain ⟨r1, o1, h1⟩ := a
  obtain ⟨r2, o2, h2⟩ := b
  refine ⟨_, CallR.or o1 o2, fun H ow ds vs w Q wf c e q => ?_⟩
  cases e1 : g1 ds with
  | some w1 =>
    simp only [e1] at e
    cases e
    exact .inl (h1 H ow ds vs w Q wf c e1 q)
  | none =>
    simp only [e1] at e
    exact .inr (h2 H ow ds vs w Q wf c e q)
theorem CallOK.eq {f g g'} (h : CallOK X f g) (e : ∀ x, g' x = g x) : CallOK X f g' := by
  obtain ⟨r, o, hr⟩ := h
  exact ⟨r, o, fun H ow ds vs w Q wf c ee q => hr H ow ds vs w Q wf c (by rw [← e]; exact ee) q⟩
def mCall (g : List D → Option W) (ma : MA) : ME := fun env => match ma env with
  | some (rs, env') => match conts env' rs with
    | some ds => match g ds with
      | some w => some (.val w, env')
      | none => none
    | none => none
  | none => none
theorem tCB_of {g : List D → Option W} {ma : MA} {r : List V → Hp → VK → Prop} {σ : St} {H : Hp} {Q : VK}
    (hr : ∀ H ow ds vs w Q, Wf H ow → RepCs H ow ds vs → g ds = some w → (∀ v H' ow', New H ow H' ow' → RepT H H' ow' w v → Q v H') → r vs H Q)
    (h : tM (mCall g ma) σ H Q) : tCB r (tMA ma) σ H Q := by
  obtain ⟨ow, env, rr, env', ok, e, q⟩ := h
  unfold mCall at e
  split at e
  rotate_left
  · cases e
  rename_i rs env1 h1
  split at e
  rotate_left
  · cases e
  rename_i ds h2
  split at e
  rotate_left
  · cases e
  rename_i w hw
  cases e
  refine ⟨ow, env, rs, _, ok, h1, fun vs H1 ow1 ok1 c1 rp => ?_⟩
  refine hr H1 ow1 ds vs w Q ok1.wf (conts_rep ok1 rp h2) hw fun v H' ow' n rt => ?_
  exact q v H' ow' ⟨n.ok ok1, c1.trans n.calm, RepT.fresh (fun a z => c1.gone z) rt⟩
theorem je_callB {id : String} {g : List D → Option W} {x : Str} {e : Expr} {es : List Expr} {ma : MA} {p pos : Pos} (ho : CallOK X (.builtin id) g) (hg : Gl X x) (hm : X.mg x = none) (hv : bootBuiltins x = some (.builtin id)) (ha : JA X (e :: es) ma)
    (hn : x ≠ "__name__" := by decide) (hdb : (x == ("__debug__" : Str)) = false := by decide) (he : starEach (e :: es) X.env = (false, eval e X.env) :: starEach es X.env := by rfl) (hpl : (backTo pos (starEach es X.env)).any (·.1) = false := by rfl) :
    JE X (.Call (.Name x p) (e :: es) [] pos) (mCall g ma) := by
  obtain ⟨r, o, hr⟩ := ho
  exact ⟨PE.weak (pe_callB o hg hm hv ha.pa hn hdb he hpl) fun σ H Q h => tCB_of hr h⟩
theorem je_callTy {T : String} {g : List D → Option W} {x : Str} {e : Expr} {es : List Expr} {ma : MA} {p pos : Pos} (ho : CallOK X (.type T) g) (hg : Gl X x) (hm : X.mg x = none) (hv : bootBuiltins x = some (.type T)) (ha : JA X (e :: es) ma)
    (hn : x ≠ "__name__" := by decide) (hdb : (x == ("__debug__" : Str)) = false := by decide) (he : starEach (e :: es) X.env = (false, eval e X.env) :: starEach es X.env := by rfl) (hpl : (backTo pos (starEach es X.env)).any (·.1) = false := by rfl) :
    JE X (.Call (.Name x p) (e :: es) [] pos) (mCall g ma) := by
  obtain ⟨r, o, hr⟩ := ho
  exact ⟨PE.weak (pe_callTy o hg hm hv ha.pa hn hdb he hpl) fun σ H Q h => tCB_of hr h⟩
theorem je_callM {id : String} {g : List D → Option W} {x : Str} {e : Expr} {es : List Expr} {ma : MA} {p pos : Pos} (ho : CallOK X (.builtin id) g) (hg : Gl X x) (hm : X.mg x = some (.builtin id)) (ha : JA X (e :: es) ma)
    (hdb : (x == ("__debug__" : Str)) = false := by decide) (he : starEach (e :: es) X.env = (false, eval e X.env) :: starEach es X.env := by rfl) (hpl : (backTo pos (starEach es X.env)).any (·.1) = false := by rfl) :
    JE X (.Call (.Name x p) (e :: es) [] pos) (mCall g ma) := by
  obtain ⟨r, o, hr⟩ := ho
  exact ⟨PE.weak (pe_callBfun o hg hm ha.pa hdb he hpl) fun σ H Q h => tCB_of hr h⟩
theorem cs1 {H : Hp} {ow : Ow} {d : D} {vs : List V} (h : RepCs H ow [d] vs) : ∃ v, vs = [v] ∧ RepC H ow d v := by
  obtain ⟨v, t, rfl, h1, h2⟩ := h
  cases (show t = [] from h2)
  exact ⟨v, rfl, h1⟩
theorem cs2 {H : Hp} {ow : Ow} {d d2 : D} {vs : List V} (h : RepCs H ow [d, d2] vs) : ∃ v v2, vs = [v, v2] ∧ RepC H ow d v ∧ RepC H ow d2 v2 := by
  obtain ⟨v, t, rfl, h1, h2⟩ := h
  obtain ⟨v2, rfl, h3⟩ := cs1 h2
  exact ⟨v, v2, rfl, h1, h3⟩
def gLen : List D → Option W
  | [.list xs] => some (.d (.int xs.length))
  | [.tuple xs] => some (.d (.int xs.length))
  | _ => none
theorem cb_len : CallOK X (.builtin "len") gLen :=
  ⟨_, call_len_seq, fun H ow ds vs w Q wf c e q => by
    unfold gLen at e
    split at e
    · rename_i xs
      cases e
      obtain ⟨v, rfl, a, us, rfl, ra, qa⟩ := cs1 c
      exact ⟨a, us, rfl, .inl (SqL.of ra), by rw [qa.length]; exact res_d rpI q⟩
    · rename_i xs
      cases e
      obtain ⟨v, rfl, h⟩ := cs1 c
      obtain ⟨a, us, rfl, ra, _, qa⟩ := repT h
      exact ⟨a, us, rfl, .inr (SqT.of ra), by rw [qa.length]; exact res_d rpI q⟩
    · cases e⟩
def gAbs : List D → Option W
  | [.int i] => some (.d (.int (if i < 0 then -i else i)))
  | _ => none
theorem cb_abs : CallOK X (.builtin "abs") gAbs :=
  ⟨_, call_abs, fun H ow ds vs w Q wf c e q => by
    unfold gAbs at e
    split at e
    · rename_i i
      cases e
      obtain ⟨v, rfl, h⟩ := cs1 c
      exact ⟨i, by rw [repI h], res_d rpI q⟩
    · cases e⟩
def gInt : List D → Option W
  | [.int i] => some (.d (.int i))
  | [.bool b] => some (.d (.int (if b = true then 1 else 0)))
  | _ => none
theorem cb_int : CallOK X (.type "int") gInt :=
  ⟨_, call_int1, fun H ow ds vs w Q wf c e q => by
    unfold gInt at e
    split at e
    · rename_i i
      cases e
      obtain ⟨v, rfl, h⟩ := cs1 c
      exact .inl ⟨i, by rw [repI h], res_d rpI q⟩
    · rename_i b
      cases e
      obtain ⟨v, rfl, h⟩ := cs1 c
      exact .inr ⟨b, by rw [repB h], res_d rpI q⟩
    · cases e⟩
def gGcd : List D → Option W
  | [.int i, .int j] => some (.d (.int ((Nat.gcd i.natAbs j.natAbs : Nat) : Int)))
  | _ => none
theorem cb_gcd : CallOK X (.builtin "math.gcd") gGcd :=
  ⟨_, cr_gcd, fun H ow ds vs w Q wf c e q => by
    unfold gGcd at e
    split at e
    · rename_i i j
      cases e
      obtain ⟨v, v2, rfl, h, h2⟩ := cs2 c
      exact ⟨i, j, by rw [repI h, repI h2], res_d rpI q⟩
    · cases e⟩
def gTuple : List D → Option W
  | [.list xs] => some (.d (.tuple xs))
  | [.tuple xs] => some (.d (.tuple xs))
  | _ => none
theorem cb_tuple : CallOK X (.type "tuple") gTuple :=
  ⟨_, call_tuple_of, fun H ow ds vs w Q wf c e q => by
    unfold gTuple at e
    split at e
    · rename_i xs
      cases e
      obtain ⟨v, rfl, a, us, rfl, ra, qa⟩ := cs1 c
      exact ⟨a, us, rfl, .inl ⟨SqL.of ra, fun l hl => res_tup hl qa q⟩⟩
    · rename_i xs
      cases e
      obtain ⟨v, rfl, h⟩ := cs1 c
      obtain ⟨a, us, rfl, ra, na, qa⟩ := repT h
      exact ⟨a, us, rfl, .inr ⟨SqT.of ra, res_d (d := .tuple xs) (by rw [Rep]; exact ⟨a, us, rfl, ra, na, qa⟩) q⟩⟩
    · cases e⟩
def gList : List D → Option W
  | [.list xs] => some (.own xs)
  | [.tuple xs] => some (.own xs)
  | _ => none
theorem cb_list : CallOK X (.type "list") gList :=
  ⟨_, call_list_of, fun H ow ds vs w Q wf c e q => by
    unfold gList at e
    split at e
    · rename_i xs
      cases e
      obtain ⟨v, rfl, a, us, rfl, ra, qa⟩ := cs1 c
      exact ⟨a, us, rfl, .inl (SqL.of ra), fun l hl => res_new hl wf qa q⟩
    · rename_i xs
      cases e
      obtain ⟨v, rfl, h⟩ := cs1 c
      obtain ⟨a, us, rfl, ra, na, qa⟩ := repT h
      exact ⟨a, us, rfl, .inr (SqT.of ra), fun l hl => res_new hl wf qa q⟩
    · cases e⟩
/-- a list of ints -/
def intsOf : List D → Option (List Int)
  | [] => some []
  | .int i :: xs => match intsOf xs with
    | some ns => some (i :: ns)
    | none => none
  | _ :: _ => none
theorem intsOf_eq : ∀ {xs : List D} {ns : List Int}, intsOf xs = some ns → xs = ns.map PyData.int
  | [], ns, e => by cases e; rfl
  | x :: xs, ns, e => by
    unfold intsOf at e
    split at e
    · rename_i h; cases h
    · rename_i i ys h
      cases h
      split at e
      · rename_i ms hm
        cases e
        rw [List.map_cons, ← intsOf_eq hm]
      · cases e
    · cases e
theorem intsOf_map (ns : List Int) : intsOf (ns.map PyData.int) = some ns := by
  induction ns with
  | nil => rfl
  | cons n ns ih => rw [List.map_cons, intsOf, ih]
theorem pe_sumT (hc : X.calm = true) : CallR X (.builtin "sum") (fun vs H Q => ∃ (a : Addr) (ns : List Int), vs = [V.ref a] ∧ SqT X.K H a (ns.map V.int) ∧ Q (.int ns.sum) H) := by
  intro pins s σ H vs us Q I r h
  obtain ⟨a, ns, rfl, hs, q⟩ := h
  obtain ⟨its, rv, hl, _⟩ := I.tuple hs
  rw [Vals.ref1 r]
  have hi := rv.ints
  obtain ⟨xs, e⟩ := hi.allInts.items
  have hn : numsOf (intItems xs).toList = ns := by rw [← e]; exact hi.numsOf
  rw [nums_intItems] at hn
  rw [e] at hl
  refine PySem.W.ktm_sumG (I.ok.hd hc) hl fun h' tk t' hk => ?_
  rw [preSum_eq, List.take_of_length_le (by simp), hn]
  exact ⟨.int _, H, I.kept hk, ⟨_, rfl⟩, q⟩
def gSum : List D → Option W
  | [.list xs] => match intsOf xs with
    | some ns => some (.d (.int ns.sum))
    | none => none
  | [.tuple xs] => match intsOf xs with
    | some ns => some (.d (.int ns.sum))
    | none => none
  | _ => none
theorem cb_sum (hc : X.calm = true) : CallOK X (.builtin "sum") gSum :=
  ⟨_, CallR.or (cr_sum hc) (pe_sumT hc), fun H ow ds vs w Q wf c e q => by
    unfold gSum at e
    split at e
    · rename_i xs
      split at e
      · rename_i ns hn
        cases e
        have en := intsOf_eq hn
        subst en
        obtain ⟨v, rfl, a, us, rfl, ra, qa⟩ := cs1 c
        have := Reps.ints_of qa
        subst this
        exact .inl ⟨a, ns, rfl, SqL.of ra, res_d rpI q⟩
      · cases e
    · rename_i xs
      split at e
      · rename_i ns hn
        cases e
        have en := intsOf_eq hn
        subst en
        obtain ⟨v, rfl, h⟩ := cs1 c
        obtain ⟨a, us, rfl, ra, na, qa⟩ := repT h
        have := Reps.ints_of qa
        subst this
        exact .inr ⟨a, ns, rfl, SqT.of ra, res_d rpI q⟩
      · cases e
    · cases e⟩
/-- the greatest, the least of ints -/
def maxI : List Int → Int
  | [] => 0
  | n :: ns => ns.foldl (fun a b => if a < b then b else a) n
def minI : List Int → Int
  | [] => 0
  | n :: ns => ns.foldl (fun a b => if b < a then b else a) n
theorem maxI_fold : ∀ (ns : List Int) (n : Int), (n ≤ ns.foldl (fun a b => if a < b then b else a) n) ∧ (∀ y ∈ ns, y ≤ ns.foldl (fun a b => if a < b then b else a) n) ∧ (ns.foldl (fun a b => if a < b then b else a) n = n ∨ ns.foldl (fun a b => if a < b then b else a) n ∈ ns)
  | [], n => ⟨Int.le_refl _, (fun y hy => by cases hy), Or.inl rfl⟩
  | m :: ns, n => by
    obtain ⟨h1, h2, h3⟩ := maxI_fold ns (if n < m then m else n)
    rw [List.foldl_cons]
    have e1 : n ≤ (if n < m then m else n) := by split <;> omega
    have e2 : m ≤ (if n < m then m else n) := by split <;> omega
    refine ⟨Int.le_trans e1 h1, fun y hy => ?_, ?_⟩
    · rcases List.mem_cons.mp hy with rfl | hy
      · exact Int.le_trans e2 h1
      · exact h2 y hy
    · rcases h3 with h3 | h3
      · rw [h3]
        by_cases c : n < m
        · rw [if_pos c]; exact .inr List.mem_cons_self
        · rw [if_neg c]; exact .inl rfl
      · exact .inr (List.mem_cons_of_mem _ h3)
theorem minI_fold : ∀ (ns : List Int) (n : Int), (ns.foldl (fun a b => if b < a then b else a) n ≤ n) ∧ (∀ y ∈ ns, ns.foldl (fun a b => if b < a then b else a) n ≤ y) ∧ (ns.foldl (fun a b => if b < a then b else a) n = n ∨ ns.foldl (fun a b => if b < a then b else a) n ∈ ns)
  | [], n => ⟨Int.le_refl _, (fun y hy => by cases hy), Or.inl rfl⟩
  | m :: ns, n => by
    obtain ⟨h1, h2, h3⟩ := minI_fold ns (if m < n then m else n)
    rw [List.foldl_cons]
    have e1 : (if m < n then m else n) ≤ n := by split <;> omega
    have e2 : (if m < n then m else n) ≤ m := by split <;> omega
    refine ⟨Int.le_trans h1 e1, fun y hy => ?_, ?_⟩
    · rcases List.mem_cons.mp hy with rfl | hy
      · exact Int.le_trans h1 e2
      · exact h2 y hy
    · rcases h3 with h3 | h3
      · rw [h3]
        by_cases c : m < n
        · rw [if_pos c]; exact .inr List.mem_cons_self
        · rw [if_neg c]; exact .inl rfl
      · exact .inr (List.mem_cons_of_mem _ h3)
theorem maxI_eq {ns : List Int} {m : Int} (hm : m ∈ ns) (h : ∀ y ∈ ns, y ≤ m) : m = maxI ns := by
  cases ns with
  | nil => cases hm
  | cons n ns =>
    obtain ⟨h1, h2, h3⟩ := maxI_fold ns n
    show m = ns.foldl (fun a b => if a < b then b else a) n
    refine Int.le_antisymm ?_ ?_
    · rcases List.mem_cons.mp hm with rfl | hm
      · exact h1
      · exact h2 m hm
    · rcases h3 with h3 | h3
      · rw [h3]; exact h n List.mem_cons_self
      · exact h _ (List.mem_cons_of_mem _ h3)
theorem minI_eq {ns : List Int} {m : Int} (hm : m ∈ ns) (h : ∀ y ∈ ns, m ≤ y) : m = minI ns := by
  cases ns with
  | nil => cases hm
  | cons n ns =>
    obtain ⟨h1, h2, h3⟩ := minI_fold ns n
    show m = ns.foldl (fun a b => if b < a then b else a) n
    refine Int.le_antisymm ?_ ?_
    · rcases h3 with h3 | h3
      · rw [h3]; exact h n List.mem_cons_self
      · exact h _ (List.mem_cons_of_mem _ h3)
    · rcases List.mem_cons.mp hm with rfl | hm
      · exact h1
      · exact h2 m hm
def gMax : List D → Option W
  | [.int i, .int j] => some (.d (.int (if j > i then j else i)))
  | [.list xs] => match intsOf xs with
    | some (n :: ns) => some (.d (.int (maxI (n :: ns))))
    | _ => none
  | _ => none
def gMin : List D → Option W
  | [.int i, .int j] => some (.d (.int (if j < i then j else i)))
  | [.list xs] => match intsOf xs with
    | some (n :: ns) => some (.d (.int (minI (n :: ns))))
    | _ => none
  | _ => none
theorem cb_max (hc : X.calm = true) : CallOK X (.builtin "max") gMax :=
  ⟨_, CallR.or (call_max2 hc) (cr_max hc), fun H ow ds vs w Q wf c e q => by
    unfold gMax at e
    split at e
    · rename_i i j
      cases e
      obtain ⟨v, v2, rfl, h, h2⟩ := cs2 c
      exact .inl ⟨i, j, by rw [repI h, repI h2], res_d rpI q⟩
    · rename_i xs
      split at e
      · rename_i n ns hn
        cases e
        have en := intsOf_eq hn
        subst en
        obtain ⟨v, rfl, a, us, rfl, ra, qa⟩ := cs1 c
        have := Reps.ints_of qa
        subst this
        exact .inr ⟨a, n :: ns, rfl, SqL.of ra, by simp, fun m h1 h2 => by rw [maxI_eq h1 h2]; exact res_d rpI q⟩
      · cases e
    · cases e⟩
theorem cb_min (hc : X.calm = true) : CallOK X (.builtin "min") gMin :=
  ⟨_, CallR.or (call_min2 hc) (cr_min hc), fun H ow ds vs w Q wf c e q => by
    unfold gMin at e
    split at e
    · rename_i i j
      cases e
      obtain ⟨v, v2, rfl, h, h2⟩ := cs2 c
      exact .inl ⟨i, j, by rw [repI h, repI h2], res_d rpI q⟩
    · rename_i xs
      split at e
      · rename_i n ns hn
        cases e
        have en := intsOf_eq hn
        subst en
        obtain ⟨v, rfl, a, us, rfl, ra, qa⟩ := cs1 c
        have := Reps.ints_of qa
        subst this
        exact .inr ⟨a, n :: ns, rfl, SqL.of ra, by simp, fun m h1 h2 => by rw [minI_eq h1 h2]; exact res_d rpI q⟩
      · cases e
    · cases e⟩
/-! ### isinstance -/
def tyD : D → String
  | .none => "NoneType"
  | .bool _ => "bool"
  | .int _ => "int"
  | .str _ => "str"
  | .list _ => "list"
  | .tuple _ => "tuple"
  | .dict _ => "dict"
theorem ty_c {K : PySem.W.Frag} {H : Hp} {ow : Ow} {d : D} {v : V} (h : RepC H ow d v) : TyX K H v (.type (tyD d)) := by
  cases d with
  | none => rw [repN h]; exact .base .non
  | bool b => rw [repB h]; exact .base (.bl b)
  | int b => rw [repI h]; exact .base (.int b)
  | str b => rw [repS h]; exact .base (.str b)
  | list b => obtain ⟨a, vs, rfl, ra, _⟩ := h; exact .base (.lst ra)
  | tuple b => obtain ⟨a, vs, rfl, ra, _⟩ := repT h; exact .base (.tup ra)
  | dict b => have h : Rep H ow (.dict b) v := h; rw [Rep] at h; exact h.elim
/-- isinstance as bools -/
def isiB (T : String) : D → Bool
  | .none => false
  | .bool _ => T == "int" || T == "bool"
  | .int _ => T == "int"
  | .str _ => T == "str"
  | .list _ => T == "list"
  | .tuple _ => T == "tuple"
  | .dict _ => false
def okT (T : String) : Bool := T == "int" || T == "bool" || T == "str" || T == "tuple" || T == "list"
theorem kit_all {T : String} (h : okT T = true) (d : D) (hd : ∀ x, d ≠ .dict x) : kitB (tyD d) T = some (isiB T d) := by
  unfold okT at h
  simp only [Bool.or_eq_true, beq_iff_eq] at h
  rcases h with (((h | h) | h) | h) | h <;> subst h <;> cases d <;> first | rfl | decide +kernel | exact absurd rfl (hd _)
def gIs1 (T : String) (d : D) : Option W := match d with
  | .dict _ => none
  | d => some (.d (.bool (isiB T d)))
theorem je_isi {T : Str} {Ts : String} {a : Expr} {m : ME} {p p2 pos : Pos} (ha : JE X a m) (hT : okT Ts = true) (hg : Gl X "isinstance") (hm : X.mg "isinstance" = none) (hgT : Gl X T) (hmT : X.mg T = none) (hvT : bootBuiltins T = some (.type Ts))
    (hv : bootBuiltins "isinstance" = some (.builtin "isinstance") := by decide +kernel)
    (hnT : T ≠ "__name__" := by decide) (hdT : (T == ("__debug__" : Str)) = false := by decide)
    (hs1 : starEach [a, .Name T p2] X.env = (false, eval a X.env) :: starEach [.Name T p2] X.env := by rfl)
    (hs2 : starEach [.Name T p2] X.env = (false, eval (.Name T p2) X.env) :: starEach [] X.env := by rfl)
    (hpl : (backTo pos (starEach [.Name T p2] X.env)).any (·.1) = false := by rfl) :
    JE X (.Call (.Name "isinstance" p) [a, .Name T p2] [] pos) (mUn (gIs1 Ts) m) :=
  ⟨PE.weak (pe_callB call_isi hg hm hv (pa_cons ha.pe (pa_cons (pe_bltn (v := .ty Ts) hgT hmT hvT rfl hnT hdT) pa_nil hs2) hs1) (by decide) (by decide) hs1 hpl) fun σ H Q h => by
    obtain ⟨ow, env, rr, env', ok, e, q⟩ := h
    obtain ⟨r1, d, w, h1, hc, hw, rfl⟩ := mUn_some e
    refine ⟨ow, env, r1, env', ok, h1, fun v H1 ow1 p1 => ?_⟩
    have rc := cont_rep p1.rep .refl p1.ok hc
    have hd : ∀ x, d ≠ .dict x := by
      rintro x rfl
      cases hw
    have hw' : w = .d (.bool (isiB Ts d)) := by
      unfold gIs1 at hw
      split at hw
      · cases hw
      · cases hw; rfl
    subst hw'
    exact ⟨v, .ty Ts, .type (tyD d), .type Ts, isiB Ts d, rfl, .ty Ts, ty_c rc, kit_ty (kit_all hT d hd), q _ H1 ow1 ⟨p1.ok, p1.calm, rpB (H := H1) (ow := ow1)⟩⟩⟩
/-! ### a[i] -/
def gIx (x y : D) : Option W := match x, y with
  | .list xs, .int i => match atI xs i with
    | some d => some (.d d)
    | none => none
  | .tuple xs, .int i => match atI xs i with
    | some d => some (.d d)
    | none => none
  | _, _ => none
theorem Reps.atI {H : Hp} {ow : Ow} {xs : List D} {vs : List V} {i : Int} {d : D} (r : Reps H ow xs vs) (e : L2.atI xs i = some d) : ∃ v, L2.atI vs i = some v ∧ Rep H ow d v := by
  unfold L2.atI at e ⊢
  rw [r.length]
  cases h : ixN xs.length i with
  | none => rw [h] at e; cases e
  | some j =>
    rw [h] at e
    exact r.get e
theorem je_ix {a b : Expr} {ma mb : ME} {pos : Pos} (ha : JE X a ma) (hb : JE X b mb) (hs : PlainIx b := by intro _ _; rfl) : JE X (.Subscript a b pos) (mBin gIx ma mb) :=
  ⟨PE.weak (pe_ix ix_seq ha.pe hb.pe hs) fun σ H Q h => tOp_of (fun H ow d1 d2 x y w Q wf c1 c2 e q => by
    unfold gIx at e
    split at e
    · rename_i xs i
      split at e
      · rename_i d hd
        cases e
        obtain ⟨a, vs, rfl, ra, qa⟩ := c1
        obtain ⟨v, hv, rv⟩ := qa.atI hd
        exact .inl ⟨a, vs, i, v, rfl, repI c2, SqL.of ra, hv, res_d rv q⟩
      · cases e
    · rename_i xs i
      split at e
      · rename_i d hd
        cases e
        obtain ⟨a, vs, rfl, ra, na, qa⟩ := repT c1
        obtain ⟨v, hv, rv⟩ := qa.atI hd
        exact .inr (.inl ⟨a, vs, i, v, rfl, repI c2, SqT.of ra, hv, res_d rv q⟩)
      · cases e
    · cases e) h⟩
/-! ### slices -/
def cutD (xs : List D) (lo hi : Option Int) : List D := (xs.drop (HT.sIx xs.length 0 lo)).take (HT.sIx xs.length xs.length hi - HT.sIx xs.length 0 lo)
theorem Reps.cut {H : Hp} {ow : Ow} {xs : List D} {vs : List V} {lo hi : Option Int} (r : Reps H ow xs vs) : Reps H ow (cutD xs lo hi) (cutV vs lo hi) := by
  unfold cutD cutV
  rw [r.length]
  exact (r.drop _).take _
def gSl (d : D) (lo hi : Option Int) : Option W := match d with
  | .list xs => some (.own (cutD xs lo hi))
  | .tuple xs => some (.d (.tuple (cutD xs lo hi)))
  | _ => none
abbrev MO := Env → Option (Option Int × Env)
def mNoPart : MO := fun env => some (none, env)
def mPart (m : ME) : MO := fun env => match m env with
  | some (.val (.d (.int i)), env') => some (some i, env')
  | _ => none
def tMO (m : MO) : TO := fun σ H Q => ∃ ow env o env', Ok H ow σ env ∧ m env = some (o, env') ∧ ∀ H' ow', Ok H' ow' σ env' → Calm H ow H' ow' → Q o H'
structure JO (X : Cx) (e : Option Expr) (m : MO) : Prop where
  po : PO X e (tMO m)
theorem jo_none : JO X none mNoPart := ⟨⟨fun pins s σ H Q I h => po_none.run pins s σ H Q I (by
  obtain ⟨ow, env, o, env', ok, e, q⟩ := h
  cases e
  exact q H ow ok .refl)⟩⟩
theorem jo_some {e : Expr} {m : ME} (h : JE X e m) : JO X (some e) (mPart m) := ⟨⟨fun pins s σ H Q I hh => (po_some h.pe).run pins s σ H Q I (by
  obtain ⟨ow, env, o, env', ok, e, q⟩ := hh
  unfold mPart at e
  split at e
  · rename_i i env1 h1
    cases e
    refine ⟨ow, env, _, _, ok, h1, fun v H1 ow1 p1 => ?_⟩
    have rp : Rep H1 ow1 (.int i) v := p1.rep
    rw [Rep] at rp
    exact ⟨i, rp, q H1 ow1 p1.ok p1.calm⟩
  · cases e)⟩⟩
def mSl (m : ME) (lo hi : MO) : ME := fun env => match m env with
  | none => none
  | some (r, env1) => match lo env1 with
    | none => none
    | some (l, env2) => match hi env2 with
      | none => none
      | some (h, env3) => match cont env3 r with
        | none => none
        | some d => match gSl d l h with
          | some w => some (.val w, env3)
          | none => none
theorem je_slice {e : Expr} {lo hi : Option Expr} {m : ME} {ml mh : MO} {p2 pos : Pos} (he : JE X e m) (hl : JO X lo ml) (hh : JO X hi mh) : JE X (.Subscript e (.Slice lo hi none p2) pos) (mSl m ml mh) :=
  ⟨PE.weak (pe_slice (SlR.or sl_list sl_tupA) he.pe hl.po hh.po) fun σ H Q h => by
    obtain ⟨ow, env, rr, env', ok, e, q⟩ := h
    unfold mSl at e
    split at e
    · cases e
    rename_i r env1 h1
    split at e
    · cases e
    rename_i l env2 h2
    split at e
    · cases e
    rename_i u env3 h3
    split at e
    · cases e
    rename_i d hc
    split at e
    rotate_left
    · cases e
    rename_i w hw
    cases e
    refine ⟨ow, env, r, env1, ok, h1, fun v H1 ow1 p1 => ?_⟩
    refine ⟨ow1, env1, l, env2, p1.ok, h2, fun H2 ow2 ok2 c2 => ?_⟩
    refine ⟨ow2, env2, u, _, ok2, h3, fun H3 ow3 ok3 c3 => ?_⟩
    have rc := cont_rep p1.rep (c2.trans c3) ok3 hc
    have c := (p1.calm.trans c2).trans c3
    have fin : ∀ w, ∀ v H' ow', New H3 ow3 H' ow' → RepT H3 H' ow' w v → (∀ v H' ow', Post H ow σ env' H' ow' v (.val w) → Q v H') → Q v H' := fun w v H' ow' n rt q => q v H' ow' ⟨n.ok ok3, c.trans n.calm, RepT.fresh (fun a z => c.gone z) rt⟩
    unfold gSl at hw
    split at hw
    · rename_i xs
      cases hw
      obtain ⟨a, vs, rfl, ra, qa⟩ := rc
      exact .inl ⟨a, vs, rfl, SqL.of ra, fun p hp => res_new (Q := Q) hp ok3.wf qa.cut fun v H' ow' n rt => fin _ v H' ow' n rt q⟩
    · rename_i xs
      cases hw
      obtain ⟨a, vs, rfl, ra, na, qa⟩ := repT rc
      refine .inr ⟨a, vs, rfl, SqT.of ra, fun hz => ?_, fun _ p hp => res_tup (Q := Q) hp qa.cut fun v H' ow' n rt => fin _ v H' ow' n rt q⟩
      refine res_d (Q := Q) (d := .tuple (cutD xs l u)) ?_ fun v H' ow' n rt => fin _ v H' ow' n rt q
      rw [qa.length] at hz
      have : cutD xs l u = xs := by
        unfold cutD
        rw [hz.1, hz.2]
        simp
      rw [this, Rep]
      exact ⟨a, vs, rfl, ra, na, qa⟩
    · cases hw⟩
def gRev (d : D) : Option W := match d with
  | .list xs => some (.own xs.reverse)
  | _ => none
theorem je_rev {e : Expr} {m : ME} {k : Nat} {p1 p2 p3 pos : Pos} (he : JE X e m) : JE X (.Subscript e (.Slice none none (some (.UnaryOp .USub (.Constant (.int 1) k p1) p2)) p3) pos) (mUn gRev m) :=
  ⟨PE.weak (pe_revL he.pe) fun σ H Q h => by
    obtain ⟨ow, env, rr, env', ok, e, q⟩ := h
    obtain ⟨r1, d, w, h1, hc, hw, rfl⟩ := mUn_some e
    refine ⟨ow, env, r1, env', ok, h1, fun v H1 ow1 p1 => ?_⟩
    have rc := cont_rep p1.rep .refl p1.ok hc
    unfold gRev at hw
    split at hw
    · rename_i xs
      cases hw
      obtain ⟨a, vs, rfl, ra, qa⟩ := rc
      refine ⟨a, vs, rfl, SqL.of ra, fun p hp => res_new (Q := Q) hp p1.ok.wf qa.reverse fun v H' ow' n rt => ?_⟩
      exact q v H' ow' ⟨n.ok p1.ok, p1.calm.trans n.calm, RepT.fresh (fun a z => p1.calm.gone z) rt⟩
    · cases hw⟩
end L2.Z

namespace L2.Z
open PySem PySem.Spec PyProof.Rows
variable {X : Cx}
inductive Fl where
  | nx | bk | ct
  | rt (w : W)
abbrev MS := Env → Option (Fl × Env)
/-- what is handed back: a list is new, or a slot's (k: slot 0 is the caller's) -/
def RepX (k : Bool) (H0 H : Hp) (ow : Ow) : W → V → Prop
  | .d x, v => Rep H ow x v
  | .own xs, v => ∃ a vs, v = V.ref a ∧ H a = some (.lst vs) ∧ Reps H ow xs vs ∧ ((ow a = some none ∧ H0 a = none) ∨ ∃ i, ow a = some (some i) ∧ (k = true → i ≠ 0))
  | .src _ _, _ => False
theorem RepX.fresh {k : Bool} {H0 H1 H : Hp} {ow : Ow} (c : ∀ a, H1 a = none → H0 a = none) : ∀ {w : W} {v : V}, RepX k H1 H ow w v → RepX k H0 H ow w v
  | .d x, v, h => h
  | .own xs, v, ⟨a, vs, e, h, r, z⟩ => ⟨a, vs, e, h, r, z.imp (fun z => ⟨z.1, c a z.2⟩) id⟩
  | .src _ _, v, h => h.elim
def FinP (k : Bool) (D : Ends) (H0 : Hp) : Fl → St → Hp → Ow → Prop
  | .nx, σ, H, _ => D.nx σ H
  | .bk, σ, H, _ => D.bk σ H
  | .ct, σ, H, _ => D.ct σ H
  | .rt w, _, H, ow => ∀ v, RepX k H0 H ow w v → D.rt v H
/-- every end's wish, as the state behind lets it -/
def tMS (k : Bool) (ms : MS) : TS := fun D σ H => ∃ ow env fl env', Ok H ow σ env ∧ ms env = some (fl, env') ∧
  ∀ σ' H' ow', Ok H' ow' σ' env' → Calm H ow H' ow' → (k = true → σ'[0]? = σ[0]?) → FinQ k D H fl σ' H' ow'
where FinQ (k : Bool) (D : Ends) (H0 : Hp) (fl : Fl) (σ : St) (H : Hp) (ow : Ow) : Prop := FinP k D H0 fl σ H ow
structure JS (X : Cx) (k : Bool) (st : Stmt) (m : MS) : Prop where
  ps : PS X st (tMS k m)
structure JSs (X : Cx) (k : Bool) (st : List Stmt) (m : MS) : Prop where
  ps : PSs X st (tMS k m)
theorem FinP.fresh {k : Bool} {D : Ends} {H0 H1 : Hp} (c : ∀ a, H1 a = none → H0 a = none) {fl : Fl} {σ : St} {H : Hp} {ow : Ow} (h : FinP k D H0 fl σ H ow) : FinP k D H1 fl σ H ow := by
  cases fl with
  | rt w => exact fun v r => h v (r.fresh c)
  | _ => exact h

/-! ### blocks -/
def mSkip : MS := fun env => some (.nx, env)
def mSeq (a b : MS) : MS := fun env => match a env with
  | some (.nx, env1) => b env1
  | some (fl, env1) => some (fl, env1)
  | none => none
variable {k : Bool}
theorem jss_nil : JSs X k [] mSkip := ⟨PSs.weak pss_nil fun D σ H h => by
  obtain ⟨ow, env, fl, env', ok, e, q⟩ := h
  cases e
  exact q σ H ow ok .refl fun _ => rfl⟩
theorem jss_one {st : Stmt} {m : MS} (h : JS X k st m) : JSs X k [st] m := ⟨pss_one h.ps⟩
theorem jss_cons {st : Stmt} {rest : List Stmt} {m m' : MS} (h : JS X k st m) (hr : JSs X k rest m') : JSs X k (st :: rest) (mSeq m m') :=
  ⟨PSs.weak (pss_cons h.ps hr.ps) fun D σ H hh => by
    obtain ⟨ow, env, fl, env', ok, e, q⟩ := hh
    unfold mSeq at e
    split at e
    · rename_i env1 h1
      refine ⟨ow, env, .nx, env1, ok, h1, fun σ1 H1 ow1 ok1 c1 z1 => ?_⟩
      refine ⟨ow1, env1, fl, env', ok1, e, fun σ' H' ow' ok' c' z' => ?_⟩
      exact FinP.fresh (fun a z => c1.gone z) (q σ' H' ow' ok' (c1.trans c') fun hk => (z' hk).trans (z1 hk))
    · rename_i fl1 env1 hne h1
      cases e
      refine ⟨ow, env, fl, _, ok, h1, fun σ' H' ow' ok' c' z' => ?_⟩
      have := q σ' H' ow' ok' c' z'
      cases fl with
      | nx => exact (hne rfl).elim
      | bk => exact this
      | ct => exact this
      | rt w => exact this
    · cases e⟩
theorem js_pass {pos : Pos} : JS X k (.Pass pos) mSkip := ⟨PS.weak ps_pass fun D σ H h => by
  obtain ⟨ow, env, fl, env', ok, e, q⟩ := h
  cases e
  exact q σ H ow ok .refl fun _ => rfl⟩
def mBreak : MS := fun env => some (.bk, env)
def mCont : MS := fun env => some (.ct, env)
theorem js_break {pos : Pos} : JS X k (.Break pos) mBreak := ⟨PS.weak ps_break fun D σ H h => by
  obtain ⟨ow, env, fl, env', ok, e, q⟩ := h
  cases e
  exact q σ H ow ok .refl fun _ => rfl⟩
theorem js_continue {pos : Pos} : JS X k (.Continue pos) mCont := ⟨PS.weak ps_continue fun D σ H h => by
  obtain ⟨ow, env, fl, env', ok, e, q⟩ := h
  cases e
  exact q σ H ow ok .refl fun _ => rfl⟩
/-- a statement that is not come to -/
theorem js_never {st : Stmt} : JS X k st (fun _ => none) := ⟨PS.weak ps_never fun D σ H h => by
  obtain ⟨ow, env, fl, env', ok, e, q⟩ := h
  cases e⟩
def mExpr (m : ME) : MS := fun env => match m env with
  | some (_, env') => some (.nx, env')
  | none => none
theorem js_expr {e : Expr} {m : ME} {pos : Pos} (h : JE X e m) (hs : swapsWith e none pos.line X.env = pure false := by rfl) : JS X k (.Expr e pos) (mExpr m) :=
  ⟨PS.weak (ps_expr h.pe hs) fun D σ H hh => by
    obtain ⟨ow, env, fl, env', ok, e, q⟩ := hh
    unfold mExpr at e
    split at e
    · rename_i r env1 h1
      cases e
      exact ⟨ow, env, r, _, ok, h1, fun v H1 ow1 p1 => q σ H1 ow1 p1.ok p1.calm fun _ => rfl⟩
    · cases e⟩
def mRet (k : Bool) (m : ME) : MS := fun env => match m env with
  | some (.val (.d x), env') => some (.rt (.d x), env')
  | some (.val (.own xs), env') => some (.rt (.own xs), env')
  | some (.var i, env') => match env'[i]? with
    | some (some (.own xs)) => if k = true ∧ i = 0 then none else some (.rt (.own xs), env')
    | some (some (.d x)) => some (.rt (.d x), env')
    | _ => none
  | _ => none
theorem js_ret {e : Expr} {m : ME} {pos : Pos} (h : JE X e m) : JS X k (.Return (some e) pos) (mRet k m) :=
  ⟨PS.weak (ps_ret h.pe) fun D σ H hh => by
    obtain ⟨ow, env, fl, env', ok, e, q⟩ := hh
    unfold mRet at e
    split at e
    · rename_i x env1 h1
      cases e
      exact ⟨ow, env, _, _, ok, h1, fun v H1 ow1 p1 => q σ H1 ow1 p1.ok p1.calm (fun _ => rfl) v p1.rep⟩
    · rename_i xs env1 h1
      cases e
      refine ⟨ow, env, _, _, ok, h1, fun v H1 ow1 p1 => q σ H1 ow1 p1.ok p1.calm (fun _ => rfl) v ?_⟩
      obtain ⟨a, vs, e, ha, no, z, r⟩ := p1.rep
      exact ⟨a, vs, e, ha, r, .inl ⟨no, z⟩⟩
    · rename_i i env1 h1
      split at e
      · rename_i xs hx
        split at e
        · cases e
        · rename_i hk
          cases e
          refine ⟨ow, env, _, _, ok, h1, fun v H1 ow1 p1 => q σ H1 ow1 p1.ok p1.calm (fun _ => rfl) v ?_⟩
          have hv : σ[i]? = some (some v) := p1.rep
          obtain ⟨v', hv', a, vs, e, ha, no, r⟩ := p1.ok.slot i _ hx
          rw [hv] at hv'; cases hv'
          exact ⟨a, vs, e, ha, r, .inr ⟨i, no, fun z y => hk ⟨z, y⟩⟩⟩
      · rename_i x hx
        cases e
        refine ⟨ow, env, _, _, ok, h1, fun v H1 ow1 p1 => q σ H1 ow1 p1.ok p1.calm (fun _ => rfl) v ?_⟩
        have hv : σ[i]? = some (some v) := p1.rep
        obtain ⟨v', hv', r⟩ := p1.ok.slot i _ hx
        rw [hv] at hv'; cases hv'
        exact r
      · cases e
    · cases e⟩
theorem js_retN {pos : Pos} : JS X k (.Return none pos) (fun env => some (.rt (.d .none), env)) :=
  ⟨PS.weak ps_retN fun D σ H hh => by
    obtain ⟨ow, env, fl, env', ok, e, q⟩ := hh
    cases e
    exact q σ H ow ok .refl (fun _ => rfl) .non (by show Rep H ow .none .non; rw [Rep])⟩
def mIfS (c : MT) (a b : MS) : MS := fun env => match c env with
  | some (true, env1) => a env1
  | some (false, env1) => b env1
  | none => none
theorem js_if {c : Expr} {a b : List Stmt} {mc : MT} {ma mb : MS} {pos : Pos} (hc : JT X c mc) (ha : JSs X k a ma) (hb : JSs X k b mb) : JS X k (.If c a b pos) (mIfS mc ma mb) :=
  ⟨PS.weak (ps_if hc.pt ha.ps hb.ps) fun D σ H hh => by
    obtain ⟨ow, env, fl, env', ok, e, q⟩ := hh
    unfold mIfS at e
    split at e
    · rename_i env1 h1
      refine ⟨ow, env, true, _, ok, h1, fun H1 ow1 ok1 c1 => ?_⟩
      refine show tMS k ma D σ H1 from ⟨ow1, _, fl, env', ok1, e, fun σ' H' ow' ok' c' z' => ?_⟩
      exact FinP.fresh (fun a z => c1.gone z) (q σ' H' ow' ok' (c1.trans c') z')
    · rename_i env1 h1
      refine ⟨ow, env, false, _, ok, h1, fun H1 ow1 ok1 c1 => ?_⟩
      refine show tMS k mb D σ H1 from ⟨ow1, _, fl, env', ok1, e, fun σ' H' ow' ok' c' z' => ?_⟩
      exact FinP.fresh (fun a z => c1.gone z) (q σ' H' ow' ok' (c1.trans c') z')
    · cases e⟩
/-! ### while -/
def whileM (c : MT) (b : MS) : Nat → Env → Option (Fl × Env)
  | 0, _ => none
  | n + 1, env => match c env with
    | some (false, env1) => some (.nx, env1)
    | some (true, env1) => match b env1 with
      | some (.nx, env2) => whileM c b n env2
      | some (.ct, env2) => whileM c b n env2
      | some (.bk, env2) => some (.nx, env2)
      | some (.rt w, env2) => some (.rt w, env2)
      | none => none
    | none => none
theorem whileM_mono {c : MT} {b : MS} : ∀ {n m : Nat} {env : Env} {r : Fl × Env}, n ≤ m → whileM c b n env = some r → whileM c b m env = some r
  | 0, _, _, _, _, h => by cases h
  | n + 1, 0, _, _, h, _ => by omega
  | n + 1, m + 1, env, r, h, e => by
    unfold whileM at e ⊢
    split at e
    · rename_i env1 h1
      exact e
    · rename_i env1 h1
      split at e
      · rename_i env2 h2
        exact whileM_mono (by omega) e
      · rename_i env2 h2
        exact whileM_mono (by omega) e
      · rename_i env2 h2
        exact e
      · rename_i w env2 h2
        exact e
      · cases e
    · cases e
open Classical in
noncomputable def mWhile (c : MT) (b : MS) : MS := fun env => if h : ∃ n r, whileM c b n env = some r then some h.choose_spec.choose else none
theorem mWhile_of {c : MT} {b : MS} {n : Nat} {env : Env} {r : Fl × Env} (h : whileM c b n env = some r) : mWhile c b env = some r := by
  have hx : ∃ n r, whileM c b n env = some r := ⟨n, r, h⟩
  unfold mWhile
  rw [dif_pos hx]
  have h2 := hx.choose_spec.choose_spec
  have a1 := whileM_mono (Nat.le_max_left n hx.choose) h
  have a2 := whileM_mono (Nat.le_max_right n hx.choose) h2
  rw [a1] at a2
  exact a2.symm
theorem mWhile_ex {c : MT} {b : MS} {env : Env} {r : Fl × Env} (h : mWhile c b env = some r) : ∃ n, whileM c b n env = some r := by
  unfold mWhile at h
  split at h
  · rename_i hx
    refine ⟨hx.choose, ?_⟩
    rw [← h]
    exact hx.choose_spec.choose_spec
  · cases h
theorem tMT_mono {m : MT} {σ : St} {H : Hp} {Q Q' : Bool → Hp → Prop} (h : ∀ b H1, Q b H1 → Q' b H1) (t : tMT m σ H Q) : tMT m σ H Q' := by
  obtain ⟨ow, env, b, env', ok, e, q⟩ := t
  exact ⟨ow, env, b, env', ok, e, fun H' ow' ok' c' => h _ _ (q H' ow' ok' c')⟩
theorem js_while {c : Expr} {body : List Stmt} {mc : MT} {mb : MS} {pos : Pos} (hp : PassesOwn (model X.prog X.w) X.A X.env X.xe) (hc : JT X c mc) (hb : JSs X k body mb) : JS X k (.While c body [] pos) (mWhile mc mb) :=
  ⟨PS.weak (ps_while hp hc.pt hb.ps) fun D σ H hh => by
    obtain ⟨ow, env, fl, env', ok, e, q⟩ := hh
    obtain ⟨n, e⟩ := mWhile_ex e
    refine ⟨fun m σ1 H1 => ∃ ow1 env1, Ok H1 ow1 σ1 env1 ∧ Calm H ow H1 ow1 ∧ (k = true → σ1[0]? = σ[0]?) ∧ whileM mc mb m env1 = some (fl, env'), ⟨n, ow, env, ok, .refl, fun _ => rfl, e⟩, ?_⟩
    rintro m σ1 H1 ⟨ow1, env1, ok1, c1, z1, e1⟩
    cases m with
    | zero => cases e1
    | succ m =>
      unfold whileM at e1
      split at e1
      · rename_i env2 h2
        cases e1
        refine ⟨ow1, env1, false, _, ok1, h2, fun H2 ow2 ok2 c2 => ?_⟩
        exact show D.nx σ1 H2 from q σ1 H2 ow2 ok2 (c1.trans c2) z1
      · rename_i env2 h2
        refine ⟨ow1, env1, true, env2, ok1, h2, fun H2 ow2 ok2 c2 => ?_⟩
        have c12 := c1.trans c2
        show ∃ N : St → Hp → Prop, _ ∧ _
        refine ⟨fun σ' H' => ∃ m', m' < m + 1 ∧ ∃ ow3 env3, Ok H' ow3 σ' env3 ∧ Calm H ow H' ow3 ∧ (k = true → σ'[0]? = σ[0]?) ∧ whileM mc mb m' env3 = some (fl, env'), fun σ' H' h => h, ?_⟩
        split at e1
        · rename_i env3 h3
          refine ⟨ow2, env2, .nx, env3, ok2, h3, fun σ3 H3 ow3 ok3 c3 z3 => ?_⟩
          exact ⟨m, by omega, ow3, env3, ok3, c12.trans c3, fun hk => (z3 hk).trans (z1 hk), e1⟩
        · rename_i env3 h3
          refine ⟨ow2, env2, .ct, env3, ok2, h3, fun σ3 H3 ow3 ok3 c3 z3 => ?_⟩
          exact ⟨m, by omega, ow3, env3, ok3, c12.trans c3, fun hk => (z3 hk).trans (z1 hk), e1⟩
        · rename_i env3 h3
          cases e1
          refine ⟨ow2, env2, .bk, _, ok2, h3, fun σ3 H3 ow3 ok3 c3 z3 => ?_⟩
          exact q σ3 H3 ow3 ok3 (c12.trans c3) fun hk => (z3 hk).trans (z1 hk)
        · rename_i w env3 h3
          cases e1
          refine ⟨ow2, env2, .rt w, _, ok2, h3, fun σ3 H3 ow3 ok3 c3 z3 => ?_⟩
          exact FinP.fresh (fl := .rt w) (fun a z => c12.gone z) (q σ3 H3 ow3 ok3 (c12.trans c3) fun hk => (z3 hk).trans (z1 hk))
        · cases e1
      · cases e1⟩
/-! ### stores -/
theorem set_slot {env : Env} {i j : Nat} {x : Option W} {w : W} (h : (env.set i x)[j]? = some (some w)) : (i = j ∧ x = some w ∧ i < env.length) ∨ (i ≠ j ∧ env[j]? = some (some w)) := by
  by_cases e : i = j
  · subst e
    have hl : i < env.length := by
      rcases Nat.lt_or_ge i env.length with z | z
      · exact z
      · rw [List.getElem?_eq_none (by simpa using z)] at h; cases h
    rw [List.getElem?_set_self hl] at h
    exact .inl ⟨rfl, Option.some.inj h, hl⟩
  · rw [List.getElem?_set_ne e] at h
    exact .inr ⟨e, h⟩
/-- a value goes to a slot -/
theorem Ok.bind {H0 H : Hp} {ow0 ow : Ow} {σ : St} {env : Env} (i : Nat) {w : W} {v : V} (ok : Ok H ow σ env) (c : Calm H0 ow0 H ow) (h : RepT H0 H ow w v) :
    ∃ ow', Ok H ow' (σ.set i (some v)) (env.set i (some w)) ∧ Calm H0 ow0 H ow' ∧
      ∀ w2 u H1, (∀ a, v = .ref a → ∃ o, H1 a = some o) → (∀ cs rs, w ≠ .src cs rs) → RepT H1 H ow w2 u → RepT H1 H ow' w2 u := by
  have hlen : (env.set i (some w)).length = (σ.set i (some v)).length := by rw [List.length_set, List.length_set]; exact ok.len
  have fromI : ∀ {ow' : Ow}, RepW H ow' i w v → (∀ j w' v', j ≠ i → RepW H ow j w' v' → RepW H ow' j w' v') → ∀ j w', (env.set i (some w))[j]? = some (some w') → ∃ v', (σ.set i (some v))[j]? = some (some v') ∧ RepW H ow' j w' v' := fun {ow'} hw ho j w' hj => by
    rcases set_slot hj with ⟨rfl, e, hl⟩ | ⟨ne, e⟩
    · cases e
      exact ⟨v, List.getElem?_set_self (by rw [← ok.len]; exact hl), hw⟩
    · obtain ⟨v', hv', q⟩ := ok.slot j w' e
      exact ⟨v', by rw [List.getElem?_set_ne ne]; exact hv', ho j w' v' (Ne.symm ne) q⟩
  cases w with
  | d x => exact ⟨ow, ⟨ok.wf, fromI h fun _ _ _ _ q => q, hlen⟩, c, fun _ _ _ _ _ q => q⟩
  | own xs =>
    obtain ⟨a, vs, rfl, ha, no, z, r⟩ := h
    have hne : ow a ≠ none := by rw [no]; simp
    have kp : Keeps H ow H (setOw ow a (some (some i))) := fun b u hb nb => by
      have e : b ≠ a := by rintro rfl; exact hne nb
      exact ⟨hb, by rw [setOw_ne e]; exact nb⟩
    refine ⟨setOw ow a (some (some i)), ⟨fun b hb => ?_, fromI ⟨a, vs, rfl, ha, setOw_same, Reps.mono kp xs r⟩ fun j w' v' nj q => ?_, hlen⟩, ⟨fun b o hb nb => ?_, c.grow, fun b o i2 j2 hb e1 e2 => ?_⟩, fun w2 u H1 hH1 _ q => ?_⟩
    · by_cases e : b = a
      · subst e; exact ⟨_, ha⟩
      · rw [setOw_ne e] at hb; exact ok.wf b hb
    · refine RepW.mono kp (fun b u hb ob => ⟨hb, ?_⟩) q
      have e : b ≠ a := by rintro rfl; rw [no] at ob; cases ob
      rw [setOw_ne e]; exact ob
    · have e : b ≠ a := by rintro rfl; rw [z] at hb; cases hb
      obtain ⟨h1, h2⟩ := c.at' b o hb nb
      exact ⟨h1, by rw [setOw_ne e]; exact h2⟩
    · have e : b ≠ a := by rintro rfl; rw [z] at hb; cases hb
      rw [setOw_ne e] at e2
      exact c.slot b o i2 j2 hb e1 e2
    · obtain ⟨o1, ho1⟩ := hH1 a rfl
      cases w2 with
      | d x => exact Rep.mono kp x q
      | own ys =>
        obtain ⟨b, us, rfl, hb, nb, zb, rb⟩ := q
        have e : b ≠ a := by rintro rfl; rw [ho1] at zb; cases zb
        exact ⟨b, us, rfl, hb, by rw [setOw_ne e]; exact nb, zb, Reps.mono kp ys rb⟩
      | src cs rs =>
        obtain ⟨b, b2, rfl, h1, h2, n1, n2, d, z1, z2⟩ := q
        have e : b ≠ a := by rintro rfl; rw [ho1] at z1; cases z1
        have e2 : b2 ≠ a := by rintro rfl; rw [ho1] at z2; cases z2
        exact ⟨b, b2, rfl, h1, h2, by rw [setOw_ne e]; exact n1, by rw [setOw_ne e2]; exact n2, d, z1, z2⟩
  | src cs rs =>
    obtain ⟨a, b, rfl, ha, hb, na, nb, d, za, zb⟩ := h
    have kp : Keeps H ow H (setOw (setOw ow a (some (some i))) b (some (some i))) := fun x u hx nx => by
      have e : x ≠ a := by rintro rfl; rw [na] at nx; cases nx
      have e2 : x ≠ b := by rintro rfl; rw [nb] at nx; cases nx
      exact ⟨hx, by rw [setOw_ne e2, setOw_ne e]; exact nx⟩
    refine ⟨setOw (setOw ow a (some (some i))) b (some (some i)), ⟨fun x hx => ?_, fromI ⟨a, b, rfl, ha, hb, by rw [setOw_ne d, setOw_same], setOw_same, d⟩ fun j w' v' nj q => ?_, hlen⟩, ⟨fun x o hx nx => ?_, c.grow, fun x o i2 j2 hx e1 e2 => ?_⟩, fun w2 u H1 hH1 hs q => absurd rfl (hs cs rs)⟩
    · by_cases e : x = b
      · subst e; exact ⟨_, hb⟩
      · rw [setOw_ne e] at hx
        by_cases e2 : x = a
        · subst e2; exact ⟨_, ha⟩
        · rw [setOw_ne e2] at hx; exact ok.wf x hx
    · refine RepW.mono kp (fun x u hx ox => ⟨hx, ?_⟩) q
      have e : x ≠ a := by rintro rfl; rw [na] at ox; cases ox
      have e2 : x ≠ b := by rintro rfl; rw [nb] at ox; cases ox
      rw [setOw_ne e2, setOw_ne e]; exact ox
    · have e : x ≠ a := by rintro rfl; rw [za] at hx; cases hx
      have e2 : x ≠ b := by rintro rfl; rw [zb] at hx; cases hx
      obtain ⟨h1, h2⟩ := c.at' x o hx nx
      exact ⟨h1, by rw [setOw_ne e2, setOw_ne e]; exact h2⟩
    · have e : x ≠ a := by rintro rfl; rw [za] at hx; cases hx
      have e3 : x ≠ b := by rintro rfl; rw [zb] at hx; cases hx
      rw [setOw_ne e3, setOw_ne e] at e2
      exact c.slot x o i2 j2 hx e1 e2
/-- a slot's list let go where it is kept by another, a fresh one stays fresh -/
def mFv (m : ME) : ME := fun env => match m env with
  | some (.val w, env1) => some (.val w, env1)
  | some (.var i, env1) => match fz env1 (.var i) with
    | some (d, env2) => some (.val (.d d), env2)
    | none => none
  | none => none
theorem je_fv {e : Expr} {m : ME} (h : JE X e m) : JE X e (mFv m) :=
  ⟨PE.weak h.pe fun σ H Q hh => by
    obtain ⟨ow, env, rr, env', ok, e, q⟩ := hh
    unfold mFv at e
    split at e
    · rename_i w env1 h1
      cases e
      exact ⟨ow, env, _, _, ok, h1, q⟩
    · rename_i i env1 h1
      split at e
      rotate_left
      · cases e
      rename_i d env2 h2
      cases e
      refine ⟨ow, env, _, env1, ok, h1, fun v H1 ow1 p1 => ?_⟩
      obtain ⟨ow', ok', c', rp⟩ := fz_ok p1.ok p1.calm p1.rep h2
      exact q v H1 ow' ⟨ok', c', rp⟩
    · cases e⟩
def mAsg (i : Nat) (m : ME) : MS := fun env => match mFv m env with
  | some (.val w, env1) => some (.nx, env1.set i (some w))
  | _ => none
theorem mAsg_ex {i : Nat} {m : ME} {env env' : Env} {fl : Fl} (h : mAsg i m env = some (fl, env')) : ∃ w env1, mFv m env = some (.val w, env1) ∧ fl = .nx ∧ env' = env1.set i (some w) := by
  unfold mAsg at h
  split at h
  · rename_i w env1 h1
    cases h
    exact ⟨w, env1, h1, rfl, rfl⟩
  · cases h
theorem js_set {i : Nat} {x : Str} {e : Expr} {m : ME} {pos' pos : Pos} (hN : X.N.Nodup) (hi : X.N[i]? = some x) (hx : Loc X.env.scope x) (h : JE X e m) (hk : k = true → i ≠ 0) (hs : swapsWith e (some (.Name x pos')) pos.line X.env = pure false := by rfl)
    (hf : X.fn x = true ∨ X.env.scope.names.lookup x = some .local := by first | exact .inl rfl | exact .inr rfl | assumption) : JS X k (.Assign [.Name x pos'] e pos) (mAsg i m) :=
  ⟨PS.weak (ps_set hN hi hx (je_fv h).pe hs hf) fun D σ H hh => by
    obtain ⟨ow, env, fl, env', ok, e, q⟩ := hh
    obtain ⟨w, env1, h1, rfl, rfl⟩ := mAsg_ex e
    refine ⟨ow, env, _, env1, ok, h1, fun v H1 ow1 p1 => ?_⟩
    obtain ⟨ow', ok', c', _⟩ := Ok.bind i p1.ok p1.calm p1.rep
    refine show D.nx (σ.set i (some v)) H1 from q _ H1 ow' ok' c' fun z => ?_
    rw [List.getElem?_set_ne (hk z)]⟩
/-! ### targets: a value goes apart -/
abbrev MG := D → Env → Option Env
/-- but for these slots all stands -/
structure But (is : List Nat) (σ σ' : St) : Prop where
  at' : ∀ j, j ∉ is → σ'[j]? = σ[j]?
  len : σ'.length = σ.length
theorem But.refl {is : List Nat} {σ : St} : But is σ σ := ⟨fun _ _ => rfl, rfl⟩
theorem But.trans {is js : List Nat} {σ σ1 σ2 : St} (a : But is σ σ1) (b : But js σ1 σ2) : But (is ++ js) σ σ2 := ⟨fun j hj => by
  rw [List.mem_append] at hj
  rw [b.at' j fun z => hj (.inr z), a.at' j fun z => hj (.inl z)], b.len.trans a.len⟩
def tMG (is : List Nat) (mg : MG) : TG := fun v σ H Q => ∃ ow env d env', Ok H ow σ env ∧ Rep H ow d v ∧ mg d env = some env' ∧ ∀ σ' H' ow', Ok H' ow' σ' env' → Calm H ow H' ow' → But is σ σ' → Q σ' H'
structure JG (X : Cx) (is : List Nat) (e : Expr) (mg : MG) : Prop where
  pg : PG X e (tMG is mg)
def tMGs (is : List Nat) (mg : List D → Env → Option Env) : TGs := fun vs σ H Q => ∃ ow env ds env', Ok H ow σ env ∧ Reps H ow ds vs ∧ mg ds env = some env' ∧ ∀ σ' H' ow', Ok H' ow' σ' env' → Calm H ow H' ow' → But is σ σ' → Q σ' H'
structure JGs (X : Cx) (is : List Nat) (es : List Expr) (mg : List D → Env → Option Env) : Prop where
  pgs : PGs X es (tMGs is mg)
theorem PG.weak {e : Expr} {t t' : TG} (h : PG X e t) (w : ∀ v σ H Q, t' v σ H Q → t v σ H Q) : PG X e t' := ⟨fun pins s σ H v u Q I r q => h.run pins s σ H v u Q I r (w v σ H Q q)⟩
theorem PGs.weak {es : List Expr} {t t' : TGs} (h : PGs X es t) (w : ∀ v σ H Q, t' v σ H Q → t v σ H Q) : PGs X es t' := ⟨fun pins s σ H v u Q I r q => h.run pins s σ H v u Q I r (w v σ H Q q)⟩
def gNm (i : Nat) : MG := fun d env => some (env.set i (some (.d d)))
theorem jg_name {i : Nat} {x : Str} {pos : Pos} (hN : X.N.Nodup) (hi : X.N[i]? = some x) (hx : Loc X.env.scope x) (hf : X.fn x = true ∨ X.env.scope.names.lookup x = some .local := by first | exact .inl rfl | exact .inr rfl | assumption) : JG X [i] (.Name x pos) (gNm i) :=
  ⟨PG.weak (pg_name hN hi hx hf) fun v σ H Q hh => by
    obtain ⟨ow, env, d, env', ok, r, e, q⟩ := hh
    cases e
    obtain ⟨ow', ok', c', _⟩ := Ok.bind (H0 := H) (ow0 := ow) (w := .d d) i ok .refl r
    refine q _ H ow' ok' c' ⟨fun j hj => ?_, List.length_set⟩
    rw [List.getElem?_set_ne (fun e => hj (by rw [e]; exact List.mem_singleton.mpr rfl))]⟩
def gsNil : List D → Env → Option Env
  | [], env => some env
  | _ :: _, _ => none
def gsCons (g : MG) (gs : List D → Env → Option Env) : List D → Env → Option Env
  | [], _ => none
  | d :: ds, env => match g d env with
    | some env1 => gs ds env1
    | none => none
theorem jgs_nil : JGs X [] [] gsNil := ⟨PGs.weak pgs_nil fun vs σ H Q hh => by
  obtain ⟨ow, env, ds, env', ok, r, e, q⟩ := hh
  cases ds with
  | nil => cases e; rw [Reps] at r; exact ⟨r, q σ H ow ok .refl .refl⟩
  | cons d ds => cases e⟩
theorem jgs_cons {is js : List Nat} {e : Expr} {es : List Expr} {g : MG} {gs : List D → Env → Option Env} (h1 : JG X is e g) (h2 : JGs X js es gs)
    (ha : (assignEach (e :: es) X.env).map (·.2) = assign e X.env :: (assignEach es X.env).map (·.2) := by rfl) : JGs X (is ++ js) (e :: es) (gsCons g gs) :=
  ⟨PGs.weak (pgs_cons h1.pg h2.pgs ha) fun vs σ H Q hh => by
    obtain ⟨ow, env, ds, env', ok, r, e, q⟩ := hh
    cases ds with
    | nil => cases e
    | cons d ds =>
      rw [Reps] at r
      obtain ⟨v, t, rfl, r1, r2⟩ := r
      simp only [gsCons] at e
      cases h1 : g d env with
      | none => rw [h1] at e; cases e
      | some env1 =>
        rw [h1] at e
        refine ⟨v, t, rfl, ow, env, d, env1, ok, r1, h1, fun σ1 H1 ow1 ok1 c1 z1 => ?_⟩
        exact ⟨ow1, env1, ds, env', ok1, Reps.mono c1.keeps ds r2, e, fun σ' H' ow' ok' c' z' => q σ' H' ow' ok' (c1.trans c') (z1.trans z')⟩⟩
def gTupD (n : Nat) (gs : List D → Env → Option Env) : MG := fun d env => match d with
  | .tuple xs => if xs.length = n then gs xs env else none
  | _ => none
theorem jg_tup {is : List Nat} {es : List Expr} {kk : Nat} {pos : Pos} {n : Nat} {gs : List D → Env → Option Env} (hc : X.calm = true) (h : JGs X is es gs)
    (hn : (assignEach es X.env).length = n := by rfl) (hst : (assignEach es X.env).findIdx? (·.1) = none := by rfl) : JG X is (.Tuple es kk pos) (gTupD n gs) :=
  ⟨PG.weak (pg_tup hc h.pgs hn hst) fun v σ H Q hh => by
    obtain ⟨ow, env, d, env', ok, r, e, q⟩ := hh
    unfold gTupD at e
    split at e
    rotate_left
    · cases e
    rename_i xs
    split at e
    rotate_left
    · cases e
    rename_i hl
    rw [Rep] at r
    obtain ⟨a, vs, rfl, ra, na, qa⟩ := r
    exact ⟨a, vs, rfl, SqT.of ra, by rw [qa.length]; exact hl, ow, env, xs, env', ok, qa, e, q⟩⟩
/-- target = value, the target taken apart -/
def mAsgG (g : MG) (m : ME) : MS := fun env => match mFz m env with
  | some (.val (.d d), env1) => match g d env1 with
    | some env2 => some (.nx, env2)
    | none => none
  | _ => none
theorem js_asgG {is : List Nat} {tg e : Expr} {g : MG} {m : ME} {pos : Pos} (he : JE X e m) (hg : JG X is tg g) (hk : k = true → 0 ∉ is) (hs : swapsWithSole [tg] e pos.line X.env = pure false := by rfl) (hw : swappedStores [tg] e X.env = pure none := by rfl) (h1 : (assignEach [tg] X.env).map (·.2) = [assign tg X.env] := by rfl) : JS X k (.Assign [tg] e pos) (mAsgG g m) :=
  ⟨PS.weak (ps_asg (je_fz he).pe hg.pg hs hw h1) fun D σ H hh => by
    obtain ⟨ow, env, fl, env', ok, e, q⟩ := hh
    unfold mAsgG at e
    split at e
    rotate_left
    · cases e
    rename_i d env1 h1
    split at e
    rotate_left
    · cases e
    rename_i env2 h2
    cases e
    refine ⟨ow, env, _, env1, ok, h1, fun v H1 ow1 p1 => ?_⟩
    exact ⟨ow1, env1, d, _, p1.ok, p1.rep, h2, fun σ' H' ow' ok' c' z' => q σ' H' ow' ok' (p1.calm.trans c') fun hz => z'.at' 0 (hk hz)⟩⟩
/-- results as values -/
def wsOf : List R → Option (List W)
  | [] => some []
  | .val (.d x) :: rs => match wsOf rs with
    | some ws => some (.d x :: ws)
    | none => none
  | .val (.own x) :: rs => match wsOf rs with
    | some ws => some (.own x :: ws)
    | none => none
  | _ :: _ => none
def setAll : List Nat → List W → Env → Env
  | i :: is, w :: ws, env => setAll is ws (env.set i (some w))
  | _, _, env => env
def setSt : List Nat → List V → St → St
  | i :: is, v :: vs, σ => setSt is vs (σ.set i (some v))
  | _, _, σ => σ
theorem bind_all {Hs : Hp} {ows : Ow} {H : Hp} : ∀ (is : List Nat) {H0 : Hp} {rs : List R} {vs : List V} {ws : List W} {ow : Ow} {σ σr : St} {env : Env}, is.length = rs.length → (∀ a, H0 a = none → Hs a = none) →
    Ok H ow σ env → Calm Hs ows H ow → RepRs H0 H ow σr rs vs → wsOf rs = some ws → ∃ ow', Ok H ow' (setSt is vs σ) (setAll is ws env) ∧ Calm Hs ows H ow'
  | [], _, [], vs, ws, ow, σ, σr, env, _, hg, ok, c, r, e => by
    cases e; cases (show vs = [] from r)
    exact ⟨ow, ok, c⟩
  | i :: is, H0, r :: rs, vs, ws, ow, σ, σr, env, hl, hg, ok, c, rr, e => by
    obtain ⟨v, t, H1, rfl, r1, g1, z1, r2⟩ := rr
    have key : ∀ w ws', r = .val w → (∀ cs rs, w ≠ .src cs rs) → wsOf rs = some ws' → ∃ ow', Ok H ow' (setSt (i :: is) (v :: t) σ) (setAll (i :: is) (w :: ws') env) ∧ Calm Hs ows H ow' := fun w ws' er hw e2 => by
      subst er
      have r1' : RepT Hs H ow w v := RepT.fresh hg r1
      obtain ⟨ow1, ok1, c1, later⟩ := Ok.bind i ok c r1'
      have tr : ∀ {H0 : Hp} {rs : List R} {vs : List V}, (∀ a, v = .ref a → ∃ o, H0 a = some o) → RepRs H0 H ow σr rs vs → (∃ ws, wsOf rs = some ws) → RepRs H0 H ow1 σr rs vs := by
        intro H0 rs
        induction rs generalizing H0 with
        | nil => intro vs _ h _; exact h
        | cons r rs ih =>
          intro vs ha h hw2
          obtain ⟨u, t', H2, rfl, q1, g2, z2, q2⟩ := h
          have hr : ∃ w2, r = .val w2 := by
            obtain ⟨ws, e⟩ := hw2
            cases r with
            | val w2 => exact ⟨w2, rfl⟩
            | var j => cases e
          obtain ⟨w2, rfl⟩ := hr
          refine ⟨u, t', H2, rfl, later w2 u H0 ha hw q1, g2, z2, ih (fun a ea => ?_) q2 ?_⟩
          · obtain ⟨o, ho⟩ := ha a ea
            cases q : H2 a with
            | some o2 => exact ⟨o2, rfl⟩
            | none => have := g2 a q; rw [ho] at this; cases this
          · obtain ⟨ws, e⟩ := hw2
            cases w2 with
            | d x =>
              unfold wsOf at e
              split at e
              · rename_i ws3 h3; exact ⟨ws3, h3⟩
              · cases e
            | own x =>
              unfold wsOf at e
              split at e
              · rename_i ws3 h3; exact ⟨ws3, h3⟩
              · cases e
            | src _ _ => cases e
      exact bind_all is (by simpa using hl) (fun a z => hg a (g1 a z)) ok1 c1 (tr (fun a ea => z1 w a rfl ea) r2 ⟨ws', e2⟩) e2
    cases r with
    | var j => cases e
    | val w =>
      cases w with
      | d x =>
        unfold wsOf at e
        split at e
        · rename_i ws3 h3; cases e; exact key (.d x) ws3 rfl (fun _ _ z => by cases z) h3
        · cases e
      | own x =>
        unfold wsOf at e
        split at e
        · rename_i ws3 h3; cases e; exact key (.own x) ws3 rfl (fun _ _ z => by cases z) h3
        · cases e
      | src _ _ => cases e
  | [], _, _ :: _, _, _, _, _, _, _, hl, _, _, _, _, _ => by simp at hl
  | _ :: _, _, [], _, _, _, _, _, _, hl, _, _, _, _, _ => by simp at hl
/-- a, b = x, y -/
def mPar (is : List Nat) (ma : MA) : MS := fun env => match ma env with
  | some (rs, env1) => match wsOf rs with
    | some ws => if is.length = rs.length then some (.nx, setAll is ws env1) else none
    | none => none
  | none => none
theorem setSt_zero : ∀ (is : List Nat) (vs : List V) (σ : St), (∀ i ∈ is, i ≠ 0) → (setSt is vs σ)[0]? = σ[0]?
  | [], vs, σ, _ => by cases vs <;> rfl
  | i :: is, [], σ, _ => rfl
  | i :: is, v :: vs, σ, h => by
    unfold setSt
    rw [setSt_zero is vs _ fun j hj => h j (List.mem_cons_of_mem _ hj), List.getElem?_set_ne (h i List.mem_cons_self)]
theorem par_of {is : List Nat} {ma : MA} {D : Ends} {σ : St} {H : Hp} {t : TS} (hk : k = true → ∀ i ∈ is, i ≠ 0) (ht : ∀ Q : List V → Hp → Prop, tMA ma σ H Q → (∀ vs H', vs.length = is.length → Q vs H' → D.nx (setSt is vs σ) H') → t D σ H)
    (hh : tMS k (mPar is ma) D σ H) : t D σ H := by
  obtain ⟨ow, env, fl, env', ok, e, q⟩ := hh
  unfold mPar at e
  split at e
  rotate_left
  · cases e
  rename_i rs env1 h1
  split at e
  rotate_left
  · cases e
  rename_i ws h2
  split at e
  rotate_left
  · cases e
  rename_i hl
  cases e
  refine ht (fun vs H' => D.nx (setSt is vs σ) H') ⟨ow, env, rs, env1, ok, h1, fun vs H1 ow1 ok1 c1 rr => ?_⟩ fun vs H' _ h => h
  obtain ⟨ow', ok', c'⟩ := bind_all is hl (fun a z => z) ok1 c1 rr h2
  exact q _ H1 ow' ok' c' fun z => setSt_zero is vs σ (hk z)
theorem wsOf_len : ∀ {rs : List R} {ws : List W}, wsOf rs = some ws → ws.length = rs.length
  | [], ws, e => by cases e; rfl
  | .val (.d x) :: rs, ws, e => by
    unfold wsOf at e
    split at e
    · rename_i w2 h; cases e; simp [wsOf_len h]
    · cases e
  | .val (.own x) :: rs, ws, e => by
    unfold wsOf at e
    split at e
    · rename_i w2 h; cases e; simp [wsOf_len h]
    · cases e
  | .val (.src _ _) :: rs, ws, e => by cases e
  | .var _ :: rs, ws, e => by cases e
theorem RepRs.length {H : Hp} {ow : Ow} {σ : St} : ∀ {H0 : Hp} {rs : List R} {vs : List V}, RepRs H0 H ow σ rs vs → vs.length = rs.length
  | _, [], vs, h => by cases (show vs = [] from h); rfl
  | _, r :: rs, vs, ⟨v, t, H', e, _, _, _, q⟩ => by rw [e]; simp [RepRs.length q]
theorem par_of2 {is : List Nat} {ma : MA} {D : Ends} {σ : St} {H : Hp} (hk : k = true → ∀ i ∈ is, i ≠ 0) (hh : tMS k (mPar is ma) D σ H) : tMA ma σ H fun vs H' => vs.length = is.length ∧ D.nx (setSt is vs σ) H' := by
  obtain ⟨ow, env, fl, env', ok, e, q⟩ := hh
  unfold mPar at e
  split at e
  rotate_left
  · cases e
  rename_i rs env1 h1
  split at e
  rotate_left
  · cases e
  rename_i ws h2
  split at e
  rotate_left
  · cases e
  rename_i hl
  cases e
  refine ⟨ow, env, rs, env1, ok, h1, fun vs H1 ow1 ok1 c1 rr => ⟨by rw [hl, rr.length], ?_⟩⟩
  obtain ⟨ow', ok', c'⟩ := bind_all is hl (fun a z => z) ok1 c1 rr h2
  exact q _ H1 ow' ok' c' fun z => setSt_zero is vs σ (hk z)
theorem tMA_mono {m : MA} {σ : St} {H : Hp} {Q Q' : List V → Hp → Prop} (t : tMA m σ H Q) (h : ∀ vs H1, Q vs H1 → Q' vs H1) : tMA m σ H Q' := by
  obtain ⟨ow, env, rs, env', ok, e, q⟩ := t
  exact ⟨ow, env, rs, env', ok, e, fun vs H' ow' ok' c' rr => h _ _ (q vs H' ow' ok' c' rr)⟩
theorem js_par {i j : Nat} {x y : Str} {a b : Expr} {ma : MA} {px py pt : Pos} {kt k2 pt2 pos} (hc : X.calm = true) (hN : X.N.Nodup) (hi : X.N[i]? = some x) (hj : X.N[j]? = some y) (hij : i ≠ j)
    (hx : X.env.scope.names.lookup x = some .local) (hy : X.env.scope.names.lookup y = some .local) (ha : JA X [a, b] ma) (hk : k = true → ∀ z ∈ [i, j], z ≠ 0)
    (hw : swappedStores [.Tuple [.Name x px, .Name y py] kt pt] (.Tuple [a, b] k2 pt2) X.env = pure (some [x, y]))
    (hs : swapsWithSole [.Tuple [.Name x px, .Name y py] kt pt] (.Tuple [a, b] k2 pt2) pos.line X.env = pure false := by rfl) :
    JS X k (.Assign [.Tuple [.Name x px, .Name y py] kt pt] (.Tuple [a, b] k2 pt2) pos) (mPar [i, j] ma) :=
  ⟨PS.weak (ps_par hc hN hi hj hij hx hy ha.pa hw hs) fun D σ H hh => tMA_mono (par_of2 hk hh) fun vs H1 ⟨hl, q⟩ => by
    match vs, hl with
    | [v, w], _ => exact ⟨v, w, rfl, q⟩⟩
theorem js_par3 {i j l : Nat} {x y z : Str} {a b c : Expr} {ma : MA} {px py pz pt pos : Pos} {kt k2 pt2} (hc : X.calm = true) (hN : X.N.Nodup) (hi : X.N[i]? = some x) (hj : X.N[j]? = some y) (hl : X.N[l]? = some z) (hij : i ≠ j) (hil : i ≠ l) (hjl : j ≠ l)
    (hx : X.env.scope.names.lookup x = some .local) (hy : X.env.scope.names.lookup y = some .local) (hz : X.env.scope.names.lookup z = some .local) (ha : JA X [a, b, c] ma) (hk : k = true → ∀ u ∈ [i, j, l], u ≠ 0)
    (hw : swappedStores [.Tuple [.Name x px, .Name y py, .Name z pz] kt pt] (.Tuple [a, b, c] k2 pt2) X.env = pure (some [x, y, z]))
    (hs : swapsWithSole [.Tuple [.Name x px, .Name y py, .Name z pz] kt pt] (.Tuple [a, b, c] k2 pt2) pos.line X.env = pure false := by rfl) :
    JS X k (.Assign [.Tuple [.Name x px, .Name y py, .Name z pz] kt pt] (.Tuple [a, b, c] k2 pt2) pos) (mPar [i, j, l] ma) :=
  ⟨PS.weak (ps_par3 hc hN hi hj hl hij hil hjl hx hy hz ha.pa hw hs) fun D σ H hh => tMA_mono (par_of2 hk hh) fun vs H1 ⟨hl, q⟩ => by
    match vs, hl with
    | [v, w, u], _ => exact ⟨v, w, u, rfl, q⟩⟩
/-- names as targets of a tuple that is made and taken apart -/
def tNms (is : List Nat) : TGs := fun vs σ H Q => vs.length = is.length ∧ Q (setSt is vs σ) H
structure JNs (X : Cx) (es : List Expr) (is : List Nat) : Prop where
  pgs : PGs X es (tNms is)
theorem jn_nil : JNs X [] [] := ⟨PGs.weak pgs_nil fun vs σ H Q ⟨hl, q⟩ => by
  have e : vs = [] := List.length_eq_zero_iff.mp hl
  subst e
  exact ⟨rfl, q⟩⟩
theorem jn_cons {i : Nat} {x : Str} {pos : Pos} {es : List Expr} {is : List Nat} (hN : X.N.Nodup) (hi : X.N[i]? = some x) (hx : Loc X.env.scope x) (h2 : JNs X es is)
    (hf : X.fn x = true ∨ X.env.scope.names.lookup x = some .local := by first | exact .inl rfl | exact .inr rfl | assumption)
    (ha : (assignEach (.Name x pos :: es) X.env).map (·.2) = assign (.Name x pos) X.env :: (assignEach es X.env).map (·.2) := by rfl) : JNs X (.Name x pos :: es) (i :: is) :=
  ⟨PGs.weak (pgs_cons (pg_name hN hi hx hf) h2.pgs ha) fun vs σ H Q ⟨hl, q⟩ => by
    cases vs with
    | nil => simp at hl
    | cons v t => exact ⟨v, t, rfl, by simpa using hl, q⟩⟩
theorem js_parT {es ns : List Expr} {is : List Nat} {ma : MA} {kt k2 : Nat} {pt pt2 pos : Pos} (hc : X.calm = true) (ha : JA X es ma) (hn : JNs X ns is) (hk : k = true → ∀ z ∈ is, z ≠ 0) (hl0 : is.length ≤ lenLine := by decide)
    (hlen : (assignEach ns X.env).length = is.length := by rfl) (hst : (assignEach ns X.env).findIdx? (·.1) = none := by rfl)
    (hs : swapsWithSole [.Tuple ns kt pt] (.Tuple es k2 pt2) pos.line X.env = pure false := by rfl) (hw : swappedStores [.Tuple ns kt pt] (.Tuple es k2 pt2) X.env = pure none := by rfl)
    (h1 : (assignEach [.Tuple ns kt pt] X.env).map (·.2) = [assign (.Tuple ns kt pt) X.env] := by rfl) :
    JS X k (.Assign [.Tuple ns kt pt] (.Tuple es k2 pt2) pos) (mPar is ma) :=
  ⟨PS.weak (ps_asg (pe_tup ha.pa) (pg_tup hc hn.pgs hlen hst) hs hw h1) fun D σ H hh => by
    obtain ⟨ow, env, fl, env', ok, e, q⟩ := hh
    unfold mPar at e
    split at e
    rotate_left
    · cases e
    rename_i rs env1 h1
    split at e
    rotate_left
    · cases e
    rename_i ws h2
    split at e
    rotate_left
    · cases e
    rename_i hl
    cases e
    refine ⟨ow, env, rs, env1, ok, h1, fun vs H1 ow1 ok1 c1 rr => ⟨?_, fun p hp => ?_⟩⟩
    · rw [rr.length, ← hl]; exact lenLine_le hl0
    · have n : New H1 ow1 (upd H1 p (.tup vs)) (setOw ow1 p none) := New.made _ hp
      obtain ⟨ow', ok', c'⟩ := bind_all is hl (fun a z => z) (n.ok ok1) (c1.trans n.calm) (rr.later n.calm) h2
      refine ⟨p, vs, rfl, SqT.of upd_same, by rw [rr.length, ← hl], by rw [rr.length, ← hl], ?_⟩
      exact q _ _ ow' ok' c' fun z => setSt_zero is vs σ (hk z)⟩
end L2.Z

namespace L2.Z
open PySem PySem.Spec PyProof.Rows
variable {X : Cx} {k : Bool}
/-! ### a slot's list changes -/
theorem write_keeps {H : Hp} {ow : Ow} {a : Addr} {o : HO} (h : ow a ≠ none) : Keeps H ow (upd H a o) ow := fun b u hb nb => by
  have e : b ≠ a := by rintro rfl; exact h nb
  exact ⟨by rw [upd_ne e]; exact hb, nb⟩
theorem Ok.write {H0 H : Hp} {ow0 ow : Ow} {σ : St} {env : Env} {j : Nat} {a : Addr} {xs ys : List D} {us : List V} (ok : Ok H ow σ env) (c : Calm H0 ow0 H ow) (hx : env[j]? = some (some (.own xs))) (hv : σ[j]? = some (some (.ref a))) (r : Reps H ow ys us) :
    Ok (upd H a (.lst us)) ow σ (env.set j (some (.own ys))) ∧ Calm H0 ow0 (upd H a (.lst us)) ow := by
  obtain ⟨v', hv', a', vs, e, ha, no, _⟩ := ok.slot j _ hx
  rw [hv] at hv'; cases hv'; cases e
  have hne : ow a ≠ none := by rw [no]; simp
  have kp : Keeps H ow (upd H a (.lst us)) ow := write_keeps hne
  refine ⟨⟨fun b hb => ?_, fun i w hi => ?_, by rw [List.length_set]; exact ok.len⟩, fun b o hb nb => ?_, fun b o hb => ?_, c.slot⟩
  · obtain ⟨o, ho⟩ := ok.wf b hb
    by_cases e : b = a
    · subst e; exact ⟨_, upd_same⟩
    · exact ⟨o, by rw [upd_ne e]; exact ho⟩
  · rcases set_slot hi with ⟨rfl, e, hl⟩ | ⟨ne, e⟩
    · cases e
      exact ⟨_, hv, a, us, rfl, upd_same, no, Reps.mono kp ys r⟩
    · obtain ⟨v2, hv2, q⟩ := ok.slot i w e
      refine ⟨v2, hv2, RepW.mono kp (fun b u hb ob => ⟨?_, ob⟩) q⟩
      have e : b ≠ a := by
        rintro rfl; rw [no] at ob
        injection ob with ob; injection ob with ob
        exact ne ob
      rw [upd_ne e]; exact hb
  · obtain ⟨h1, h2⟩ := c.at' b o hb nb
    have e : b ≠ a := by
      rintro rfl; rw [no] at h2
      exact nb j h2.symm
    exact ⟨by rw [upd_ne e]; exact h1, h2⟩
  · obtain ⟨o', ho'⟩ := c.grow b o hb
    by_cases e : b = a
    · subst e; exact ⟨_, upd_same⟩
    · exact ⟨o', by rw [upd_ne e]; exact ho'⟩
/-- what an own slot holds -/
def ownAt (env : Env) (j : Nat) : Option (List D) := match env[j]? with
  | some (some (.own xs)) => some xs
  | _ => none
theorem ownAt_eq {env : Env} {j : Nat} {xs : List D} (h : ownAt env j = some xs) : env[j]? = some (some (.own xs)) := by
  unfold ownAt at h
  split at h
  · rename_i ys hy; cases h; exact hy
  · cases h
theorem own_var {env : Env} {j : Nat} {xs : List D} (h : ownAt env j = some xs) : mVar j env = some (.var j, env) := by
  unfold mVar
  rw [ownAt_eq h]
theorem own_rep {H : Hp} {ow : Ow} {σ : St} {env : Env} {j : Nat} {xs : List D} {v : V} (ok : Ok H ow σ env) (h : ownAt env j = some xs) (hv : σ[j]? = some (some v)) : ∃ a vs, v = .ref a ∧ H a = some (.lst vs) ∧ Reps H ow xs vs := by
  obtain ⟨v', hv', a, vs, e, ha, _, r⟩ := ok.slot j _ (ownAt_eq h)
  rw [hv] at hv'; cases hv'
  exact ⟨a, vs, e, ha, r⟩
/-- xs[i] = e -/
def mSetIx (j : Nat) (me mi : ME) : MS := fun env => match mFz me env with
  | some (.val (.d d), env1) => match ownAt env1 j with
    | some _ => match mi env1 with
      | some (r, env2) => match cont env2 r, ownAt env2 j with
        | some (.int i), some xs => match ixN xs.length i with
          | some n => some (.nx, env2.set j (some (.own (xs.set n d))))
          | none => none
        | _, _ => none
      | none => none
    | none => none
  | _ => none
theorem js_setIx {j : Nat} {x : Str} {e i : Expr} {me mi : ME} {p1 p2 pos : Pos} (hN : X.N[j]? = some x) (hv : Vis X.env.scope x) (he : JE X e me) (hi : JE X i mi)
    (hd : (x == ("__debug__" : Str)) = false := by decide) (hcd : (x == ("__classdict__" : Str)) = false := by decide)
    (hs : swapsWithSole [.Subscript (.Name x p1) i p2] e pos.line X.env = pure false := by rfl) (hw : swappedStores [.Subscript (.Name x p1) i p2] e X.env = pure none := by rfl)
    (h1 : (assignEach [.Subscript (.Name x p1) i p2] X.env).map (·.2) = [assign (.Subscript (.Name x p1) i p2) X.env] := by rfl)
    (ha : ∀ v, assign (.Subscript (.Name x p1) i p2) X.env v = (do
      let ov ← holding [v] (eval (.Name x p1) X.env)
      let iv ← holding [v, ov] (eval i X.env)
      standAt p2
      holding [v, ov, iv] (setItem ov iv v)
      release [v, ov, iv] []) := by intro _; rfl) : JS X k (.Assign [.Subscript (.Name x p1) i p2] e pos) (mSetIx j me mi) :=
  ⟨PS.weak (ps_asg (je_fz he).pe (pg_sub (je_var hN hv hd hcd).pe hi.pe set_list ha) hs hw h1) fun D σ H hh => by
    obtain ⟨ow, env, fl, env', ok, e, q⟩ := hh
    unfold mSetIx at e
    split at e
    rotate_left
    · cases e
    rename_i d env1 h1
    split at e
    rotate_left
    · cases e
    rename_i xs0 h2
    split at e
    rotate_left
    · cases e
    rename_i r env2 h3
    split at e
    rotate_left
    · cases e
    rename_i i xs h4 h5
    split at e
    rotate_left
    · cases e
    rename_i n h6
    cases e
    refine ⟨ow, env, _, env1, ok, h1, fun v H1 ow1 p1 => ?_⟩
    refine ⟨ow1, env1, _, env1, p1.ok, own_var h2, fun o H2 ow2 p2 => ?_⟩
    refine ⟨ow2, env1, r, env2, p2.ok, h3, fun y H3 ow3 p3 => ?_⟩
    have hv : σ[j]? = some (some o) := p2.rep
    obtain ⟨a, vs, rfl, hav, rv⟩ := own_rep p3.ok h5 hv
    have rd : Rep H3 ow3 d v := Rep.mono (p2.calm.trans p3.calm).keeps d p1.rep
    have ri := repI (cont_rep p3.rep .refl p3.ok h4)
    obtain ⟨ok', c'⟩ := Ok.write p3.ok ((p1.calm.trans p2.calm).trans p3.calm) (ownAt_eq h5) hv (Reps.set rd n rv)
    exact ⟨a, vs, i, n, rfl, ri, hav, by rw [rv.length]; exact h6, q σ _ ow3 ok' c' fun _ => rfl⟩⟩
/-! ### a slot's list by its methods -/
/-- a method with arguments of the list in slot j -/
def mMeth (j : Nat) (g : List D → List D → Option (D × List D)) (ma : MA) : ME := fun env => match ownAt env j with
  | some _ => match ma env with
    | some (rs, env1) => match conts env1 rs, ownAt env1 j with
      | some ds, some xs => match g xs ds with
        | some (d, ys) => some (.val (.d d), env1.set j (some (.own ys)))
        | none => none
      | _, _ => none
    | none => none
  | none => none
def MtOK (X : Cx) (id : String) (pure : Bool) (g : List D → List D → Option (D × List D)) : Prop := ∃ r, MtM X id r ∧ ∀ H ow a vs xs ds us d ys Q, H a = some (.lst vs) → ow a ≠ none → Reps H ow xs vs → RepCs H ow ds us → (pure = true → Reps H ow ds us) → g xs ds = some (d, ys) →
  (∀ v ws, Reps H ow ys ws → Rep H ow d v → Q v (upd H a (.lst ws))) → r (.ref a) us H Q
theorem meth_of {j : Nat} {g : List D → List D → Option (D × List D)} {ma : MA} {pure : Bool} {r : V → List V → Hp → VK → Prop} {σ : St} {H : Hp} {Q : VK} (hp : pure = true → ∀ env rs env', ma env = some (rs, env') → ∃ ds, dsOf rs = some ds)
    (hr : ∀ H ow a vs xs ds us d ys Q, H a = some (.lst vs) → ow a ≠ none → Reps H ow xs vs → RepCs H ow ds us → (pure = true → Reps H ow ds us) → g xs ds = some (d, ys) → (∀ v ws, Reps H ow ys ws → Rep H ow d v → Q v (upd H a (.lst ws))) → r (.ref a) us H Q)
    (h : tM (mMeth j g ma) σ H Q) : tBM X.K "list" r (tM (mVar j)) (tMA ma) σ H Q := by
  obtain ⟨ow, env, rr, env', ok, e, q⟩ := h
  unfold mMeth at e
  split at e
  rotate_left
  · cases e
  rename_i xs0 h0
  split at e
  rotate_left
  · cases e
  rename_i rs env1 h1
  split at e
  rotate_left
  · cases e
  rename_i ds xs h2 h3
  split at e
  rotate_left
  · cases e
  rename_i d ys h4
  cases e
  refine ⟨ow, env, _, env, ok, own_var h0, fun o H1 ow1 p1 => ?_⟩
  have hv : σ[j]? = some (some o) := p1.rep
  obtain ⟨a, vs0, rfl, ha0, _⟩ := own_rep p1.ok h0 hv
  refine ⟨.inl ⟨rfl, _, SqL.of ha0⟩, ow1, env, rs, env1, p1.ok, h1, fun us H2 ow2 ok2 c2 rp => ?_⟩
  obtain ⟨v', hv', a', vs, e', ha, no, rv⟩ := ok2.slot j _ (ownAt_eq h3)
  rw [hv] at hv'; cases hv'; cases e'
  have hne : ow2 a ≠ none := by rw [no]; simp
  refine hr H2 ow2 a vs xs ds us d ys Q ha hne rv (conts_rep ok2 rp h2) (fun hpt => ?_) h4 fun v ws rw' rd => ?_
  · obtain ⟨ds', hd'⟩ := hp hpt _ _ _ h1
    have e2 : conts env1 rs = some ds' := by
      clear h1 h2 rp q
      induction rs generalizing ds' with
      | nil => cases hd'; rfl
      | cons r rs ih =>
        unfold dsOf at hd'
        split at hd'
        · rename_i x xs e1 e2
          cases hd'
          have : cont env1 r = some x := by
            cases r with
            | val w => cases w <;> first | (cases e1; rfl) | cases e1
            | var i => cases e1
          unfold conts
          rw [this, ih xs e2]
        · cases hd'
    rw [h2] at e2
    cases e2
    exact dsOf_rep rp hd'
  · obtain ⟨ok', c'⟩ := Ok.write ok2 (p1.calm.trans c2) (ownAt_eq h3) hv rw'
    exact q v _ ow2 ⟨ok', c', Rep.mono (write_keeps hne) d rd⟩
def gApp : List D → List D → Option (D × List D)
  | xs, [d] => if xs.length < lenLine then some (.none, xs ++ [d]) else none
  | _, _ => none
theorem mo_append : MtOK X "list.append" true gApp :=
  ⟨_, mt_append, fun H ow a vs xs ds us d ys Q ha no rv rc rp e q => by
    unfold gApp at e
    split at e
    rotate_left
    · cases e
    rename_i d0
    split at e
    rotate_left
    · cases e
    rename_i hl
    cases e
    have r1 := rp rfl
    rw [Reps] at r1
    obtain ⟨v, t, rfl, r2, r3⟩ := r1
    rw [Reps] at r3
    subst r3
    refine ⟨a, vs, v, rfl, rfl, ha, ?_, q _ _ (rv.append (Reps.cons r2 Reps.nil)) rpN⟩
    rw [rv.length, sizeLine_eq]; unfold lenLine at hl; omega⟩
def gExt : List D → List D → Option (D × List D)
  | xs, [.list zs] => if xs.length + zs.length ≤ lenLine then some (.none, xs ++ zs) else none
  | _, _ => none
theorem mo_extend : MtOK X "list.extend" false gExt :=
  ⟨_, mt_extend, fun H ow a vs xs ds us d ys Q ha no rv rc rp e q => by
    unfold gExt at e
    split at e
    rotate_left
    · cases e
    rename_i zs
    split at e
    rotate_left
    · cases e
    rename_i hl
    cases e
    obtain ⟨v, rfl, b, ws, rfl, hb, rb⟩ := cs1 rc
    refine ⟨a, b, vs, ws, rfl, rfl, ha, hb, ?_, q _ _ (rv.append rb) rpN⟩
    rw [rv.length, rb.length]; exact lenLine_le hl⟩
def gPopAt : List D → List D → Option (D × List D)
  | xs, [.int i] => if -(2 ^ 63) ≤ i ∧ i < 2 ^ 63 then (match seqIndex? i xs.length with
    | some n => match xs[n]? with
      | some d => some (d, xs.eraseIdx n)
      | none => none
    | none => none) else none
  | _, _ => none
theorem Reps.dropLast {H : Hp} {ow : Ow} {xs : List D} {vs : List V} (r : Reps H ow xs vs) : Reps H ow xs.dropLast vs.dropLast := by
  rw [List.dropLast_eq_take, List.dropLast_eq_take, r.length]
  exact r.take _
theorem mo_popAt : MtOK X "list.pop" false gPopAt :=
  ⟨_, mt_popAt, fun H ow a vs xs ds us d ys Q ha no rv rc rp e q => by
    unfold gPopAt at e
    split at e
    · rename_i i
      split at e
      rotate_left
      · cases e
      rename_i hb
      split at e
      rotate_left
      · cases e
      rename_i n hn
      split at e
      rotate_left
      · cases e
      rename_i d0 hd
      cases e
      obtain ⟨v, rfl, h1⟩ := cs1 rc
      rw [repI h1]
      obtain ⟨u, hu, ru⟩ := rv.get hd
      exact ⟨a, vs, i, n, u, rfl, rfl, ha, hb.1, hb.2, by rw [rv.length]; exact hn, hu, q _ _ (rv.eraseIdx n) ru⟩
    · cases e⟩
/-- the method's last argument is kept by the list -/
theorem je_meth1 {j : Nat} {x m : Str} {id : String} {g : List D → List D → Option (D × List D)} {e : Expr} {me : ME} {p1 apos cpos : Pos} (ho : MtOK X id false g) (pa : PlainAttrs "list") (slot : Slot "list" m id) (hty : typeOf (.builtin id) = pure (.type "method_descriptor"))
    (hN : X.N[j]? = some x) (hv : Vis X.env.scope x) (he : JE X e me)
    (hd : (x == ("__debug__" : Str)) = false := by decide) (hcd : (x == ("__classdict__" : Str)) = false := by decide)
    (hbase : attributeBase (.Name x p1) m X.env (eval (.Name x p1) X.env) = eval (.Name x p1) X.env := by rfl)
    (hfew : ((backTo cpos (starEach [e] X.env)).all (fun x => !x.1) && (backToKw cpos (keywordEach [] X.env)).all (fun x => x.1.isSome) && decide (([e] : List Expr).length + ([] : List Keyword).length + (if ([] : List Keyword).isEmpty then 0 else 1) < 30)) = true := by rfl)
    (hline : (apos.endLine == cpos.line) = true := by rfl) (hs : starEach [e] X.env = (false, eval e X.env) :: starEach [] X.env := by rfl) (hplain : (backTo cpos (starEach [] X.env)).any (·.1) = false := by rfl) :
    JE X (.Call (.Attribute (.Name x p1) m apos) [e] [] cpos) (mMeth j g (mCons me mNil)) := by
  obtain ⟨r, o, hr⟩ := ho
  exact ⟨PE.weak (pe_bm pa slot hty o (je_var hN hv hd hcd).pe (ja_cons he ja_nil hs).pa hbase hfew hline hs hplain) fun σ H Q h => meth_of (fun z => by cases z) hr h⟩
theorem je_append {j : Nat} {x : Str} {e : Expr} {me : ME} {p1 apos cpos : Pos} (hN : X.N[j]? = some x) (hv : Vis X.env.scope x) (he : JE X e me)
    (hd : (x == ("__debug__" : Str)) = false := by decide) (hcd : (x == ("__classdict__" : Str)) = false := by decide)
    (hbase : attributeBase (.Name x p1) "append" X.env (eval (.Name x p1) X.env) = eval (.Name x p1) X.env := by rfl)
    (hfew : ((backTo cpos (starEach [e] X.env)).all (fun x => !x.1) && (backToKw cpos (keywordEach [] X.env)).all (fun x => x.1.isSome) && decide (([e] : List Expr).length + ([] : List Keyword).length + (if ([] : List Keyword).isEmpty then 0 else 1) < 30)) = true := by rfl)
    (hline : (apos.endLine == cpos.line) = true := by rfl) (hs : starEach [e] X.env = (false, eval e X.env) :: starEach [] X.env := by rfl) (hplain : (backTo cpos (starEach [] X.env)).any (·.1) = false := by rfl) :
    JE X (.Call (.Attribute (.Name x p1) "append" apos) [e] [] cpos) (mMeth j gApp (mCons (mFz me) mNil)) := by
  obtain ⟨r, o, hr⟩ := mo_append (X := X)
  refine ⟨PE.weak (pe_bm PySem.F.plainAttrs_list PySem.F.slot_list_append PySem.F.type_list_append o (je_var hN hv hd hcd).pe (ja_cons (je_fz he) ja_nil hs).pa hbase hfew hline hs hplain) fun σ H Q h => meth_of (fun _ env rs env' e => ?_) hr h⟩
  unfold mCons mNil mFz at e
  split at e
  rotate_left
  · cases e
  rename_i x' env1 h1
  split at h1
  rotate_left
  · cases h1
  split at h1
  rotate_left
  · cases h1
  cases h1
  split at e
  rotate_left
  · cases e
  rename_i xs env2 h2
  cases h2
  cases e
  exact ⟨_, rfl⟩
/-- xs.pop() -/
def mPop (j : Nat) : ME := fun env => match ownAt env j with
  | some xs => match xs[xs.length - 1]? with
    | some d => some (.val (.d d), env.set j (some (.own xs.dropLast)))
    | none => none
  | none => none
theorem je_pop {j : Nat} {x : Str} {p1 apos cpos : Pos} (hN : X.N[j]? = some x) (hv : Vis X.env.scope x)
    (hd : (x == ("__debug__" : Str)) = false := by decide) (hcd : (x == ("__classdict__" : Str)) = false := by decide)
    (hbase : attributeBase (.Name x p1) "pop" X.env (eval (.Name x p1) X.env) = eval (.Name x p1) X.env := by rfl) (hline : (apos.endLine == cpos.line) = true := by rfl) :
    JE X (.Call (.Attribute (.Name x p1) "pop" apos) [] [] cpos) (mPop j) :=
  ⟨PE.weak (pe_bm0 PySem.F.plainAttrs_list PySem.F.slot_list_pop PySem.F.type_list_pop mt_pop (je_var hN hv hd hcd).pe hbase hline) fun σ H Q h => by
    obtain ⟨ow, env, rr, env', ok, e, q⟩ := h
    unfold mPop at e
    split at e
    rotate_left
    · cases e
    rename_i xs h0
    split at e
    rotate_left
    · cases e
    rename_i d h1
    cases e
    refine ⟨ow, env, _, env, ok, own_var h0, fun o H1 ow1 p1 => ?_⟩
    have hv : σ[j]? = some (some o) := p1.rep
    obtain ⟨v', hv', a, vs, e', ha, no, rv⟩ := p1.ok.slot j _ (ownAt_eq h0)
    rw [hv] at hv'; cases hv'; cases e'
    have hne : ow1 a ≠ none := by rw [no]; simp
    obtain ⟨u, hu, ru⟩ := rv.get h1
    refine ⟨.inl ⟨rfl, _, SqL.of ha⟩, a, vs, u, rfl, rfl, ha, by rw [rv.length]; exact hu, ?_⟩
    obtain ⟨ok', c'⟩ := Ok.write p1.ok p1.calm (ownAt_eq h0) hv rv.dropLast
    exact q u _ ow1 ⟨ok', c', Rep.mono (write_keeps hne) d ru⟩⟩
end L2.Z

namespace L2.Z
open PySem PySem.Spec PyProof.Rows
variable {X : Cx} {k : Bool}
/-! ### what is walked -/
structure ItOK (J : It) (ds : List D) (P : Hp → Ow → Prop) : Prop where
  stay : ∀ H ow H' ow', Keeps H ow H' ow' → P H ow → P H' ow'
  go : ∀ i H ow d, P H ow → ds[i]? = some d → J.go i H ∧ ∀ x H', J.yld i H x H' → ∃ ow', New H ow H' ow' ∧ Rep H' ow' d x
  stop : ∀ H ow, P H ow → J.stop ds.length H
abbrev MI := Env → Option (List D × Env)
def tMI (m : MI) (σ : St) (H : Hp) (R : It → Hp → Prop) : Prop := ∃ ow env ds env', Ok H ow σ env ∧ m env = some (ds, env') ∧ ∀ J H' ow' P, Ok H' ow' σ env' → Calm H ow H' ow' → P H' ow' → ItOK J ds P → R J H'
structure JI (X : Cx) (tg iter : Expr) (m : MI) : Prop where
  ex : ∃ wi, PI X tg iter wi ∧ ∀ σ H R, tMI m σ H R → wi σ H R
theorem PI.or {tg iter : Expr} {w1 w2 : TI} (a : PI X tg iter w1) (b : PI X tg iter w2) : PI X tg iter (fun σ H R => w1 σ H R ∨ w2 σ H R) := ⟨fun pins s σ H R I h => by
  rcases h with h | h
  · exact a.run pins s σ H R I h
  · exact b.run pins s σ H R I h⟩
theorem lst_it {K : PySem.W.Frag} {a : Addr} {ds : List D} {vs : List V} : ItOK (Itl K a) ds (fun H ow => H a = some (.lst vs) ∧ ow a = none ∧ Reps H ow ds vs) where
  stay := fun H ow H' ow' k ⟨h, n, r⟩ => by
    obtain ⟨h', n'⟩ := k a _ h n
    exact ⟨h', n', Reps.mono k ds r⟩
  go := fun i H ow d ⟨h, n, r⟩ e => by
    obtain ⟨v, hv, rv⟩ := r.get e
    exact ⟨⟨vs, v, SqL.of h, hv⟩, fun x H' ⟨e', y⟩ => by
      subst e'
      have := y vs (SqL.of h)
      rw [hv] at this; cases this
      exact ⟨ow, .refl, rv⟩⟩
  stop := fun H ow ⟨h, n, r⟩ => ⟨vs, SqL.of h, by rw [r.length]; exact Nat.le_refl _⟩
theorem tup_it {K : PySem.W.Frag} {a : Addr} {ds : List D} {vs : List V} : ItOK (Itt K a) ds (fun H ow => H a = some (.tup vs) ∧ ow a = none ∧ Reps H ow ds vs) where
  stay := fun H ow H' ow' k ⟨h, n, r⟩ => by
    obtain ⟨h', n'⟩ := k a _ h n
    exact ⟨h', n', Reps.mono k ds r⟩
  go := fun i H ow d ⟨h, n, r⟩ e => by
    obtain ⟨v, hv, rv⟩ := r.get e
    exact ⟨⟨vs, v, SqT.of h, hv⟩, fun x H' ⟨e', y⟩ => by
      subst e'
      have := y vs (SqT.of h)
      rw [hv] at this; cases this
      exact ⟨ow, .refl, rv⟩⟩
  stop := fun H ow ⟨h, n, r⟩ => ⟨vs, SqT.of h, by rw [r.length]; exact Nat.le_refl _⟩
/-- the items of a list or a tuple, which is let go -/
def mItems (m : ME) : MI := fun env => match mFz m env with
  | some (.val (.d (.list ds)), env1) => some (ds, env1)
  | some (.val (.d (.tuple ds)), env1) => some (ds, env1)
  | _ => none
theorem ji_seq {tg e : Expr} {m : ME} (h : JE X e m) : JI X tg e (mItems m) :=
  ⟨_, PI.or (pi_list (je_fz h).pe) (pi_tup (je_fz h).pe), fun σ H R hh => by
    obtain ⟨ow, env, ds, env', ok, e, q⟩ := hh
    unfold mItems at e
    split at e
    · rename_i ds' env1 h1
      cases e
      refine .inl ⟨ow, env, _, _, ok, h1, fun v H1 ow1 p1 => ?_⟩
      have r : Rep H1 ow1 (.list ds) v := p1.rep
      rw [Rep] at r
      obtain ⟨a, vs, rfl, ha, na, ra⟩ := r
      exact ⟨a, rfl, ⟨vs, SqL.of ha⟩, q _ H1 ow1 _ p1.ok p1.calm ⟨ha, na, ra⟩ lst_it⟩
    · rename_i ds' env1 h1
      cases e
      refine .inr ⟨ow, env, _, _, ok, h1, fun v H1 ow1 p1 => ?_⟩
      have r : Rep H1 ow1 (.tuple ds) v := p1.rep
      rw [Rep] at r
      obtain ⟨a, vs, rfl, ha, na, ra⟩ := r
      exact ⟨a, rfl, ⟨vs, SqT.of ha⟩, q _ H1 ow1 _ p1.ok p1.calm ⟨ha, na, ra⟩ tup_it⟩
    · cases e⟩
def rangeD (lo c : Int) (n : Nat) : List D := (List.range n).map fun (i : Nat) => PyData.int (lo + (i : Int) * c)
theorem rangeD_len (lo c : Int) (n : Nat) : (rangeD lo c n).length = n := by unfold rangeD; rw [List.length_map, List.length_range]
theorem rangeD_get {lo c : Int} {n i : Nat} {d : D} (h : (rangeD lo c n)[i]? = some d) : i < n ∧ d = .int (lo + (i : Int) * c) := by
  unfold rangeD at h
  rw [List.getElem?_map] at h
  by_cases hi : i < n
  · rw [List.getElem?_range hi] at h
    exact ⟨hi, (Option.some.inj h).symm⟩
  · rw [List.getElem?_eq_none (by simpa using hi)] at h; cases h
theorem rng_it {lo : Int} {n : Nat} : ItOK (Itr lo n) (rangeD lo 1 n) (fun _ _ => True) where
  stay := fun _ _ _ _ _ h => h
  go := fun i H ow d _ e => by
    obtain ⟨hi, rfl⟩ := rangeD_get e
    exact ⟨hi, fun x H' ⟨e', y⟩ => by
      subst e' y
      exact ⟨ow, .refl, by rw [Int.mul_one]; exact rpI⟩⟩
  stop := fun H ow _ => by rw [rangeD_len]; exact Nat.le_refl _
theorem rngc_it {lo c : Int} {n : Nat} : ItOK (Itc lo c n) (rangeD lo c n) (fun _ _ => True) where
  stay := fun _ _ _ _ _ h => h
  go := fun i H ow d _ e => by
    obtain ⟨hi, rfl⟩ := rangeD_get e
    exact ⟨hi, fun x H' ⟨e', y⟩ => by
      subst e' y
      exact ⟨ow, .refl, rpI⟩⟩
  stop := fun H ow _ => by rw [rangeD_len]; exact Nat.le_refl _
def okR (i : Int) : Bool := decide (-(2 ^ 62) ≤ i) && decide (i < 2 ^ 62)
theorem okR_of {i : Int} (h : okR i = true) : -(2 ^ 62) ≤ i ∧ i < 2 ^ 62 := by
  unfold okR at h
  rw [Bool.and_eq_true] at h
  exact ⟨of_decide_eq_true h.1, of_decide_eq_true h.2⟩
def mRange1 (ma : MA) : MI := fun env => match ma env with
  | some (rs, env1) => match conts env1 rs with
    | some [.int j] => if okR j = true then some (rangeD 0 1 j.toNat, env1) else none
    | _ => none
  | none => none
def mRange2 (ma : MA) : MI := fun env => match ma env with
  | some (rs, env1) => match conts env1 rs with
    | some [.int i, .int j] => if (okR i && okR j) = true then some (rangeD i 1 (j - i).toNat, env1) else none
    | _ => none
  | none => none
def okRc (i j c : Int) : Bool := c != 0 && decide (c.natAbs < 1073741824) && Builtin.Range.small i j c && decide (Builtin.Range.rangeSize i j c = ((Builtin.Range.rangeSize i j c).toNat : Int))
def mRange3 (ma : MA) : MI := fun env => match ma env with
  | some (rs, env1) => match conts env1 rs with
    | some [.int i, .int j, .int c] => if okRc i j c = true then some (rangeD i c (Builtin.Range.rangeSize i j c).toNat, env1) else none
    | _ => none
  | none => none
theorem ji_range1 {tg a : Expr} {ma : MA} {p pos : Pos} (hg : Gl X "range") (hm : X.mg "range" = none) (ha : JA X [a] ma) (hs : starEach [a] X.env = [(false, eval a X.env)] := by rfl) : JI X tg (.Call (.Name "range" p) [a] [] pos) (mRange1 ma) :=
  ⟨_, pi_range1 hg hm ha.pa hs, fun σ H R hh => by
    obtain ⟨ow, env, ds, env', ok, e, q⟩ := hh
    unfold mRange1 at e
    split at e
    rotate_left
    · cases e
    rename_i rs env1 h1
    split at e
    rotate_left
    · cases e
    rename_i j h2
    split at e
    rotate_left
    · cases e
    rename_i h3
    cases e
    refine ⟨ow, env, rs, _, ok, h1, fun vs H1 ow1 ok1 c1 rr => ?_⟩
    obtain ⟨v, rfl, r⟩ := cs1 (conts_rep ok1 rr h2)
    exact ⟨j, by rw [repI r], (okR_of h3).1, (okR_of h3).2, q _ H1 ow1 _ ok1 c1 True.intro rng_it⟩⟩
theorem ji_range2 {tg a b : Expr} {ma : MA} {p pos : Pos} (hg : Gl X "range") (hm : X.mg "range" = none) (ha : JA X [a, b] ma) (hs : starEach [a, b] X.env = [(false, eval a X.env), (false, eval b X.env)] := by rfl) (hs2 : starEach [b] X.env = [(false, eval b X.env)] := by rfl) : JI X tg (.Call (.Name "range" p) [a, b] [] pos) (mRange2 ma) :=
  ⟨_, pi_range2 hg hm ha.pa hs hs2, fun σ H R hh => by
    obtain ⟨ow, env, ds, env', ok, e, q⟩ := hh
    unfold mRange2 at e
    split at e
    rotate_left
    · cases e
    rename_i rs env1 h1
    split at e
    rotate_left
    · cases e
    rename_i i j h2
    split at e
    rotate_left
    · cases e
    rename_i h3
    rw [Bool.and_eq_true] at h3
    cases e
    refine ⟨ow, env, rs, _, ok, h1, fun vs H1 ow1 ok1 c1 rr => ?_⟩
    obtain ⟨v, v2, rfl, r, r2⟩ := cs2 (conts_rep ok1 rr h2)
    exact ⟨i, j, by rw [repI r, repI r2], ⟨(okR_of h3.1).1, (okR_of h3.1).2, (okR_of h3.2).1, (okR_of h3.2).2⟩, q _ H1 ow1 _ ok1 c1 True.intro rng_it⟩⟩
theorem cs3 {H : Hp} {ow : Ow} {d d2 d3 : D} {vs : List V} (h : RepCs H ow [d, d2, d3] vs) : ∃ v v2 v3, vs = [v, v2, v3] ∧ RepC H ow d v ∧ RepC H ow d2 v2 ∧ RepC H ow d3 v3 := by
  obtain ⟨v, t, rfl, h1, h2⟩ := h
  obtain ⟨v2, v3, rfl, h3, h4⟩ := cs2 h2
  exact ⟨v, v2, v3, rfl, h1, h3, h4⟩
theorem ji_range3 {tg a b c : Expr} {ma : MA} {p pos : Pos} (hg : Gl X "range") (hm : X.mg "range" = none) (ha : JA X [a, b, c] ma) (hs : starEach [a, b, c] X.env = (false, eval a X.env) :: starEach [b, c] X.env := by rfl) (hpl : (backTo pos (starEach [b, c] X.env)).any (·.1) = false := by rfl) : JI X tg (.Call (.Name "range" p) [a, b, c] [] pos) (mRange3 ma) :=
  ⟨_, pi_range3 hg hm ha.pa hs hpl, fun σ H R hh => by
    obtain ⟨ow, env, ds, env', ok, e, q⟩ := hh
    unfold mRange3 at e
    split at e
    rotate_left
    · cases e
    rename_i rs env1 h1
    split at e
    rotate_left
    · cases e
    rename_i i j c h2
    split at e
    rotate_left
    · cases e
    rename_i h3
    unfold okRc at h3
    rw [Bool.and_eq_true, Bool.and_eq_true, Bool.and_eq_true] at h3
    cases e
    refine ⟨ow, env, rs, _, ok, h1, fun vs H1 ow1 ok1 c1 rr => ?_⟩
    obtain ⟨v, v2, v3, rfl, r, r2, r3⟩ := cs3 (conts_rep ok1 rr h2)
    exact ⟨i, j, c, _, by rw [repI r, repI r2, repI r3], ⟨bne_iff_ne.mp h3.1.1.1, of_decide_eq_true h3.1.1.2, h3.1.2, of_decide_eq_true h3.2⟩, q _ H1 ow1 _ ok1 c1 True.intro rngc_it⟩⟩
/-! ### enumerate, zip, reversed -/
def enumD : Nat → List D → List D
  | _, [] => []
  | i, d :: ds => .tuple [.int (i : Int), d] :: enumD (i + 1) ds
theorem enumD_len : ∀ (i : Nat) (ds : List D), (enumD i ds).length = ds.length
  | _, [] => rfl
  | i, d :: ds => by simp [enumD, enumD_len (i + 1) ds]
theorem enumD_get : ∀ (s : Nat) (ds : List D) (i : Nat) (d : D), (enumD s ds)[i]? = some d → ∃ x, ds[i]? = some x ∧ d = .tuple [.int ((s + i : Nat) : Int), x]
  | _, [], i, d, h => by simp [enumD] at h
  | s, y :: ds, 0, d, h => by simp [enumD] at h; exact ⟨y, rfl, h.symm⟩
  | s, y :: ds, i + 1, d, h => by
    have h' : (enumD (s + 1) ds)[i]? = some d := by simpa [enumD] using h
    obtain ⟨x, hx, e⟩ := enumD_get (s + 1) ds i d h'
    exact ⟨x, by simpa using hx, by rw [e, show s + 1 + i = s + (i + 1) by omega]⟩
theorem made2 {H : Hp} {ow : Ow} {T : Addr} {x y : V} {d e : D} (hT : H T = none) (r1 : Rep H ow d x) (r2 : Rep H ow e y) : ∃ ow', New H ow (upd H T (.tup [x, y])) ow' ∧ Rep (upd H T (.tup [x, y])) ow' (.tuple [d, e]) (.ref T) := by
  have n : New H ow (upd H T (.tup [x, y])) (setOw ow T none) := New.made _ hT
  refine ⟨_, n, ?_⟩
  rw [Rep]
  exact ⟨T, [x, y], rfl, upd_same, setOw_same, Reps.mono n.keeps [d, e] (Reps.cons r1 (Reps.cons r2 Reps.nil))⟩
theorem enum_it {K : PySem.W.Frag} {a : Addr} {ds : List D} {vs : List V} : ItOK (Ite K a) (enumD 0 ds) (fun H ow => H a = some (.lst vs) ∧ ow a = none ∧ Reps H ow ds vs) where
  stay := lst_it (K := K).stay
  go := fun i H ow d ⟨h, n, r⟩ e => by
    obtain ⟨x, hx, rfl⟩ := enumD_get 0 ds i d e
    obtain ⟨v, hv, rv⟩ := r.get hx
    refine ⟨⟨vs, v, SqL.of h, hv⟩, fun u H' ⟨T, x', e1, hT, e2, y⟩ => ?_⟩
    subst e1 e2
    have := y vs (SqL.of h)
    rw [hv] at this; cases this
    rw [Nat.zero_add]
    exact made2 hT rpI rv
  stop := fun H ow ⟨h, n, r⟩ => ⟨vs, SqL.of h, by rw [enumD_len, r.length]; exact Nat.le_refl _⟩
def mEnum (m : ME) : MI := fun env => match mFz m env with
  | some (.val (.d (.list ds)), env1) => some (enumD 0 ds, env1)
  | _ => none
theorem ji_enum {e : Expr} {m : ME} {p pos tpos : Pos} {elts : List Expr} {kk : Nat} (hg : Gl X "enumerate") (hm : X.mg "enumerate" = none) (ha : JE X e m) (hs : starEach [e] X.env = [(false, eval e X.env)] := by rfl) (hs' : starEach [e] X.env = (false, eval e X.env) :: starEach [] X.env := by rfl) : JI X (.Tuple elts kk tpos) (.Call (.Name "enumerate" p) [e] [] pos) (mEnum m) :=
  ⟨_, pi_enum hg hm (pa_cons (je_fz ha).pe pa_nil hs') hs, fun σ H R hh => by
    obtain ⟨ow, env, ds, env', ok, e, q⟩ := hh
    unfold mEnum at e
    split at e
    rotate_left
    · cases e
    rename_i ds' env1 h1
    cases e
    refine ⟨ow, env, _, _, ok, h1, fun v H1 ow1 p1 => ?_⟩
    have r : Rep H1 ow1 (.list ds') v := p1.rep
    rw [Rep] at r
    obtain ⟨a, vs, rfl, ha, na, ra⟩ := r
    exact ⟨a, vs, rfl, SqL.of ha, q _ H1 ow1 _ p1.ok p1.calm ⟨ha, na, ra⟩ enum_it⟩⟩
def zipD : List D → List D → List D
  | x :: xs, y :: ys => .tuple [x, y] :: zipD xs ys
  | _, _ => []
theorem zipD_len : ∀ (xs ys : List D), (zipD xs ys).length = min xs.length ys.length
  | [], ys => by simp [zipD]
  | _ :: _, [] => by simp [zipD]
  | x :: xs, y :: ys => by simp [zipD, zipD_len xs ys]
theorem zipD_get : ∀ (xs ys : List D) (i : Nat) (d : D), (zipD xs ys)[i]? = some d → ∃ x y, xs[i]? = some x ∧ ys[i]? = some y ∧ d = .tuple [x, y]
  | [], ys, i, d, h => by simp [zipD] at h
  | _ :: _, [], i, d, h => by simp [zipD] at h
  | x :: xs, y :: ys, 0, d, h => by simp [zipD] at h; exact ⟨x, y, rfl, rfl, h.symm⟩
  | x :: xs, y :: ys, i + 1, d, h => by
    have h' : (zipD xs ys)[i]? = some d := by simpa [zipD] using h
    obtain ⟨u, v, h1, h2, e⟩ := zipD_get xs ys i d h'
    exact ⟨u, v, by simpa using h1, by simpa using h2, e⟩
theorem zip_it {K : PySem.W.Frag} {a b : Addr} {xs ys : List D} {vs ws : List V} : ItOK (Itz K a b) (zipD xs ys) (fun H ow => (H a = some (.lst vs) ∧ ow a = none ∧ Reps H ow xs vs) ∧ (H b = some (.lst ws) ∧ ow b = none ∧ Reps H ow ys ws)) where
  stay := fun H ow H' ow' k ⟨p, q⟩ => ⟨lst_it (K := K).stay H ow H' ow' k p, lst_it (K := K).stay H ow H' ow' k q⟩
  go := fun i H ow d ⟨⟨h, n, r⟩, h2, n2, r2⟩ e => by
    obtain ⟨x, y, hx, hy, rfl⟩ := zipD_get xs ys i d e
    obtain ⟨v, hv, rv⟩ := r.get hx
    obtain ⟨u, hu, ru⟩ := r2.get hy
    refine ⟨⟨vs, ws, v, u, SqL.of h, SqL.of h2, hv, hu⟩, fun z H' ⟨T, x', y', e1, hT, e2, q1, q2⟩ => ?_⟩
    subst e1 e2
    have a1 := q1 vs (SqL.of h)
    have a2 := q2 ws (SqL.of h2)
    rw [hv] at a1; cases a1
    rw [hu] at a2; cases a2
    exact made2 hT rv ru
  stop := fun H ow ⟨⟨h, n, r⟩, h2, n2, r2⟩ => ⟨vs, ws, SqL.of h, SqL.of h2, by rw [zipD_len, r.length, r2.length]; omega⟩
theorem zipT_it {K : PySem.W.Frag} {a b : Addr} {xs ys : List D} {vs ws : List V} : ItOK (RZ.ItzT K a b) (zipD xs ys) (fun H ow => (H a = some (.tup vs) ∧ ow a = none ∧ Reps H ow xs vs) ∧ (H b = some (.tup ws) ∧ ow b = none ∧ Reps H ow ys ws)) where
  stay := fun H ow H' ow' k ⟨p, q⟩ => ⟨tup_it (K := K).stay H ow H' ow' k p, tup_it (K := K).stay H ow H' ow' k q⟩
  go := fun i H ow d ⟨⟨h, n, r⟩, h2, n2, r2⟩ e => by
    obtain ⟨x, y, hx, hy, rfl⟩ := zipD_get xs ys i d e
    obtain ⟨v, hv, rv⟩ := r.get hx
    obtain ⟨u, hu, ru⟩ := r2.get hy
    refine ⟨⟨vs, ws, v, u, SqT.of h, SqT.of h2, hv, hu⟩, fun z H' ⟨T, x', y', e1, hT, e2, q1, q2⟩ => ?_⟩
    subst e1 e2
    have a1 := q1 vs (SqT.of h)
    have a2 := q2 ws (SqT.of h2)
    rw [hv] at a1; cases a1
    rw [hu] at a2; cases a2
    exact made2 hT rv ru
  stop := fun H ow ⟨⟨h, n, r⟩, h2, n2, r2⟩ => ⟨vs, ws, SqT.of h, SqT.of h2, by rw [zipD_len, r.length, r2.length]; omega⟩
def mZip (a b : ME) : MI := fun env => match mFz a env with
  | some (.val (.d (.list xs)), env1) => match mFz b env1 with
    | some (.val (.d (.list ys)), env2) => some (zipD xs ys, env2)
    | _ => none
  | some (.val (.d (.tuple xs)), env1) => match mFz b env1 with
    | some (.val (.d (.tuple ys)), env2) => some (zipD xs ys, env2)
    | _ => none
  | _ => none
theorem ji_zip {e e2 : Expr} {m m2 : ME} {p pos tpos : Pos} {elts : List Expr} {kk : Nat} (hg : Gl X "zip") (hm : X.mg "zip" = none) (ha : JE X e m) (hb : JE X e2 m2) (hs : starEach [e, e2] X.env = (false, eval e X.env) :: starEach [e2] X.env := by rfl)
    (hs2 : starEach [e2] X.env = (false, eval e2 X.env) :: starEach [] X.env := by rfl) (hpl : (backTo pos (starEach [e2] X.env)).any (·.1) = false := by rfl) : JI X (.Tuple elts kk tpos) (.Call (.Name "zip" p) [e, e2] [] pos) (mZip m m2) :=
  ⟨_, RZ.pi_zipA hg hm (pa_cons (je_fz ha).pe (pa_cons (je_fz hb).pe pa_nil hs2) hs) hs hpl, fun σ H R hh => by
    obtain ⟨ow, env, ds, env', ok, e, q⟩ := hh
    unfold mZip at e
    split at e
    · rename_i xs env1 h1
      split at e
      rotate_left
      · cases e
      rename_i ys env2 h2
      cases e
      refine ⟨ow, env, _, env1, ok, h1, fun v H1 ow1 p1 => ⟨ow1, env1, _, _, p1.ok, h2, fun u H2 ow2 p2 => ?_⟩⟩
      have r : Rep H2 ow2 (.list xs) v := Rep.mono p2.calm.keeps _ p1.rep
      have r2 : Rep H2 ow2 (.list ys) u := p2.rep
      rw [Rep] at r r2
      obtain ⟨a, vs, rfl, ha, na, ra⟩ := r
      obtain ⟨b, ws, rfl, hb, nb, rb⟩ := r2
      exact ⟨a, b, vs, ws, rfl, .inl ⟨SqL.of ha, SqL.of hb, q _ H2 ow2 _ p2.ok (p1.calm.trans p2.calm) ⟨⟨ha, na, ra⟩, hb, nb, rb⟩ zip_it⟩⟩
    · rename_i xs env1 h1
      split at e
      rotate_left
      · cases e
      rename_i ys env2 h2
      cases e
      refine ⟨ow, env, _, env1, ok, h1, fun v H1 ow1 p1 => ⟨ow1, env1, _, _, p1.ok, h2, fun u H2 ow2 p2 => ?_⟩⟩
      have r : Rep H2 ow2 (.tuple xs) v := Rep.mono p2.calm.keeps _ p1.rep
      have r2 : Rep H2 ow2 (.tuple ys) u := p2.rep
      rw [Rep] at r r2
      obtain ⟨a, vs, rfl, ha, na, ra⟩ := r
      obtain ⟨b, ws, rfl, hb, nb, rb⟩ := r2
      exact ⟨a, b, vs, ws, rfl, .inr ⟨SqT.of ha, SqT.of hb, q _ H2 ow2 _ p2.ok (p1.calm.trans p2.calm) ⟨⟨ha, na, ra⟩, hb, nb, rb⟩ zipT_it⟩⟩
    · cases e⟩
/-! ### the loop -/
def forM' (g : MG) (b : MS) : List D → Env → Option (Fl × Env)
  | [], env => some (.nx, env)
  | d :: ds, env => match g d env with
    | some env1 => match b env1 with
      | some (.nx, env2) => forM' g b ds env2
      | some (.ct, env2) => forM' g b ds env2
      | some (.bk, env2) => some (.nx, env2)
      | some (.rt w, env2) => some (.rt w, env2)
      | none => none
    | none => none
def mFor (mi : MI) (g : MG) (b : MS) : MS := fun env => match mi env with
  | some (ds, env1) => forM' g b ds env1
  | none => none
theorem js_for {is : List Nat} {tg iter : Expr} {body : List Stmt} {mi : MI} {g : MG} {mb : MS} {pos : Pos} (hp : PassesOwn (model X.prog X.w) X.A X.env X.xe) (hc : X.calm = true) (hi : JI X tg iter mi) (hg : JG X is tg g) (hb : JSs X k body mb) (hk : k = true → 0 ∉ is)
    (hs : ∀ x, foldedSetIterable iter X.env x = pure x := by intro _; rfl) : JS X k (.For tg iter body [] pos) (mFor mi g mb) := by
  obtain ⟨wi, pi, hw⟩ := hi.ex
  refine ⟨PS.weak (ps_for hp hc pi hg.pg hb.ps hs) fun D σ H hh => ?_⟩
  obtain ⟨ow, env, fl, env', ok, e, q⟩ := hh
  unfold mFor at e
  split at e
  rotate_left
  · cases e
  rename_i ds env1 h1
  refine hw σ H _ ⟨ow, env, ds, env1, ok, h1, fun J H1 ow1 P ok1 c1 p1 it => ?_⟩
  refine ⟨fun i m σ2 H2 => ∃ ow2 env2, Ok H2 ow2 σ2 env2 ∧ Calm H ow H2 ow2 ∧ P H2 ow2 ∧ (k = true → σ2[0]? = σ[0]?) ∧ m = ds.length - i ∧ i ≤ ds.length ∧ forM' g mb (ds.drop i) env2 = some (fl, env'),
    ⟨ds.length, ow1, env1, ok1, c1, p1, fun _ => rfl, by omega, by omega, e⟩, ?_⟩
  rintro i m σ2 H2 ⟨ow2, env2, ok2, c2, p2, z2, rfl, hi, e2⟩
  by_cases hlt : i < ds.length
  · rw [List.drop_eq_getElem_cons hlt] at e2
    obtain ⟨go, yl⟩ := it.go i H2 ow2 ds[i] p2 (List.getElem?_eq_getElem hlt)
    refine .inr ⟨go, fun σ' H' => ∃ ow3 env3, Ok H' ow3 σ' env3 ∧ Calm H ow H' ow3 ∧ P H' ow3 ∧ (k = true → σ'[0]? = σ[0]?) ∧ forM' g mb (ds.drop (i + 1)) env3 = some (fl, env'), fun σ' H' ⟨ow3, env3, a1, a2, a3, a4, a5⟩ => ⟨ds.length - (i + 1), by omega, ow3, env3, a1, a2, a3, a4, rfl, by omega, a5⟩, fun x H' y => ?_⟩
    obtain ⟨ow3, n3, r3⟩ := yl x H' y
    unfold forM' at e2
    split at e2
    rotate_left
    · cases e2
    rename_i env3 h3
    refine ⟨ow3, env2, ds[i], env3, n3.ok ok2, r3, h3, fun σ4 H4 ow4 ok4 c4 b4 => ?_⟩
    have cc := (c2.trans n3.calm).trans c4
    have pp : P H4 ow4 := it.stay _ _ _ _ c4.keeps (it.stay _ _ _ _ n3.keeps p2)
    have zz : k = true → σ4[0]? = σ[0]? := fun hz => (b4.at' 0 (hk hz)).trans (z2 hz)
    split at e2
    · rename_i env5 h5
      exact ⟨ow4, env3, .nx, env5, ok4, h5, fun σ6 H6 ow6 ok6 c6 z6 => ⟨ow6, env5, ok6, cc.trans c6, it.stay _ _ _ _ c6.keeps pp, fun hz => (z6 hz).trans (zz hz), e2⟩⟩
    · rename_i env5 h5
      exact ⟨ow4, env3, .ct, env5, ok4, h5, fun σ6 H6 ow6 ok6 c6 z6 => ⟨ow6, env5, ok6, cc.trans c6, it.stay _ _ _ _ c6.keeps pp, fun hz => (z6 hz).trans (zz hz), e2⟩⟩
    · rename_i env5 h5
      cases e2
      exact ⟨ow4, env3, .bk, _, ok4, h5, fun σ6 H6 ow6 ok6 c6 z6 => q σ6 H6 ow6 ok6 (cc.trans c6) fun hz => (z6 hz).trans (zz hz)⟩
    · rename_i w env5 h5
      cases e2
      exact ⟨ow4, env3, .rt w, _, ok4, h5, fun σ6 H6 ow6 ok6 c6 z6 => FinP.fresh (fl := .rt w) (fun a z => cc.gone z) (q σ6 H6 ow6 ok6 (cc.trans c6) fun hz => (z6 hz).trans (zz hz))⟩
    · cases e2
  · have : i = ds.length := by omega
    subst this
    rw [List.drop_length] at e2
    cases e2
    exact .inl ⟨it.stop H2 ow2 p2, q σ2 H2 ow2 ok2 c2 z2⟩
end L2.Z

namespace L2.Z
open PySem PySem.Spec PyProof.Rows
variable {X : Cx} {k : Bool}
structure JTs (X : Cx) (ifs : List Expr) (t : MT) : Prop where
  pts : PTs X ifs (tMT t)
def mYes : MT := fun env => some (true, env)
theorem PTs.weak {ifs : List Expr} {t t' : TT} (h : PTs X ifs t) (w : ∀ σ H Q, t' σ H Q → t σ H Q) : PTs X ifs t' := ⟨fun pins s σ H Q I q => h.run pins s σ H Q I (w σ H Q q)⟩
theorem jts_nil : JTs X [] mYes := ⟨PTs.weak pts_nil fun σ H Q h => by
  obtain ⟨ow, env, b, env', ok, e, q⟩ := h
  cases e
  exact q H ow ok .refl⟩
theorem jts_one {c : Expr} {t : MT} (h : JT X c t) : JTs X [c] t := ⟨pts_one h.pt⟩
/-- a block's own slots emptied, and as they were -/
def wipeE (env : Env) : List Nat → Env
  | [] => env
  | v :: vs => (wipeE env vs).set v none
def restE (env0 e : Env) : List Nat → Env
  | [] => e
  | v :: vs => (restE env0 e vs).set v (match env0[v]? with | some x => x | none => none)
theorem wipeE_len (env : Env) : ∀ vs, (wipeE env vs).length = env.length
  | [] => rfl
  | v :: vs => by unfold wipeE; rw [List.length_set, wipeE_len env vs]
theorem wipeE_some {env : Env} {i : Nat} {w : W} : ∀ {vs : List Nat}, (wipeE env vs)[i]? = some (some w) → env[i]? = some (some w) ∧ i ∉ vs
  | [], h => ⟨h, by simp⟩
  | v :: vs, h => by
    unfold wipeE at h
    rcases set_slot h with ⟨_, e, _⟩ | ⟨ne, e⟩
    · cases e
    · obtain ⟨h1, h2⟩ := wipeE_some e
      exact ⟨h1, by simp only [List.mem_cons, not_or]; exact ⟨fun z => ne z.symm, h2⟩⟩
theorem wipe_get {σ : St} {i : Nat} : ∀ {vs : List Nat}, i ∉ vs → (wipe σ vs)[i]? = σ[i]?
  | [], _ => rfl
  | v :: vs, h => by
    unfold wipe
    rw [List.getElem?_set_ne (fun z => h (by rw [z]; exact List.mem_cons_self)), wipe_get fun z => h (List.mem_cons_of_mem _ z)]
theorem Ok.wipe {H : Hp} {ow : Ow} {σ : St} {env : Env} (ok : Ok H ow σ env) (vs : List Nat) : Ok H ow (L2.wipe σ vs) (wipeE env vs) :=
  ⟨ok.wf, fun i w h => by
    obtain ⟨h1, h2⟩ := wipeE_some h
    obtain ⟨v, hv, r⟩ := ok.slot i w h1
    exact ⟨v, by rw [wipe_get h2]; exact hv, r⟩, by rw [wipeE_len, wipe_length]; exact ok.len⟩
theorem restE_len (env0 e : Env) : ∀ vs, (restE env0 e vs).length = e.length
  | [] => rfl
  | v :: vs => by unfold restE; rw [List.length_set, restE_len env0 e vs]
theorem restE_some {env0 e : Env} {i : Nat} {w : W} : ∀ {vs : List Nat}, (restE env0 e vs)[i]? = some (some w) → (i ∉ vs ∧ e[i]? = some (some w)) ∨ (i ∈ vs ∧ env0[i]? = some (some w))
  | [], h => .inl ⟨by simp, h⟩
  | v :: vs, h => by
    unfold restE at h
    rcases set_slot h with ⟨rfl, e1, _⟩ | ⟨ne, e1⟩
    · refine .inr ⟨List.mem_cons_self, ?_⟩
      split at e1
      · rename_i x hx; rw [hx, e1]
      · cases e1
    · rcases restE_some e1 with ⟨h1, h2⟩ | ⟨h1, h2⟩
      · exact .inl ⟨by simp only [List.mem_cons, not_or]; exact ⟨fun z => ne z.symm, h1⟩, h2⟩
      · exact .inr ⟨List.mem_cons_of_mem _ h1, h2⟩
/-- the block's own slots hold nothing, or plain values -/
def plainAt (env : Env) (vs : List Nat) : Bool := vs.all fun v => match env[v]? with
  | some (some (.own _)) => false
  | some (some (.src _ _)) => false
  | _ => true
theorem Ok.rest {H0 H : Hp} {ow0 ow : Ow} {σ : St} {env0 e : Env} {vs : List Nat} (ok0 : Ok H0 ow0 σ env0) (kp : Keeps H0 ow0 H ow) (hp : plainAt env0 vs = true) (ok : Ok H ow (L2.wipe σ vs) e) : Ok H ow σ (restE env0 e vs) :=
  ⟨ok.wf, (fun i w h => by
    rcases restE_some h with ⟨h1, h2⟩ | ⟨h1, h2⟩
    · obtain ⟨v, hv, r⟩ := ok.slot i w h2
      exact ⟨v, by rw [← wipe_get h1]; exact hv, r⟩
    · obtain ⟨v, hv, r⟩ := ok0.slot i w h2
      refine ⟨v, hv, ?_⟩
      have := List.all_eq_true.mp hp i h1
      rw [h2] at this
      cases w with
      | d x => exact Rep.mono kp x r
      | own _ => exact nomatch this
      | src _ _ => exact nomatch this), by rw [restE_len, ok.len, wipe_length]⟩
def lcM (g : MG) (t : MT) (m : ME) (vs : List Nat) : List D → Env → Option (List D × Env)
  | [], e => some ([], e)
  | d :: ds, e => match g d e with
    | some e1 => match t e1 with
      | some (true, e2) => match mFz m e2 with
        | some (.val (.d y), e3) => match lcM g t m vs ds (wipeE e3 vs) with
          | some (ys, e4) => some (y :: ys, e4)
          | none => none
        | _ => none
      | some (false, e2) => lcM g t m vs ds (wipeE e2 vs)
      | none => none
    | none => none
def mLc (mi : MI) (g : MG) (t : MT) (m : ME) (vs : List Nat) : ME := fun env => match mi env with
  | some (ds, env1) => if plainAt env1 vs = true ∧ ds.length ≤ lenLine then (match lcM g t m vs ds (wipeE env1 vs) with
    | some (ys, e) => some (.val (.own ys), restE env1 e vs)
    | none => none) else none
  | none => none
theorem wipe_eq {is vs : List Nat} {σ σ' : St} (b : But is (wipe σ vs) σ') (h : ∀ i ∈ is, i ∈ vs) : wipe σ' vs = wipe σ vs := by
  have hl : σ'.length = σ.length := by rw [b.len, wipe_length]
  have e : ∀ i, i ∉ vs → (wipe σ' vs)[i]? = (wipe σ vs)[i]? := fun i hi => by
    rw [wipe_get hi]
    exact b.at' i fun z => hi (h i z)
  have e2 : ∀ (σ : St) (vs : List Nat) (i : Nat), i ∈ vs → i < σ.length → (wipe σ vs)[i]? = some none := fun σ vs => by
    induction vs with
    | nil => intro i h; cases h
    | cons v vs ih =>
      intro i h hl
      unfold wipe
      by_cases z : v = i
      · subst z; rw [List.getElem?_set_self (by rw [wipe_length]; exact hl)]
      · rw [List.getElem?_set_ne z]
        exact ih i ((List.mem_cons.mp h).resolve_left fun y => z y.symm) hl
  refine List.ext_getElem? fun i => ?_
  by_cases hi : i ∈ vs
  · by_cases hl' : i < σ.length
    · rw [e2 σ vs i hi hl', e2 σ' vs i hi (by omega)]
    · rw [List.getElem?_eq_none (by rw [wipe_length]; omega), List.getElem?_eq_none (by rw [wipe_length]; omega)]
  · exact e i hi
/-- another's list changes -/
theorem Ok.other {H : Hp} {ow : Ow} {σ : St} {env : Env} {a : Addr} {us : List V} (ok : Ok H ow σ env) (h : ow a = some none) : Ok (upd H a (.lst us)) ow σ env := by
  have hne : ow a ≠ none := by rw [h]; simp
  have kp : Keeps H ow (upd H a (.lst us)) ow := write_keeps hne
  refine ⟨fun b hb => ?_, fun i w hi => ?_, ok.len⟩
  · obtain ⟨u, hu⟩ := ok.wf b hb
    by_cases e : b = a
    · subst e; exact ⟨_, upd_same⟩
    · exact ⟨u, by rw [upd_ne e]; exact hu⟩
  · obtain ⟨v, hv, r⟩ := ok.slot i w hi
    refine ⟨v, hv, RepW.mono kp (fun b u hb ob => ⟨?_, ob⟩) r⟩
    have e : b ≠ a := by rintro rfl; rw [h] at ob; cases ob
    rw [upd_ne e]; exact hb
theorem Calm.other {H0 H : Hp} {ow0 ow : Ow} {a : Addr} {o : HO} (c : Calm H0 ow0 H ow) (h : H0 a = none) : Calm H0 ow0 (upd H a o) ow := ⟨fun b u hb nb => by
  have e : b ≠ a := ne_of_none hb h
  rw [upd_ne e]; exact c.at' b u hb nb, fun b u hb => by
  obtain ⟨u', hu⟩ := c.grow b u hb
  have e : b ≠ a := ne_of_none hb h
  exact ⟨u', by rw [upd_ne e]; exact hu⟩, c.slot⟩
theorem lc_of {wi : TI} {mi : MI} {is vs : List Nat} {g : MG} {t : MT} {m : ME} {σ : St} {H : Hp} {Q : VK} (hw : ∀ R, tMI mi σ H R → wi σ H R) (hv : ∀ i ∈ is, i ∈ vs) (h : tM (mLc mi g t m vs) σ H Q) : tLc wi (tMG is g) (tMT t) (tM (mFz m)) vs σ H Q := by
  obtain ⟨ow, env, rr, env', ok, e, q⟩ := h
  unfold mLc at e
  split at e
  rotate_left
  · cases e
  rename_i ds env1 h1
  split at e
  rotate_left
  · cases e
  rename_i hpl
  split at e
  rotate_left
  · cases e
  rename_i ys eF h2
  cases e
  refine hw _ ⟨ow, env, ds, env1, ok, h1, fun J H1 ow1 P ok1 c1 p1 it => ?_⟩
  intro L hL
  have nL : New H1 ow1 (upd H1 L (.lst [])) (setOw ow1 L (some none)) := New.made _ hL
  -- between two turns
  refine ⟨fun i n H2 => ∃ ow2 e2 acc av rest, Ok H2 ow2 (wipe σ vs) e2 ∧ Calm H1 ow1 H2 ow2 ∧ P H2 ow2 ∧ H2 L = some (.lst av) ∧ ow2 L = some none ∧ Reps H2 ow2 acc av ∧ n = ds.length - i ∧ i ≤ ds.length ∧ acc.length ≤ i ∧ lcM g t m vs (ds.drop i) e2 = some (rest, eF) ∧ ys = acc ++ rest,
    ⟨ds.length, setOw ow1 L (some none), wipeE env1 vs, [], [], ys, (nL.ok ok1).wipe vs, nL.calm, it.stay _ _ _ _ nL.keeps p1, upd_same, setOw_same, Reps.nil, by omega, by omega, by simp, h2, by simp⟩, ?_⟩
  rintro i n H2 ⟨ow2, e2, acc, av, rest, ok2, c2, p2, hav, hoL, ra, rfl, hi, hacc, hm, hys⟩
  by_cases hlt : i < ds.length
  · rw [List.drop_eq_getElem_cons hlt] at hm
    obtain ⟨go, yl⟩ := it.go i H2 ow2 ds[i] p2 (List.getElem?_eq_getElem hlt)
    refine .inr ⟨go, fun H' => ∃ ow2 e2 acc av rest, Ok H' ow2 (wipe σ vs) e2 ∧ Calm H1 ow1 H' ow2 ∧ P H' ow2 ∧ H' L = some (.lst av) ∧ ow2 L = some none ∧ Reps H' ow2 acc av ∧ acc.length ≤ i + 1 ∧ lcM g t m vs (ds.drop (i + 1)) e2 = some (rest, eF) ∧ ys = acc ++ rest,
      fun H' ⟨a1, a2, a3, a4, a5, b1, b2, b3, b4, b5, b6, b7, b8, b9⟩ => ⟨ds.length - (i + 1), by omega, a1, a2, a3, a4, a5, b1, b2, b3, b4, b5, b6, rfl, by omega, b7, b8, b9⟩, fun x H' y => ?_⟩
    obtain ⟨ow3, n3, r3⟩ := yl x H' y
    unfold lcM at hm
    split at hm
    rotate_left
    · cases hm
    rename_i e3 h3
    refine ⟨ow3, e2, ds[i], e3, n3.ok ok2, r3, h3, fun σ4 H4 ow4 ok4 c4 b4 => ⟨wipe_eq b4 hv, ?_⟩⟩
    have notS : ∀ {o : Ow}, o L = some none → ∀ j, o L ≠ some (some j) := fun h j z => by rw [h] at z; cases z
    have a3 := n3.same L _ hav
    have o3 := a3.2.trans hoL
    have a4 := c4.at' L _ a3.1 (notS o3)
    have o4 := a4.2.trans o3
    have w4 : wipe σ4 vs = wipe σ vs := wipe_eq b4 hv
    split at hm
    · rename_i e4 h4
      refine ⟨ow4, e3, true, e4, ok4, h4, fun H5 ow5 ok5 c5 => ?_⟩
      have a5 := c5.at' L _ a4.1 (notS o4)
      have o5 := a5.2.trans o4
      split at hm
      rotate_left
      · cases hm
      rename_i yv e5 h5
      split at hm
      rotate_left
      · cases hm
      rename_i ys' e6 h6
      cases hm
      refine show tM (mFz m) σ4 H5 _ from ⟨ow5, e4, _, e5, ok5, h5, fun v H6 ow6 p6 => ?_⟩
      have a6 := p6.calm.at' L _ a5.1 (notS o5)
      have o6 := a6.2.trans o5
      have hne : ow6 L ≠ none := by rw [o6]; simp
      have cc : Calm H1 ow1 H6 ow6 := (((c2.trans n3.calm).trans c4).trans c5).trans p6.calm
      have kk : Keeps H2 ow2 H6 ow6 := (((n3.calm.trans c4).trans c5).trans p6.calm).keeps
      refine ⟨av, a6.1, ?_, ow6, wipeE e5 vs, acc ++ [yv], av ++ [v], ys', ?_, cc.other hL, it.stay _ _ _ _ (write_keeps hne) (it.stay _ _ _ _ kk p2), upd_same, o6, ?_, by rw [List.length_append]; simp; omega, h6, by rw [hys]; simp⟩
      · rw [ra.length, sizeLine_eq]
        have := hpl.2
        unfold lenLine at this
        omega
      · have := (p6.ok.wipe vs).other (us := av ++ [v]) o6
        rw [w4] at this
        exact this
      · exact Reps.mono (write_keeps hne) _ ((Reps.mono kk acc ra).append (Reps.cons p6.rep Reps.nil))
    · rename_i e4 h4
      refine ⟨ow4, e3, false, e4, ok4, h4, fun H5 ow5 ok5 c5 => ?_⟩
      have a5 := c5.at' L _ a4.1 (notS o4)
      have o5 := a5.2.trans o4
      have cc : Calm H1 ow1 H5 ow5 := ((c2.trans n3.calm).trans c4).trans c5
      have kk : Keeps H2 ow2 H5 ow5 := ((n3.calm.trans c4).trans c5).keeps
      have ok6 := ok5.wipe vs
      rw [w4] at ok6
      exact ⟨ow5, wipeE e4 vs, acc, av, rest, ok6, cc, it.stay _ _ _ _ kk p2, a5.1, o5, Reps.mono kk acc ra, by omega, hm, hys⟩
    · cases hm
  · have : i = ds.length := by omega
    subst this
    rw [List.drop_length] at hm
    cases hm
    rw [List.append_nil] at hys
    subst hys
    refine .inl ⟨it.stop H2 ow2 p2, q _ H2 ow2 ⟨Ok.rest ok1 c2.keeps hpl.1 ok2, c1.trans c2, ?_⟩⟩
    exact ⟨L, av, rfl, hav, hoL, c1.gone hL, ra⟩
theorem je_lc {is : List Nat} {elt tg iter : Expr} {ifs : List Expr} {scope : Scope} {own : List (Str × Nat)} {pos : Pos} {mi : MI} {g : MG} {t : MT} {m : ME} (hc : X.calm = true) (hN : X.N.Nodup) (hi : JI X tg iter mi) (ok : BlkOk X.N X.env.scope scope own)
    (hg : ∀ (s : Shared) (H : Hp) (C : Addr) (cl : List (Str × Addr)) (fp : List Addr), JG (X.blk s H scope (compEnvC scope cl C X.env) fp) is tg g) (ht : ∀ (s : Shared) (H : Hp) (C : Addr) (cl : List (Str × Addr)) (fp : List Addr), JTs (X.blk s H scope (compEnvC scope cl C X.env) fp) ifs t)
    (he : ∀ (s : Shared) (H : Hp) (C : Addr) (cl : List (Str × Addr)) (fp : List Addr), JE (X.blk s H scope (compEnvC scope cl C X.env) fp) elt m) (hv : ∀ i ∈ is, i ∈ own.map (·.2)) (hs : ∀ x, foldedSetIterable iter X.env x = pure x := by intro _; rfl) :
    JE X (.ListComp elt [⟨tg, iter, ifs, 0⟩] scope pos) (mLc mi g t m (own.map (·.2))) := by
  obtain ⟨wi, pi, hw⟩ := hi.ex
  exact ⟨PE.weak (pe_lc hc hN pi ok (fun s H C cl fp => (hg s H C cl fp).pg) (fun s H C cl fp => (ht s H C cl fp).pts) (fun s H C cl fp => (je_fz (he s H C cl fp)).pe) hs) fun σ H Q h => lc_of (hw σ H) hv h⟩
theorem js_setLc {is : List Nat} {i : Nat} {y : Str} {py : Pos} {elt tg iter : Expr} {ifs : List Expr} {scope : Scope} {own : List (Str × Nat)} {pos spos : Pos} {mi : MI} {g : MG} {t : MT} {m : ME} (hc : X.calm = true) (hN : X.N.Nodup) (hy : X.N[i]? = some y) (hyl : X.env.scope.names.lookup y = some .local)
    (hsw : swapsWith (.ListComp elt [⟨tg, iter, ifs, 0⟩] scope pos) (some (.Name y py)) spos.line X.env = pure true) (hi : JI X tg iter mi) (ok : BlkOk X.N X.env.scope scope own)
    (hg : ∀ (s : Shared) (H : Hp) (C : Addr) (cl : List (Str × Addr)) (fp : List Addr), JG (X.blk s H scope (compEnvC scope cl C X.env) fp) is tg g) (ht : ∀ (s : Shared) (H : Hp) (C : Addr) (cl : List (Str × Addr)) (fp : List Addr), JTs (X.blk s H scope (compEnvC scope cl C X.env) fp) ifs t)
    (he : ∀ (s : Shared) (H : Hp) (C : Addr) (cl : List (Str × Addr)) (fp : List Addr), JE (X.blk s H scope (compEnvC scope cl C X.env) fp) elt m) (hv : ∀ i ∈ is, i ∈ own.map (·.2)) (hk : k = true → i ≠ 0) (hs : ∀ x, foldedSetIterable iter X.env x = pure x := by intro _; rfl) :
    JS X k (.Assign [.Name y py] (.ListComp elt [⟨tg, iter, ifs, 0⟩] scope pos) spos) (mAsg i (mLc mi g t m (own.map (·.2)))) := by
  obtain ⟨wi, pi, hw⟩ := hi.ex
  refine ⟨PS.weak (ps_setLc hc hN hy hyl hsw pi ok (fun s H C cl fp => (hg s H C cl fp).pg) (fun s H C cl fp => (ht s H C cl fp).pts) (fun s H C cl fp => (je_fz (he s H C cl fp)).pe) hs) fun D σ H hh => ?_⟩
  refine lc_of (hw σ H) hv ?_
  obtain ⟨ow, env, fl, env', ok, e, q⟩ := hh
  obtain ⟨w, env1, h1, rfl, rfl⟩ := mAsg_ex e
  have h1' : mLc mi g t m (own.map (·.2)) env = some (.val w, env1) := by
    unfold mFv at h1
    split at h1
    · rename_i w' e1 h2; cases h1; exact h2
    · rename_i i e1 h2
      unfold mLc at h2
      split at h2
      · split at h2
        · split at h2 <;> cases h2
        · cases h2
      · cases h2
    · cases h1
  refine ⟨ow, env, _, env1, ok, h1', fun v H1 ow1 p1 => ?_⟩
  obtain ⟨ow', ok', c', _⟩ := Ok.bind i p1.ok p1.calm p1.rep
  refine show D.nx (σ.set i (some v)) H1 from q _ H1 ow' ok' c' fun z => ?_
  rw [List.getElem?_set_ne (hk z)]
end L2.Z

namespace L2.Z
open PySem PySem.Spec PyProof.Rows
/-! ### defs -/
/-- what a call hands back: a list is new -/
def RepF (k : Bool) (H0 H : Hp) (ow : Ow) : W → V → Prop
  | .d x, v => Rep H ow x v
  | .own xs, v => ∃ a vs, v = V.ref a ∧ H a = some (.lst vs) ∧ Reps H ow xs vs ∧ H0 a = none ∧ ow a ≠ none ∧ (k = true → ow a ≠ some (some 0))
  | .src _ _, _ => False
abbrev FP := List D → Option W
abbrev FM := W → List D → Option (W × W)
/-- a def that changes nothing of its caller's -/
def spP (Φ : FP) (n : Nat) : Sp := fun vs H Q _ => ∃ ow ds w, Wf H ow ∧ (∀ a i, ow a ≠ some (some i)) ∧ Reps H ow ds vs ∧ ds.length = n ∧ Φ ds = some w ∧ ∀ v H' ow', Calm H ow H' ow' → Wf H' ow' → RepF false H H' ow' w v → Q v H'
/-- a def that changes its first argument alone -/
def spM (Φ : FM) (n : Nat) : Sp := fun vs H Q _ => ∃ ow w0 ds w w1 v0 us, vs = v0 :: us ∧ Wf H ow ∧ (∀ a i, ow a = some (some i) → i = 0) ∧ RepW H ow 0 w0 v0 ∧ (∀ x, w0 ≠ .d x) ∧ Reps H ow ds us ∧ ds.length + 1 = n ∧ Φ w0 ds = some (w, w1) ∧
  ∀ v H' ow', Calm H ow H' ow' → Wf H' ow' → RepF true H H' ow' w v → RepW H' ow' 0 w1 v0 → Q v H'
theorem spP.imp {Φ Φ' : FP} {n : Nat} (h : ∀ ds w, ds.length = n → Φ' ds = some w → Φ ds = some w) : ∀ vs H Q E, spP Φ' n vs H Q E → spP Φ n vs H Q E := fun vs H Q E ⟨ow, ds, w, a, b, c, d, e, f⟩ => ⟨ow, ds, w, a, b, c, d, h ds w d e, f⟩
theorem spM.imp {Φ Φ' : FM} {n : Nat} (h : ∀ w0 ds r, ds.length + 1 = n → Φ' w0 ds = some r → Φ w0 ds = some r) : ∀ vs H Q E, spM Φ' n vs H Q E → spM Φ n vs H Q E := fun vs H Q E ⟨ow, w0, ds, w, w1, v0, us, a, b, c, d, e, f, g, i, j⟩ => ⟨ow, w0, ds, w, w1, v0, us, a, b, c, d, e, f, g, h w0 ds _ g i, j⟩
def startE (n : Nat) (ws : List W) : Env := ws.map some ++ List.replicate (n - ws.length) none
def runP (n : Nat) (ms : MS) : FP := fun ds => match ms (startE n (ds.map W.d)) with
  | some (.rt (.d x), _) => some (.d x)
  | some (.rt (.own xs), _) => some (.own xs)
  | some (.nx, _) => some (.d .none)
  | _ => none
def fin0 (fl : Fl) (w1 : W) : Option (W × W) := match fl with
  | .rt (.d x) => some (.d x, w1)
  | .rt (.own xs) => some (.own xs, w1)
  | .nx => some (.d .none, w1)
  | _ => none
def notD : W → Bool
  | .d _ => false
  | _ => true
def slotW (env : Env) (i : Nat) : Option W := match env[i]? with
  | some (some w) => some w
  | _ => none
def runM (n : Nat) (ms : MS) : FM := fun w0 ds => match ms (startE n (w0 :: ds.map W.d)) with
  | some (fl, env') => match slotW env' 0 with
    | some w1 => if notD w1 = true then fin0 fl w1 else none
    | none => none
  | none => none
theorem slotW_eq {env : Env} {i : Nat} {w : W} (h : slotW env i = some w) : env[i]? = some (some w) := by
  unfold slotW at h
  split at h
  · rename_i w' hw; cases h; exact hw
  · cases h
theorem start_ok {H : Hp} {ow : Ow} {N : List Str} {ws : List W} {vs : List V} (wf : Wf H ow) (hl : vs.length = ws.length) (h : ∀ i w, ws[i]? = some w → ∃ v, vs[i]? = some v ∧ RepW H ow i w v) : Ok H ow (start N vs) (startE N.length ws) := by
  refine ⟨wf, fun i w e => ?_, by unfold startE start; simp [hl]⟩
  unfold startE at e
  by_cases hi : i < ws.length
  · rw [List.getElem?_append_left (by simpa using hi), List.getElem?_map] at e
    cases q : ws[i]? with
    | none => rw [q] at e; cases e
    | some w' =>
      rw [q] at e
      cases e
      obtain ⟨v, hv, r⟩ := h i w q
      refine ⟨v, ?_, r⟩
      unfold start
      rw [List.getElem?_append_left (by simpa [hl] using hi), List.getElem?_map, hv]
      rfl
  · rw [List.getElem?_append_right (by simpa using hi)] at e
    rw [List.getElem?_replicate] at e
    split at e <;> cases e
theorem RepX.f {H0 H : Hp} {ow0 ow : Ow} {k : Bool} (c : Calm H0 ow0 H ow) (hs : ∀ a i, ow0 a = some (some i) → k = true ∧ i = 0) {w : W} {v : V} (h : RepX k H0 H ow w v) : RepF k H0 H ow w v := by
  cases w with
  | d x => exact h
  | own xs =>
    obtain ⟨a, vs, e, ha, r, z⟩ := h
    rcases z with ⟨no, z⟩ | ⟨i, no, hk⟩
    · exact ⟨a, vs, e, ha, r, z, by rw [no]; simp, fun _ => by rw [no]; simp⟩
    · refine ⟨a, vs, e, ha, r, ?_, by rw [no]; simp, fun z => by rw [no]; simp; exact hk z⟩
      cases q : H0 a with
      | none => rfl
      | some o =>
        cases q2 : ow0 a with
        | none =>
          have := (c.at' a o q (by rw [q2]; intro j z; cases z)).2
          rw [q2, no] at this; cases this
        | some y =>
          cases y with
          | none =>
            have := (c.at' a o q (by rw [q2]; intro j z; cases z)).2
            rw [q2, no] at this; cases this
          | some j =>
            obtain ⟨h1, h2⟩ := hs a j q2
            have := c.slot a o j i q q2 no
            exact absurd (this.trans h2) (hk h1)
  | src _ _ => exact h.elim
section
variable {P : Program} {w : World} {K : PySem.W.Frag} {mg : Str → Option Value} {base : Heap}
theorem fn_P {x qual : Str} {st : Stmt} {f : Addr} {fd : FuncData} {N ps : List Str} {k : Nat} {ms : MS} (F : Fun K x qual st f fd) (S : FnScope N ps (defScope st))
    (hbody : ∀ (cdv : Value) (A : Around) (outer : List PySem.Env) (s : Shared) (H : Hp) (E : XK), Room k (A.deeper (envOfC qual (defScope st) s.heap.objs.size f cdv)) →
      JSs (cxOf CX0 P w K mg base N qual (defScope st) f cdv A outer s H E).nox false (defBody st) ms) :
    FnOk P w K mg base CX0 (k + 1) f fd ps (spP (runP N.length ms) ps.length) := by
  refine F.ok S (fun vs H Q E ⟨ow, ds, w, _, _, r, hl, _⟩ => by rw [r.length, hl]) fun cdv A outer s H vs Q E hr h => ?_
  obtain ⟨ow, ds, w, wf, hs, r, hl, e, q⟩ := h
  refine ⟨_, (hbody cdv A outer s H E hr).ps, ?_⟩
  have fin : ∀ fl env', ms (startE N.length (ds.map W.d)) = some (fl, env') → (∀ σ' H' ow', Ok H' ow' σ' env' → Calm H ow H' ow' → (false = true → σ'[0]? = (start N vs)[0]?) → FinP false { nx := fun _ H' => Q .non H', rt := Q } H fl σ' H' ow') → tMS false ms { nx := fun _ H' => Q .non H', rt := Q } (start N vs) H := fun fl env' e2 q2 => by
    refine ⟨ow, startE N.length (ds.map W.d), fl, env', start_ok wf (by simp [r.length]) fun i w' hi => ?_, e2, q2⟩
    rw [List.getElem?_map] at hi
    cases qd : ds[i]? with
    | none => rw [qd] at hi; cases hi
    | some d =>
      rw [qd] at hi
      cases hi
      exact r.get qd
  unfold runP at e
  split at e
  · rename_i x env' e2
    cases e
    exact fin _ _ e2 fun σ' H' ow' ok' c' _ v rx => q v H' ow' c' ok'.wf rx
  · rename_i xs env' e2
    cases e
    exact fin _ _ e2 fun σ' H' ow' ok' c' _ v rx => q v H' ow' c' ok'.wf (RepX.f c' (fun a i z => absurd z (hs a i)) rx)
  · rename_i env' e2
    cases e
    exact fin _ _ e2 fun σ' H' ow' ok' c' _ => q .non H' ow' c' ok'.wf (by show Rep H' ow' .none .non; rw [Rep])
  · cases e
theorem fn_M {x qual : Str} {st : Stmt} {f : Addr} {fd : FuncData} {N ps : List Str} {k : Nat} {ms : MS} (F : Fun K x qual st f fd) (S : FnScope N ps (defScope st))
    (hbody : ∀ (cdv : Value) (A : Around) (outer : List PySem.Env) (s : Shared) (H : Hp) (E : XK), Room k (A.deeper (envOfC qual (defScope st) s.heap.objs.size f cdv)) →
      JSs (cxOf CX0 P w K mg base N qual (defScope st) f cdv A outer s H E).nox true (defBody st) ms) :
    FnOk P w K mg base CX0 (k + 1) f fd ps (spM (runM N.length ms) ps.length) := by
  refine F.ok S (fun vs H Q E ⟨ow, w0, ds, w, w1, v0, us, e, _, _, _, _, r, hl, _⟩ => by rw [e, ← hl, List.length_cons, r.length]) fun cdv A outer s H vs Q E hr h => ?_
  obtain ⟨ow, w0, ds, w, w1, v0, us, rfl, wf, hs, r0, hw0, r, hl, e, q⟩ := h
  refine ⟨_, (hbody cdv A outer s H E hr).ps, ?_⟩
  have st0 : (start N (v0 :: us))[0]? = some (some v0) := rfl
  have fin : ∀ fl env', ms (startE N.length (w0 :: ds.map W.d)) = some (fl, env') → (∀ σ' H' ow', Ok H' ow' σ' env' → Calm H ow H' ow' → (true = true → σ'[0]? = (start N (v0 :: us))[0]?) → FinP true { nx := fun _ H' => Q .non H', rt := Q } H fl σ' H' ow') → tMS true ms { nx := fun _ H' => Q .non H', rt := Q } (start N (v0 :: us)) H := fun fl env' e2 q2 => by
    refine ⟨ow, startE N.length (w0 :: ds.map W.d), fl, env', start_ok wf (by simp [r.length]) fun i w' hi => ?_, e2, q2⟩
    cases i with
    | zero => cases hi; exact ⟨v0, rfl, r0⟩
    | succ i =>
      rw [List.getElem?_cons_succ, List.getElem?_map] at hi
      cases qd : ds[i]? with
      | none => rw [qd] at hi; cases hi
      | some d =>
        rw [qd] at hi
        cases hi
        exact r.get qd
  have slot0 : ∀ {σ' : St} {H' : Hp} {ow' : Ow} {env' : Env} {w' : W}, Ok H' ow' σ' env' → σ'[0]? = some (some v0) → env'[0]? = some (some w') → RepW H' ow' 0 w' v0 := fun {σ' H' ow' env' w'} ok hv he => by
    obtain ⟨v, hv', q⟩ := ok.slot 0 _ he
    rw [hv] at hv'; cases hv'
    exact q
  unfold runM at e
  split at e
  rotate_left
  · cases e
  rename_i fl env' e2
  split at e
  rotate_left
  · cases e
  rename_i w1' hy
  split at e
  rotate_left
  · cases e
  unfold fin0 at e
  have hy := slotW_eq hy
  split at e
  · cases e
    exact fin _ _ e2 fun σ' H' ow' ok' c' z' v rx => q v H' ow' c' ok'.wf (RepX.f c' (fun a i z => ⟨rfl, hs a i z⟩) rx) (slot0 ok' ((z' rfl).trans st0) hy)
  · cases e
    exact fin _ _ e2 fun σ' H' ow' ok' c' z' v rx => q v H' ow' c' ok'.wf (RepX.f c' (fun a i z => ⟨rfl, hs a i z⟩) rx) (slot0 ok' ((z' rfl).trans st0) hy)
  · cases e
    exact fin _ _ e2 fun σ' H' ow' ok' c' z' => q .non H' ow' c' ok'.wf (by show Rep H' ow' .none .non; rw [Rep]) (slot0 ok' ((z' rfl).trans st0) hy)
  · cases e
end
/-! ### calls -/
mutual
def noL : D → Bool
  | .list _ => false
  | .tuple xs => noLs xs
  | _ => true
def noLs : List D → Bool
  | [] => true
  | x :: xs => noL x && noLs xs
end
def noLW : W → Bool
  | .d x => noL x
  | .own xs => noLs xs
  | .src _ _ => true
/-- tuples alone stay -/
def KeepsT (H : Hp) (ow : Ow) (H' : Hp) (ow' : Ow) : Prop := ∀ a vs, H a = some (.tup vs) → ow a = none → H' a = some (.tup vs) ∧ ow' a = none
mutual
theorem Rep.monoT {H H' : Hp} {ow ow' : Ow} (k : KeepsT H ow H' ow') : ∀ (d : D) {v : V}, noL d = true → Rep H ow d v → Rep H' ow' d v
  | .none, v, _, h => by rw [Rep] at h ⊢; exact h
  | .bool _, v, _, h => by rw [Rep] at h ⊢; exact h
  | .int _, v, _, h => by rw [Rep] at h ⊢; exact h
  | .str _, v, _, h => by rw [Rep] at h ⊢; exact h
  | .list xs, v, n, h => by rw [noL] at n; cases n
  | .tuple xs, v, n, h => by
    rw [Rep] at h ⊢
    rw [noL] at n
    obtain ⟨a, vs, e, r, no, q⟩ := h
    obtain ⟨r', n'⟩ := k a _ r no
    exact ⟨a, vs, e, r', n', Reps.monoT k xs n q⟩
  | .dict _, v, _, h => by rw [Rep] at h; exact h.elim
theorem Reps.monoT {H H' : Hp} {ow ow' : Ow} (k : KeepsT H ow H' ow') : ∀ (xs : List D) {vs : List V}, noLs xs = true → Reps H ow xs vs → Reps H' ow' xs vs
  | [], vs, _, h => by rw [Reps] at h ⊢; exact h
  | x :: xs, vs, n, h => by
    rw [noLs, Bool.and_eq_true] at n
    rw [Reps] at h ⊢
    obtain ⟨v, r, e, h1, h2⟩ := h
    exact ⟨v, r, e, Rep.monoT k x n.1 h1, Reps.monoT k xs n.2 h2⟩
end
/-- arguments: plain values, or a slot's list lent -/
def argsOf (env : Env) : List R → Option (List D × List Nat)
  | [] => some ([], [])
  | .val (.d x) :: rs => match argsOf env rs with
    | some (ds, js) => some (x :: ds, js)
    | none => none
  | .var j :: rs => match env[j]? with
    | some (some (.own xs)) => match argsOf env rs with
      | some (ds, js) => some (.list xs :: ds, j :: js)
      | none => none
    | some (some (.d x)) => match argsOf env rs with
      | some (ds, js) => some (x :: ds, js)
      | none => none
    | _ => none
  | _ :: _ => none
/-- the callee's view: what slots own is another's, what is lent is nobody's -/
def lendOw (ow : Ow) (js : List Nat) (mu : Option Nat) : Ow := fun a => match ow a with
  | some (some i) => if i ∈ js then none else if mu = some i then some (some 0) else some none
  | x => x
theorem lend_keeps {H : Hp} {ow : Ow} {js : List Nat} {mu : Option Nat} : Keeps H ow H (lendOw ow js mu) := fun a u h n => ⟨h, by unfold lendOw; rw [n]⟩
theorem args_rep {H : Hp} {ow : Ow} {σ : St} {env : Env} (ok : Ok H ow σ env) (js0 : List Nat) (mu : Option Nat) : ∀ {H0 : Hp} {rs : List R} {vs : List V} {ds : List D} {js : List Nat}, RepRs H0 H ow σ rs vs → argsOf env rs = some (ds, js) → (∀ j ∈ js, j ∈ js0) → Reps H (lendOw ow js0 mu) ds vs
  | _, [], vs, ds, js, r, e, _ => by cases e; cases (show vs = [] from r); exact Reps.nil
  | _, .val (.d x) :: rs, vs, ds, js, ⟨v, t, H1, e1, r1, _, _, r2⟩, e, h => by
    subst e1
    unfold argsOf at e
    split at e
    · rename_i ds' js' h1
      cases e
      exact Reps.cons (Rep.mono lend_keeps x r1) (args_rep ok js0 mu r2 h1 h)
    · cases e
  | _, .val (.own _) :: rs, vs, ds, js, _, e, _ => by cases e
  | _, .val (.src _ _) :: rs, vs, ds, js, _, e, _ => by cases e
  | _, .var j :: rs, vs, ds, js, ⟨v, t, H1, e1, r1, _, _, r2⟩, e, h => by
    subst e1
    have hv : σ[j]? = some (some v) := r1
    unfold argsOf at e
    split at e
    · rename_i xs hx
      split at e
      · rename_i ds' js' h1
        cases e
        refine Reps.cons ?_ (args_rep ok js0 mu r2 h1 fun i hi => h i (List.mem_cons_of_mem _ hi))
        obtain ⟨v', hv', a, us, rfl, ha, no, r⟩ := ok.slot j _ hx
        rw [hv] at hv'; cases hv'
        rw [Rep]
        exact ⟨a, us, rfl, ha, by unfold lendOw; rw [no]; exact if_pos (h j List.mem_cons_self), Reps.mono lend_keeps xs r⟩
      · cases e
    · rename_i x hx
      split at e
      · rename_i ds' js' h1
        cases e
        obtain ⟨v', hv', r⟩ := ok.slot j _ hx
        rw [hv] at hv'; cases hv'
        exact Reps.cons (Rep.mono lend_keeps x r) (args_rep ok js0 mu r2 h1 h)
      · cases e
    · cases e
theorem args_own {H : Hp} {ow : Ow} {σ : St} {env : Env} (ok : Ok H ow σ env) : ∀ {rs : List R} {ds : List D} {js : List Nat}, argsOf env rs = some (ds, js) → ∀ j ∈ js, ∃ xs, env[j]? = some (some (.own xs))
  | [], ds, js, e => by cases e; intro j h; cases h
  | .val (.d x) :: rs, ds, js, e => by
    unfold argsOf at e
    split at e
    · rename_i ds' js' h1; cases e; exact args_own ok h1
    · cases e
  | .val (.own _) :: rs, ds, js, e => by cases e
  | .val (.src _ _) :: rs, ds, js, e => by cases e
  | .var i :: rs, ds, js, e => by
    unfold argsOf at e
    split at e
    · rename_i xs hx
      split at e
      · rename_i ds' js' h1
        cases e
        intro j hj
        rcases List.mem_cons.mp hj with rfl | hj
        · exact ⟨xs, hx⟩
        · exact args_own ok h1 j hj
      · cases e
    · split at e
      · rename_i ds' js' h1; cases e; exact args_own ok h1
      · cases e
    · cases e
/-- behind a call: the slots' own again -/
def backOw (H : Hp) (ow owc : Ow) (mu : Option Nat) : Ow := fun a => match H a with
  | some _ => match ow a with
    | some (some i) => if mu = some i then (match owc a with
        | some (some 0) => some (some i)
        | some _ => some none
        | none => none) else some (some i)
    | x => x
  | none => match owc a with
    | some (some 0) => match mu with
      | some j => some (some j)
      | none => some none
    | some _ => some none
    | none => none
section
variable {H H' : Hp} {ow owc : Ow} {js : List Nat} {mu : Option Nat}
/-- (js: the lent slots; mu: the slot that may be changed, none of them) -/
theorem back_calm (hmu : ∀ j, mu = some j → j ∉ js) (c : Calm H (lendOw ow js mu) H' owc) : Calm H ow H' (backOw H ow owc mu) := by
  refine ⟨fun a o h n => ?_, c.grow, fun a o i j h e1 e2 => ?_⟩
  · have e : lendOw ow js mu a = ow a := by
      unfold lendOw
      split
      · rename_i i hi; exact absurd hi (n i)
      · rfl
    obtain ⟨h1, h2⟩ := c.at' a o h (by rw [e]; exact n)
    refine ⟨h1, ?_⟩
    unfold backOw
    rw [h]
    cases q : ow a with
    | none => rfl
    | some y =>
      cases y with
      | none => rfl
      | some i => exact absurd q (n i)
  · unfold backOw at e2
    rw [h] at e2
    simp only [e1] at e2
    split at e2
    · split at e2
      · cases e2; rfl
      · cases e2
      · cases e2
    · cases e2; rfl
theorem back_wf (wf : Wf H ow) (c : Calm H (lendOw ow js mu) H' owc) (wf' : Wf H' owc) : Wf H' (backOw H ow owc mu) := fun a ha => by
  cases q : H a with
  | some o =>
    have kept : ow a ≠ none → (∀ k, lendOw ow js mu a ≠ some (some k)) → ∃ vs, H' a = some (.lst vs) := fun h1 h2 => by
      obtain ⟨vs, hv⟩ := wf a h1
      exact ⟨vs, (c.at' a _ hv h2).1⟩
    unfold backOw at ha
    rw [q] at ha
    simp only at ha
    cases qo : ow a with
    | none => rw [qo] at ha; exact absurd rfl ha
    | some y =>
      cases y with
      | none => exact kept (by rw [qo]; simp) fun k => by unfold lendOw; rw [qo]; simp
      | some i =>
        by_cases hi : i ∈ js
        · exact kept (by rw [qo]; simp) fun k => by unfold lendOw; rw [qo]; simp only; rw [if_pos hi]; simp
        · by_cases hm : mu = some i
          · rw [qo] at ha
            simp only at ha
            rw [if_pos hm] at ha
            refine wf' a fun z => ha ?_
            rw [z]
          · exact kept (by rw [qo]; simp) fun k => by unfold lendOw; rw [qo]; simp only; rw [if_neg hi, if_neg hm]; simp
  | none =>
    refine wf' a fun z => ha ?_
    unfold backOw
    rw [q]
    simp only [z]
/-- a slot that is not changed stays -/
theorem back_slot (c : Calm H (lendOw ow js mu) H' owc) {i : Nat} (hi : mu ≠ some i) {w : W} {v : V} (hm : ∀ j, mu = some j → j ∉ js) (r : RepW H ow i w v) : RepW H' (backOw H ow owc mu) i w v := by
  refine RepW.mono (back_calm hm c).keeps (fun a u h no => ?_) r
  have nc : ∀ k, lendOw ow js mu a ≠ some (some k) := fun k => by
    unfold lendOw
    rw [no]
    simp only
    by_cases hj : i ∈ js
    · rw [if_pos hj]; intro z; cases z
    · rw [if_neg hj, if_neg hi]; intro z; cases z
  refine ⟨(c.at' a u h nc).1, ?_⟩
  unfold backOw
  rw [h]
  simp only [no]
  rw [if_neg hi]
/-- plain values that came out: nothing lent in them -/
theorem back_keepsT (hlent : ∀ a i, ow a = some (some i) → i ∈ js → ∃ vs, H a = some (.lst vs)) (c : Calm H (lendOw ow js mu) H' owc) : KeepsT H' owc H' (backOw H ow owc mu) := fun a vs h n => by
  refine ⟨h, ?_⟩
  unfold backOw
  cases q : H a with
  | none => simp only [n]
  | some o =>
    simp only
    cases qo : ow a with
    | none => rfl
    | some y =>
      cases y with
      | none =>
        have e : lendOw ow js mu a = some none := by unfold lendOw; rw [qo]
        have := (c.at' a o q (by rw [e]; intro i z; cases z)).2
        rw [e, n] at this; cases this
      | some i =>
        simp only
        by_cases hi : i ∈ js
        · obtain ⟨us, hus⟩ := hlent a i qo hi
          have e : lendOw ow js mu a = none := by unfold lendOw; rw [qo]; exact if_pos hi
          have := (c.at' a _ hus (by rw [e]; intro i z; cases z)).1
          rw [h] at this; cases this
        · by_cases hm : mu = some i
          · rw [if_pos hm, n]
          · have e : lendOw ow js mu a = some none := by
              unfold lendOw; rw [qo]; simp only; rw [if_neg hi, if_neg hm]
            have := (c.at' a o q (by rw [e]; intro i z; cases z)).2
            rw [e, n] at this; cases this
theorem back_keeps (hj : js = []) (c : Calm H (lendOw ow js mu) H' owc) : Keeps H' owc H' (backOw H ow owc mu) := fun a u h n => by
  refine ⟨h, ?_⟩
  unfold backOw
  cases q : H a with
  | none => simp only [n]
  | some o =>
    simp only
    cases qo : ow a with
    | none => rfl
    | some y =>
      cases y with
      | none =>
        have e : lendOw ow js mu a = some none := by unfold lendOw; rw [qo]
        have := (c.at' a o q (by rw [e]; intro i z; cases z)).2
        rw [e, n] at this; cases this
      | some i =>
        simp only
        by_cases hm : mu = some i
        · rw [if_pos hm, n]
        · have e : lendOw ow js mu a = some none := by
            unfold lendOw; rw [qo]; simp only; rw [hj, if_neg (by simp), if_neg hm]
          have := (c.at' a o q (by rw [e]; intro i z; cases z)).2
          rw [e, n] at this; cases this
end
section
variable {H H' : Hp} {ow owc : Ow} {js : List Nat} {mu : Option Nat}
theorem back_rep {H1 : Hp} (hlent : ∀ a i, ow a = some (some i) → i ∈ js → ∃ vs, H a = some (.lst vs)) (c : Calm H (lendOw ow js mu) H' owc) {d : D} {v : V} (hn : js = [] ∨ noL d = true) (r : Rep H' owc d v) : Rep H' (backOw H ow owc mu) d v := by
  rcases hn with hn | hn
  · exact Rep.mono (back_keeps hn c) d r
  · exact Rep.monoT (back_keepsT hlent c) d hn r
theorem back_reps (hlent : ∀ a i, ow a = some (some i) → i ∈ js → ∃ vs, H a = some (.lst vs)) (c : Calm H (lendOw ow js mu) H' owc) {ds : List D} {vs : List V} (hn : js = [] ∨ noLs ds = true) (r : Reps H' owc ds vs) : Reps H' (backOw H ow owc mu) ds vs := by
  rcases hn with hn | hn
  · exact Reps.mono (back_keeps hn c) ds r
  · exact Reps.monoT (back_keepsT hlent c) ds hn r
theorem back_t {H0 : Hp} (hg : ∀ a, H a = none → H0 a = none) (hlent : ∀ a i, ow a = some (some i) → i ∈ js → ∃ vs, H a = some (.lst vs)) (hz : mu = none ∨ ∀ a, H a = none → owc a ≠ some (some 0) ∨ True) (c : Calm H (lendOw ow js mu) H' owc) {w : W} {v : V} (hn : js = [] ∨ noLW w = true) {k : Bool} (r : RepF k H H' owc w v) (hq : ∀ xs a, w = .own xs → v = .ref a → backOw H ow owc mu a = some none) : RepT H0 H' (backOw H ow owc mu) w v := by
  cases w with
  | d x => exact back_rep (H1 := H) hlent c (hn.imp id id) r
  | own xs =>
    obtain ⟨a, vs, e, ha, rr, z, no, _⟩ := r
    exact ⟨a, vs, e, ha, hq xs a rfl e, hg a z, back_reps hlent c (hn.imp id id) rr⟩
  | src _ _ => exact r.elim
theorem back_own0 {j : Nat} (hj : j ∉ js) (c : Calm H (lendOw ow js (some j)) H' owc) {a : Addr} (h : owc a = some (some 0)) : backOw H ow owc (some j) a = some (some j) := by
  unfold backOw
  cases q : H a with
  | none => simp only [h]
  | some o =>
    simp only
    cases qo : ow a with
    | none =>
      have e : lendOw ow js (some j) a = none := by unfold lendOw; rw [qo]
      have := (c.at' a o q (by rw [e]; intro i z; cases z)).2
      rw [e, h] at this; cases this
    | some y =>
      cases y with
      | none =>
        have e : lendOw ow js (some j) a = some none := by unfold lendOw; rw [qo]
        have := (c.at' a o q (by rw [e]; intro i z; cases z)).2
        rw [e, h] at this; cases this
      | some i =>
        simp only
        by_cases hm : some j = some i
        · rw [if_pos hm, h]
          cases hm; rfl
        · exfalso
          by_cases hi : i ∈ js
          · have e : lendOw ow js (some j) a = none := by unfold lendOw; rw [qo]; exact if_pos hi
            have := (c.at' a o q (by rw [e]; intro i z; cases z)).2
            rw [e, h] at this; cases this
          · have e : lendOw ow js (some j) a = some none := by
              unfold lendOw; rw [qo]; simp only; rw [if_neg hi, if_neg hm]
            have := (c.at' a o q (by rw [e]; intro i z; cases z)).2
            rw [e, h] at this; cases this
end
def mCallP (Φ : FP) (n : Nat) (ma : MA) : ME := fun env => match ma env with
  | some (rs, env1) => match argsOf env1 rs with
    | some (ds, js) => if ds.length = n then (match Φ ds with
      | some w => if (js.isEmpty || noLW w) = true then some (.val w, env1) else none
      | none => none) else none
    | none => none
  | none => none
variable {X : Cx}
theorem callP_of {Φ : FP} {n : Nat} {ma : MA} {E : XK} {σ : St} {H : Hp} {Q : VK} (h : tM (mCallP Φ n ma) σ H Q) : tMA ma σ H fun vs H1 => spP Φ n vs H1 Q E := by
  obtain ⟨ow, env, rr, env', ok, e, q⟩ := h
  unfold mCallP at e
  split at e
  rotate_left
  · cases e
  rename_i rs env1 h1
  split at e
  rotate_left
  · cases e
  rename_i ds js h2
  split at e
  rotate_left
  · cases e
  rename_i hl
  split at e
  rotate_left
  · cases e
  rename_i w hw
  split at e
  rotate_left
  · cases e
  rename_i hn
  rw [Bool.or_eq_true] at hn
  have hn' : js = [] ∨ noLW w = true := hn.imp List.isEmpty_iff.mp id
  cases e
  refine ⟨ow, env, rs, _, ok, h1, fun vs H1 ow1 ok1 c1 rr => ?_⟩
  have hlent : ∀ a i, ow1 a = some (some i) → i ∈ js → ∃ vs, H1 a = some (.lst vs) := fun a i ha hi => ok1.wf a (by rw [ha]; simp)
  refine ⟨lendOw ow1 js none, ds, w, fun a ha => ok1.wf a fun z => ha (by unfold lendOw; rw [z]), fun a i => ?_, args_rep ok1 js none rr h2 fun j hj => hj, hl, hw, fun v H' owc c wf' rf => ?_⟩
  · unfold lendOw
    split
    · split
      · intro z; cases z
      · rw [if_neg (by simp)]; intro z; cases z
    · rename_i hx; exact hx i
  · have hm : ∀ j, (none : Option Nat) = some j → j ∉ js := fun j z => by cases z
    have cb := back_calm hm c
    refine q v H' (backOw H1 ow1 owc none) ⟨⟨back_wf ok1.wf c wf', fun i w' hi => ?_, ok1.len⟩, c1.trans cb, back_t (fun a z => c1.gone z) hlent (.inl rfl) c hn' rf fun xs a e1 e2 => ?_⟩
    · obtain ⟨v', hv', r'⟩ := ok1.slot i w' hi
      exact ⟨v', hv', back_slot c (by simp) hm r'⟩
    · subst e1
      obtain ⟨b, us, e3, hb, _, z, no, _⟩ := rf
      rw [e2] at e3; cases e3
      unfold backOw
      simp only [z]
      split
      · rfl
      · rfl
      · rename_i hx; exact absurd hx no
end L2.Z

namespace L2.Z
open PySem PySem.Spec PyProof.Rows
variable {X : Cx}
theorem je_callP {Φ : FP} {n k : Nat} {f : Addr} {fd : FuncData} {ps : List Str} {x : Str} {e : Expr} {es : List Expr} {ma : MA} {p pos : Pos} (F : FnOk X.prog X.w X.K X.mg X.base CX0 k f fd ps (spP Φ n)) (hr : Room k X.A) (hg : Gl X x) (hm : X.mg x = some (.ref f)) (hk : PySem.W.keepIn X.K (.ref f) = true) (hb : Binds X.K fd ps []) (ha : JA X (e :: es) ma)
    (hdb : (x == ("__debug__" : Str)) = false := by decide) (he : starEach (e :: es) X.env = (false, eval e X.env) :: starEach es X.env := by rfl) (hpl : (backTo pos (starEach es X.env)).any (·.1) = false := by rfl) :
    JE X (.Call (.Name x p) (e :: es) [] pos) (mCallP Φ n ma) :=
  ⟨PE.weak (pe_call F hr hg hm hk hb .nil pass0 ha.pa hdb he hpl) fun σ H Q h => tMA_mono (callP_of (E := fun _ _ _ => False) h) fun vs H1 q => by rw [List.append_nil]; exact q⟩
theorem je_callP0 {Φ : FP} {k : Nat} {f : Addr} {fd : FuncData} {ps : List Str} {x : Str} {p pos : Pos} (F : FnOk X.prog X.w X.K X.mg X.base CX0 k f fd ps (spP Φ 0)) (hr : Room k X.A) (hg : Gl X x) (hm : X.mg x = some (.ref f)) (hk : PySem.W.keepIn X.K (.ref f) = true) (hb : Binds X.K fd ps [])
    (hdb : (x == ("__debug__" : Str)) = false := by decide) :
    JE X (.Call (.Name x p) [] [] pos) (mCallP Φ 0 mNil) :=
  ⟨PE.weak (pe_call0 F hr hg hm hk hb .nil pass0 hdb) fun σ H Q h => by
    have q := callP_of (E := fun _ _ _ => False) h
    obtain ⟨ow, env, rs, env', ok, e, q⟩ := q
    cases e
    exact q [] H ow ok .refl rfl⟩
def mCallM (Φ : FM) (n : Nat) (ma : MA) : ME := fun env => match ma env with
  | some (.var j :: rs, env1) => match argsOf env1 rs with
    | some (ds, js) => if j ∈ js then none else match slotW env1 j with
      | some w0 => if (notD w0 && decide (ds.length + 1 = n)) = true then (match Φ w0 ds with
        | some (w, w1) => if (js.isEmpty || (noLW w && noLW w1)) = true then some (.val w, env1.set j (some w1)) else none
        | none => none) else none
      | none => none
    | none => none
  | _ => none
theorem callM_of {Φ : FM} {n : Nat} {ma : MA} {E : XK} {σ : St} {H : Hp} {Q : VK} (h : tM (mCallM Φ n ma) σ H Q) : tMA ma σ H fun vs H1 => spM Φ n vs H1 Q E := by
  obtain ⟨ow, env, rr, env', ok, e, q⟩ := h
  unfold mCallM at e
  split at e
  rotate_left
  · cases e
  rename_i j rs env1 h1
  split at e
  rotate_left
  · cases e
  rename_i ds js h2
  split at e
  · cases e
  rename_i hjs
  split at e
  rotate_left
  · cases e
  rename_i w0 h3
  split at e
  rotate_left
  · cases e
  rename_i h4
  rw [Bool.and_eq_true] at h4
  split at e
  rotate_left
  · cases e
  rename_i w w1 hw
  split at e
  rotate_left
  · cases e
  rename_i hn
  rw [Bool.or_eq_true, Bool.and_eq_true] at hn
  have hn' : js = [] ∨ (noLW w = true ∧ noLW w1 = true) := hn.imp List.isEmpty_iff.mp id
  cases e
  refine ⟨ow, env, .var j :: rs, _, ok, h1, fun vs H1 ow1 ok1 c1 rr => ?_⟩
  obtain ⟨v0, us, H2, rfl, r0, g2, _, r2⟩ := rr
  have hv0 : σ[j]? = some (some v0) := r0
  obtain ⟨v0', hv0', rw0⟩ := ok1.slot j _ (slotW_eq h3)
  rw [hv0] at hv0'; cases hv0'
  have hm : ∀ i, (some j : Option Nat) = some i → i ∉ js := fun i z => by cases z; exact hjs
  have hlent : ∀ a i, ow1 a = some (some i) → i ∈ js → ∃ vs, H1 a = some (.lst vs) := fun a i ha hi => ok1.wf a (by rw [ha]; simp)
  have lendj : ∀ a, ow1 a = some (some j) → lendOw ow1 js (some j) a = some (some 0) := fun a ha => by
    unfold lendOw; rw [ha]; simp [hjs]
  refine ⟨lendOw ow1 js (some j), w0, ds, w, w1, v0, us, rfl, fun a ha => ok1.wf a fun z => ha (by unfold lendOw; rw [z]), fun a i hi => ?_, ?_, fun x hx => ?_, args_rep ok1 js (some j) r2 h2 fun i hi => hi, of_decide_eq_true h4.2, hw, fun v H' owc c wf' rf rw1 => ?_⟩
  · unfold lendOw at hi
    split at hi
    · split at hi
      · cases hi
      · split at hi
        · cases hi; rfl
        · cases hi
    · rename_i hx; exact absurd hi (hx i)
  · cases w0 with
    | d x => have := h4.1; cases this
    | own xs =>
      obtain ⟨a, vs, e, ha, no, r⟩ := rw0
      exact ⟨a, vs, e, ha, lendj a no, Reps.mono lend_keeps xs r⟩
    | src cs rs =>
      obtain ⟨a, b, e, ha, hb, na, nb, d⟩ := rw0
      exact ⟨a, b, e, ha, hb, lendj a na, lendj b nb, d⟩
  · subst hx; have := h4.1; cases this
  · have cb := back_calm hm c
    refine q v H' (backOw H1 ow1 owc (some j)) ⟨⟨back_wf ok1.wf c wf', fun i w' hi => ?_, by rw [List.length_set]; exact ok1.len⟩, c1.trans cb, back_t (fun a z => c1.gone z) hlent (.inr fun _ _ => .inr trivial) c (hn'.imp id (·.1)) rf fun xs a e1 e2 => ?_⟩
    · rcases set_slot hi with ⟨rfl, e, _⟩ | ⟨ne, e⟩
      · cases e
        refine ⟨v0, hv0, ?_⟩
        cases w1 with
        | d x => exact back_rep (H1 := H1) hlent c (hn'.imp id (·.2)) rw1
        | own xs =>
          obtain ⟨a, vs, e, ha, no, r⟩ := rw1
          exact ⟨a, vs, e, ha, back_own0 hjs c no, back_reps hlent c (hn'.imp id (·.2)) r⟩
        | src cs rs =>
          obtain ⟨a, b, e, ha, hb, na, nb, d⟩ := rw1
          exact ⟨a, b, e, ha, hb, back_own0 hjs c na, back_own0 hjs c nb, d⟩
      · obtain ⟨v', hv', r'⟩ := ok1.slot i w' e
        exact ⟨v', hv', back_slot c (fun z => ne (by cases z; rfl)) hm r'⟩
    · subst e1
      obtain ⟨b, us, e3, hb, _, z, no, n0⟩ := rf
      rw [e2] at e3; cases e3
      unfold backOw
      simp only [z]
      split
      · rename_i hx; exact absurd hx (n0 rfl)
      · rfl
      · rename_i hx; exact absurd hx no
theorem je_callMu {Φ : FM} {n k : Nat} {f : Addr} {fd : FuncData} {ps : List Str} {x : Str} {e : Expr} {es : List Expr} {ma : MA} {p pos : Pos} (F : FnOk X.prog X.w X.K X.mg X.base CX0 k f fd ps (spM Φ n)) (hr : Room k X.A) (hg : Gl X x) (hm : X.mg x = some (.ref f)) (hk : PySem.W.keepIn X.K (.ref f) = true) (hb : Binds X.K fd ps []) (ha : JA X (e :: es) ma)
    (hdb : (x == ("__debug__" : Str)) = false := by decide) (he : starEach (e :: es) X.env = (false, eval e X.env) :: starEach es X.env := by rfl) (hpl : (backTo pos (starEach es X.env)).any (·.1) = false := by rfl) :
    JE X (.Call (.Name x p) (e :: es) [] pos) (mCallM Φ n ma) :=
  ⟨PE.weak (pe_call F hr hg hm hk hb .nil pass0 ha.pa hdb he hpl) fun σ H Q h => tMA_mono (callM_of (E := fun _ _ _ => False) h) fun vs H1 q => by rw [List.append_nil]; exact q⟩
end L2.Z

namespace L2.Z
open PySem PySem.Spec PyProof.Rows
variable {X : Cx} {kk : Bool}
/-! ### short words -/
theorem jv (i : Nat) {x : Str} {pos : Pos} (hN : X.N[i]? = some x := by rfl) (hv : Vis X.env.scope x := by first | exact Or.inl rfl | exact Or.inr (Or.inl rfl) | exact Or.inr (Or.inr rfl)) (hd : (x == ("__debug__" : Str)) = false := by decide)
    (hcd : (x == ("__classdict__" : Str)) = false := by decide) : JE X (.Name x pos) (mVar i) := je_var hN hv hd hcd
theorem jgn (i : Nat) {x : Str} {pos : Pos} (hN : X.N.Nodup) (hi : X.N[i]? = some x := by rfl) (hx : Loc X.env.scope x := by first | exact Or.inl rfl | exact Or.inr rfl) (hf : X.fn x = true ∨ X.env.scope.names.lookup x = some .local := by first | exact .inl rfl | exact .inr rfl) : JG X [i] (.Name x pos) (gNm i) := jg_name hN hi hx hf
theorem jset (i : Nat) {x : Str} {e : Expr} {m : ME} {pos' pos : Pos} (hN : X.N.Nodup) (h : JE X e m) (hk : kk = true → i ≠ 0 := by decide) (hi : X.N[i]? = some x := by rfl) (hx : Loc X.env.scope x := by first | exact Or.inl rfl | exact Or.inr rfl) (hs : swapsWith e (some (.Name x pos')) pos.line X.env = pure false := by rfl)
    (hf : X.fn x = true ∨ X.env.scope.names.lookup x = some .local := by first | exact .inl rfl | exact .inr rfl) : JS X kk (.Assign [.Name x pos'] e pos) (mAsg i m) := js_set hN hi hx h hk hs hf
theorem jnc (i : Nat) {x : Str} {pos : Pos} {es : List Expr} {is : List Nat} (hN : X.N.Nodup) (h2 : JNs X es is) (hi : X.N[i]? = some x := by rfl) (hx : Loc X.env.scope x := by first | exact Or.inl rfl | exact Or.inr rfl)
    (hf : X.fn x = true ∨ X.env.scope.names.lookup x = some .local := by first | exact .inl rfl | exact .inr rfl)
    (ha : (assignEach (.Name x pos :: es) X.env).map (·.2) = assign (.Name x pos) X.env :: (assignEach es X.env).map (·.2) := by rfl) : JNs X (.Name x pos :: es) (i :: is) := jn_cons hN hi hx h2 hf ha
def gSub : D → D → Option W := gI (fun _ _ => true) fun i j => .int (i - j)
def gFdiv : D → D → Option W := gI cDiv fun i j => .int (i / j)
def gMod : D → D → Option W := gI cMod fun i j => .int (i % j)
def gPow : D → D → Option W := gI cPow fun i j => .int (i ^ j.toNat)
def gShl : D → D → Option W := gI cPow fun i j => .int (i * 2 ^ j.toNat)
def gShr : D → D → Option W := gI (fun _ j => decide (0 ≤ j)) fun i j => .int (i / 2 ^ j.toNat)
def gAnd : D → D → Option W := gI (fun _ _ => true) fun i j => .int (Builtin.bitAnd i j)
def gLt : D → D → Option W := gI (fun _ _ => true) fun i j => .bool (decide (i < j))
def gLe : D → D → Option W := gI (fun _ _ => true) fun i j => .bool (decide (i ≤ j))
def gGt : D → D → Option W := gI (fun _ _ => true) fun i j => .bool (decide (j < i))
def gGe : D → D → Option W := gI (fun _ _ => true) fun i j => .bool (decide (j ≤ i))
theorem bSub : BinOK X (binaryOp .Sub) gSub := bo_sub
theorem bFdiv : BinOK X (binaryOp .FloorDiv) gFdiv := bo_fdiv
theorem bMod : BinOK X (binaryOp .Mod) gMod := bo_mod
theorem bPow : BinOK X (binaryOp .Pow) gPow := bo_pow
theorem bShl : BinOK X (binaryOp .LShift) gShl := bo_shl
theorem bShr : BinOK X (binaryOp .RShift) gShr := bo_shr
theorem bAnd : BinOK X (binaryOp .BitAnd) gAnd := bo_and
theorem bLt : BinOK X (compareOp .Lt) gLt := bo_ltI
theorem bLe : BinOK X (compareOp .LtE) gLe := bo_leI
theorem bGt : BinOK X (compareOp .Gt) gGt := bo_gtI
theorem bGe : BinOK X (compareOp .GtE) gGe := bo_geI
theorem hu65 {k : Nat} {A : Around} (r : Room k A) : A.units + 65 < cLine := by have := r.un; omega
/-! ### keyword arguments alone -/
theorem pe_callK0 {CX : CXT} {k : Nat} {f : Addr} {fd : FuncData} {ps ks : List Str} {sp : Sp} {g : List Value → List Value → List Value} {gV : List V → List V → List V} {E : XK} {x : Str} {kws : List Keyword} {tk : TA} {p pos : Pos}
    (F : FnOk X.prog X.w X.K X.mg X.base CX k f fd ps sp) (hr : Room k X.A) (hg : Gl X x) (hm : X.mg x = some (.ref f)) (hk : PySem.W.keepIn X.K (.ref f) = true) (hb : KBinds X.K fd ps ks g gV) (hx : Passes CX X E)
    (hkw : PK X kws tk) (hall : (backToKw pos (keywordEach kws X.env)).all (·.1.isSome) = true := by rfl) (hks : (backToKw pos (keywordEach kws X.env)).filterMap (·.1) = ks := by rfl)
    (hdb : (x == ("__debug__" : Str)) = false := by decide)
    (hpl : ((backTo pos (starEach [] X.env)).any (·.1) || (backToKw pos (keywordEach kws X.env)).any (·.1.isNone)) = false := by rfl) :
    PE X (.Call (.Name x p) [] kws pos) (tCallK sp gV E tNil tk) := by
  refine ⟨fun pins s σ H Q I h => ?_⟩
  refine wpAny_Call_Name_kw (ld_glob I hg hm ?_ hdb)
  refine PySem.W.callWith_KW0 (h₀ := X.base) I.ok.mod.kin hk hall (thn (hkw.run pos pins s σ H _ I h) fun ws s2 ⟨zs, H2, I2, rz, q2⟩ => ⟨I2.kIn, ?_⟩) hpl
  rw [hks]
  exact run_fnk F hr hb hx I2 .nil rz q2
structure JK (X : Cx) (kws : List Keyword) (m : MA) : Prop where
  pk : PK X kws (tMA m)
theorem PK.weak {kws : List Keyword} {t t' : TA} (h : PK X kws t) (w : ∀ σ H Q, t' σ H Q → t σ H Q) : PK X kws t' := ⟨fun pos pins s σ H Q I q => h.run pos pins s σ H Q I (w σ H Q q)⟩
theorem jk_nil : JK X [] mNil := ⟨PK.weak pk_nil fun σ H Q h => by
  obtain ⟨ow, env, rs, env', ok, e, q⟩ := h
  cases e
  exact q [] H ow ok .refl rfl⟩
theorem jk_cons {nm : Option Str} {e : Expr} {kpos : Pos} {kws : List Keyword} {m : ME} {r : MA} (ha : JE X e m) (hr : JK X kws r) : JK X (⟨nm, e, kpos⟩ :: kws) (mCons m r) :=
  ⟨PK.weak (pk_cons ha.pe hr.pk) fun σ H Q h => by
    obtain ⟨ow, env, rs, env', ok, e, q⟩ := h
    unfold mCons at e
    split at e
    rotate_left
    · cases e
    rename_i x env1 h1
    split at e
    rotate_left
    · cases e
    rename_i xs env2 h2
    cases e
    refine ⟨ow, env, x, env1, ok, h1, fun v H1 ow1 p1 => ?_⟩
    refine ⟨ow1, env1, xs, _, p1.ok, h2, fun vs H2 ow2 ok2 c2 rr => ?_⟩
    exact q (v :: vs) H2 ow2 ok2 (p1.calm.trans c2) ⟨v, vs, H1, rfl, p1.rep.later c2, fun a z => p1.calm.gone z, fun w a e1 e2 => by subst e1 e2; exact RepT.there p1.rep, rr⟩⟩
/-- the order of the def's parameters: place i of the result is given by ix -/
def permD (ix : List Nat) (ds : List D) : List D := ix.map fun i => ds.getD i .none
def permV (ix : List Nat) (vs : List V) : List V := ix.map fun i => vs.getD i .non
theorem Reps.perm {H : Hp} {ow : Ow} {ds : List D} {vs : List V} (r : Reps H ow ds vs) : ∀ ix : List Nat, (∀ i ∈ ix, i < ds.length) → Reps H ow (permD ix ds) (permV ix vs)
  | [], _ => Reps.nil
  | i :: ix, h => by
    have hi := h i List.mem_cons_self
    obtain ⟨v, hv, q⟩ := r.get (List.getElem?_eq_getElem hi)
    unfold permD permV
    rw [List.map_cons, List.map_cons]
    refine Reps.cons ?_ (Reps.perm r ix fun j hj => h j (List.mem_cons_of_mem _ hj))
    rw [List.getD_eq_getElem?_getD, List.getElem?_eq_getElem hi, List.getD_eq_getElem?_getD, hv]
    exact q
def permΦ (Φ : FP) (ix : List Nat) : FP := fun ds => if ix.all (fun i => decide (i < ds.length)) = true then Φ (permD ix ds) else none
theorem spP.perm {Φ : FP} {ix : List Nat} {n : Nat} {vs : List V} {H : Hp} {Q : VK} {E : XK} (h : spP (permΦ Φ ix) n vs H Q E) : spP Φ ix.length (permV ix vs) H Q E := by
  obtain ⟨ow, ds, w, a, b, c, d, e, f⟩ := h
  unfold permΦ at e
  split at e
  · rename_i hi
    refine ⟨ow, permD ix ds, w, a, b, c.perm ix fun i hi' => of_decide_eq_true (List.all_eq_true.mp hi i hi'), by unfold permD; simp, e, f⟩
  · cases e
theorem je_callPK0 {Φ : FP} {n k : Nat} {ix : List Nat} {f : Addr} {fd : FuncData} {ps ks : List Str} {x : Str} {kws : List Keyword} {ma : MA} {p pos : Pos} {g : List Value → List Value → List Value}
    (F : FnOk X.prog X.w X.K X.mg X.base CX0 k f fd ps (spP Φ ix.length)) (hr : Room k X.A) (hg : Gl X x) (hm : X.mg x = some (.ref f)) (hk : PySem.W.keepIn X.K (.ref f) = true) (hb : KBinds X.K fd ps ks g (fun us ws => permV ix (us ++ ws))) (ha : JK X kws ma)
    (hall : (backToKw pos (keywordEach kws X.env)).all (·.1.isSome) = true := by rfl) (hks : (backToKw pos (keywordEach kws X.env)).filterMap (·.1) = ks := by rfl)
    (hdb : (x == ("__debug__" : Str)) = false := by decide)
    (hpl : ((backTo pos (starEach [] X.env)).any (·.1) || (backToKw pos (keywordEach kws X.env)).any (·.1.isNone)) = false := by rfl) :
    JE X (.Call (.Name x p) [] kws pos) (mCallP (permΦ Φ ix) n ma) :=
  ⟨PE.weak (pe_callK0 F hr hg hm hk hb pass0 ha.pk hall hks hdb hpl) fun σ H Q h => tMA_mono (callP_of (E := fun _ _ _ => False) h) fun vs H1 q => by
    exact show spP Φ ix.length (permV ix vs) H1 Q _ from spP.perm q⟩
def mCat (a b : MA) : MA := fun env => match a env with
  | some (rs, env1) => match b env1 with
    | some (ss, env2) => some (rs ++ ss, env2)
    | none => none
  | none => none
/-! ### the end: law(script) -/
/-- the script stands, known -/
def Scr (K : PySem.W.Frag) (H : Hp) (a : Addr) (ns : List Int) : Prop := (∃ o, H a = some (.frz o (.lst (ns.map V.int)))) ∨ (∃ (o : Obj) (its : Array Value) (n : Nat), K.lookup a = some o ∧ o.cls = .type "list" ∧ o.dict = none ∧ o.data = .seq its n ∧ its.size ≤ sizeLine ∧ Vals (ns.map V.int) its.toList)
theorem Scr.seq {K : PySem.W.Frag} {H : Hp} {a : Addr} {ns : List Int} (h : Scr K H a ns) : SqL K H a (ns.map V.int) := h.imp (fun ⟨o, h⟩ => .inr ⟨o, h⟩) id
theorem Scr.of {K : PySem.W.Frag} {H : Hp} {a : Addr} {ns : List Int} (ho : Only H) (h : SqL K H a (ns.map V.int)) : Scr K H a ns := by
  rcases h with (h | ⟨o, h⟩) | h
  · rcases ho a with z | ⟨o, xs, z⟩
    · rw [z] at h; cases h
    · rw [z] at h; cases h
  · exact .inl ⟨o, h⟩
  · exact .inr h
theorem Scr.later {pins : List (Addr × Obj)} {σ : St} {H : Hp} {s : Shared} {a : Addr} {ns : List Int} (I : Inv X pins σ H s) (h : Scr X.K X.H_0 a ns) : Scr X.K H a ns := by
  rcases h with ⟨o, h⟩ | h
  · exact .inl ⟨o, I.base.frzs a o _ h⟩
  · exact .inr h
end L2.Z

namespace L2.Z
open PySem PySem.Spec PyProof.Rows
variable {X : Cx} {k : Bool}
/-! ### x += e, x -= e for ints -/
def mAug (f : Int → Int → Int) (i : Nat) (m : ME) : MS := fun env => match env[i]? with
  | some (some (.d (.int a))) => match m env with
    | some (r, env1) => match cont env1 r with
      | some (.int b) => some (.nx, env1.set i (some (.d (.int (f a b)))))
      | _ => none
    | none => none
  | _ => none
def mAugAdd : Nat → ME → MS := mAug fun a b => a + b
def mAugSub : Nat → ME → MS := mAug fun a b => a - b
theorem Ok.setInt {H : Hp} {ow : Ow} {σ : St} {env : Env} (ok : Ok H ow σ env) (i : Nat) (n : Int) (hi : ∃ v, σ[i]? = some v) : Ok H ow (σ.set i (some (.int n))) (env.set i (some (.d (.int n)))) := by
  refine ⟨ok.wf, fun j w hj => ?_, by rw [List.length_set, List.length_set]; exact ok.len⟩
  obtain ⟨v0, hv0⟩ := hi
  have hlt := (List.getElem?_eq_some_iff.mp hv0).1
  rcases set_slot hj with ⟨rfl, e, _⟩ | ⟨ne, e⟩
  · cases e
    exact ⟨_, List.getElem?_set_self hlt, by show Rep H ow (.int n) (.int n); rw [Rep]⟩
  · obtain ⟨v, hv, q⟩ := ok.slot j w e
    exact ⟨v, by rw [List.getElem?_set_ne ne]; exact hv, q⟩
theorem aug_of {f : Int → Int → Int} {i : Nat} {x : Str} {e : Expr} {m : ME} {op : Operator} {p pos : Pos} (ho : PIp X op (ipI f)) (hN : X.N.Nodup) (h : JE X e m) (hk : k = true → i ≠ 0) (hi : X.N[i]? = some x) (hx : Loc X.env.scope x) (hf : X.fn x = true ∨ X.env.scope.names.lookup x = some .local) : JS X k (.AugAssign (.Name x p) op e pos) (mAug f i m) :=
  ⟨PS.weak (ps_aug hN hi hx h.pe ho hf) fun D σ H hh => by
    obtain ⟨ow, env, fl, env', ok, e, q⟩ := hh
    unfold mAug at e
    split at e
    rotate_left
    · cases e
    rename_i a ha
    split at e
    rotate_left
    · cases e
    rename_i r env1 h1
    split at e
    rotate_left
    · cases e
    rename_i b hb
    cases e
    obtain ⟨v, hv, rv⟩ := ok.slot i _ ha
    have rv : Rep H ow (.int a) v := rv
    rw [Rep] at rv
    subst rv
    refine ⟨_, hv, ow, env, r, env1, ok, h1, fun y H1 ow1 p1 => ?_⟩
    have ry := repI (cont_rep p1.rep .refl p1.ok hb)
    subst ry
    refine ⟨a, b, rfl, rfl, ?_⟩
    exact q _ H1 ow1 (p1.ok.setInt i _ ⟨_, hv⟩) p1.calm fun hk' => by rw [List.getElem?_set_ne (hk hk')]⟩
theorem jaugAdd (i : Nat) {x : Str} {e : Expr} {m : ME} {p pos : Pos} (hN : X.N.Nodup) (h : JE X e m) (hk : k = true → i ≠ 0 := by decide) (hi : X.N[i]? = some x := by rfl) (hx : Loc X.env.scope x := by first | exact Or.inl rfl | exact Or.inr rfl)
    (hf : X.fn x = true ∨ X.env.scope.names.lookup x = some .local := by first | exact .inl rfl | exact .inr rfl) : JS X k (.AugAssign (.Name x p) .Add e pos) (mAugAdd i m) := aug_of ip_add hN h hk hi hx hf
theorem jaugSub (i : Nat) {x : Str} {e : Expr} {m : ME} {p pos : Pos} (hN : X.N.Nodup) (h : JE X e m) (hk : k = true → i ≠ 0 := by decide) (hi : X.N[i]? = some x := by rfl) (hx : Loc X.env.scope x := by first | exact Or.inl rfl | exact Or.inr rfl)
    (hf : X.fn x = true ∨ X.env.scope.names.lookup x = some .local := by first | exact .inl rfl | exact .inr rfl) : JS X k (.AugAssign (.Name x p) .Sub e pos) (mAugSub i m) := aug_of ip_sub hN h hk hi hx hf
/-! ### the draw source -/
def srcAt (env : Env) (j : Nat) : Option (List Int × List Int) := match env[j]? with
  | some (some (.src cs rs)) => some (cs, rs)
  | _ => none
theorem srcAt_eq {env : Env} {j : Nat} {cs rs : List Int} (h : srcAt env j = some (cs, rs)) : env[j]? = some (some (.src cs rs)) := by
  unfold srcAt at h
  split at h
  · rename_i x y hy; cases h; exact hy
  · cases h
theorem src_var {env : Env} {j : Nat} {cs rs : List Int} (h : srcAt env j = some (cs, rs)) : mVar j env = some (.var j, env) := by
  unfold mVar
  rw [srcAt_eq h]
theorem Ok.writeW {H0 H : Hp} {ow0 ow : Ow} {σ : St} {env : Env} {j : Nat} {p : Addr} {us : List V} {v : V} {w' : W} (ok : Ok H ow σ env) (c : Calm H0 ow0 H ow) (hp : ow p = some (some j)) (hv : σ[j]? = some (some v)) (r : RepW (upd H p (.lst us)) ow j w' v) :
    Ok (upd H p (.lst us)) ow σ (env.set j (some w')) ∧ Calm H0 ow0 (upd H p (.lst us)) ow := by
  have hne : ow p ≠ none := by rw [hp]; simp
  have kp : Keeps H ow (upd H p (.lst us)) ow := write_keeps hne
  refine ⟨⟨fun b hb => ?_, fun i w hi => ?_, by rw [List.length_set]; exact ok.len⟩, fun b o hb nb => ?_, fun b o hb => ?_, c.slot⟩
  · obtain ⟨o, ho⟩ := ok.wf b hb
    by_cases e : b = p
    · subst e; exact ⟨_, upd_same⟩
    · exact ⟨o, by rw [upd_ne e]; exact ho⟩
  · rcases set_slot hi with ⟨rfl, e, hl⟩ | ⟨ne, e⟩
    · cases e
      exact ⟨_, hv, r⟩
    · obtain ⟨v2, hv2, q⟩ := ok.slot i w e
      refine ⟨v2, hv2, RepW.mono kp (fun b u hb ob => ⟨?_, ob⟩) q⟩
      have e : b ≠ p := by
        rintro rfl; rw [hp] at ob
        injection ob with ob; injection ob with ob
        exact ne ob
      rw [upd_ne e]; exact hb
  · obtain ⟨h1, h2⟩ := c.at' b o hb nb
    have e : b ≠ p := by
      rintro rfl; rw [hp] at h2
      exact nb j h2.symm
    exact ⟨by rw [upd_ne e]; exact h1, h2⟩
  · obtain ⟨o', ho'⟩ := c.grow b o hb
    by_cases e : b = p
    · subst e; exact ⟨_, upd_same⟩
    · exact ⟨o', by rw [upd_ne e]; exact ho'⟩
/-- the parts of a source at slot j -/
structure At (H : Hp) (ow : Ow) (σ : St) (j : Nat) (a b : Addr) (cs rs : List Int) : Prop where
  sl : σ[j]? = some (some (.ref a))
  ha : H a = some (.lst (V.ref b :: rs.map V.int))
  hb : H b = some (.lst (cs.map V.int))
  na : ow a = some (some j)
  nb : ow b = some (some j)
  ne : a ≠ b
theorem src_at {H : Hp} {ow : Ow} {σ : St} {env : Env} {j : Nat} {cs rs : List Int} (ok : Ok H ow σ env) (h : srcAt env j = some (cs, rs)) : ∃ a b, At H ow σ j a b cs rs := by
  obtain ⟨v, hv, a, b, rfl, ha, hb, na, nb, ne⟩ := ok.slot j _ (srcAt_eq h)
  exact ⟨a, b, hv, ha, hb, na, nb, ne⟩
theorem at_same {H : Hp} {ow : Ow} {σ : St} {j : Nat} {a a' b b' : Addr} {H' : Hp} {ow' : Ow} {cs rs cs' rs' : List Int} (h : At H ow σ j a b cs rs) (h' : At H' ow' σ j a' b' cs' rs') : a' = a := by
  have := h.sl.symm.trans h'.sl
  cases this; rfl
/-- deal[n], a register -/
def mReg (j : Nat) (i : Int) : ME := fun env => match srcAt env j with
  | some (_, rs) => if 1 ≤ i then (match rs[(i - 1).toNat]? with
    | some n => some (.val (.d (.int n)), env)
    | none => none) else none
  | none => none
theorem je_reg {j n0 : Nat} {i : Int} {x : Str} {p p1 pos : Pos} (hN : X.N[j]? = some x) (hv : Vis X.env.scope x)
    (hd : (x == ("__debug__" : Str)) = false := by decide) (hcd : (x == ("__classdict__" : Str)) = false := by decide) (hs : PlainIx (.Constant (.int i) n0 p1) := by intro _ _; rfl) : JE X (.Subscript (.Name x p) (.Constant (.int i) n0 p1) pos) (mReg j i) :=
  ⟨PE.weak (pe_ix ix_list (pe_var hN hv hd hcd) pe_int hs) fun σ H Q h => by
    obtain ⟨ow, env, rr, env', ok, e, q⟩ := h
    unfold mReg at e
    split at e
    rotate_left
    · cases e
    rename_i cs rs h2
    split at e
    rotate_left
    · cases e
    rename_i hi
    split at e
    rotate_left
    · cases e
    rename_i n hn
    cases e
    obtain ⟨a, b, A⟩ := src_at ok h2
    refine ⟨_, A.sl, a, _, i, .int n, rfl, rfl, SqL.of A.ha, ?_, q _ H ow ⟨ok, .refl, rpI (H := H) (ow := ow)⟩⟩
    have hl : (i - 1).toNat < rs.length := (List.getElem?_eq_some_iff.mp hn).1
    have e0 : i = (((i - 1).toNat + 1 : Nat) : Int) := by omega
    rw [e0]
    refine atI_nat ?_
    rw [List.getElem?_cons_succ, List.getElem?_map, hn]
    rfl⟩
/-- deal[0] and what is done with it -/
theorem s0_of {j : Nat} {σ : St} {H : Hp} {ow : Ow} {a b : Addr} {cs rs : List Int} {Q : VK} (A : At H ow σ j a b cs rs) (q : Q (.ref b) H) :
    tOp (rIxL X.K) (tVar j) (tC (.int 0)) σ H Q :=
  ⟨_, A.sl, a, _, 0, .ref b, rfl, rfl, SqL.of A.ha, atI_nat (xs := V.ref b :: rs.map V.int) (j := 0) (v := V.ref b) rfl, q⟩
theorem ds_ints {K : PySem.W.Frag} {H : Hp} : ∀ ns : List Int, DpAll K H (ns.map V.int) (ns.map PyData.int)
  | [] => .nil
  | n :: ns => .cons (.int n) (ds_ints ns)
theorem lay_ints : ∀ ns : List Int, PyData.canLayAll0 (ns.map PyData.int) = true
  | [] => by rw [List.map_nil, PyData.canLayAll0]
  | n :: ns => by rw [List.map_cons, PyData.canLayAll0, lay_ints ns, PyData.canLay0]; rfl
theorem depth_ints : ∀ ns : List Int, PyData.depthAll (ns.map PyData.int) ≤ 1
  | [] => by rw [List.map_nil, PyData.depthAll]; omega
  | n :: ns => by
    have := depth_ints ns
    rw [List.map_cons, PyData.depthAll, PyData.depth]
    omega
theorem shaped_ints (ns : List Int) : SeqAt.shaped (.list (ns.map .int)) = true := by
  unfold SeqAt.shaped
  rw [PyData.canLay0, PyData.depth, lay_ints ns, Bool.true_and]
  have := depth_ints ns
  exact decide_eq_true (by omega)
/-- deal[0] != [] -/
def mSrcNe (j : Nat) : ME := fun env => match srcAt env j with
  | some (cs, _) => some (.val (.d (.bool (!cs.isEmpty))), env)
  | none => none
theorem eqv_ints (ns : List Int) : PyData.eqv (.list (ns.map .int)) (.list []) = ns.isEmpty := by
  cases ns with
  | nil => simp [PyData.eqv, PyData.eqvAll]
  | cons n ns => simp [PyData.eqv, PyData.eqvAll]
theorem mk_bl {X : Cx} {H : Hp} {ow : Ow} {b : Bool} : Rep H ow (.bool b) (.bl b) := by rw [Rep]
theorem je_srcNe {j n0 : Nat} {x : Str} {p p1 p2 p3 pos : Pos} (hu : X.A.units + 64 < cLine) (hN : X.N[j]? = some x) (hv : Vis X.env.scope x)
    (hd : (x == ("__debug__" : Str)) = false := by decide) (hcd : (x == ("__classdict__" : Str)) = false := by decide)
    (hs : PlainIx (.Constant (.int 0) n0 p1) := by intro _ _; rfl) (hm : behindInMarks .NotEq (.List [] p3) = false := by rfl) : JE X (.Compare (.Subscript (.Name x p) (.Constant (.int 0) n0 p1) p2) [.NotEq] [.List [] p3] pos) (mSrcNe j) :=
  ⟨PE.weak (pe_cmpR (op_neD hu) (pe_ix ix_list (pe_var hN hv hd hcd) pe_int hs) (pe_lst pa_nil) hm) fun σ H Q h => by
    obtain ⟨ow, env, rr, env', ok, e, q⟩ := h
    unfold mSrcNe at e
    split at e
    rotate_left
    · cases e
    rename_i cs rs h0
    cases e
    obtain ⟨a, b, A⟩ := src_at ok h0
    refine s0_of A ?_
    refine ⟨by show 0 ≤ sizeLine; decide, fun r hr => ?_⟩
    have n1 : New H ow (upd H r (.lst [])) (setOw ow r none) := New.made none hr
    refine ⟨.list (cs.map .int), .list [], .lst (SqL.of (n1.same _ _ A.hb).1) (ds_ints cs), .lst (SqL.of upd_same) .nil, shaped_ints cs, shaped_ints [], ?_⟩
    rw [eqv_ints]
    exact q _ _ _ ⟨n1.ok ok, n1.calm, rpB (H := upd H r (.lst [])) (ow := setOw ow r none)⟩⟩
theorem jt_srcNe {j n0 : Nat} {x : Str} {p p1 p2 p3 pos : Pos} (hu : X.A.units + 64 < cLine) (hN : X.N[j]? = some x) (hv : Vis X.env.scope x)
    (hd : (x == ("__debug__" : Str)) = false := by decide) (hcd : (x == ("__classdict__" : Str)) = false := by decide)
    (hs : PlainIx (.Constant (.int 0) n0 p1) := by intro _ _; rfl) (hm : behindInMarks .NotEq (.List [] p3) = false := by rfl) : JT X (.Compare (.Subscript (.Name x p) (.Constant (.int 0) n0 p1) p2) [.NotEq] [.List [] p3] pos) (mTest (mSrcNe j)) :=
  ⟨PT.weak (pt_cmpR (op_neD hu) (pe_ix ix_list (pe_var hN hv hd hcd) pe_int hs) (pe_lst pa_nil) hm) fun σ H Q h => by
    obtain ⟨ow, env, rr, env', ok, e, q⟩ := h
    unfold mTest mSrcNe at e
    cases h0 : srcAt env j with
    | none => rw [h0] at e; cases e
    | some z =>
      obtain ⟨cs, rs⟩ := z
      rw [h0] at e
      cases e
      obtain ⟨a, b, A⟩ := src_at ok h0
      refine s0_of A ?_
      refine ⟨by show 0 ≤ sizeLine; decide, fun r hr => ?_⟩
      have n1 : New H ow (upd H r (.lst [])) (setOw ow r none) := New.made none hr
      refine ⟨.list (cs.map .int), .list [], .lst (SqL.of (n1.same _ _ A.hb).1) (ds_ints cs), .lst (SqL.of upd_same) .nil, shaped_ints cs, shaped_ints [], ?_⟩
      rw [eqv_ints]
      exact ⟨_, rfl, q _ _ (n1.ok ok) n1.calm⟩⟩
/-- deal[0][-1] -/
def mSrcLast (j : Nat) : ME := fun env => match srcAt env j with
  | some (cs, _) => match atI cs (-1) with
    | some n => some (.val (.d (.int n)), env)
    | none => none
  | none => none
theorem atI_map {f : Int → V} {cs : List Int} {i n : Int} (h : atI cs i = some n) : atI (cs.map f) i = some (f n) := by
  unfold atI at h ⊢
  rw [List.length_map]
  cases q : ixN cs.length i with
  | none => rw [q] at h; cases h
  | some m =>
    rw [q] at h
    show (cs.map f)[m]? = some (f n)
    have h : cs[m]? = some n := h
    rw [List.getElem?_map, h]
    rfl
theorem je_srcLast {j n0 n1 : Nat} {x : Str} {p p1 p2 p3 p4 pos : Pos} (hN : X.N[j]? = some x) (hv : Vis X.env.scope x)
    (hd : (x == ("__debug__" : Str)) = false := by decide) (hcd : (x == ("__classdict__" : Str)) = false := by decide)
    (hs : PlainIx (.Constant (.int 0) n0 p1) := by intro _ _; rfl) (hs2 : PlainIx (.UnaryOp .USub (.Constant (.int 1) n1 p3) p4) := by intro _ _; rfl) : JE X (.Subscript (.Subscript (.Name x p) (.Constant (.int 0) n0 p1) p2) (.UnaryOp .USub (.Constant (.int 1) n1 p3) p4) pos) (mSrcLast j) :=
  ⟨PE.weak (pe_ix ix_list (pe_ix ix_list (pe_var hN hv hd hcd) pe_int hs) (pe_un un_neg pe_int) hs2) fun σ H Q h => by
    obtain ⟨ow, env, rr, env', ok, e, q⟩ := h
    unfold mSrcLast at e
    split at e
    rotate_left
    · cases e
    rename_i cs rs h0
    split at e
    rotate_left
    · cases e
    rename_i n hn
    cases e
    obtain ⟨a, b, A⟩ := src_at ok h0
    refine s0_of A ?_
    exact ⟨1, rfl, b, _, -1, .int n, rfl, rfl, SqL.of A.hb, atI_map hn, q _ H ow ⟨ok, .refl, rpI (H := H) (ow := ow)⟩⟩⟩
theorem At.cells {H : Hp} {ow : Ow} {σ : St} {j : Nat} {a b : Addr} {cs cs' rs : List Int} (A : At H ow σ j a b cs rs) : RepW (upd H b (.lst (cs'.map V.int))) ow j (.src cs' rs) (.ref a) :=
  ⟨a, b, rfl, by rw [upd_ne A.ne]; exact A.ha, upd_same, A.na, A.nb, A.ne⟩
/-- deal[0].pop() -/
def mSrcPop (j : Nat) : ME := fun env => match srcAt env j with
  | some (cs, rs) => match cs[cs.length - 1]? with
    | some n => some (.val (.d (.int n)), env.set j (some (.src cs.dropLast rs)))
    | none => none
  | none => none
theorem je_srcPop {j n0 : Nat} {x : Str} {p p1 p2 apos cpos : Pos} (hN : X.N[j]? = some x) (hv : Vis X.env.scope x)
    (hd : (x == ("__debug__" : Str)) = false := by decide) (hcd : (x == ("__classdict__" : Str)) = false := by decide)
    (hs : PlainIx (.Constant (.int 0) n0 p1) := by intro _ _; rfl)
    (hbase : attributeBase (.Subscript (.Name x p) (.Constant (.int 0) n0 p1) p2) "pop" X.env (eval (.Subscript (.Name x p) (.Constant (.int 0) n0 p1) p2) X.env) = eval (.Subscript (.Name x p) (.Constant (.int 0) n0 p1) p2) X.env := by rfl) (hline : (apos.endLine == cpos.line) = true := by rfl) :
    JE X (.Call (.Attribute (.Subscript (.Name x p) (.Constant (.int 0) n0 p1) p2) "pop" apos) [] [] cpos) (mSrcPop j) :=
  ⟨PE.weak (pe_bm0 PySem.F.plainAttrs_list PySem.F.slot_list_pop PySem.F.type_list_pop mt_pop (pe_ix ix_list (pe_var hN hv hd hcd) pe_int hs) hbase hline) fun σ H Q h => by
    obtain ⟨ow, env, rr, env', ok, e, q⟩ := h
    unfold mSrcPop at e
    split at e
    rotate_left
    · cases e
    rename_i cs rs h0
    split at e
    rotate_left
    · cases e
    rename_i n hn
    cases e
    obtain ⟨a, b, A⟩ := src_at ok h0
    refine s0_of A ?_
    refine ⟨.inl ⟨rfl, _, SqL.of A.hb⟩, b, _, .int n, rfl, rfl, A.hb, by rw [List.length_map, List.getElem?_map, hn]; rfl, ?_⟩
    rw [← List.map_dropLast]
    obtain ⟨ok', c'⟩ := Ok.writeW (us := cs.dropLast.map V.int) (w' := .src cs.dropLast rs) ok .refl A.nb A.sl A.cells
    exact q _ _ ow ⟨ok', c', rpI (H := upd H b (.lst (cs.dropLast.map V.int))) (ow := ow)⟩⟩
/-- deal[0].append(u // v), u and v names -/
def mSrcPut (j u v : Nat) : ME := fun env => match srcAt env j with
  | some (cs, rs) => match env[u]?, env[v]? with
    | some (some (.d (.int s))), some (some (.d (.int t))) => if cDiv s t = true ∧ cs.length < lenLine then some (.val (.d .none), env.set j (some (.src (cs ++ [s / t]) rs))) else none
    | _, _ => none
  | none => none
theorem je_srcPut {j u v n0 : Nat} {x y z : Str} {p p1 p2 q1 q2 q3 apos cpos : Pos} (hN : X.N[j]? = some x) (hv : Vis X.env.scope x) (hNu : X.N[u]? = some y) (hvu : Vis X.env.scope y) (hNv : X.N[v]? = some z) (hvv : Vis X.env.scope z)
    (hd : (x == ("__debug__" : Str)) = false := by decide) (hcd : (x == ("__classdict__" : Str)) = false := by decide) (hd2 : (y == ("__debug__" : Str)) = false := by decide) (hcd2 : (y == ("__classdict__" : Str)) = false := by decide) (hd3 : (z == ("__debug__" : Str)) = false := by decide) (hcd3 : (z == ("__classdict__" : Str)) = false := by decide)
    (hs : PlainIx (.Constant (.int 0) n0 p1) := by intro _ _; rfl)
    (hbase : attributeBase (.Subscript (.Name x p) (.Constant (.int 0) n0 p1) p2) "append" X.env (eval (.Subscript (.Name x p) (.Constant (.int 0) n0 p1) p2) X.env) = eval (.Subscript (.Name x p) (.Constant (.int 0) n0 p1) p2) X.env := by rfl)
    (hfew : ((backTo cpos (starEach [.BinOp (.Name y q1) .FloorDiv (.Name z q2) q3] X.env)).all (fun x => !x.1) && (backToKw cpos (keywordEach [] X.env)).all (fun x => x.1.isSome) && decide (([.BinOp (.Name y q1) .FloorDiv (.Name z q2) q3] : List Expr).length + ([] : List Keyword).length + (if ([] : List Keyword).isEmpty then 0 else 1) < 30)) = true := by rfl)
    (hline : (apos.endLine == cpos.line) = true := by rfl) (hst : starEach [.BinOp (.Name y q1) .FloorDiv (.Name z q2) q3] X.env = (false, eval (.BinOp (.Name y q1) .FloorDiv (.Name z q2) q3) X.env) :: starEach [] X.env := by rfl) (hplain : (backTo cpos (starEach [] X.env)).any (·.1) = false := by rfl) :
    JE X (.Call (.Attribute (.Subscript (.Name x p) (.Constant (.int 0) n0 p1) p2) "append" apos) [.BinOp (.Name y q1) .FloorDiv (.Name z q2) q3] [] cpos) (mSrcPut j u v) :=
  ⟨PE.weak (pe_bm PySem.F.plainAttrs_list PySem.F.slot_list_append PySem.F.type_list_append mt_append (pe_ix ix_list (pe_var hN hv hd hcd) pe_int hs) (pa_cons (pe_op op_fdivW (pe_var hNu hvu hd2 hcd2) (pe_var hNv hvv hd3 hcd3)) pa_nil hst) hbase hfew hline hst hplain) fun σ H Q h => by
    obtain ⟨ow, env, rr, env', ok, e, q⟩ := h
    unfold mSrcPut at e
    split at e
    rotate_left
    · cases e
    rename_i cs rs h0
    split at e
    rotate_left
    · cases e
    rename_i s t hsu htv
    split at e
    rotate_left
    · cases e
    rename_i hc
    cases e
    obtain ⟨a, b, A⟩ := src_at ok h0
    obtain ⟨v1, hv1, r1⟩ := ok.slot u _ hsu
    obtain ⟨v2, hv2, r2⟩ := ok.slot v _ htv
    have r1 : Rep H ow (.int s) v1 := r1
    have r2 : Rep H ow (.int t) v2 := r2
    rw [Rep] at r1 r2
    subst r1 r2
    refine s0_of A ?_
    refine ⟨.inl ⟨rfl, _, SqL.of A.hb⟩, _, hv1, _, hv2, s, t, rfl, rfl, cDiv_ok hc.1, ?_⟩
    refine ⟨b, _, .int (s / t), rfl, rfl, A.hb, ?_, ?_⟩
    · rw [List.length_map, sizeLine_eq]; have := hc.2; unfold lenLine at this; omega
    have e2 : cs.map V.int ++ [V.int (s / t)] = (cs ++ [s / t]).map V.int := by rw [List.map_append]; rfl
    rw [e2]
    obtain ⟨ok', c'⟩ := Ok.writeW (us := (cs ++ [s / t]).map V.int) (w' := .src (cs ++ [s / t]) rs) ok .refl A.nb A.sl A.cells
    exact q _ _ ow ⟨ok', c', rpN (H := upd H b (.lst ((cs ++ [s / t]).map V.int))) (ow := ow)⟩⟩
/-- deal[i] = e, a register -/
def mSetReg (j : Nat) (i : Int) (m : ME) : MS := fun env => match m env with
  | some (.val (.d (.int n)), env1) => match srcAt env1 j with
    | some (cs, rs) => if 1 ≤ i ∧ (i - 1).toNat < rs.length then some (.nx, env1.set j (some (.src cs (rs.set (i - 1).toNat n)))) else none
    | none => none
  | _ => none
theorem js_setReg {j n0 : Nat} {i : Int} {x : Str} {e : Expr} {me : ME} {p1 p3 p2 pos : Pos} (hN : X.N[j]? = some x) (hv : Vis X.env.scope x) (he : JE X e me)
    (hd : (x == ("__debug__" : Str)) = false := by decide) (hcd : (x == ("__classdict__" : Str)) = false := by decide)
    (hs : swapsWithSole [.Subscript (.Name x p1) (.Constant (.int i) n0 p3) p2] e pos.line X.env = pure false := by rfl) (hw : swappedStores [.Subscript (.Name x p1) (.Constant (.int i) n0 p3) p2] e X.env = pure none := by rfl)
    (h1 : (assignEach [.Subscript (.Name x p1) (.Constant (.int i) n0 p3) p2] X.env).map (·.2) = [assign (.Subscript (.Name x p1) (.Constant (.int i) n0 p3) p2) X.env] := by rfl)
    (ha : ∀ v, assign (.Subscript (.Name x p1) (.Constant (.int i) n0 p3) p2) X.env v = (do
      let ov ← holding [v] (eval (.Name x p1) X.env)
      let iv ← holding [v, ov] (eval (.Constant (.int i) n0 p3) X.env)
      standAt p2
      holding [v, ov, iv] (setItem ov iv v)
      release [v, ov, iv] []) := by intro _; rfl) : JS X k (.Assign [.Subscript (.Name x p1) (.Constant (.int i) n0 p3) p2] e pos) (mSetReg j i me) :=
  ⟨PS.weak (ps_asg he.pe (pg_sub (pe_var hN hv hd hcd) pe_int set_list ha) hs hw h1) fun D σ H hh => by
    obtain ⟨ow, env, fl, env', ok, e, q⟩ := hh
    unfold mSetReg at e
    split at e
    rotate_left
    · cases e
    rename_i n env1 h1
    split at e
    rotate_left
    · cases e
    rename_i cs rs h0
    split at e
    rotate_left
    · cases e
    rename_i hi
    cases e
    refine ⟨ow, env, _, env1, ok, h1, fun v H1 ow1 p1 => ?_⟩
    have e2 := repI (H := H1) (ow := ow1) (Rep.c (d := .int n) p1.rep)
    subst e2
    obtain ⟨a, b, A⟩ := src_at p1.ok h0
    have e0 : i = (((i - 1).toNat + 1 : Nat) : Int) := by omega
    refine ⟨_, A.sl, a, _, i, (i - 1).toNat + 1, rfl, rfl, A.ha, ?_, ?_⟩
    · unfold ixN
      have h2 := hi.2
      rw [List.length_cons, List.length_map, if_pos (by omega), if_pos (by omega)]
      congr 1
      omega
    have e3 : (V.ref b :: rs.map V.int).set ((i - 1).toNat + 1) (V.int n) = V.ref b :: (rs.set (i - 1).toNat n).map V.int := by
      rw [List.set_cons_succ, List.map_set]
    rw [e3]
    have r : RepW (upd H1 a (.lst (V.ref b :: (rs.set (i - 1).toNat n).map V.int))) ow1 j (.src cs (rs.set (i - 1).toNat n)) (.ref a) :=
      ⟨a, b, rfl, upd_same, by rw [upd_ne (Ne.symm A.ne)]; exact A.hb, A.na, A.nb, A.ne⟩
    obtain ⟨ok', c'⟩ := Ok.writeW p1.ok p1.calm A.na A.sl r
    exact q σ _ ow1 ok' c' fun _ => rfl⟩
end L2.Z

namespace L2.Z
open PySem PySem.Spec PyProof.Rows
/-! ### guards -/
theorem cMul_lt {i j : Int} (a b : Nat) (hi : i.natAbs < 2 ^ a) (hj : j.natAbs < 2 ^ b) (h : a + b ≤ 1000000 := by decide) : cMul i j = true := by
  unfold cMul
  refine decide_eq_true ?_
  have f : ∀ {n a : Nat}, n < 2 ^ a → n.log2 < a + 1 ∧ (a ≠ 0 → n.log2 < a) := fun {n a} h => by
    rcases Nat.eq_zero_or_pos n with rfl | hp
    · exact ⟨by simp, fun h => by simp; omega⟩
    · have := (Nat.log2_lt (by omega)).mpr h
      exact ⟨by omega, fun _ => this⟩
  have h1 := f hi
  have h2 := f hj
  by_cases ha : a = 0
  · by_cases hb : b = 0
    · omega
    · have := h2.2 hb; omega
  · have := h1.2 ha
    by_cases hb : b = 0
    · omega
    · have := h2.2 hb; omega
theorem cDiv_lt {i j : Int} (a : Nat) (h0 : 0 < j) (hj : j < 2 ^ a) (h : a ≤ 9000 := by decide) : cDiv i j = true := by
  unfold cDiv
  rw [Bool.and_eq_true]
  refine ⟨decide_eq_true h0, decide_eq_true ?_⟩
  have e : j.natAbs < 2 ^ a := by
    have : ((j.natAbs : Nat) : Int) = j := by omega
    rw [← Int.ofNat_lt, this]
    simpa using hj
  have := (Nat.log2_lt (by omega)).mpr e
  omega
theorem cMod_pos {i j : Int} (h0 : 0 < j) : cMod i j = true := decide_eq_true h0
/-! ### turns -/
variable {X : Cx} {k : Bool}
theorem js_whileN (n : Nat) {c : Expr} {body : List Stmt} {mc : MT} {mb : MS} {pos : Pos} (hp : PassesOwn (model X.prog X.w) X.A X.env X.xe) (hc : JT X c mc) (hb : JSs X k body mb) : JS X k (.While c body [] pos) (whileM mc mb n) :=
  ⟨PS.weak (js_while hp hc hb).ps fun D σ H hh => by
    obtain ⟨ow, env, fl, env', ok, e, q⟩ := hh
    exact ⟨ow, env, fl, env', ok, mWhile_of e, q⟩⟩
theorem whn_stop {c : MT} {b : MS} {e e1 : Env} {n : Nat} (h : c e = some (false, e1)) : whileM c b (n + 1) e = some (.nx, e1) := by
  unfold whileM; rw [h]
theorem whn_turn {c : MT} {b : MS} {e e1 e2 : Env} {n : Nat} (h : c e = some (true, e1)) (hb : b e1 = some (.nx, e2)) : whileM c b (n + 1) e = whileM c b n e2 := by
  rw [whileM, h]
  simp only [hb]
theorem while_stop {c : MT} {b : MS} {e e1 : Env} (h : c e = some (false, e1)) : mWhile c b e = some (.nx, e1) :=
  mWhile_of (n := 1) (by unfold whileM; rw [h])
theorem while_turn {c : MT} {b : MS} {e e1 e2 : Env} {r : Fl × Env} (h : c e = some (true, e1)) (hb : b e1 = some (.nx, e2)) (hr : mWhile c b e2 = some r) : mWhile c b e = some r := by
  obtain ⟨n, hn⟩ := mWhile_ex hr
  refine mWhile_of (n := n + 1) ?_
  unfold whileM
  rw [h]
  simp only [hb]
  exact hn
theorem while_back {c : MT} {b : MS} {e e1 e2 : Env} {w : W} (h : c e = some (true, e1)) (hb : b e1 = some (.rt w, e2)) : mWhile c b e = some (.rt w, e2) := by
  refine mWhile_of (n := 1) ?_
  unfold whileM
  rw [h]
  simp only [hb]
theorem while_brk {c : MT} {b : MS} {e e1 e2 : Env} (h : c e = some (true, e1)) (hb : b e1 = some (.bk, e2)) : mWhile c b e = some (.nx, e2) := by
  refine mWhile_of (n := 1) ?_
  unfold whileM
  rw [h]
  simp only [hb]
theorem for_nil {g : MG} {b : MS} {e : Env} : forM' g b [] e = some (.nx, e) := rfl
theorem for_turn {g : MG} {b : MS} {d : D} {ds : List D} {e e1 e2 : Env} (h : g d e = some e1) (hb : b e1 = some (.nx, e2)) : forM' g b (d :: ds) e = forM' g b ds e2 := by
  show (match g d e with | some env1 => _ | none => _) = _
  rw [h]
  simp only [hb]
theorem for_back {g : MG} {b : MS} {d : D} {ds : List D} {e e1 e2 : Env} {w : W} (h : g d e = some e1) (hb : b e1 = some (.rt w, e2)) : forM' g b (d :: ds) e = some (.rt w, e2) := by
  show (match g d e with | some env1 => _ | none => _) = _
  rw [h]
  simp only [hb]
/-- a loop whose turns keep an invariant -/
theorem for_inv {α S : Type} {g : MG} {b : MS} (f : α → D) (E : S → Env) (step : S → α → S) (I : S → Prop) : ∀ (as : List α) (s : S), I s → (∀ a ∈ as, ∀ s, I s → I (step s a) ∧ ∃ e1, g (f a) (E s) = some e1 ∧ b e1 = some (.nx, E (step s a))) → forM' g b (as.map f) (E s) = some (.nx, E (as.foldl step s)) ∧ I (as.foldl step s)
  | [], s, hi, _ => ⟨rfl, hi⟩
  | a :: as, s, hi, h => by
    obtain ⟨h1, e1, h2, h3⟩ := h a List.mem_cons_self s hi
    rw [List.map_cons, for_turn h2 h3]
    exact for_inv f E step I as _ h1 fun x hx => h x (List.mem_cons_of_mem _ hx)
/-- the same where the turn's state is only known to be there -/
theorem for_ex {α S : Type} {g : MG} {b : MS} (f : α → D) (E : S → Env) (I : S → Prop) : ∀ (as : List α) (s : S), I s → (∀ a ∈ as, ∀ s, I s → ∃ s', I s' ∧ ∃ e1, g (f a) (E s) = some e1 ∧ b e1 = some (.nx, E s')) → ∃ s', forM' g b (as.map f) (E s) = some (.nx, E s') ∧ I s'
  | [], s, hi, _ => ⟨s, rfl, hi⟩
  | a :: as, s, hi, h => by
    obtain ⟨s1, h1, e1, h2, h3⟩ := h a List.mem_cons_self s hi
    rw [List.map_cons, for_turn h2 h3]
    exact for_ex f E I as _ h1 fun x hx => h x (List.mem_cons_of_mem _ hx)
theorem lc_nil {g : MG} {t : MT} {m : ME} {vs : List Nat} {e : Env} : lcM g t m vs [] e = some ([], e) := rfl
theorem lc_one {g : MG} {t : MT} {m : ME} {vs : List Nat} {d y : D} {ds ys : List D} {e e1 e2 e3 e4 : Env} (h : g d e = some e1) (ht : t e1 = some (true, e2)) (hm : mFz m e2 = some (.val (.d y), e3)) (hr : lcM g t m vs ds (wipeE e3 vs) = some (ys, e4)) : lcM g t m vs (d :: ds) e = some (y :: ys, e4) := by
  unfold lcM
  rw [h]
  simp only [ht, hm, hr]
theorem lc_no {g : MG} {t : MT} {m : ME} {vs : List Nat} {d : D} {ds : List D} {e e1 e2 : Env} {r : Option (List D × Env)} (h : g d e = some e1) (ht : t e1 = some (false, e2)) (hr : lcM g t m vs ds (wipeE e2 vs) = r) : lcM g t m vs (d :: ds) e = r := by
  unfold lcM
  rw [h]
  simp only [ht, hr]
/-- a comprehension that changes nothing outside -/
theorem lc_map {α : Type} {g : MG} {t : MT} {m : ME} {vs : List Nat} {e : Env} (f : α → D) (p : α → Bool) (y : α → D) : ∀ (as : List α), (∀ a ∈ as, ∃ e1 e2, g (f a) e = some e1 ∧ t e1 = some (p a, e2) ∧ (p a = false → wipeE e2 vs = e) ∧ (p a = true → ∃ e3, mFz m e2 = some (.val (.d (y a)), e3) ∧ wipeE e3 vs = e)) → lcM g t m vs (as.map f) e = some ((as.filter p).map y, e)
  | [], _ => rfl
  | a :: as, h => by
    obtain ⟨e1, e2, h1, h2, h3, h4⟩ := h a List.mem_cons_self
    have ih := lc_map (e := e) f p y as fun x hx => h x (List.mem_cons_of_mem _ hx)
    rw [List.map_cons]
    cases hp : p a with
    | true =>
      obtain ⟨e3, h5, h6⟩ := h4 hp
      rw [hp] at h2
      rw [List.filter_cons_of_pos hp, List.map_cons]
      exact lc_one h1 h2 h5 (by rw [h6]; exact ih)
    | false =>
      rw [hp] at h2
      rw [List.filter_cons_of_neg (by simp [hp])]
      exact lc_no h1 h2 (by rw [h3 hp]; exact ih)
/-- a comprehension that draws -/
theorem lc_ex {α S : Type} {g : MG} {m : ME} {vs : List Nat} (f : α → D) (E : S → Env) (I : S → Prop) (G : α → D → Prop) : ∀ (as : List α) (s : S), I s → (∀ a ∈ as, ∀ s, I s → ∃ s' y, I s' ∧ G a y ∧ ∃ e1 e3, g (f a) (E s) = some e1 ∧ mFz m e1 = some (.val (.d y), e3) ∧ wipeE e3 vs = E s') → ∃ ys s', lcM g mYes m vs (as.map f) (E s) = some (ys, E s') ∧ I s' ∧ ys.length = as.length ∧ ∀ (i : Nat) (a : α) (y : D), as[i]? = some a → ys[i]? = some y → G a y
  | [], s, hi, _ => ⟨[], s, rfl, hi, rfl, fun i a y h => by simp at h⟩
  | a :: as, s, hi, h => by
    obtain ⟨s1, y, h1, h2, e1, e3, h3, h4, h5⟩ := h a List.mem_cons_self s hi
    obtain ⟨ys, s', h6, h7, h8, h9⟩ := lc_ex f E I G as s1 h1 fun x hx => h x (List.mem_cons_of_mem _ hx)
    refine ⟨y :: ys, s', ?_, h7, by simp [h8], fun i b z hb hz => ?_⟩
    · rw [List.map_cons]
      exact lc_one h3 rfl h4 (by rw [h5]; exact h6)
    · cases i with
      | zero => cases hb; cases hz; exact h2
      | succ i => exact h9 i b z hb hz
theorem mLc_of {mi : MI} {g : MG} {t : MT} {m : ME} {vs : List Nat} {env env1 e : Env} {ds ys : List D} (h : mi env = some (ds, env1)) (hp : plainAt env1 vs = true) (hl : ds.length ≤ lenLine) (hm : lcM g t m vs ds (wipeE env1 vs) = some (ys, e)) : mLc mi g t m vs env = some (.val (.own ys), restE env1 e vs) := by
  unfold mLc
  rw [h]
  simp only [hp, hl, and_self, if_true, hm]
end L2.Z

namespace L2.Z
open PySem PySem.Spec PyProof.Rows
/-! ### _law_any(deal, bound) -/
noncomputable def m__law_any : MS := (mSeq (mWhile (mAnd (mTest (mSrcNe 0)) (mTest (mBin gEq (mSrcLast 0) (mC (.int 0))))) (mExpr (mSrcPop 0)))
    (mSeq (mIfS (mTest (mSrcNe 0)) (mSeq (mAsg 2 (mCall gInt (mCons (mSrcPop 0) mNil)))
    (mSeq (mExpr (mSrcPut 0 2 1))
    (mRet true (mBin gMod (mVar 2) (mVar 1))))) mSkip)
    (mSeq (mSetReg 0 1 (mBin gMod (mCall gInt (mCons (mBin gAdd (mBin gMul (mReg 0 1) (mC (.int 48271))) (mC (.int 31))) mNil)) (mC (.int 2147483647))))
    (mRet true (mBin gMod (mCall gInt (mCons (mBin gFdiv (mReg 0 1) (mC (.int 64))) mNil)) (mVar 1))))))
/-- the answer, the source behind it (cells from the last) -/
def drawR (b mix : Int) : List Int → Int × W
  | [] => (((mix * 48271 + 31) % 2147483647 / 64) % b, .src [] [(mix * 48271 + 31) % 2147483647])
  | r :: rs => if r = 0 then drawR b mix rs else (r % b, .src (rs.reverse ++ [r / b]) [mix])
def drawOk (b mix : Int) (cs : List Int) : Bool := decide (0 < b) && decide (b.natAbs.log2 < 9000) && decide (0 ≤ mix) && decide (mix < 2147483647) && decide (cs.length ≤ 63)
def c__law_any : FM := fun w0 ds => match w0, ds with
  | .src cs [mix], [.int b] => if drawOk b mix cs = true then some (.d (.int (drawR b mix cs.reverse).1), (drawR b mix cs.reverse).2) else none
  | _, _ => none
theorem atLast (rs : List Int) (r : Int) : atI (rs ++ [r]) (-1) = some r := by
  unfold atI ixN
  rw [List.length_append]
  simp only [List.length_cons, List.length_nil]
  rw [if_neg (by omega), if_pos (by omega)]
  show (rs ++ [r])[(-1 + ((rs.length + (0 + 1) : Nat) : Int)).toNat]? = some r
  have : (-1 + ((rs.length + (0 + 1) : Nat) : Int)).toNat = rs.length := by omega
  rw [this, List.getElem?_append_right (Nat.le_refl _)]
  simp
theorem lastLen (rs : List Int) (r : Int) : (rs ++ [r])[(rs ++ [r]).length - 1]? = some r := by
  simp
theorem isEmpty_snoc {α : Type} (xs : List α) (x : α) : (xs ++ [x]).isEmpty = false := by cases xs <;> rfl
theorem any_run (b mix : Int) (hb : 0 < b) (hl : b.natAbs.log2 < 9000) (hm : 0 ≤ mix) (hm2 : mix < 2147483647) : ∀ (rs : List Int), rs.length ≤ 63 → ∃ env', m__law_any [some (.src rs.reverse [mix]), some (.d (.int b)), none] = some (.rt (.d (.int (drawR b mix rs).1)), env') ∧ slotW env' 0 = some (drawR b mix rs).2 ∧ notD (drawR b mix rs).2 = true
  | [], _ => by
    have hw : mWhile (mAnd (mTest (mSrcNe 0)) (mTest (mBin gEq (mSrcLast 0) (mC (.int 0))))) (mExpr (mSrcPop 0)) [some (.src [] [mix]), some (.d (.int b)), none] = some (.nx, [some (.src [] [mix]), some (.d (.int b)), none]) := while_stop (by simp only [mSeq, mAsg, mFv, fz, mBin, cont, mVar, mC, mUn, mCons, mNil, mCall, conts, mTup, mLst, dsOf, dOf, mFz, mFt, mSkip, mRet, mIfS, mTest, mTruth, truD, mNot, mAnd, mOr, mAndV, mOrV, mNotV, mIf, mYes, mExpr, mBreak, mCont, gNm, gsNil, gsCons, gTupD, mItems, mFor, mMeth, mPop, mSetIx, ownAt, gApp, mPar, wsOf, setAll, mAug, mAugAdd, mAugSub, gSub, gFdiv, gMod, gPow, gShl, gShr, gAnd, gLt, gLe, gGt, gGe, gI, gAdd, gMul, gNeg, gLen, gAbs, gInt, gIx, gRev, gEq, gNe, gIs1, mReg, mSetReg, mSrcNe, mSrcLast, mSrcPop, mSrcPut, srcAt, mSl, mNoPart, mPart, gSl, mCallP, mCallM, argsOf, slotW, notD, noLW, mRange1, mRange2, mRange3, mEnum, mZip, mChain, runP, runM, startE, fin0, lenLine, wipeE, restE, plainAt, List.getElem?_cons_zero, List.getElem?_cons_succ, List.set_cons_zero, List.set_cons_succ, List.map_cons, List.map_nil, List.length_cons, List.length_nil, List.replicate, List.cons_append, List.nil_append, List.isEmpty_nil, List.all_cons, List.all_nil]; rfl)
    have h1 : cMul mix 48271 = true := cMul_lt 31 17 (by omega) (by decide)
    have h2 : cMod (mix * 48271 + 31) 2147483647 = true := cMod_pos (by decide)
    have h3 : cDiv ((mix * 48271 + 31) % 2147483647) 64 = true := cDiv_lt 7 (by decide) (by decide)
    have h4 : ∀ i, cMod i b = true := fun i => cMod_pos hb
    refine ⟨[some (.src [] [(mix * 48271 + 31) % 2147483647]), some (.d (.int b)), none], ?_, rfl, rfl⟩
    unfold m__law_any
    rw [mSeq]
    simp only [List.reverse_nil, hw]
    simp [mSeq, mAsg, mFv, fz, mBin, cont, mVar, mC, mUn, mCons, mNil, mCall, conts, mTup, mLst, dsOf, dOf, mFz, mFt, mSkip, mRet, mIfS, mTest, mTruth, truD, mNot, mAnd, mOr, mAndV, mOrV, mNotV, mIf, mYes, mExpr, mBreak, mCont, gNm, gsNil, gsCons, gTupD, mItems, mFor, mMeth, mPop, mSetIx, ownAt, gApp, mPar, wsOf, setAll, mAug, mAugAdd, mAugSub, gSub, gFdiv, gMod, gPow, gShl, gShr, gAnd, gLt, gLe, gGt, gGe, gI, gAdd, gMul, gNeg, gLen, gAbs, gInt, gIx, gRev, gEq, gNe, gIs1, mReg, mSetReg, mSrcNe, mSrcLast, mSrcPop, mSrcPut, srcAt, mSl, mNoPart, mPart, gSl, mCallP, mCallM, argsOf, slotW, notD, noLW, mRange1, mRange2, mRange3, mEnum, mZip, mChain, runP, runM, startE, fin0, lenLine, wipeE, restE, plainAt, List.getElem?_cons_zero, List.getElem?_cons_succ, List.set_cons_zero, List.set_cons_succ, List.map_cons, List.map_nil, List.length_cons, List.length_nil, List.replicate, List.cons_append, List.nil_append, List.isEmpty_nil, List.all_cons, List.all_nil, h1, h2, h3, h4, drawR]
  | r :: rs, hlen => by
    rw [List.reverse_cons]
    by_cases hr : r = 0
    · subst hr
      obtain ⟨env', h1, h2, h3⟩ := any_run b mix hb hl hm hm2 rs (by simp at hlen; omega)
      refine ⟨env', ?_, by rw [drawR, if_pos rfl]; exact h2, by rw [drawR, if_pos rfl]; exact h3⟩
      rw [drawR, if_pos rfl]
      unfold m__law_any at h1 ⊢
      rw [mSeq] at h1 ⊢
      have hw : ∀ x, mWhile (mAnd (mTest (mSrcNe 0)) (mTest (mBin gEq (mSrcLast 0) (mC (.int 0))))) (mExpr (mSrcPop 0)) [some (.src rs.reverse [mix]), some (.d (.int b)), none] = some x → mWhile (mAnd (mTest (mSrcNe 0)) (mTest (mBin gEq (mSrcLast 0) (mC (.int 0))))) (mExpr (mSrcPop 0)) [some (.src (rs.reverse ++ [0]) [mix]), some (.d (.int b)), none] = some x := fun x hx =>
        while_turn (e1 := [some (.src (rs.reverse ++ [0]) [mix]), some (.d (.int b)), none]) (by simp [mSeq, mAsg, mFv, fz, mBin, cont, mVar, mC, mUn, mCons, mNil, mCall, conts, mTup, mLst, dsOf, dOf, mFz, mFt, mSkip, mRet, mIfS, mTest, mTruth, truD, mNot, mAnd, mOr, mAndV, mOrV, mNotV, mIf, mYes, mExpr, mBreak, mCont, gNm, gsNil, gsCons, gTupD, mItems, mFor, mMeth, mPop, mSetIx, ownAt, gApp, mPar, wsOf, setAll, mAug, mAugAdd, mAugSub, gSub, gFdiv, gMod, gPow, gShl, gShr, gAnd, gLt, gLe, gGt, gGe, gI, gAdd, gMul, gNeg, gLen, gAbs, gInt, gIx, gRev, gEq, gNe, gIs1, mReg, mSetReg, mSrcNe, mSrcLast, mSrcPop, mSrcPut, srcAt, mSl, mNoPart, mPart, gSl, mCallP, mCallM, argsOf, slotW, notD, noLW, mRange1, mRange2, mRange3, mEnum, mZip, mChain, runP, runM, startE, fin0, lenLine, wipeE, restE, plainAt, List.getElem?_cons_zero, List.getElem?_cons_succ, List.set_cons_zero, List.set_cons_succ, List.map_cons, List.map_nil, List.length_cons, List.length_nil, List.replicate, List.cons_append, List.nil_append, List.isEmpty_nil, List.all_cons, List.all_nil, atLast, isEmpty_snoc]) (e2 := [some (.src rs.reverse [mix]), some (.d (.int b)), none]) (by simp [mSeq, mAsg, mFv, fz, mBin, cont, mVar, mC, mUn, mCons, mNil, mCall, conts, mTup, mLst, dsOf, dOf, mFz, mFt, mSkip, mRet, mIfS, mTest, mTruth, truD, mNot, mAnd, mOr, mAndV, mOrV, mNotV, mIf, mYes, mExpr, mBreak, mCont, gNm, gsNil, gsCons, gTupD, mItems, mFor, mMeth, mPop, mSetIx, ownAt, gApp, mPar, wsOf, setAll, mAug, mAugAdd, mAugSub, gSub, gFdiv, gMod, gPow, gShl, gShr, gAnd, gLt, gLe, gGt, gGe, gI, gAdd, gMul, gNeg, gLen, gAbs, gInt, gIx, gRev, gEq, gNe, gIs1, mReg, mSetReg, mSrcNe, mSrcLast, mSrcPop, mSrcPut, srcAt, mSl, mNoPart, mPart, gSl, mCallP, mCallM, argsOf, slotW, notD, noLW, mRange1, mRange2, mRange3, mEnum, mZip, mChain, runP, runM, startE, fin0, lenLine, wipeE, restE, plainAt, List.getElem?_cons_zero, List.getElem?_cons_succ, List.set_cons_zero, List.set_cons_succ, List.map_cons, List.map_nil, List.length_cons, List.length_nil, List.replicate, List.cons_append, List.nil_append, List.isEmpty_nil, List.all_cons, List.all_nil, isEmpty_snoc]) hx
      cases hq : mWhile (mAnd (mTest (mSrcNe 0)) (mTest (mBin gEq (mSrcLast 0) (mC (.int 0))))) (mExpr (mSrcPop 0)) [some (.src rs.reverse [mix]), some (.d (.int b)), none] with
      | none => rw [hq] at h1; cases h1
      | some x =>
        rw [hq] at h1
        rw [hw x hq]
        exact h1
    · have hw : mWhile (mAnd (mTest (mSrcNe 0)) (mTest (mBin gEq (mSrcLast 0) (mC (.int 0))))) (mExpr (mSrcPop 0)) [some (.src (rs.reverse ++ [r]) [mix]), some (.d (.int b)), none] = some (.nx, [some (.src (rs.reverse ++ [r]) [mix]), some (.d (.int b)), none]) := while_stop (by simp [mSeq, mAsg, mFv, fz, mBin, cont, mVar, mC, mUn, mCons, mNil, mCall, conts, mTup, mLst, dsOf, dOf, mFz, mFt, mSkip, mRet, mIfS, mTest, mTruth, truD, mNot, mAnd, mOr, mAndV, mOrV, mNotV, mIf, mYes, mExpr, mBreak, mCont, gNm, gsNil, gsCons, gTupD, mItems, mFor, mMeth, mPop, mSetIx, ownAt, gApp, mPar, wsOf, setAll, mAug, mAugAdd, mAugSub, gSub, gFdiv, gMod, gPow, gShl, gShr, gAnd, gLt, gLe, gGt, gGe, gI, gAdd, gMul, gNeg, gLen, gAbs, gInt, gIx, gRev, gEq, gNe, gIs1, mReg, mSetReg, mSrcNe, mSrcLast, mSrcPop, mSrcPut, srcAt, mSl, mNoPart, mPart, gSl, mCallP, mCallM, argsOf, slotW, notD, noLW, mRange1, mRange2, mRange3, mEnum, mZip, mChain, runP, runM, startE, fin0, lenLine, wipeE, restE, plainAt, List.getElem?_cons_zero, List.getElem?_cons_succ, List.set_cons_zero, List.set_cons_succ, List.map_cons, List.map_nil, List.length_cons, List.length_nil, List.replicate, List.cons_append, List.nil_append, List.isEmpty_nil, List.all_cons, List.all_nil, atLast, isEmpty_snoc, hr])
      have h4 : ∀ i, cMod i b = true := fun i => cMod_pos hb
      have h5 : ∀ i, cDiv i b = true := fun i => by unfold cDiv; simp [hb, hl]
      rw [drawR, if_neg hr]
      refine ⟨[some (.src (rs.reverse ++ [r / b]) [mix]), some (.d (.int b)), some (.d (.int r))], ?_, rfl, rfl⟩
      unfold m__law_any
      rw [mSeq]
      simp only [hw]
      have h6 : rs.length < 16000000 := by simp at hlen; omega
      simp [mSeq, mAsg, mFv, fz, mBin, cont, mVar, mC, mUn, mCons, mNil, mCall, conts, mTup, mLst, dsOf, dOf, mFz, mFt, mSkip, mRet, mIfS, mTest, mTruth, truD, mNot, mAnd, mOr, mAndV, mOrV, mNotV, mIf, mYes, mExpr, mBreak, mCont, gNm, gsNil, gsCons, gTupD, mItems, mFor, mMeth, mPop, mSetIx, ownAt, gApp, mPar, wsOf, setAll, mAug, mAugAdd, mAugSub, gSub, gFdiv, gMod, gPow, gShl, gShr, gAnd, gLt, gLe, gGt, gGe, gI, gAdd, gMul, gNeg, gLen, gAbs, gInt, gIx, gRev, gEq, gNe, gIs1, mReg, mSetReg, mSrcNe, mSrcLast, mSrcPop, mSrcPut, srcAt, mSl, mNoPart, mPart, gSl, mCallP, mCallM, argsOf, slotW, notD, noLW, mRange1, mRange2, mRange3, mEnum, mZip, mChain, runP, runM, startE, fin0, lenLine, wipeE, restE, plainAt, List.getElem?_cons_zero, List.getElem?_cons_succ, List.set_cons_zero, List.set_cons_succ, List.map_cons, List.map_nil, List.length_cons, List.length_nil, List.replicate, List.cons_append, List.nil_append, List.isEmpty_nil, List.all_cons, List.all_nil, h4, h5, h6, isEmpty_snoc]
theorem k__law_any : ∀ w0 ds r, ds.length + 1 = 2 → c__law_any w0 ds = some r → runM 3 m__law_any w0 ds = some r := by
  intro w0 ds r h0 h
  clear h0
  unfold c__law_any at h
  split at h
  rotate_left
  · cases h
  rename_i cs mix b
  split at h
  rotate_left
  · cases h
  rename_i hk
  cases h
  unfold drawOk at hk
  simp only [Bool.and_eq_true, decide_eq_true_eq] at hk
  obtain ⟨env', h1, h2, h3⟩ := any_run b mix hk.1.1.1.1 hk.1.1.1.2 hk.1.1.2 hk.1.2 cs.reverse (by simpa using hk.2)
  rw [List.reverse_reverse] at h1
  unfold runM
  have e : startE 3 (W.src cs [mix] :: [PyData.int b].map W.d) = [some (.src cs [mix]), some (.d (.int b)), none] := rfl
  rw [e, h1]
  simp only [h2, h3, if_true, fin0]
/-- a source as it may be -/
def Src : W → Prop
  | .src cs [mix] => cs.length ≤ 63 ∧ 0 ≤ mix ∧ mix < 2147483647
  | _ => False
theorem drawR_ok (b mix : Int) (hb : 0 < b) (hm : 0 ≤ mix) (hm2 : mix < 2147483647) : ∀ rs : List Int, rs.length ≤ 63 → 0 ≤ (drawR b mix rs).1 ∧ (drawR b mix rs).1 < b ∧ Src (drawR b mix rs).2
  | [], _ => ⟨Int.emod_nonneg _ (by omega), Int.emod_lt_of_pos _ hb, by show _ ∧ _ ∧ _; exact ⟨by simp, Int.emod_nonneg _ (by decide), Int.emod_lt_of_pos _ (by decide)⟩⟩
  | r :: rs, h => by
    by_cases hr : r = 0
    · rw [drawR, if_pos hr]; exact drawR_ok b mix hb hm hm2 rs (by simp at h; omega)
    · rw [drawR, if_neg hr]
      exact ⟨Int.emod_nonneg _ (by omega), Int.emod_lt_of_pos _ hb, by show _ ∧ _ ∧ _; exact ⟨by simp at h ⊢; omega, hm, hm2⟩⟩
/-- a draw: some number below the bound, and a source again -/
theorem any_ok {s : W} {b : Int} (hs : Src s) (hb : 0 < b) (hl : b < 2 ^ 9000) : ∃ r s', c__law_any s [.int b] = some (.d (.int r), s') ∧ 0 ≤ r ∧ r < b ∧ Src s' := by
  unfold Src at hs
  split at hs
  rotate_left
  · exact hs.elim
  rename_i cs mix
  obtain ⟨h1, h2, h3⟩ := drawR_ok b mix hb hs.2.1 hs.2.2 cs.reverse (by simpa using hs.1)
  have hlog : b.natAbs.log2 < 9000 := by
    have := cDiv_lt (i := 0) 9000 hb hl
    unfold cDiv at this
    rw [Bool.and_eq_true] at this
    exact of_decide_eq_true this.2
  refine ⟨_, _, ?_, h1, h2, h3⟩
  unfold c__law_any
  simp only []
  rw [if_pos (by unfold drawOk; simp [hb, hlog, hs.1, hs.2.1, hs.2.2])]
end L2.Z

namespace L2.Z
open PySem PySem.Spec PyProof.Rows
/-! ### _law_deal(script, salt) -/
def mD1 : MS := (mAsg 2 (mBin gMul (mBin gMul (mBin gMul (mBin gMul (mBin gMul (mBin gPow (mC (.int 10)) (mC (.int 64))) (mBin gPow (mC (.int 10)) (mC (.int 64)))) (mBin gPow (mC (.int 10)) (mC (.int 64)))) (mBin gPow (mC (.int 10)) (mC (.int 64)))) (mBin gPow (mC (.int 10)) (mC (.int 64)))) (mBin gPow (mC (.int 10)) (mC (.int 64)))))
def mDe : ME := (mBin gMod (mCall gInt (mCons (mCall gAbs (mCons (mCall gInt (mCons (mVar 5) mNil)) mNil)) mNil)) (mVar 2))
def mD3 : MS := (mAsg 4 (mBin gAdd (mC (.int 70001)) (mBin gMul (mC (.int 7919)) (mVar 1))))
def mD4 : MS := (mFor (mItems (mVar 3)) (gNm 5) (mAsg 4 (mBin gMod (mCall gInt (mCons (mBin gAdd (mBin gAdd (mBin gMul (mVar 4) (mC (.int 69621))) (mBin gMod (mCall gInt (mCons (mVar 5) mNil)) (mC (.int 2147483563)))) (mC (.int 23))) mNil)) (mC (.int 2147483647)))))
def mD5 : MA := (mCons (mUn gRev (mLc (mItems (mVar 3)) (gNm 5) (mTest (mBin gGe (mVar 5) (mBin gPow (mC (.int 10)) (mC (.int 18))))) (mVar 5) [5])) (mCons (mVar 4) mNil))
def most : Int := 10 ^ 64 * 10 ^ 64 * 10 ^ 64 * 10 ^ 64 * 10 ^ 64 * 10 ^ 64
theorem most_pos : 0 < most := by decide +kernel
theorem eD1 (salt : Int) : mD1 [none, some (.d (.int salt)), none, none, none, none] = some (.nx, [none, some (.d (.int salt)), some (.d (.int most)), none, none, none]) := by
  have h0 : cPow 10 64 = true := by decide +kernel
  have h1 : cMul (10 ^ 64) (10 ^ 64) = true := by decide +kernel
  have h2 : cMul (10 ^ 64 * 10 ^ 64) (10 ^ 64) = true := by decide +kernel
  have h3 : cMul (10 ^ 64 * 10 ^ 64 * 10 ^ 64) (10 ^ 64) = true := by decide +kernel
  have h4 : cMul (10 ^ 64 * 10 ^ 64 * 10 ^ 64 * 10 ^ 64) (10 ^ 64) = true := by decide +kernel
  have h5 : cMul (10 ^ 64 * 10 ^ 64 * 10 ^ 64 * 10 ^ 64 * 10 ^ 64) (10 ^ 64) = true := by decide +kernel
  have t : Int.toNat 64 = 64 := rfl
  unfold mD1 most
  simp only [mSeq, mAsg, mFv, fz, mBin, cont, mVar, mC, mUn, mCons, mNil, mCall, conts, mTup, mLst, dsOf, dOf, mFz, mFt, mSkip, mRet, mIfS, mTest, mTruth, truD, mNot, mAnd, mOr, mAndV, mOrV, mNotV, mIf, mYes, mExpr, mBreak, mCont, gNm, gsNil, gsCons, gTupD, mItems, mFor, mMeth, mPop, mSetIx, ownAt, gApp, mPar, wsOf, setAll, mAug, mAugAdd, mAugSub, gSub, gFdiv, gMod, gPow, gShl, gShr, gAnd, gLt, gLe, gGt, gGe, gI, gAdd, gMul, gNeg, gLen, gAbs, gInt, gIx, gRev, gEq, gNe, gIs1, mReg, mSetReg, mSrcNe, mSrcLast, mSrcPop, mSrcPut, srcAt, mSl, mNoPart, mPart, gSl, mCallP, mCallM, argsOf, slotW, notD, noLW, mRange1, mRange2, mRange3, mEnum, mZip, mChain, runP, runM, startE, fin0, lenLine, wipeE, restE, plainAt, List.getElem?_cons_zero, List.getElem?_cons_succ, List.set_cons_zero, List.set_cons_succ, List.map_cons, List.map_nil, List.length_cons, List.length_nil, List.replicate, List.cons_append, List.nil_append, List.isEmpty_nil, List.all_cons, List.all_nil, h0, h1, h2, h3, h4, h5, t, if_true]
def cell (n : Int) : Int := (if n < 0 then -n else n) % most
def cells (ns : List Int) : List Int := (ns.take 63).map cell
theorem lenCells (ns : List Int) : (cells ns).length ≤ 63 := by unfold cells; simp; omega
theorem eDe (salt : Int) (ns : List Int) : mLc (fun e => some ((ns.take 63).map PyData.int, e)) (gNm 5) mYes mDe [5] [none, some (.d (.int salt)), some (.d (.int most)), none, none, none] = some (.val (.own ((cells ns).map .int)), [none, some (.d (.int salt)), some (.d (.int most)), none, none, none]) := by
  have q := lc_map (g := gNm 5) (t := mYes) (m := mDe) (vs := [5]) (e := [none, some (.d (.int salt)), some (.d (.int most)), none, none, none]) PyData.int (fun _ => true) (fun n => .int (cell n)) (ns.take 63) (fun n _ => by
    have h : cMod (if n < 0 then -n else n) most = true := cMod_pos most_pos
    refine ⟨_, _, rfl, rfl, (fun z => by cases z), fun _ => ⟨[none, some (.d (.int salt)), some (.d (.int most)), none, none, some (.d (.int n))], ?_, rfl⟩⟩
    unfold mDe
    simp [mSeq, mAsg, mFv, fz, mBin, cont, mVar, mC, mUn, mCons, mNil, mCall, conts, mTup, mLst, dsOf, dOf, mFz, mFt, mSkip, mRet, mIfS, mTest, mTruth, truD, mNot, mAnd, mOr, mAndV, mOrV, mNotV, mIf, mYes, mExpr, mBreak, mCont, gNm, gsNil, gsCons, gTupD, mItems, mFor, mMeth, mPop, mSetIx, ownAt, gApp, mPar, wsOf, setAll, mAug, mAugAdd, mAugSub, gSub, gFdiv, gMod, gPow, gShl, gShr, gAnd, gLt, gLe, gGt, gGe, gI, gAdd, gMul, gNeg, gLen, gAbs, gInt, gIx, gRev, gEq, gNe, gIs1, mReg, mSetReg, mSrcNe, mSrcLast, mSrcPop, mSrcPut, srcAt, mSl, mNoPart, mPart, gSl, mCallP, mCallM, argsOf, slotW, notD, noLW, mRange1, mRange2, mRange3, mEnum, mZip, mChain, runP, runM, startE, fin0, lenLine, wipeE, restE, plainAt, List.getElem?_cons_zero, List.getElem?_cons_succ, List.set_cons_zero, List.set_cons_succ, List.map_cons, List.map_nil, List.length_cons, List.length_nil, List.replicate, List.cons_append, List.nil_append, List.isEmpty_nil, List.all_cons, List.all_nil, h, cell])
  refine mLc_of (env1 := [none, some (.d (.int salt)), some (.d (.int most)), none, none, none]) (e := [none, some (.d (.int salt)), some (.d (.int most)), none, none, none]) (ds := (ns.take 63).map PyData.int) rfl rfl ?_ ?_
  · rw [List.length_map, List.length_take]; unfold lenLine; omega
  · show lcM _ _ _ _ _ [none, some (.d (.int salt)), some (.d (.int most)), none, none, none] = _
    rw [q, List.filter_eq_self.mpr (by simp), cells, List.map_map]
    rfl
theorem eD3 (salt : Int) (hs : 0 ≤ salt ∧ salt < 1000) (x : Option W) : mD3 [none, some (.d (.int salt)), some (.d (.int most)), x, none, none] = some (.nx, [none, some (.d (.int salt)), some (.d (.int most)), x, some (.d (.int (70001 + 7919 * salt))), none]) := by
  have h : cMul 7919 salt = true := cMul_lt 13 10 (by decide) (by omega)
  unfold mD3
  simp [mSeq, mAsg, mFv, fz, mBin, cont, mVar, mC, mUn, mCons, mNil, mCall, conts, mTup, mLst, dsOf, dOf, mFz, mFt, mSkip, mRet, mIfS, mTest, mTruth, truD, mNot, mAnd, mOr, mAndV, mOrV, mNotV, mIf, mYes, mExpr, mBreak, mCont, gNm, gsNil, gsCons, gTupD, mItems, mFor, mMeth, mPop, mSetIx, ownAt, gApp, mPar, wsOf, setAll, mAug, mAugAdd, mAugSub, gSub, gFdiv, gMod, gPow, gShl, gShr, gAnd, gLt, gLe, gGt, gGe, gI, gAdd, gMul, gNeg, gLen, gAbs, gInt, gIx, gRev, gEq, gNe, gIs1, mReg, mSetReg, mSrcNe, mSrcLast, mSrcPop, mSrcPut, srcAt, mSl, mNoPart, mPart, gSl, mCallP, mCallM, argsOf, slotW, notD, noLW, mRange1, mRange2, mRange3, mEnum, mZip, mChain, runP, runM, startE, fin0, lenLine, wipeE, restE, plainAt, List.getElem?_cons_zero, List.getElem?_cons_succ, List.set_cons_zero, List.set_cons_succ, List.map_cons, List.map_nil, List.length_cons, List.length_nil, List.replicate, List.cons_append, List.nil_append, List.isEmpty_nil, List.all_cons, List.all_nil, h]
def stir (mix c : Int) : Int := (mix * 69621 + c % 2147483563 + 23) % 2147483647
theorem eD4 (salt mix : Int) (hm : 0 ≤ mix ∧ mix < 2147483647) (cs : List Int) : ∃ mix' y, (0 ≤ mix' ∧ mix' < 2147483647) ∧ (y = none ∨ ∃ n : Int, y = some (W.d (.int n))) ∧ mD4 [none, some (.d (.int salt)), some (.d (.int most)), some (.own (cs.map .int)), some (.d (.int mix)), none] = some (.nx, [none, some (.d (.int salt)), some (.d (.int most)), some (.d (.list (cs.map .int))), some (.d (.int mix')), y]) := by
  have q := for_ex (g := gNm 5) (b := (mAsg 4 (mBin gMod (mCall gInt (mCons (mBin gAdd (mBin gAdd (mBin gMul (mVar 4) (mC (.int 69621))) (mBin gMod (mCall gInt (mCons (mVar 5) mNil)) (mC (.int 2147483563)))) (mC (.int 23))) mNil)) (mC (.int 2147483647))))) PyData.int
    (fun (s : Int × Option W) => [none, some (.d (.int salt)), some (.d (.int most)), some (.d (.list (cs.map .int))), some (.d (.int s.1)), s.2]) (fun s => (0 ≤ s.1 ∧ s.1 < 2147483647) ∧ (s.2 = none ∨ ∃ n : Int, s.2 = some (W.d (.int n)))) cs (mix, none) ⟨hm, .inl rfl⟩ (fun n _ s hs => by
    refine ⟨(stir s.1 n, some (.d (.int n))), ⟨⟨Int.emod_nonneg _ (by decide), Int.emod_lt_of_pos _ (by decide)⟩, .inr ⟨n, rfl⟩⟩, [none, some (.d (.int salt)), some (.d (.int most)), some (.d (.list (cs.map .int))), some (.d (.int s.1)), some (.d (.int n))], rfl, ?_⟩
    have h : cMul s.1 69621 = true := cMul_lt 31 17 (by omega) (by decide)
    have h2 : ∀ i, cMod i 2147483563 = true := fun i => cMod_pos (by decide)
    have h3 : ∀ i, cMod i 2147483647 = true := fun i => cMod_pos (by decide)
    simp [mSeq, mAsg, mFv, fz, mBin, cont, mVar, mC, mUn, mCons, mNil, mCall, conts, mTup, mLst, dsOf, dOf, mFz, mFt, mSkip, mRet, mIfS, mTest, mTruth, truD, mNot, mAnd, mOr, mAndV, mOrV, mNotV, mIf, mYes, mExpr, mBreak, mCont, gNm, gsNil, gsCons, gTupD, mItems, mFor, mMeth, mPop, mSetIx, ownAt, gApp, mPar, wsOf, setAll, mAug, mAugAdd, mAugSub, gSub, gFdiv, gMod, gPow, gShl, gShr, gAnd, gLt, gLe, gGt, gGe, gI, gAdd, gMul, gNeg, gLen, gAbs, gInt, gIx, gRev, gEq, gNe, gIs1, mReg, mSetReg, mSrcNe, mSrcLast, mSrcPop, mSrcPut, srcAt, mSl, mNoPart, mPart, gSl, mCallP, mCallM, argsOf, slotW, notD, noLW, mRange1, mRange2, mRange3, mEnum, mZip, mChain, runP, runM, startE, fin0, lenLine, wipeE, restE, plainAt, List.getElem?_cons_zero, List.getElem?_cons_succ, List.set_cons_zero, List.set_cons_succ, List.map_cons, List.map_nil, List.length_cons, List.length_nil, List.replicate, List.cons_append, List.nil_append, List.isEmpty_nil, List.all_cons, List.all_nil, h, h2, h3, stir])
  obtain ⟨s, h1, h2⟩ := q
  refine ⟨s.1, s.2, h2.1, h2.2, ?_⟩
  unfold mD4
  rw [mFor]
  have e : mItems (mVar 3) [none, some (.d (.int salt)), some (.d (.int most)), some (.own (cs.map .int)), some (.d (.int mix)), none] = some (cs.map .int, [none, some (.d (.int salt)), some (.d (.int most)), some (.d (.list (cs.map .int))), some (.d (.int mix)), none]) := by simp [mSeq, mAsg, mFv, fz, mBin, cont, mVar, mC, mUn, mCons, mNil, mCall, conts, mTup, mLst, dsOf, dOf, mFz, mFt, mSkip, mRet, mIfS, mTest, mTruth, truD, mNot, mAnd, mOr, mAndV, mOrV, mNotV, mIf, mYes, mExpr, mBreak, mCont, gNm, gsNil, gsCons, gTupD, mItems, mFor, mMeth, mPop, mSetIx, ownAt, gApp, mPar, wsOf, setAll, mAug, mAugAdd, mAugSub, gSub, gFdiv, gMod, gPow, gShl, gShr, gAnd, gLt, gLe, gGt, gGe, gI, gAdd, gMul, gNeg, gLen, gAbs, gInt, gIx, gRev, gEq, gNe, gIs1, mReg, mSetReg, mSrcNe, mSrcLast, mSrcPop, mSrcPut, srcAt, mSl, mNoPart, mPart, gSl, mCallP, mCallM, argsOf, slotW, notD, noLW, mRange1, mRange2, mRange3, mEnum, mZip, mChain, runP, runM, startE, fin0, lenLine, wipeE, restE, plainAt, List.getElem?_cons_zero, List.getElem?_cons_succ, List.set_cons_zero, List.set_cons_succ, List.map_cons, List.map_nil, List.length_cons, List.length_nil, List.replicate, List.cons_append, List.nil_append, List.isEmpty_nil, List.all_cons, List.all_nil]
  rw [e]
  exact h1
def bigs (cs : List Int) : List Int := (cs.filter fun c => decide (10 ^ 18 ≤ c)).reverse
theorem eD5 (salt mix : Int) (y : Option W) (hy : plainAt [none, some (.d (.int salt)), some (.d (.int most)), none, some (.d (.int mix)), y] [5] = true) (cs : List Int) (hl : cs.length ≤ 63) : mD5 [none, some (.d (.int salt)), some (.d (.int most)), some (.d (.list (cs.map .int))), some (.d (.int mix)), y] = some ([.val (.own ((bigs cs).map .int)), .val (.d (.int mix))], [none, some (.d (.int salt)), some (.d (.int most)), some (.d (.list (cs.map .int))), some (.d (.int mix)), y]) := by
  have hp : cPow 10 18 = true := by decide +kernel
  have t : Int.toNat 18 = 18 := rfl
  have q := lc_map (g := gNm 5) (t := (mTest (mBin gGe (mVar 5) (mBin gPow (mC (.int 10)) (mC (.int 18)))))) (m := mVar 5) (vs := [5]) (e := [none, some (.d (.int salt)), some (.d (.int most)), some (.d (.list (cs.map .int))), some (.d (.int mix)), none]) PyData.int (fun c => decide (10 ^ 18 ≤ c)) (fun n => .int n) cs (fun n _ => by
    refine ⟨[none, some (.d (.int salt)), some (.d (.int most)), some (.d (.list (cs.map .int))), some (.d (.int mix)), some (.d (.int n))], [none, some (.d (.int salt)), some (.d (.int most)), some (.d (.list (cs.map .int))), some (.d (.int mix)), some (.d (.int n))], rfl, ?_, fun _ => rfl, fun _ => ⟨[none, some (.d (.int salt)), some (.d (.int most)), some (.d (.list (cs.map .int))), some (.d (.int mix)), some (.d (.int n))], rfl, rfl⟩⟩
    simp only [mSeq, mAsg, mFv, fz, mBin, cont, mVar, mC, mUn, mCons, mNil, mCall, conts, mTup, mLst, dsOf, dOf, mFz, mFt, mSkip, mRet, mIfS, mTest, mTruth, truD, mNot, mAnd, mOr, mAndV, mOrV, mNotV, mIf, mYes, mExpr, mBreak, mCont, gNm, gsNil, gsCons, gTupD, mItems, mFor, mMeth, mPop, mSetIx, ownAt, gApp, mPar, wsOf, setAll, mAug, mAugAdd, mAugSub, gSub, gFdiv, gMod, gPow, gShl, gShr, gAnd, gLt, gLe, gGt, gGe, gI, gAdd, gMul, gNeg, gLen, gAbs, gInt, gIx, gRev, gEq, gNe, gIs1, mReg, mSetReg, mSrcNe, mSrcLast, mSrcPop, mSrcPut, srcAt, mSl, mNoPart, mPart, gSl, mCallP, mCallM, argsOf, slotW, notD, noLW, mRange1, mRange2, mRange3, mEnum, mZip, mChain, runP, runM, startE, fin0, lenLine, wipeE, restE, plainAt, List.getElem?_cons_zero, List.getElem?_cons_succ, List.set_cons_zero, List.set_cons_succ, List.map_cons, List.map_nil, List.length_cons, List.length_nil, List.replicate, List.cons_append, List.nil_append, List.isEmpty_nil, List.all_cons, List.all_nil, hp, t, if_true])
  have e : (mItems (mVar 3)) [none, some (.d (.int salt)), some (.d (.int most)), some (.d (.list (cs.map .int))), some (.d (.int mix)), y] = some (cs.map .int, [none, some (.d (.int salt)), some (.d (.int most)), some (.d (.list (cs.map .int))), some (.d (.int mix)), y]) := by simp [mSeq, mAsg, mFv, fz, mBin, cont, mVar, mC, mUn, mCons, mNil, mCall, conts, mTup, mLst, dsOf, dOf, mFz, mFt, mSkip, mRet, mIfS, mTest, mTruth, truD, mNot, mAnd, mOr, mAndV, mOrV, mNotV, mIf, mYes, mExpr, mBreak, mCont, gNm, gsNil, gsCons, gTupD, mItems, mFor, mMeth, mPop, mSetIx, ownAt, gApp, mPar, wsOf, setAll, mAug, mAugAdd, mAugSub, gSub, gFdiv, gMod, gPow, gShl, gShr, gAnd, gLt, gLe, gGt, gGe, gI, gAdd, gMul, gNeg, gLen, gAbs, gInt, gIx, gRev, gEq, gNe, gIs1, mReg, mSetReg, mSrcNe, mSrcLast, mSrcPop, mSrcPut, srcAt, mSl, mNoPart, mPart, gSl, mCallP, mCallM, argsOf, slotW, notD, noLW, mRange1, mRange2, mRange3, mEnum, mZip, mChain, runP, runM, startE, fin0, lenLine, wipeE, restE, plainAt, List.getElem?_cons_zero, List.getElem?_cons_succ, List.set_cons_zero, List.set_cons_succ, List.map_cons, List.map_nil, List.length_cons, List.length_nil, List.replicate, List.cons_append, List.nil_append, List.isEmpty_nil, List.all_cons, List.all_nil]
  have r := mLc_of (vs := [5]) e hy (by rw [List.length_map]; unfold lenLine; omega) q
  unfold mD5
  rw [mCons]
  have e2 : mUn gRev (mLc (mItems (mVar 3)) (gNm 5) (mTest (mBin gGe (mVar 5) (mBin gPow (mC (.int 10)) (mC (.int 18))))) (mVar 5) [5]) [none, some (.d (.int salt)), some (.d (.int most)), some (.d (.list (cs.map .int))), some (.d (.int mix)), y] = some (.val (.own ((bigs cs).map .int)), [none, some (.d (.int salt)), some (.d (.int most)), some (.d (.list (cs.map .int))), some (.d (.int mix)), y]) := by
    rw [mUn, r]
    simp only [cont, gRev, restE, List.getElem?_cons_succ, List.getElem?_cons_zero, List.set_cons_succ, List.set_cons_zero]
    unfold bigs
    rw [List.map_reverse]
  rw [e2]
  simp [mSeq, mAsg, mFv, fz, mBin, cont, mVar, mC, mUn, mCons, mNil, mCall, conts, mTup, mLst, dsOf, dOf, mFz, mFt, mSkip, mRet, mIfS, mTest, mTruth, truD, mNot, mAnd, mOr, mAndV, mOrV, mNotV, mIf, mYes, mExpr, mBreak, mCont, gNm, gsNil, gsCons, gTupD, mItems, mFor, mMeth, mPop, mSetIx, ownAt, gApp, mPar, wsOf, setAll, mAug, mAugAdd, mAugSub, gSub, gFdiv, gMod, gPow, gShl, gShr, gAnd, gLt, gLe, gGt, gGe, gI, gAdd, gMul, gNeg, gLen, gAbs, gInt, gIx, gRev, gEq, gNe, gIs1, mReg, mSetReg, mSrcNe, mSrcLast, mSrcPop, mSrcPut, srcAt, mSl, mNoPart, mPart, gSl, mCallP, mCallM, argsOf, slotW, notD, noLW, mRange1, mRange2, mRange3, mEnum, mZip, mChain, runP, runM, startE, fin0, lenLine, wipeE, restE, plainAt, List.getElem?_cons_zero, List.getElem?_cons_succ, List.set_cons_zero, List.set_cons_succ, List.map_cons, List.map_nil, List.length_cons, List.length_nil, List.replicate, List.cons_append, List.nil_append, List.isEmpty_nil, List.all_cons, List.all_nil]

/-! ### the walk of it -/
def spDeal (K : PySem.W.Frag) : Sp := fun vs H Q _ => ∃ a ns salt, vs = [.ref a, .int salt] ∧ Scr K H a ns ∧ (0 ≤ salt ∧ salt < 1000) ∧ ∀ v H' ow', Wf H' ow' → Calm H (fun _ => none) H' ow' → (∃ w, Src w ∧ RepT H H' ow' w v) → Q v H'
def tDeal (K : PySem.W.Frag) : TS := tSeq (tMS true mD1) (tSeq (tAsg (tLc (iList K (tSl (rSlL K) (tVar 0) tNoPart (tPart (tC (.int 63))))) (tMG [5] (gNm 5)) (tMT mYes) (tM (mFz mDe)) [5]) (gName 3)) (tSeq (tMS true mD3) (tSeq (tMS true mD4) (tRet (tLst (tMA mD5))))))
theorem Scr.calm {K : PySem.W.Frag} {H H1 : Hp} {ow1 : Ow} {a : Addr} {ns : List Int} (h : Scr K H a ns) (c : Calm H (fun _ => none) H1 ow1) : Scr K H1 a ns := by
  rcases h with ⟨o, h⟩ | h
  · exact .inl ⟨o, (c.rd h rfl).1⟩
  · exact .inr h
theorem cut63 (xs : List V) : cutV xs none (some 63) = xs.take 63 := by
  unfold cutV HT.sIx
  simp only [if_neg (show ¬ (63 : Int) < 0 by decide)]
  rw [List.drop_zero, Nat.sub_zero]
  show xs.take (min 63 xs.length) = xs.take 63
  rw [← List.take_eq_take_min]
theorem deal_read {K : PySem.W.Frag} {a : Addr} {ns : List Int} {salt : Int} {H : Hp} {D : Ends} (hs : Scr K H a ns) (h0 : 0 ≤ salt ∧ salt < 1000)
    (q : ∀ v H' ow', Wf H' ow' → Calm H (fun _ => none) H' ow' → (∃ w, Src w ∧ RepT H H' ow' w v) → D.rt v H') :
    tDeal K D [some (.ref a), some (.int salt), none, none, none, none] H := by
  have ok0 : Ok H (fun _ => none) [some (.ref a), some (.int salt), none, none, none, none] [none, some (.d (.int salt)), none, none, none, none] := by
    refine ⟨fun a h => absurd rfl h, fun i w e => ?_, rfl⟩
    match i, e with
    | 0, e => cases e
    | 1, e => cases e; exact ⟨_, rfl, rpI (H := H) (ow := fun _ => none)⟩
    | 2, e => cases e
    | 3, e => cases e
    | 4, e => cases e
    | 5, e => cases e
    | i + 6, e => simp at e
  refine ⟨_, _, .nx, _, ok0, eD1 salt, fun σ1 H1 ow1 ok1 c1 z1 => ?_⟩
  have hv0 : σ1[0]? = some (some (.ref a)) := z1 rfl
  have hs1 := hs.calm c1
  show tLc (iList K (tSl (rSlL K) (tVar 0) tNoPart (tPart (tC (V.int 63))))) (tMG [5] (gNm 5)) (tMT mYes) (tM (mFz mDe)) [5] σ1 H1 (fun x H2 => gName 3 x σ1 H2 (tSeq (tMS true mD3) (tSeq (tMS true mD4) (tRet (tLst (tMA mD5)))) D))
  refine lc_of (mi := fun e => some ((ns.take 63).map PyData.int, e)) (fun R h => ?_) (fun i hi => hi) ?_
  · obtain ⟨ow2, env2, ds, env', ok, e, q⟩ := h
    cases e
    refine ⟨_, hv0, 63, rfl, a, _, rfl, hs1.seq, fun p hp => ⟨p, rfl, ⟨_, SqL.of upd_same⟩, ?_⟩⟩
    have n : New H1 ow2 (upd H1 p (.lst (cutV (ns.map V.int) none (some 63)))) (setOw ow2 p none) := New.made none hp
    refine q (Itl K p) _ _ _ (n.ok ok) n.calm ⟨upd_same, setOw_same, ?_⟩ lst_it
    rw [cut63, ← List.map_take]
    exact Reps.ints _
  refine ⟨ow1, _, _, _, ok1, eDe salt ns, fun v H2 ow2 p2 => ?_⟩
  obtain ⟨ow2', ok2, c2, _⟩ := Ok.bind (w := .own ((cells ns).map .int)) 3 p2.ok p2.calm p2.rep
  refine ⟨ow2', _, .nx, _, ok2, eD3 salt h0 _, fun σ3 H3 ow3 ok3 c3 z3 => ?_⟩
  obtain ⟨mix, y, hmix, hy, e4⟩ := eD4 salt (70001 + 7919 * salt) (by omega) (cells ns)
  refine ⟨ow3, _, .nx, _, ok3, e4, fun σ4 H4 ow4 ok4 c4 z4 => ?_⟩
  have hl : (bigs (cells ns)).length ≤ 63 := by
    unfold bigs
    rw [List.length_reverse]
    exact Nat.le_trans (List.length_filter_le _ _) (lenCells ns)
  refine ⟨ow4, _, _, _, ok4, eD5 salt mix y ?_ (cells ns) (lenCells ns), fun vs H5 ow5 ok5 c5 rr => ?_⟩
  · rcases hy with rfl | ⟨n, rfl⟩ <;> rfl
  obtain ⟨v1, t1, H6, rfl, r1, _, _, v2, t2, H7, rfl, r2, _, _, rfl⟩ := rr
  obtain ⟨b, us, rfl, hb, nb, hb0, reps⟩ := r1
  have e2 := repI (H := H5) (ow := ow5) (Rep.c (d := .int mix) r2)
  subst e2
  have e3 := Reps.ints_of reps
  subst e3
  refine ⟨by show 2 ≤ sizeLine; decide, fun p hp => ?_⟩
  have n : New H5 ow5 (upd H5 p (.lst [V.ref b, V.int mix])) (setOw ow5 p (some none)) := New.made _ hp
  have cc := (((c1.trans c2).trans c3).trans c4).trans c5
  have npb : p ≠ b := fun z => by subst z; rw [hb] at hp; cases hp
  refine q (.ref p) _ _ (n.wf ok5.wf) (cc.trans n.calm) ⟨.src (bigs (cells ns)) [mix], ⟨hl, hmix⟩, p, b, rfl, upd_same, ?_, setOw_same, ?_, npb, cc.gone hp, ((((c1.trans c2).trans c3).trans c4)).gone hb0⟩
  · exact (n.same _ _ hb).1
  · exact (n.same _ _ hb).2.trans nb
end L2.Z

namespace L2.Z
open PySem PySem.Spec PyProof.Rows
section
variable {P : Program} {w : World} {K : PySem.W.Frag} {mg : Str → Option Value} {base : Heap}
theorem fn_deal {x qual : Str} {st : Stmt} {f : Addr} {fd : FuncData} {k : Nat} (F : Fun K x qual st f fd) (S : FnScope ["script", "salt", "most", "cells", "mix", "cell"] ["script", "salt"] (defScope st))
    (hbody : ∀ (cdv : Value) (A : Around) (outer : List PySem.Env) (s : Shared) (H : Hp) (E : XK), Room k (A.deeper (envOfC qual (defScope st) s.heap.objs.size f cdv)) →
      PSs (cxOf CX0 P w K mg base ["script", "salt", "most", "cells", "mix", "cell"] qual (defScope st) f cdv A outer s H E).nox (defBody st) (tDeal K)) :
    FnOk P w K mg base CX0 (k + 1) f fd ["script", "salt"] (spDeal K) := by
  refine F.ok S (fun vs H Q E h => ?_) fun cdv A outer s H vs Q E hr h => ?_
  · obtain ⟨a, ns, salt, rfl, _⟩ := h
    rfl
  · obtain ⟨a, ns, salt, rfl, hs, h0, q⟩ := h
    exact ⟨_, hbody cdv A outer s H E hr, deal_read hs h0 q⟩
/-- what law(script) promises: at a list of at most 63 ints it answers True -/
def spLaw (K : PySem.W.Frag) : Sp := fun vs H Q _ => ∃ (a : Addr) (ns : List Int), vs = [.ref a] ∧ Scr K H a ns ∧ ∀ H', Q (.bl true) H'
def tLaw (K : PySem.W.Frag) (i : Nat) (salt : Int) (E : XK) (m : MS) : TS := tSeq (tAsg (tCall (spDeal K) [] E (tCons (tVar 0) (tCons (tC (.int salt)) tNil))) (gName i)) (tMS false m)
theorem fn_law {x qual : Str} {st : Stmt} {f : Addr} {fd : FuncData} {k n i : Nat} {salt : Int} {N : List Str} {ms : MS} (F : Fun K x qual st f fd) (S : FnScope N ["script"] (defScope st)) (hn : N.length = n + 1) (hsalt : 0 ≤ salt ∧ salt < 1000)
    (hbody : ∀ (cdv : Value) (A : Around) (outer : List PySem.Env) (s : Shared) (H : Hp) (E : XK), Room k (A.deeper (envOfC qual (defScope st) s.heap.objs.size f cdv)) →
      ∃ E', PSs (cxOf CX0 P w K mg base N qual (defScope st) f cdv A outer s H E).nox (defBody st) (tLaw K i salt E' ms))
    (hm : ∀ w, Src w → ∃ env', ms ((List.replicate (n + 1) none).set i (some w)) = some (.rt (.d (.bool true)), env')) :
    FnOk P w K mg base CX0 (k + 1) f fd ["script"] (spLaw K) := by
  refine F.ok S (fun vs H Q E h => ?_) fun cdv A outer s H vs Q E hr h => ?_
  · obtain ⟨a, ns, rfl, _⟩ := h
    rfl
  · obtain ⟨a, ns, rfl, hs, q⟩ := h
    obtain ⟨E', hb⟩ := hbody cdv A outer s H E hr
    refine ⟨_, hb, ?_⟩
    have e0 : start N [V.ref a] = some (.ref a) :: List.replicate n none := by
      unfold start
      rw [hn]
      rfl
    rw [e0]
    refine ⟨_, rfl, a, ns, salt, rfl, hs, hsalt, fun v H' ow' wf c ⟨w, hw, rt⟩ => ?_⟩
    have ok0 : Ok H' ow' (some (.ref a) :: List.replicate n none) (List.replicate (n + 1) none) := by
      refine ⟨wf, fun j w e => ?_, by simp⟩
      rw [List.getElem?_replicate] at e
      split at e <;> cases e
    obtain ⟨ow2, ok2, c2, _⟩ := Ok.bind (w := w) i ok0 c rt
    obtain ⟨env', e⟩ := hm w hw
    refine ⟨ow2, _, .rt (.d (.bool true)), env', ok2, e, fun σ' H2 ow3 ok3 c3 _ v r => ?_⟩
    have r := repB (H := H2) (ow := ow3) (Rep.c (d := .bool true) r)
    subst r
    exact q H2
end
theorem walk {l : PySem.W.OpenLaw} {q : Program} {loose : List Str} {XP : (Str → Option Value) → Heap → Prop} {YP : World → Heap → Prop} {d : DefRec} {K : Params → PySem.W.Frag} {k : Nat} (hk : Room k callerA) (hn : l.most = some 63) (hdf : d.params.defaults = [])
    (hY : ∀ (w : World) (h : Heap), YP w h → (K w.params).In h)
    (F : ∀ (w : World) (mg : Str → Option Value) (fa : Addr) (h : Heap), (K w.params).In h → h.Ns mainGlobals mg → mg d.name = some (.ref fa) →
      ∃ fd : FuncData, (∀ (s : Shared) (u : Value), BindsTo s fd ⟨[u], []⟩ [("script", u)]) ∧ ∀ base : Heap, (K w.params).In base → base.Ns mainGlobals mg → FnOk l.prog w (K w.params) mg base CX0 k fa fd ["script"] (spLaw (K w.params))) :
    PySem.W.WalkO q loose XP YP l.row.toRowW d [] (fun f vs => PySem.call f vs) :=
  L2.walk_of (n := 63) (k := k) (x := "script") (CX := fun _ => CX0) (sp := fun w => spLaw (K w.params)) hn (by decide) hdf hk hY F (fun _ _ a ns hl ho hS => ⟨a, ns, rfl, Scr.of ho hS, fun _ => rfl⟩) fun _ _ _ _ _ z => z
end L2.Z

namespace L2.Z
open PySem PySem.Spec PyProof.Rows
variable {X : Cx}
/-! ### keywords, with the lengths held -/
def gKp {α : Type} (p n : Nat) (ix : List Nat) (z : α) (us ws : List α) : List α := if us.length = p ∧ ws.length = n then ix.map fun i => (us ++ ws).getD i z else []
theorem vals_get : ∀ {vs : List V} {us : List Value}, Vals vs us → ∀ i, RelV (vs.getD i .non) (us.getD i .none)
  | [], us, h, i => by cases h; exact rfl
  | v :: vs, us, h, i => by
    cases h with
    | cons h1 h2 =>
      cases i with
      | zero => exact h1
      | succ i => exact vals_get h2 i
theorem vals_map {vs : List V} {us : List Value} (h : Vals vs us) : ∀ ix : List Nat, Vals (ix.map fun i => vs.getD i .non) (ix.map fun i => us.getD i .none)
  | [] => .nil
  | i :: ix => .cons (vals_get h i) (vals_map h ix)
theorem vals_app : ∀ {vs zs : List V} {us ws : List Value}, Vals vs us → Vals zs ws → Vals (vs ++ zs) (us ++ ws)
  | [], zs, us, ws, h, k => by cases h; exact k
  | v :: vs, zs, us, ws, h, k => by
    cases h with
    | cons h1 h2 => exact .cons h1 (vals_app h2 k)
theorem kbinds {K : PySem.W.Frag} {x qual : Str} {st : Stmt} {f : Addr} {fd : FuncData} {ps ks : List Str} {p n : Nat} {ix : List Nat} (F : Fun K x qual st f fd) (hp : ps ≠ [])
    (h : ∀ (kV doc pm : Value) (an : Option Addr) (cdv ct : Value) (us ws : List Value), us.length = p → ws.length = n → bindArgs (PySem.W.fnOf x qual (defArgs st) (defBody st) (defScope st) .none kV doc pm an cdv ct) ⟨us, ks.zip ws⟩ = pure (ps.zip (ix.map fun i => (us ++ ws).getD i .none))) : KBinds K fd ps ks (gKp p n ix .none) (gKp p n ix .non) := by
  obtain ⟨oc, od, kV, doc, pm, an, cdv, ct, osl, rfl, lk, hcd⟩ := F.ex
  refine ⟨fun s us ws _ hl => ?_, fun {vs us zs ws} h1 h2 => ?_⟩
  · unfold gKp at hl ⊢
    split at hl
    · rename_i hc
      rw [if_pos hc]
      exact .of_eq (h kV doc pm an cdv ct us ws hc.1 hc.2)
    · cases ps with
      | nil => exact absurd rfl hp
      | cons a as => cases hl
  · unfold gKp
    have l1 := h1.length
    have l2 := h2.length
    by_cases hc : us.length = p ∧ ws.length = n
    · rw [if_pos hc, if_pos (by omega)]
      exact vals_map (vals_app h1 h2) ix
    · rw [if_neg hc, if_neg (by omega)]
      exact .nil
theorem spP.kw {Φ : FP} {ix : List Nat} {p n : Nat} {us ws : List V} {H : Hp} {Q : VK} {E : XK} (hl : us.length = p) (h : spP (permΦ Φ ix) (p + n) (us ++ ws) H Q E) : spP Φ ix.length (gKp p n ix .non us ws) H Q E := by
  have hl2 : ws.length = n := by
    obtain ⟨ow, ds, w, a, b, c, d, e, f⟩ := h
    have := c.length
    rw [List.length_append] at this
    omega
  unfold gKp
  rw [if_pos ⟨hl, hl2⟩]
  exact spP.perm h
theorem je_kw0 {Φ : FP} {n k : Nat} (ix : List Nat) {f : Addr} {fd : FuncData} {ps ks : List Str} {x : Str} {kws : List Keyword} {ma : MA} {p pos : Pos} {g : List Value → List Value → List Value}
    (F : FnOk X.prog X.w X.K X.mg X.base CX0 k f fd ps (spP Φ ix.length)) (hr : Room k X.A) (hg : Gl X x) (hm : X.mg x = some (.ref f)) (hk : PySem.W.keepIn X.K (.ref f) = true) (hb : KBinds X.K fd ps ks g (gKp 0 n ix .non)) (ha : JK X kws ma)
    (hall : (backToKw pos (keywordEach kws X.env)).all (·.1.isSome) = true := by rfl) (hks : (backToKw pos (keywordEach kws X.env)).filterMap (·.1) = ks := by rfl)
    (hdb : (x == ("__debug__" : Str)) = false := by decide)
    (hpl : ((backTo pos (starEach [] X.env)).any (·.1) || (backToKw pos (keywordEach kws X.env)).any (·.1.isNone)) = false := by rfl) :
    JE X (.Call (.Name x p) [] kws pos) (mCallP (permΦ Φ ix) (0 + n) ma) :=
  ⟨PE.weak (pe_callK0 F hr hg hm hk hb pass0 ha.pk hall hks hdb hpl) fun σ H Q h => tMA_mono (callP_of (E := fun _ _ _ => False) h) fun vs H1 q => by
    exact show spP Φ ix.length (gKp 0 n ix .non [] vs) H1 Q _ from spP.kw rfl q⟩

theorem FnOk.imp {P : Program} {w : World} {K : PySem.W.Frag} {mg : Str → Option Value} {base : Heap} {CX : CXT} {k : Nat} {f : Addr} {fd : FuncData} {ps : List Str} {sp sp' : Sp} (F : FnOk P w K mg base CX k f fd ps sp) (h : ∀ vs H Q E, sp' vs H Q E → sp vs H Q E) : FnOk P w K mg base CX k f fd ps sp' :=
  ⟨fun vs H Q E z => F.len vs H Q E (h _ _ _ _ z), fun A outer s H args us vs Q E a b c d z => F.run A outer s H args us vs Q E a b c d (h _ _ _ _ z)⟩
theorem fn_none {P : Program} {w : World} {K : PySem.W.Frag} {mg : Str → Option Value} {base : Heap} {CX : CXT} {k n : Nat} {f : Addr} {fd : FuncData} {ps : List Str} {Φ : FP} (h : ∀ ds, Φ ds = none) : FnOk P w K mg base CX k f fd ps (spP Φ n) := by
  have no : ∀ vs H Q E, ¬ spP Φ n vs H Q E := fun vs H Q E ⟨ow, ds, w, _, _, _, _, e, _⟩ => by rw [h] at e; cases e
  exact ⟨fun vs H Q E z => absurd z (no _ _ _ _), fun A outer s H args us vs Q E _ _ _ _ z => absurd z (no _ _ _ _)⟩
/-- a def as the top has made it -/
structure Fn0 (K : PySem.W.Frag) (mg : Str → Option Value) (x : Str) (st : Stmt) (ps : List Str) where
  a : Addr
  d : FuncData
  F : Fun K x x st a d
  m : mg x = some (.ref a)
  b : Binds K d ps []
/-! ### _law_same, _law_all -/
def m__law_same (rec : FP) : MS := (mSeq (mIfS (mTruth (mUn (gIs1 "tuple") (mVar 1))) (mSeq (mIfS (mOr (mNot (mTruth (mUn (gIs1 "tuple") (mVar 0)))) (mTest (mBin gNe (mCall gLen (mCons (mVar 0) mNil)) (mCall gLen (mCons (mVar 1) mNil))))) (mRet false (mC (.bool false))) mSkip)
    (mRet false (mBin gEq (mCall gLen (mCons (mLc (mRange1 (mCons (mCall gLen (mCons (mVar 1) mNil)) mNil)) (gNm 2) (mNot (mTruth (mCallP rec 2 (mCons (mFt (mBin gIx (mVar 0) (mVar 2))) (mCons (mFt (mBin gIx (mVar 1) (mVar 2))) mNil))))) (mVar 2) [2]) mNil)) (mC (.int 0))))) mSkip)
    (mSeq (mIfS (mTest (mBin (gIs false) (mVar 1) (mC .none))) (mRet false (mBin (gIs false) (mVar 0) (mC .none))) mSkip)
    (mSeq (mIfS (mOr (mTest (mBin (gIs false) (mVar 1) (mC (.bool true)))) (mTest (mBin (gIs false) (mVar 1) (mC (.bool false))))) (mRet false (mIf (mTruth (mVar 1)) (mBin (gIs false) (mVar 0) (mC (.bool true))) (mBin (gIs false) (mVar 0) (mC (.bool false))))) mSkip)
    (mSeq (mIfS (mTruth (mUn (gIs1 "str") (mVar 1))) (mRet false (mAndV (mUn (gIs1 "str") (mVar 0)) (mBin gEq (mVar 0) (mVar 1)))) mSkip)
    (mRet false (mAndV (mUn (gIs1 "int") (mVar 0)) (mAndV (mNotV (mUn (gIs1 "bool") (mVar 0))) (mBin gEq (mVar 0) (mVar 1)))))))))
def all2 (p : D → D → Bool) : List D → List D → Bool
  | [], [] => true
  | x :: xs, y :: ys => p x y && all2 p xs ys
  | _, _ => false
def sameD : Nat → D → D → Bool
  | 0, _, _ => false
  | n + 1, x, y => match x, y with
    | .tuple xs, .tuple ys => decide (xs.length ≤ 1000000) && all2 (sameD n) xs ys
    | .none, .none => true
    | .bool a, .bool b => a == b
    | .int a, .int b => decide (a = b)
    | .str a, .str b => decide (a = b) && PyData.strOk a
    | _, _ => false
def c__law_same_d (n : Nat) : FP := fun ds => match ds with
  | [x, y] => if sameD n x y = true then some (.d (.bool true)) else none
  | _ => none
theorem all2_len {p : D → D → Bool} : ∀ {xs ys : List D}, all2 p xs ys = true → xs.length = ys.length
  | [], [], _ => rfl
  | x :: xs, y :: ys, h => by
    rw [all2, Bool.and_eq_true] at h
    rw [List.length_cons, List.length_cons, all2_len h.2]
  | [], y :: ys, h => by cases h
  | x :: xs, [], h => by cases h
theorem all2_get {p : D → D → Bool} : ∀ {xs ys : List D} {i : Nat}, all2 p xs ys = true → i < xs.length → ∃ x y, xs[i]? = some x ∧ ys[i]? = some y ∧ p x y = true
  | x :: xs, y :: ys, 0, h, _ => by
    rw [all2, Bool.and_eq_true] at h
    exact ⟨x, y, rfl, rfl, h.1⟩
  | x :: xs, y :: ys, i + 1, h, hi => by
    rw [all2, Bool.and_eq_true] at h
    obtain ⟨a, b, h1, h2, h3⟩ := all2_get (i := i) h.2 (by simpa using hi)
    exact ⟨a, b, by simpa using h1, by simpa using h2, h3⟩
  | [], [], i, _, hi => by simp at hi
  | x :: xs, [], i, h, _ => by cases h
  | [], y :: ys, i, h, _ => by cases h
theorem shaped_str {a : Str} (h : PyData.strOk a = true) : SeqAt.shaped (.str a) = true := by simp [SeqAt.shaped, PyData.canLay0, PyData.depth, h]
theorem eqv_str (a : Str) : PyData.eqv (.str a) (.str a) = true := by simp [PyData.eqv]
theorem tt : ("tuple" == "tuple") = true := by decide
theorem filt0 {α : Type} (l : List α) : List.filter (fun _ => false) l = [] := by simp
def mS1 (L : ME) (rest : MS) : MS := (mSeq (mIfS (mTruth (mUn (gIs1 "tuple") (mVar 1))) (mSeq (mIfS (mOr (mNot (mTruth (mUn (gIs1 "tuple") (mVar 0)))) (mTest (mBin gNe (mCall gLen (mCons (mVar 0) mNil)) (mCall gLen (mCons (mVar 1) mNil))))) (mRet false (mC (.bool false))) mSkip)
    (mRet false (mBin gEq (mCall gLen (mCons L mNil)) (mC (.int 0))))) mSkip) rest)
theorem ks_aux (n : Nat) (xs ys : List D) (hl2 : xs.length = ys.length) (L : ME) (r : L [some (.d (.tuple xs)), some (.d (.tuple ys)), none] = some (.val (.own []), [some (.d (.tuple xs)), some (.d (.tuple ys)), none])) (rest : MS) : runP 3 (mS1 L rest) [.tuple xs, .tuple ys] = some (.d (.bool true)) := by
  have e0 : startE 3 (List.map W.d [PyData.tuple xs, PyData.tuple ys]) = [some (.d (.tuple xs)), some (.d (.tuple ys)), none] := rfl
  have h1 : mIfS (mOr (mNot (mTruth (mUn (gIs1 "tuple") (mVar 0)))) (mTest (mBin gNe (mCall gLen (mCons (mVar 0) mNil)) (mCall gLen (mCons (mVar 1) mNil))))) (mRet false (mC (.bool false))) mSkip [some (.d (.tuple xs)), some (.d (.tuple ys)), none] = some (.nx, [some (.d (.tuple xs)), some (.d (.tuple ys)), none]) := by
    simp [mSeq, mAsg, mFv, fz, mBin, cont, mVar, mC, mUn, mCons, mNil, mCall, conts, mTup, mLst, dsOf, dOf, mFz, mFt, mSkip, mRet, mIfS, mTest, mTruth, truD, mNot, mAnd, mOr, mAndV, mOrV, mNotV, mIf, mYes, mExpr, mBreak, mCont, gNm, gsNil, gsCons, gTupD, mItems, mFor, mMeth, mPop, mSetIx, ownAt, gApp, mPar, wsOf, setAll, mAug, mAugAdd, mAugSub, gSub, gFdiv, gMod, gPow, gShl, gShr, gAnd, gLt, gLe, gGt, gGe, gI, gAdd, gMul, gNeg, gLen, gAbs, gInt, gIx, gRev, gEq, gNe, gIs1, mReg, mSetReg, mSrcNe, mSrcLast, mSrcPop, mSrcPut, srcAt, mSl, mNoPart, mPart, gSl, mCallP, mCallM, argsOf, slotW, notD, noLW, mRange1, mRange2, mRange3, mEnum, mZip, mChain, runP, runM, startE, fin0, lenLine, wipeE, restE, plainAt, List.getElem?_cons_zero, List.getElem?_cons_succ, List.set_cons_zero, List.set_cons_succ, List.map_cons, List.map_nil, List.length_cons, List.length_nil, List.replicate, List.cons_append, List.nil_append, List.isEmpty_nil, List.all_cons, List.all_nil, isiB, hl2]
  have h2 : mTruth (mUn (gIs1 "tuple") (mVar 1)) [some (.d (.tuple xs)), some (.d (.tuple ys)), none] = some (true, [some (.d (.tuple xs)), some (.d (.tuple ys)), none]) := by
    simp [mSeq, mAsg, mFv, fz, mBin, cont, mVar, mC, mUn, mCons, mNil, mCall, conts, mTup, mLst, dsOf, dOf, mFz, mFt, mSkip, mRet, mIfS, mTest, mTruth, truD, mNot, mAnd, mOr, mAndV, mOrV, mNotV, mIf, mYes, mExpr, mBreak, mCont, gNm, gsNil, gsCons, gTupD, mItems, mFor, mMeth, mPop, mSetIx, ownAt, gApp, mPar, wsOf, setAll, mAug, mAugAdd, mAugSub, gSub, gFdiv, gMod, gPow, gShl, gShr, gAnd, gLt, gLe, gGt, gGe, gI, gAdd, gMul, gNeg, gLen, gAbs, gInt, gIx, gRev, gEq, gNe, gIs1, mReg, mSetReg, mSrcNe, mSrcLast, mSrcPop, mSrcPut, srcAt, mSl, mNoPart, mPart, gSl, mCallP, mCallM, argsOf, slotW, notD, noLW, mRange1, mRange2, mRange3, mEnum, mZip, mChain, runP, runM, startE, fin0, lenLine, wipeE, restE, plainAt, List.getElem?_cons_zero, List.getElem?_cons_succ, List.set_cons_zero, List.set_cons_succ, List.map_cons, List.map_nil, List.length_cons, List.length_nil, List.replicate, List.cons_append, List.nil_append, List.isEmpty_nil, List.all_cons, List.all_nil, isiB]
  have h3 : mRet false (mBin gEq (mCall gLen (mCons L mNil)) (mC (.int 0))) [some (.d (.tuple xs)), some (.d (.tuple ys)), none] = some (.rt (.d (.bool true)), [some (.d (.tuple xs)), some (.d (.tuple ys)), none]) := by
    simp [mSeq, mAsg, mFv, fz, mBin, cont, mVar, mC, mUn, mCons, mNil, mCall, conts, mTup, mLst, dsOf, dOf, mFz, mFt, mSkip, mRet, mIfS, mTest, mTruth, truD, mNot, mAnd, mOr, mAndV, mOrV, mNotV, mIf, mYes, mExpr, mBreak, mCont, gNm, gsNil, gsCons, gTupD, mItems, mFor, mMeth, mPop, mSetIx, ownAt, gApp, mPar, wsOf, setAll, mAug, mAugAdd, mAugSub, gSub, gFdiv, gMod, gPow, gShl, gShr, gAnd, gLt, gLe, gGt, gGe, gI, gAdd, gMul, gNeg, gLen, gAbs, gInt, gIx, gRev, gEq, gNe, gIs1, mReg, mSetReg, mSrcNe, mSrcLast, mSrcPop, mSrcPut, srcAt, mSl, mNoPart, mPart, gSl, mCallP, mCallM, argsOf, slotW, notD, noLW, mRange1, mRange2, mRange3, mEnum, mZip, mChain, runP, runM, startE, fin0, lenLine, wipeE, restE, plainAt, List.getElem?_cons_zero, List.getElem?_cons_succ, List.set_cons_zero, List.set_cons_succ, List.map_cons, List.map_nil, List.length_cons, List.length_nil, List.replicate, List.cons_append, List.nil_append, List.isEmpty_nil, List.all_cons, List.all_nil, r]
  have h4 : mS1 L rest [some (.d (.tuple xs)), some (.d (.tuple ys)), none] = some (.rt (.d (.bool true)), [some (.d (.tuple xs)), some (.d (.tuple ys)), none]) := by
    unfold mS1
    rw [mSeq, mIfS, h2]
    simp only []
    rw [mSeq, h1]
    simp only []
    rw [h3]
  rw [runP, e0, h4]
theorem ks_tuple (n : Nat) (xs ys : List D) (hs : sameD (n + 1) (.tuple xs) (.tuple ys) = true) : runP 3 (m__law_same (c__law_same_d n)) [.tuple xs, .tuple ys] = some (.d (.bool true)) := by
    unfold m__law_same
    have e : xs.length ≤ 1000000 ∧ all2 (sameD n) xs ys = true := by simpa [sameD] using hs
    obtain ⟨hl, e⟩ := e
    have hl2 := all2_len e
    have q := lc_map (g := gNm 2) (t := mNot (mTruth (mCallP (c__law_same_d n) 2 (mCons (mFt (mBin gIx (mVar 0) (mVar 2))) (mCons (mFt (mBin gIx (mVar 1) (mVar 2))) mNil))))) (m := mVar 2) (vs := [2]) (e := [some (.d (.tuple xs)), some (.d (.tuple ys)), none]) (fun (i : Nat) => PyData.int (0 + (i : Int) * 1)) (fun _ => false) (fun i => .int i) (List.range ys.length) (fun i hi => by
      obtain ⟨a, b, h1, h2, h3⟩ := all2_get e (i := i) (by rw [hl2]; exact List.mem_range.mp hi)
      refine ⟨[some (.d (.tuple xs)), some (.d (.tuple ys)), some (.d (.int (0 + (i : Int) * 1)))], [some (.d (.tuple xs)), some (.d (.tuple ys)), some (.d (.int (0 + (i : Int) * 1)))], rfl, ?_, (fun _ => rfl), fun z => by cases z⟩
      have e1 : atI xs (0 + (i : Int) * 1) = some a := by rw [Int.zero_add, Int.mul_one]; exact atI_nat h1
      have e2 : atI ys (0 + (i : Int) * 1) = some b := by rw [Int.zero_add, Int.mul_one]; exact atI_nat h2
      have e3 : c__law_same_d n [a, b] = some (.d (.bool true)) := by simp [c__law_same_d, h3]
      simp only [mSeq, mAsg, mFv, fz, mBin, cont, mVar, mC, mUn, mCons, mNil, mCall, conts, mTup, mLst, dsOf, dOf, mFz, mFt, mSkip, mRet, mIfS, mTest, mTruth, truD, mNot, mAnd, mOr, mAndV, mOrV, mNotV, mIf, mYes, mExpr, mBreak, mCont, gNm, gsNil, gsCons, gTupD, mItems, mFor, mMeth, mPop, mSetIx, ownAt, gApp, mPar, wsOf, setAll, mAug, mAugAdd, mAugSub, gSub, gFdiv, gMod, gPow, gShl, gShr, gAnd, gLt, gLe, gGt, gGe, gI, gAdd, gMul, gNeg, gLen, gAbs, gInt, gIx, gRev, gEq, gNe, gIs1, mReg, mSetReg, mSrcNe, mSrcLast, mSrcPop, mSrcPut, srcAt, mSl, mNoPart, mPart, gSl, mCallP, mCallM, argsOf, slotW, notD, noLW, mRange1, mRange2, mRange3, mEnum, mZip, mChain, runP, runM, startE, fin0, lenLine, wipeE, restE, plainAt, List.getElem?_cons_zero, List.getElem?_cons_succ, List.set_cons_zero, List.set_cons_succ, List.map_cons, List.map_nil, List.length_cons, List.length_nil, List.replicate, List.cons_append, List.nil_append, List.isEmpty_nil, List.all_cons, List.all_nil, e1, e2, e3, if_true, Bool.true_or, List.isEmpty_nil, Bool.not_true])
    have hr : okR (ys.length : Int) = true := by unfold okR; simp; omega
    have r := mLc_of (mi := mRange1 (mCons (mCall gLen (mCons (mVar 1) mNil)) mNil)) (vs := [2]) (env := [some (.d (.tuple xs)), some (.d (.tuple ys)), none]) (env1 := [some (.d (.tuple xs)), some (.d (.tuple ys)), none]) (ds := rangeD 0 1 ys.length) (by simp [mSeq, mAsg, mFv, fz, mBin, cont, mVar, mC, mUn, mCons, mNil, mCall, conts, mTup, mLst, dsOf, dOf, mFz, mFt, mSkip, mRet, mIfS, mTest, mTruth, truD, mNot, mAnd, mOr, mAndV, mOrV, mNotV, mIf, mYes, mExpr, mBreak, mCont, gNm, gsNil, gsCons, gTupD, mItems, mFor, mMeth, mPop, mSetIx, ownAt, gApp, mPar, wsOf, setAll, mAug, mAugAdd, mAugSub, gSub, gFdiv, gMod, gPow, gShl, gShr, gAnd, gLt, gLe, gGt, gGe, gI, gAdd, gMul, gNeg, gLen, gAbs, gInt, gIx, gRev, gEq, gNe, gIs1, mReg, mSetReg, mSrcNe, mSrcLast, mSrcPop, mSrcPut, srcAt, mSl, mNoPart, mPart, gSl, mCallP, mCallM, argsOf, slotW, notD, noLW, mRange1, mRange2, mRange3, mEnum, mZip, mChain, runP, runM, startE, fin0, lenLine, wipeE, restE, plainAt, List.getElem?_cons_zero, List.getElem?_cons_succ, List.set_cons_zero, List.set_cons_succ, List.map_cons, List.map_nil, List.length_cons, List.length_nil, List.replicate, List.cons_append, List.nil_append, List.isEmpty_nil, List.all_cons, List.all_nil, hr]) rfl (by rw [rangeD_len]; unfold lenLine; omega) q
    rw [filt0] at r
    exact ks_aux n xs ys hl2 _ r _
theorem k__law_same (n : Nat) : ∀ ds w, ds.length = 2 → c__law_same_d (n + 1) ds = some w → runP 3 (m__law_same (c__law_same_d n)) ds = some w := by
  intro ds w h0 h
  clear h0
  unfold c__law_same_d at h
  split at h
  rotate_left
  · cases h
  rename_i x y
  split at h
  rotate_left
  · cases h
  rename_i hs
  cases h
  unfold m__law_same
  cases x <;> cases y <;> first | (exfalso; revert hs; simp [sameD]; done) | skip
  · simp [mSeq, mAsg, mFv, fz, mBin, cont, mVar, mC, mUn, mCons, mNil, mCall, conts, mTup, mLst, dsOf, dOf, mFz, mFt, mSkip, mRet, mIfS, mTest, mTruth, truD, mNot, mAnd, mOr, mAndV, mOrV, mNotV, mIf, mYes, mExpr, mBreak, mCont, gNm, gsNil, gsCons, gTupD, mItems, mFor, mMeth, mPop, mSetIx, ownAt, gApp, mPar, wsOf, setAll, mAug, mAugAdd, mAugSub, gSub, gFdiv, gMod, gPow, gShl, gShr, gAnd, gLt, gLe, gGt, gGe, gI, gAdd, gMul, gNeg, gLen, gAbs, gInt, gIx, gRev, gEq, gNe, gIs1, mReg, mSetReg, mSrcNe, mSrcLast, mSrcPop, mSrcPut, srcAt, mSl, mNoPart, mPart, gSl, mCallP, mCallM, argsOf, slotW, notD, noLW, mRange1, mRange2, mRange3, mEnum, mZip, mChain, runP, runM, startE, fin0, lenLine, wipeE, restE, plainAt, List.getElem?_cons_zero, List.getElem?_cons_succ, List.set_cons_zero, List.set_cons_succ, List.map_cons, List.map_nil, List.length_cons, List.length_nil, List.replicate, List.cons_append, List.nil_append, List.isEmpty_nil, List.all_cons, List.all_nil, isiB, gIs, simpD, isD]
    try rfl
  · rename_i a b
    have e : a = b := by simpa [sameD] using hs
    subst e
    cases a <;> simp [mSeq, mAsg, mFv, fz, mBin, cont, mVar, mC, mUn, mCons, mNil, mCall, conts, mTup, mLst, dsOf, dOf, mFz, mFt, mSkip, mRet, mIfS, mTest, mTruth, truD, mNot, mAnd, mOr, mAndV, mOrV, mNotV, mIf, mYes, mExpr, mBreak, mCont, gNm, gsNil, gsCons, gTupD, mItems, mFor, mMeth, mPop, mSetIx, ownAt, gApp, mPar, wsOf, setAll, mAug, mAugAdd, mAugSub, gSub, gFdiv, gMod, gPow, gShl, gShr, gAnd, gLt, gLe, gGt, gGe, gI, gAdd, gMul, gNeg, gLen, gAbs, gInt, gIx, gRev, gEq, gNe, gIs1, mReg, mSetReg, mSrcNe, mSrcLast, mSrcPop, mSrcPut, srcAt, mSl, mNoPart, mPart, gSl, mCallP, mCallM, argsOf, slotW, notD, noLW, mRange1, mRange2, mRange3, mEnum, mZip, mChain, runP, runM, startE, fin0, lenLine, wipeE, restE, plainAt, List.getElem?_cons_zero, List.getElem?_cons_succ, List.set_cons_zero, List.set_cons_succ, List.map_cons, List.map_nil, List.length_cons, List.length_nil, List.replicate, List.cons_append, List.nil_append, List.isEmpty_nil, List.all_cons, List.all_nil, isiB, gIs, simpD, isD]
  · rename_i a b
    have e : a = b := by simpa [sameD] using hs
    subst e
    simp [mSeq, mAsg, mFv, fz, mBin, cont, mVar, mC, mUn, mCons, mNil, mCall, conts, mTup, mLst, dsOf, dOf, mFz, mFt, mSkip, mRet, mIfS, mTest, mTruth, truD, mNot, mAnd, mOr, mAndV, mOrV, mNotV, mIf, mYes, mExpr, mBreak, mCont, gNm, gsNil, gsCons, gTupD, mItems, mFor, mMeth, mPop, mSetIx, ownAt, gApp, mPar, wsOf, setAll, mAug, mAugAdd, mAugSub, gSub, gFdiv, gMod, gPow, gShl, gShr, gAnd, gLt, gLe, gGt, gGe, gI, gAdd, gMul, gNeg, gLen, gAbs, gInt, gIx, gRev, gEq, gNe, gIs1, mReg, mSetReg, mSrcNe, mSrcLast, mSrcPop, mSrcPut, srcAt, mSl, mNoPart, mPart, gSl, mCallP, mCallM, argsOf, slotW, notD, noLW, mRange1, mRange2, mRange3, mEnum, mZip, mChain, runP, runM, startE, fin0, lenLine, wipeE, restE, plainAt, List.getElem?_cons_zero, List.getElem?_cons_succ, List.set_cons_zero, List.set_cons_succ, List.map_cons, List.map_nil, List.length_cons, List.length_nil, List.replicate, List.cons_append, List.nil_append, List.isEmpty_nil, List.all_cons, List.all_nil, isiB, gIs, simpD, isD]
  · rename_i a b
    have e : a = b ∧ PyData.strOk a = true := by simpa [sameD] using hs
    obtain ⟨rfl, e⟩ := e
    simp [mSeq, mAsg, mFv, fz, mBin, cont, mVar, mC, mUn, mCons, mNil, mCall, conts, mTup, mLst, dsOf, dOf, mFz, mFt, mSkip, mRet, mIfS, mTest, mTruth, truD, mNot, mAnd, mOr, mAndV, mOrV, mNotV, mIf, mYes, mExpr, mBreak, mCont, gNm, gsNil, gsCons, gTupD, mItems, mFor, mMeth, mPop, mSetIx, ownAt, gApp, mPar, wsOf, setAll, mAug, mAugAdd, mAugSub, gSub, gFdiv, gMod, gPow, gShl, gShr, gAnd, gLt, gLe, gGt, gGe, gI, gAdd, gMul, gNeg, gLen, gAbs, gInt, gIx, gRev, gEq, gNe, gIs1, mReg, mSetReg, mSrcNe, mSrcLast, mSrcPop, mSrcPut, srcAt, mSl, mNoPart, mPart, gSl, mCallP, mCallM, argsOf, slotW, notD, noLW, mRange1, mRange2, mRange3, mEnum, mZip, mChain, runP, runM, startE, fin0, lenLine, wipeE, restE, plainAt, List.getElem?_cons_zero, List.getElem?_cons_succ, List.set_cons_zero, List.set_cons_succ, List.map_cons, List.map_nil, List.length_cons, List.length_nil, List.replicate, List.cons_append, List.nil_append, List.isEmpty_nil, List.all_cons, List.all_nil, isiB, gIs, simpD, isD, shaped_str e, eqv_str]
  · rename_i xs ys
    exact ks_tuple n xs ys hs
end L2.Z

namespace L2.Z
open PySem PySem.Spec PyProof.Rows
/-- a loop with a counted invariant -/
theorem for_ix {α S : Type} {g : MG} {b : MS} (f : α → D) (E : S → Env) (I : Nat → S → Prop) (N : Nat) : ∀ (as : List α) (i : Nat) (s : S), i + as.length ≤ N → I i s → (∀ j, j < N → ∀ a s, I j s → ∃ s', I (j + 1) s' ∧ ∃ e1, g (f a) (E s) = some e1 ∧ b e1 = some (.nx, E s')) → ∃ s', forM' g b (as.map f) (E s) = some (.nx, E s') ∧ I (i + as.length) s'
  | [], i, s, _, hi, _ => ⟨s, rfl, hi⟩
  | a :: as, i, s, hl, hi, h => by
    rw [List.length_cons] at hl
    obtain ⟨s1, h1, e1, h2, h3⟩ := h i (by omega) a s hi
    rw [List.map_cons, for_turn h2 h3]
    obtain ⟨s', h4, h5⟩ := for_ix f E I N as (i + 1) s1 (by omega) h1 h
    exact ⟨s', h4, by rw [List.length_cons]; have : i + (as.length + 1) = i + 1 + as.length := by omega
                      rw [this]; exact h5⟩
def isI (o : Option W) (i : Int) : Bool := match o with
  | some (.d (.int j)) => decide (j = i)
  | _ => false
theorem isI_eq {o : Option W} {i : Int} (h : isI o i = true) : o = some (.d (.int i)) := by
  unfold isI at h
  split at h
  · rw [of_decide_eq_true h]
  · cases h
theorem range_all {p : Nat → Bool} {n : Nat} (h : (List.range n).all p = true) {i : Nat} (hi : i < n) : p i = true := List.all_eq_true.mp h i (List.mem_range.mpr hi)
theorem any_ok' {cs : List Int} {mix b : Int} (hs : Src (.src cs [mix])) (hb : 0 < b) (hl : b < 2 ^ 9000) : ∃ r cs' mix', c__law_any (.src cs [mix]) [.int b] = some (.d (.int r), .src cs' [mix']) ∧ 0 ≤ r ∧ r < b ∧ Src (.src cs' [mix']) := by
  obtain ⟨r, s', h1, h2, h3, h4⟩ := any_ok hs hb hl
  cases s' with
  | d x => exact h4.elim
  | own x => exact h4.elim
  | src cs' rs =>
    match rs, h4 with
    | [mix'], h4 => exact ⟨r, cs', mix', h1, h2, h3, h4⟩
    | [], h4 => exact h4.elim
    | _ :: _ :: _, h4 => exact h4.elim
theorem small9000 {b : Int} (h : b < 2 ^ 60) : b < 2 ^ 9000 := Int.lt_of_lt_of_le h (Int.ofNat_le.mpr (Nat.pow_le_pow_right (by decide) (by decide : 60 ≤ 9000)))
def pairOk (d : D) : Bool := match d with
  | .tuple [x, y] => sameD 4 x y
  | _ => false
theorem pair_int (a : Int) : pairOk (.tuple [.int a, .int a]) = true := by simp [pairOk, sameD]
def mAllL (L : ME) : MS := mRet false (mBin gEq (mCall gLen (mCons L mNil)) (mC (.int 0)))
theorem all_aux (ps : List D) (L : ME) (h : L [some (.d (.list ps)), none, none] = some (.val (.own []), [some (.d (.list ps)), none, none])) : runP 3 (mAllL L) [.list ps] = some (.d (.bool true)) := by
  have e0 : startE 3 (List.map W.d [PyData.list ps]) = [some (.d (.list ps)), none, none] := rfl
  have h4 : mAllL L [some (.d (.list ps)), none, none] = some (.rt (.d (.bool true)), [some (.d (.list ps)), none, none]) := by
    unfold mAllL
    simp [mSeq, mAsg, mFv, fz, mBin, cont, mVar, mC, mUn, mCons, mNil, mCall, conts, mTup, mLst, dsOf, dOf, mFz, mFt, mSkip, mRet, mIfS, mTest, mTruth, truD, mNot, mAnd, mOr, mAndV, mOrV, mNotV, mIf, mYes, mExpr, mBreak, mCont, gNm, gsNil, gsCons, gTupD, mItems, mFor, mMeth, mPop, mSetIx, ownAt, gApp, mPar, wsOf, setAll, mAug, mAugAdd, mAugSub, gSub, gFdiv, gMod, gPow, gShl, gShr, gAnd, gLt, gLe, gGt, gGe, gI, gAdd, gMul, gNeg, gLen, gAbs, gInt, gIx, gRev, gEq, gNe, gIs1, mReg, mSetReg, mSrcNe, mSrcLast, mSrcPop, mSrcPut, srcAt, mSl, mNoPart, mPart, gSl, mCallP, mCallM, argsOf, slotW, notD, noLW, mRange1, mRange2, mRange3, mEnum, mZip, mChain, runP, runM, startE, fin0, lenLine, wipeE, restE, plainAt, List.getElem?_cons_zero, List.getElem?_cons_succ, List.set_cons_zero, List.set_cons_succ, List.map_cons, List.map_nil, List.length_cons, List.length_nil, List.replicate, List.cons_append, List.nil_append, List.isEmpty_nil, List.all_cons, List.all_nil, h]
  rw [runP, e0, h4]
theorem all_of (ps : List D) (h : ps.all pairOk = true) (hl : ps.length ≤ lenLine) : runP 3 (mAllL (mLc (mItems (mVar 0)) (gTupD 2 (gsCons (gNm 1) (gsCons (gNm 2) gsNil))) (mNot (mTruth (mCallP (c__law_same_d 4) 2 (mCons (mFt (mVar 1)) (mCons (mFt (mVar 2)) mNil))))) (mVar 1) [1, 2])) [.list ps] = some (.d (.bool true)) := by
  refine all_aux ps _ ?_
  have q := lc_map (g := (gTupD 2 (gsCons (gNm 1) (gsCons (gNm 2) gsNil)))) (t := (mNot (mTruth (mCallP (c__law_same_d 4) 2 (mCons (mFt (mVar 1)) (mCons (mFt (mVar 2)) mNil)))))) (m := mVar 1) (vs := [1, 2]) (e := [some (.d (.list ps)), none, none]) (fun (d : D) => d) (fun _ => false) (fun d => d) ps (fun d hd => by
    have hp := List.all_eq_true.mp h d hd
    unfold pairOk at hp
    split at hp
    · rename_i x y
      have e3 : c__law_same_d 4 [x, y] = some (.d (.bool true)) := by simp [c__law_same_d, hp]
      refine ⟨[some (.d (.list ps)), some (.d x), some (.d y)], [some (.d (.list ps)), some (.d x), some (.d y)], rfl, ?_, fun _ => rfl, fun z => by cases z⟩
      simp only [mSeq, mAsg, mFv, fz, mBin, cont, mVar, mC, mUn, mCons, mNil, mCall, conts, mTup, mLst, dsOf, dOf, mFz, mFt, mSkip, mRet, mIfS, mTest, mTruth, truD, mNot, mAnd, mOr, mAndV, mOrV, mNotV, mIf, mYes, mExpr, mBreak, mCont, gNm, gsNil, gsCons, gTupD, mItems, mFor, mMeth, mPop, mSetIx, ownAt, gApp, mPar, wsOf, setAll, mAug, mAugAdd, mAugSub, gSub, gFdiv, gMod, gPow, gShl, gShr, gAnd, gLt, gLe, gGt, gGe, gI, gAdd, gMul, gNeg, gLen, gAbs, gInt, gIx, gRev, gEq, gNe, gIs1, mReg, mSetReg, mSrcNe, mSrcLast, mSrcPop, mSrcPut, srcAt, mSl, mNoPart, mPart, gSl, mCallP, mCallM, argsOf, slotW, notD, noLW, mRange1, mRange2, mRange3, mEnum, mZip, mChain, runP, runM, startE, fin0, lenLine, wipeE, restE, plainAt, List.getElem?_cons_zero, List.getElem?_cons_succ, List.set_cons_zero, List.set_cons_succ, List.map_cons, List.map_nil, List.length_cons, List.length_nil, List.replicate, List.cons_append, List.nil_append, List.isEmpty_nil, List.all_cons, List.all_nil, e3, if_true, Bool.true_or, Bool.not_true]
    · cases hp)
  rw [filt0, List.map_id'] at q
  exact mLc_of (mi := mItems (mVar 0)) (vs := [1, 2]) (env1 := [some (.d (.list ps)), none, none]) (e := [some (.d (.list ps)), none, none]) (ds := ps) rfl rfl hl q
end L2.Z

namespace L2.Z
open PySem PySem.Spec PyProof.Rows
def c__law_same : FP := c__law_same_d 4
def m__law_all : MS := (mRet false (mBin gEq (mCall gLen (mCons (mLc (mItems (mVar 0)) (gTupD 2 (gsCons (gNm 1) (gsCons (gNm 2) gsNil))) (mNot (mTruth (mCallP c__law_same 2 (mCons (mFt (mVar 1)) (mCons (mFt (mVar 2)) mNil))))) (mVar 1) [1, 2]) mNil)) (mC (.int 0))))
def c__law_all : FP := runP 3 m__law_all
def m__law_zigzags : MS := (mSeq (mPar [1, 2] (mCons (mFv (mLst (mCons (mFz (mC (.int 1))) mNil))) (mCons (mFv (mLst (mCons (mFz (mC (.int 1))) mNil))) mNil)))
    (mSeq (mFor (mRange1 (mCons (mVar 0) mNil)) (gNm 3) (mSeq (mAsg 4 (mLst (mCons (mFz (mC (.int 0))) mNil)))
    (mSeq (mFor (mItems (mUn gRev (mVar 1))) (gNm 5) (mExpr (mMeth 4 gApp (mCons (mFz (mBin gAdd (mBin gIx (mVar 4) (mUn gNeg (mC (.int 1)))) (mVar 5))) mNil))))
    (mSeq (mAsg 1 (mVar 4))
    (mExpr (mMeth 2 gApp (mCons (mFz (mBin gIx (mVar 1) (mUn gNeg (mC (.int 1))))) mNil)))))))
    (mRet false (mVar 2))))
def c__law_zigzags : FP := runP 6 m__law_zigzags
def m__law_of : MS := (mRet true (mBin gIx (mVar 1) (mCallM c__law_any 2 (mCons (mVar 0) (mCons (mFt (mCall gLen (mCons (mVar 1) mNil))) mNil)))))
def c__law_of : FM := runM 2 m__law_of
def m__law_ten : MS := (mSeq (mAsg 1 (mC (.int 1)))
    (mSeq (mFor (mRange1 (mCons (mVar 0) mNil)) (gNm 2) (mAsg 1 (mBin gMul (mVar 1) (mC (.int 10)))))
    (mRet false (mVar 1))))
def c__law_ten : FP := runP 3 m__law_ten
def m__law_wide : MS := (mSeq (mAsg 2 (mIf (mTest (mBin gEq (mCallM c__law_any 2 (mCons (mVar 0) (mCons (mFt (mC (.int 3))) mNil))) (mC (.int 0)))) (mVar 1) (mBin gAdd (mC (.int 1)) (mCallM c__law_any 2 (mCons (mVar 0) (mCons (mFt (mVar 1)) mNil))))))
    (mSeq (mAsg 3 (mC (.int 0)))
    (mSeq (mFor (mRange1 (mCons (mBin gFdiv (mBin gAdd (mVar 2) (mC (.int 4))) (mC (.int 5))) mNil)) (gNm 4) (mAsg 3 (mBin gAdd (mBin gMul (mVar 3) (mC (.int 100000))) (mCallM c__law_any 2 (mCons (mVar 0) (mCons (mFt (mC (.int 100000))) mNil))))))
    (mRet true (mBin gMod (mCall gInt (mCons (mVar 3) mNil)) (mCallP c__law_ten 1 (mCons (mFt (mVar 2)) mNil)))))))
def c__law_wide : FM := runM 5 m__law_wide
def m__law_raised : MS := (mSeq (mPar [2, 3, 4] (mCons (mFv (mC (.int 1))) (mCons (mFv (mVar 0)) (mCons (mFv (mVar 1)) mNil))))
    (mSeq (whileM (mTest (mBin gGt (mVar 4) (mC (.int 0)))) (mSeq (mIfS (mTest (mBin gEq (mBin gMod (mCall gInt (mCons (mVar 4) mNil)) (mC (.int 2))) (mC (.int 1)))) (mAsg 2 (mBin gMul (mVar 2) (mVar 3))) mSkip)
    (mSeq (mAsg 4 (mBin gFdiv (mVar 4) (mC (.int 2))))
    (mIfS (mTest (mBin gGt (mVar 4) (mC (.int 0)))) (mAsg 3 (mBin gMul (mVar 3) (mVar 3))) mSkip))) 1000)
    (mRet false (mVar 2))))
def c__law_raised : FP := runP 5 m__law_raised
def m__law_place : MS := (mSeq (mAsg 1 (mBin gAdd (mC (.int 1)) (mCallM c__law_wide 2 (mCons (mVar 0) (mCons (mFt (mC (.int 16))) mNil)))))
    (mSeq (mFor (mRange1 (mCons (mCallM c__law_any 2 (mCons (mVar 0) (mCons (mFt (mC (.int 3))) mNil))) mNil)) (gNm 2) (mAsg 1 (mBin gMul (mVar 1) (mCallP c__law_raised 2 (mCons (mFt (mC (.int 2))) (mCons (mFt (mCallM c__law_any 2 (mCons (mVar 0) (mCons (mFt (mC (.int 32))) mNil)))) mNil))))))
    (mRet true (mVar 1))))
def c__law_place : FM := runM 3 m__law_place
def m__law_gcd : MS := (mSeq (mPar [0, 1] (mCons (mFv (mCall gAbs (mCons (mVar 0) mNil))) (mCons (mFv (mCall gAbs (mCons (mVar 1) mNil))) mNil)))
    (mSeq (whileM (mTest (mBin gNe (mVar 1) (mC (.int 0)))) (mPar [0, 1] (mCons (mFv (mVar 1)) (mCons (mFv (mBin gMod (mCall gInt (mCons (mVar 0) mNil)) (mVar 1))) mNil))) 1000)
    (mRet false (mVar 0))))
def c__law_gcd : FP := runP 2 m__law_gcd
def m__law_lowest : MS := (mSeq (mAsg 2 (mIf (mTest (mBin gGt (mVar 1) (mC (.int 0)))) (mCallP c__law_gcd 2 (mCons (mFt (mVar 0)) (mCons (mFt (mVar 1)) mNil))) (mUn gNeg (mCallP c__law_gcd 2 (mCons (mFt (mVar 0)) (mCons (mFt (mVar 1)) mNil))))))
    (mRet false (mTup (mCons (mFz (mBin gFdiv (mVar 0) (mVar 2))) (mCons (mFz (mBin gFdiv (mVar 1) (mVar 2))) mNil)))))
def c__law_lowest : FP := runP 3 m__law_lowest
def m__law_bernoulli : MS := (mSeq (mIfS (mTest (mBin gLt (mVar 1) (mC (.int 2)))) (mRet false (mIf (mTest (mBin gEq (mVar 1) (mC (.int 0)))) (mTup (mCons (mFz (mC (.int 1))) (mCons (mFz (mC (.int 1))) mNil))) (mTup (mCons (mFz (mUn gNeg (mC (.int 1)))) (mCons (mFz (mC (.int 2))) mNil))))) mSkip)
    (mSeq (mIfS (mTest (mBin gEq (mBin gMod (mCall gInt (mCons (mVar 1) mNil)) (mC (.int 2))) (mC (.int 1)))) (mRet false (mTup (mCons (mFz (mC (.int 0))) (mCons (mFz (mC (.int 1))) mNil)))) mSkip)
    (mSeq (mAsg 2 (mCallP c__law_raised 2 (mCons (mFt (mC (.int 2))) (mCons (mFt (mVar 1)) mNil))))
    (mRet false (mCallP c__law_lowest 2 (mCons (mFt (mIf (mTest (mBin gEq (mBin gMod (mCall gInt (mCons (mVar 1) mNil)) (mC (.int 4))) (mC (.int 2)))) (mBin gMul (mVar 1) (mBin gIx (mVar 0) (mBin gSub (mVar 1) (mC (.int 1))))) (mBin gMul (mUn gNeg (mVar 1)) (mBin gIx (mVar 0) (mBin gSub (mVar 1) (mC (.int 1))))))) (mCons (mFt (mBin gMul (mVar 2) (mBin gSub (mVar 2) (mC (.int 1))))) mNil)))))))
def c__law_bernoulli : FP := runP 3 m__law_bernoulli
def m__law_height : MS := (mSeq (mAsg 2 (mC (.int 0)))
    (mSeq (whileM (mTest (mBin gEq (mBin gMod (mCall gInt (mCons (mVar 0) mNil)) (mVar 1)) (mC (.int 0)))) (mSeq (mAsg 0 (mBin gFdiv (mVar 0) (mVar 1)))
    (mAugAdd 2 (mC (.int 1)))) 1000)
    (mRet false (mVar 2))))
def c__law_height : FP := runP 3 m__law_height
def m_height : MS := (mSeq (mPar [2, 3] (mCons (mFv (mC (.int 0))) (mCons (mFv (mVar 0)) mNil)))
    (mSeq (whileM (mTest (mBin gEq (mBin gMod (mVar 3) (mVar 1)) (mC (.int 0)))) (mPar [3, 2] (mCons (mFv (mBin gFdiv (mVar 3) (mVar 1))) (mCons (mFv (mBin gAdd (mVar 2) (mC (.int 1)))) mNil))) 1000)
    (mRet false (mVar 2))))
def c_height : FP := runP 4 m_height
def m_odd_height : MS := (mRet false (mBin gSub (mBin gSub (mBin gMul (mC (.int 2)) (mVar 0)) (mC (.int 2))) (mCallP c_height 2 (mCons (mFt (mVar 0)) (mCons (mFt (mC (.int 2))) mNil)))))
def c_odd_height : FP := runP 1 m_odd_height
def m_next_to_and_fro : MS := (mSeq (mAsg 1 (mLst (mCons (mFz (mC (.int 0))) mNil)))
    (mSeq (mFor (mRange3 (mCons (mBin gSub (mCall gLen (mCons (mVar 0) mNil)) (mC (.int 1))) (mCons (mUn gNeg (mC (.int 1))) (mCons (mUn gNeg (mC (.int 1))) mNil)))) (gNm 2) (mExpr (mMeth 1 gApp (mCons (mFz (mBin gAdd (mBin gIx (mVar 1) (mUn gNeg (mC (.int 1)))) (mBin gIx (mVar 0) (mVar 2)))) mNil))))
    (mRet false (mVar 1))))
def c_next_to_and_fro : FP := runP 3 m_next_to_and_fro
def m_zigzags_to : MS := (mSeq (mPar [1, 2] (mCons (mFv (mLst (mCons (mFz (mC (.int 1))) mNil))) (mCons (mFv (mLst (mCons (mFz (mC (.int 1))) mNil))) mNil)))
    (mSeq (mFor (mRange2 (mCons (mC (.int 1)) (mCons (mBin gAdd (mVar 0) (mC (.int 1))) mNil))) (gNm 3) (mSeq (mAsg 1 (mCallP c_next_to_and_fro 1 (mCons (mFt (mVar 1)) mNil)))
    (mExpr (mMeth 2 gApp (mCons (mFz (mBin gIx (mVar 1) (mUn gNeg (mC (.int 1))))) mNil)))))
    (mRet false (mCall gTuple (mCons (mVar 2) mNil)))))
def c_zigzags_to : FP := runP 4 m_zigzags_to
def m_zigzag : MS := (mRet false (mBin gIx (mCallP c_zigzags_to 1 (mCons (mFt (mVar 0)) mNil)) (mVar 0)))
def c_zigzag : FP := runP 1 m_zigzag
def m_whole_power : MS := (mSeq (mPar [2, 3, 4] (mCons (mFv (mC (.int 1))) (mCons (mFv (mVar 0)) (mCons (mFv (mVar 1)) mNil))))
    (mSeq (whileM (mTest (mBin gGt (mVar 4) (mC (.int 0)))) (mSeq (mIfS (mTest (mBin gEq (mBin gMod (mVar 4) (mC (.int 2))) (mC (.int 1)))) (mAsg 2 (mBin gMul (mVar 2) (mVar 3))) mSkip)
    (mSeq (mAsg 4 (mBin gFdiv (mVar 4) (mC (.int 2))))
    (mIfS (mTest (mBin gGt (mVar 4) (mC (.int 0)))) (mAsg 3 (mBin gMul (mVar 3) (mVar 3))) mSkip))) 1000)
    (mRet false (mVar 2))))
def c_whole_power : FP := runP 5 m_whole_power
def m_fraction : MS := (mSeq (mAsg 2 (mCall gGcd (mCons (mVar 0) (mCons (mVar 1) mNil))))
    (mSeq (mIfS (mTest (mBin gLt (mVar 1) (mC (.int 0)))) (mAsg 2 (mUn gNeg (mVar 2))) mSkip)
    (mRet false (mTup (mCons (mFz (mBin gFdiv (mVar 0) (mVar 2))) (mCons (mFz (mBin gFdiv (mVar 1) (mVar 2))) mNil))))))
def c_fraction : FP := runP 3 m_fraction
def m_bernoulli_from : MS := (mSeq (mAsg 2 (mCallP c_whole_power 2 (mCons (mFt (mC (.int 2))) (mCons (mFt (mVar 0)) mNil))))
    (mSeq (mAsg 3 (mBin gMul (mVar 0) (mVar 1)))
    (mSeq (mIfS (mTest (mBin gEq (mBin gMod (mVar 0) (mC (.int 4))) (mC (.int 0)))) (mAsg 3 (mUn gNeg (mVar 3))) mSkip)
    (mRet false (mCallP c_fraction 2 (mCons (mFt (mVar 3)) (mCons (mFt (mBin gMul (mVar 2) (mBin gSub (mVar 2) (mC (.int 1))))) mNil)))))))
def c_bernoulli_from : FP := runP 4 m_bernoulli_from
def m_bernoulli : MS := (mSeq (mIfS (mTest (mBin gEq (mVar 0) (mC (.int 0)))) (mRet false (mTup (mCons (mFz (mC (.int 1))) (mCons (mFz (mC (.int 1))) mNil)))) mSkip)
    (mSeq (mIfS (mTest (mBin gEq (mVar 0) (mC (.int 1)))) (mRet false (mTup (mCons (mFz (mUn gNeg (mC (.int 1)))) (mCons (mFz (mC (.int 2))) mNil)))) mSkip)
    (mSeq (mIfS (mTest (mBin gEq (mBin gMod (mVar 0) (mC (.int 2))) (mC (.int 1)))) (mRet false (mTup (mCons (mFz (mC (.int 0))) (mCons (mFz (mC (.int 1))) mNil)))) mSkip)
    (mRet false (mCallP c_bernoulli_from 2 (mCons (mFt (mVar 0)) (mCons (mFt (mCallP c_zigzag 1 (mCons (mFt (mBin gSub (mVar 0) (mC (.int 1)))) mNil))) mNil)))))))
def c_bernoulli : FP := runP 1 m_bernoulli
def m_genocchi : MS := (mSeq (mAsgG (gTupD 2 (gsCons (gNm 1) (gsCons (gNm 2) gsNil))) (mCallP c_bernoulli 1 (mCons (mFt (mVar 0)) mNil)))
    (mRet false (mBin gFdiv (mBin gMul (mBin gMul (mC (.int 2)) (mBin gSub (mC (.int 1)) (mCallP c_whole_power 2 (mCons (mFt (mC (.int 2))) (mCons (mFt (mVar 0)) mNil))))) (mVar 1)) (mVar 2))))
def c_genocchi : FP := runP 3 m_genocchi
def m__law_near_pairs : MS := (mSeq (mPar [2, 3] (mCons (mFv (mBin gIx (mVar 0) (mBin gSub (mBin gMul (mC (.int 2)) (mVar 1)) (mC (.int 1))))) (mCons (mFv (mCallP c__law_raised 2 (mCons (mFt (mC (.int 2))) (mCons (mFt (mBin gMul (mC (.int 2)) (mVar 1))) mNil)))) mNil)))
    (mSeq (mAsg 4 (mCallP c__law_bernoulli 2 (mCons (mFt (mVar 0)) (mCons (mFt (mBin gMul (mC (.int 2)) (mVar 1))) mNil))))
    (mSeq (mAsg 5 (mIf (mTest (mBin gEq (mBin gMod (mCall gInt (mCons (mVar 1) mNil)) (mC (.int 2))) (mC (.int 1)))) (mUn gNeg (mC (.int 1))) (mC (.int 1))))
    (mSeq (mAsg 6 (mCall gInt (mCons (mBin gFdiv (mBin gMul (mBin gMul (mBin gMul (mVar 5) (mC (.int 2))) (mVar 1)) (mVar 2)) (mBin gFdiv (mVar 3) (mC (.int 2)))) mNil)))
    (mSeq (mAsg 7 (mBin gSub (mBin gSub (mBin gMul (mC (.int 2)) (mVar 1)) (mC (.int 2))) (mCallP c__law_height 2 (mCons (mFt (mVar 1)) (mCons (mFt (mC (.int 2))) mNil)))))
    (mSeq (mIfS (mOr (mTest (mBin gNe (mBin gMod (mCall gInt (mCons (mVar 6) mNil)) (mC (.int 2))) (mC (.int 1)))) (mOr (mTest (mBin gNe (mCallP c__law_height 2 (mCons (mFt (mVar 2)) (mCons (mFt (mC (.int 2))) mNil))) (mVar 7))) (mTest (mBin gNe (mBin gMul (mVar 6) (mBin gIx (mVar 4) (mC (.int 1)))) (mBin gMul (mBin gMul (mC (.int 2)) (mBin gSub (mC (.int 1)) (mVar 3))) (mBin gIx (mVar 4) (mC (.int 0)))))))) (mRet false (mLst (mCons (mFz (mTup (mCons (mFz (mC (.bool false))) (mCons (mFz (mC (.bool true))) mNil)))) mNil))) mSkip)
    (mSeq (mAsg 8 (mLst (mCons (mFz (mTup (mCons (mFz (mCallP c_odd_height 1 (mCons (mFt (mVar 1)) mNil))) (mCons (mFz (mVar 7)) mNil)))) (mCons (mFz (mTup (mCons (mFz (mCallP c_zigzag 1 (mCons (mFt (mBin gSub (mBin gMul (mC (.int 2)) (mVar 1)) (mC (.int 1)))) mNil))) (mCons (mFz (mVar 2)) mNil)))) (mCons (mFz (mTup (mCons (mFz (mCallP c_height 2 (mCons (mFt (mVar 2)) (mCons (mFt (mC (.int 2))) mNil)))) (mCons (mFz (mVar 7)) mNil)))) mNil)))))
    (mRet false (mBin gAdd (mVar 8) (mLst (mCons (mFz (mTup (mCons (mFz (mCallP c_genocchi 1 (mCons (mFt (mBin gMul (mC (.int 2)) (mVar 1))) mNil))) (mCons (mFz (mVar 6)) mNil)))) (mCons (mFz (mTup (mCons (mFz (mCallP c_bernoulli 1 (mCons (mFt (mBin gMul (mC (.int 2)) (mVar 1))) mNil))) (mCons (mFz (mVar 4)) mNil)))) mNil))))))))))))
def c__law_near_pairs : FP := runP 9 m__law_near_pairs
def m_law : MS := (mSeq (mPar [2, 3] (mCons (mFv (mCallP c__law_zigzags 1 (mCons (mFt (mC (.int 200))) mNil))) (mCons (mFv (mLst mNil)) mNil)))
    (mSeq (mFor (mItems (mLst (mCons (mFz (mBin gAdd (mC (.int 1)) (mCallM c__law_any 2 (mCons (mVar 1) (mCons (mFt (mC (.int 100))) mNil))))) (mCons (mFz (mCallM c__law_of 2 (mCons (mVar 1) (mCons (mFt (mLst (mCons (mFz (mC (.int 1))) (mCons (mFz (mC (.int 2))) (mCons (mFz (mC (.int 3))) (mCons (mFz (mC (.int 32))) (mCons (mFz (mC (.int 64))) (mCons (mFz (mC (.int 96))) (mCons (mFz (mC (.int 99))) (mCons (mFz (mC (.int 100))) mNil)))))))))) mNil)))) (mCons (mFz (mBin gAdd (mC (.int 1)) (mCallM c__law_any 2 (mCons (mVar 1) (mCons (mFt (mC (.int 9))) mNil))))) mNil))))) (gNm 4) (mAsg 3 (mBin gAdd (mVar 3) (mCallP c__law_near_pairs 2 (mCons (mFt (mVar 2)) (mCons (mFt (mVar 4)) mNil))))))
    (mSeq (mFor (mRange1 (mCons (mC (.int 3)) mNil)) (gNm 5) (mSeq (mAsg 4 (mCallM c__law_place 1 (mCons (mVar 1) mNil)))
    (mSeq (mAsg 6 (mBin gSub (mBin gSub (mBin gMul (mC (.int 2)) (mVar 4)) (mC (.int 2))) (mCallP c__law_height 2 (mCons (mFt (mVar 4)) (mCons (mFt (mC (.int 2))) mNil)))))
    (mSeq (mAsg 3 (mBin gAdd (mVar 3) (mLst (mCons (mFz (mTup (mCons (mFz (mCallP c_odd_height 1 (mCons (mFt (mVar 4)) mNil))) (mCons (mFz (mVar 6)) mNil)))) (mCons (mFz (mTup (mCons (mFz (mCallP c_odd_height 1 (mCons (mFt (mBin gMul (mC (.int 2)) (mVar 4))) mNil))) (mCons (mFz (mBin gSub (mBin gAdd (mBin gMul (mC (.int 2)) (mVar 4)) (mVar 6)) (mC (.int 1)))) mNil)))) (mCons (mFz (mTup (mCons (mFz (mCallP (permΦ c_odd_height [0]) (0 + 1) (mCons (mFt (mVar 4)) mNil))) (mCons (mFz (mVar 6)) mNil)))) mNil))))))
    (mSeq (mAsg 7 (mBin gAdd (mBin gMul (mC (.int 2)) (mCallM c__law_any 2 (mCons (mVar 1) (mCons (mFt (mC (.int 1000))) mNil)))) (mC (.int 1))))
    (mExpr (mMeth 3 gApp (mCons (mFz (mTup (mCons (mFz (mCallP c_odd_height 1 (mCons (mFt (mBin gMul (mVar 4) (mVar 7))) mNil))) (mCons (mFz (mBin gSub (mBin gSub (mBin gMul (mBin gMul (mC (.int 2)) (mVar 4)) (mVar 7)) (mC (.int 2))) (mCallP c__law_height 2 (mCons (mFt (mVar 4)) (mCons (mFt (mC (.int 2))) mNil))))) mNil)))) mNil))))))))
    (mRet false (mCallP c__law_all 1 (mCons (mFt (mVar 3)) mNil))))))
theorem ten_ok {k : Nat} (h : k < 20) : c__law_ten [.int k] = some (.d (.int (10 ^ k))) := isI_eq (range_all (p := fun k => isI (c__law_ten [.int k]) (10 ^ k)) (n := 20) (by decide +kernel) h)
theorem raised_ok {k : Nat} (h : k < 32) : c__law_raised [.int 2, .int k] = some (.d (.int (2 ^ k))) := isI_eq (range_all (p := fun k => isI (c__law_raised [.int 2, .int k]) (2 ^ k)) (n := 32) (by decide +kernel) h)
theorem two_pow (m : Int) (k : Nat) : (m * 2 ^ (k + 1)) % 2 = 0 ∧ (m * 2 ^ (k + 1)) / 2 = m * 2 ^ k := by
  have : m * 2 ^ (k + 1) = (m * 2 ^ k) * 2 := by rw [Int.pow_succ, Int.mul_assoc]
  rw [this]
  omega
def lhC : MT := mTest (mBin gEq (mBin gMod (mCall gInt (mCons (mVar 0) mNil)) (mVar 1)) (mC (.int 0)))
def lhB : MS := (mSeq (mAsg 0 (mBin gFdiv (mVar 0) (mVar 1))) (mAugAdd 2 (mC (.int 1))))
theorem lh_run (m : Int) (hm : m % 2 = 1) : ∀ (k fuel : Nat) (f : Int), whileM lhC lhB (k + fuel + 1) [some (.d (.int (m * 2 ^ k))), some (.d (.int 2)), some (.d (.int f))] = some (.nx, [some (.d (.int m)), some (.d (.int 2)), some (.d (.int (f + k)))])
  | 0, fuel, f => by
    have h1 : cMod (m * 2 ^ 0) 2 = true := cMod_pos (by decide)
    have e : m * 2 ^ 0 = m := by simp
    rw [whn_stop (e1 := [some (.d (.int (m * 2 ^ 0))), some (.d (.int 2)), some (.d (.int f))])]
    · simp
    · unfold lhC
      rw [e] at h1 ⊢
      simp [mSeq, mAsg, mFv, fz, mBin, cont, mVar, mC, mUn, mCons, mNil, mCall, conts, mTup, mLst, dsOf, dOf, mFz, mFt, mSkip, mRet, mIfS, mTest, mTruth, truD, mNot, mAnd, mOr, mAndV, mOrV, mNotV, mIf, mYes, mExpr, mBreak, mCont, gNm, gsNil, gsCons, gTupD, mItems, mFor, mMeth, mPop, mSetIx, ownAt, gApp, mPar, wsOf, setAll, mAug, mAugAdd, mAugSub, gSub, gFdiv, gMod, gPow, gShl, gShr, gAnd, gLt, gLe, gGt, gGe, gI, gAdd, gMul, gNeg, gLen, gAbs, gInt, gIx, gRev, gEq, gNe, gIs1, mReg, mSetReg, mSrcNe, mSrcLast, mSrcPop, mSrcPut, srcAt, mSl, mNoPart, mPart, gSl, mCallP, mCallM, argsOf, slotW, notD, noLW, mRange1, mRange2, mRange3, mEnum, mZip, mChain, runP, runM, startE, fin0, lenLine, wipeE, restE, plainAt, List.getElem?_cons_zero, List.getElem?_cons_succ, List.set_cons_zero, List.set_cons_succ, List.map_cons, List.map_nil, List.length_cons, List.length_nil, List.replicate, List.cons_append, List.nil_append, List.isEmpty_nil, List.all_cons, List.all_nil, h1, hm]
  | k + 1, fuel, f => by
    obtain ⟨h2, h3⟩ := two_pow m k
    have h1 : cMod (m * 2 ^ (k + 1)) 2 = true := cMod_pos (by decide)
    have h4 : cDiv (m * 2 ^ (k + 1)) 2 = true := cDiv_lt 2 (by decide) (by decide)
    have e : k + 1 + fuel + 1 = (k + fuel + 1) + 1 := by omega
    rw [e, whn_turn (e1 := [some (.d (.int (m * 2 ^ (k + 1)))), some (.d (.int 2)), some (.d (.int f))]) (e2 := [some (.d (.int (m * 2 ^ k))), some (.d (.int 2)), some (.d (.int (f + 1)))]), lh_run m hm k fuel (f + 1)]
    · congr 1
      simp
      omega
    · unfold lhC
      simp [mSeq, mAsg, mFv, fz, mBin, cont, mVar, mC, mUn, mCons, mNil, mCall, conts, mTup, mLst, dsOf, dOf, mFz, mFt, mSkip, mRet, mIfS, mTest, mTruth, truD, mNot, mAnd, mOr, mAndV, mOrV, mNotV, mIf, mYes, mExpr, mBreak, mCont, gNm, gsNil, gsCons, gTupD, mItems, mFor, mMeth, mPop, mSetIx, ownAt, gApp, mPar, wsOf, setAll, mAug, mAugAdd, mAugSub, gSub, gFdiv, gMod, gPow, gShl, gShr, gAnd, gLt, gLe, gGt, gGe, gI, gAdd, gMul, gNeg, gLen, gAbs, gInt, gIx, gRev, gEq, gNe, gIs1, mReg, mSetReg, mSrcNe, mSrcLast, mSrcPop, mSrcPut, srcAt, mSl, mNoPart, mPart, gSl, mCallP, mCallM, argsOf, slotW, notD, noLW, mRange1, mRange2, mRange3, mEnum, mZip, mChain, runP, runM, startE, fin0, lenLine, wipeE, restE, plainAt, List.getElem?_cons_zero, List.getElem?_cons_succ, List.set_cons_zero, List.set_cons_succ, List.map_cons, List.map_nil, List.length_cons, List.length_nil, List.replicate, List.cons_append, List.nil_append, List.isEmpty_nil, List.all_cons, List.all_nil, h1, h2]
    · unfold lhB
      simp [mSeq, mAsg, mFv, fz, mBin, cont, mVar, mC, mUn, mCons, mNil, mCall, conts, mTup, mLst, dsOf, dOf, mFz, mFt, mSkip, mRet, mIfS, mTest, mTruth, truD, mNot, mAnd, mOr, mAndV, mOrV, mNotV, mIf, mYes, mExpr, mBreak, mCont, gNm, gsNil, gsCons, gTupD, mItems, mFor, mMeth, mPop, mSetIx, ownAt, gApp, mPar, wsOf, setAll, mAug, mAugAdd, mAugSub, gSub, gFdiv, gMod, gPow, gShl, gShr, gAnd, gLt, gLe, gGt, gGe, gI, gAdd, gMul, gNeg, gLen, gAbs, gInt, gIx, gRev, gEq, gNe, gIs1, mReg, mSetReg, mSrcNe, mSrcLast, mSrcPop, mSrcPut, srcAt, mSl, mNoPart, mPart, gSl, mCallP, mCallM, argsOf, slotW, notD, noLW, mRange1, mRange2, mRange3, mEnum, mZip, mChain, runP, runM, startE, fin0, lenLine, wipeE, restE, plainAt, List.getElem?_cons_zero, List.getElem?_cons_succ, List.set_cons_zero, List.set_cons_succ, List.map_cons, List.map_nil, List.length_cons, List.length_nil, List.replicate, List.cons_append, List.nil_append, List.isEmpty_nil, List.all_cons, List.all_nil, h3, h4]
theorem lh_ok (m : Int) (hm : m % 2 = 1) {k : Nat} (hk : k < 1000) : c__law_height [.int (m * 2 ^ k), .int 2] = some (.d (.int k)) := by
  have q := lh_run m hm k (999 - k) 0
  have e : k + (999 - k) + 1 = 1000 := by omega
  rw [e] at q
  have e0 : startE 3 (List.map W.d [PyData.int (m * 2 ^ k), PyData.int 2]) = [some (.d (.int (m * 2 ^ k))), some (.d (.int 2)), none] := rfl
  have r : m__law_height [some (.d (.int (m * 2 ^ k))), some (.d (.int 2)), none] = some (.rt (.d (.int k)), [some (.d (.int m)), some (.d (.int 2)), some (.d (.int (0 + k)))]) := by
    have u : m__law_height = mSeq (mAsg 2 (mC (.int 0))) (mSeq (whileM lhC lhB 1000) (mRet false (mVar 2))) := rfl
    have a : mAsg 2 (mC (.int 0)) [some (.d (.int (m * 2 ^ k))), some (.d (.int 2)), none] = some (.nx, [some (.d (.int (m * 2 ^ k))), some (.d (.int 2)), some (.d (.int 0))]) := rfl
    rw [u, mSeq, a]
    simp only []
    rw [mSeq, q]
    simp [mSeq, mAsg, mFv, fz, mBin, cont, mVar, mC, mUn, mCons, mNil, mCall, conts, mTup, mLst, dsOf, dOf, mFz, mFt, mSkip, mRet, mIfS, mTest, mTruth, truD, mNot, mAnd, mOr, mAndV, mOrV, mNotV, mIf, mYes, mExpr, mBreak, mCont, gNm, gsNil, gsCons, gTupD, mItems, mFor, mMeth, mPop, mSetIx, ownAt, gApp, mPar, wsOf, setAll, mAug, mAugAdd, mAugSub, gSub, gFdiv, gMod, gPow, gShl, gShr, gAnd, gLt, gLe, gGt, gGe, gI, gAdd, gMul, gNeg, gLen, gAbs, gInt, gIx, gRev, gEq, gNe, gIs1, mReg, mSetReg, mSrcNe, mSrcLast, mSrcPop, mSrcPut, srcAt, mSl, mNoPart, mPart, gSl, mCallP, mCallM, argsOf, slotW, notD, noLW, mRange1, mRange2, mRange3, mEnum, mZip, mChain, runP, runM, startE, fin0, lenLine, wipeE, restE, plainAt, List.getElem?_cons_zero, List.getElem?_cons_succ, List.set_cons_zero, List.set_cons_succ, List.map_cons, List.map_nil, List.length_cons, List.length_nil, List.replicate, List.cons_append, List.nil_append, List.isEmpty_nil, List.all_cons, List.all_nil]
  show runP 3 m__law_height _ = _
  rw [runP, e0, r]
def hhC : MT := (mTest (mBin gEq (mBin gMod (mVar 3) (mVar 1)) (mC (.int 0))))
def hhB : MS := (mPar [3, 2] (mCons (mFv (mBin gFdiv (mVar 3) (mVar 1))) (mCons (mFv (mBin gAdd (mVar 2) (mC (.int 1)))) mNil)))
theorem hh_run (n m : Int) (hm : m % 2 = 1) : ∀ (k fuel : Nat) (f : Int), whileM hhC hhB (k + fuel + 1) [some (.d (.int n)), some (.d (.int 2)), some (.d (.int f)), some (.d (.int (m * 2 ^ k)))] = some (.nx, [some (.d (.int n)), some (.d (.int 2)), some (.d (.int (f + k))), some (.d (.int m))])
  | 0, fuel, f => by
    have h1 : cMod (m * 2 ^ 0) 2 = true := cMod_pos (by decide)
    have e : m * 2 ^ 0 = m := by simp
    rw [whn_stop (e1 := [some (.d (.int n)), some (.d (.int 2)), some (.d (.int f)), some (.d (.int (m * 2 ^ 0)))])]
    · simp
    · unfold hhC
      rw [e] at h1 ⊢
      simp [mSeq, mAsg, mFv, fz, mBin, cont, mVar, mC, mUn, mCons, mNil, mCall, conts, mTup, mLst, dsOf, dOf, mFz, mFt, mSkip, mRet, mIfS, mTest, mTruth, truD, mNot, mAnd, mOr, mAndV, mOrV, mNotV, mIf, mYes, mExpr, mBreak, mCont, gNm, gsNil, gsCons, gTupD, mItems, mFor, mMeth, mPop, mSetIx, ownAt, gApp, mPar, wsOf, setAll, mAug, mAugAdd, mAugSub, gSub, gFdiv, gMod, gPow, gShl, gShr, gAnd, gLt, gLe, gGt, gGe, gI, gAdd, gMul, gNeg, gLen, gAbs, gInt, gIx, gRev, gEq, gNe, gIs1, mReg, mSetReg, mSrcNe, mSrcLast, mSrcPop, mSrcPut, srcAt, mSl, mNoPart, mPart, gSl, mCallP, mCallM, argsOf, slotW, notD, noLW, mRange1, mRange2, mRange3, mEnum, mZip, mChain, runP, runM, startE, fin0, lenLine, wipeE, restE, plainAt, List.getElem?_cons_zero, List.getElem?_cons_succ, List.set_cons_zero, List.set_cons_succ, List.map_cons, List.map_nil, List.length_cons, List.length_nil, List.replicate, List.cons_append, List.nil_append, List.isEmpty_nil, List.all_cons, List.all_nil, h1, hm]
  | k + 1, fuel, f => by
    obtain ⟨h2, h3⟩ := two_pow m k
    have h1 : cMod (m * 2 ^ (k + 1)) 2 = true := cMod_pos (by decide)
    have h4 : cDiv (m * 2 ^ (k + 1)) 2 = true := cDiv_lt 2 (by decide) (by decide)
    have e : k + 1 + fuel + 1 = (k + fuel + 1) + 1 := by omega
    rw [e, whn_turn (e1 := [some (.d (.int n)), some (.d (.int 2)), some (.d (.int f)), some (.d (.int (m * 2 ^ (k + 1))))]) (e2 := [some (.d (.int n)), some (.d (.int 2)), some (.d (.int (f + 1))), some (.d (.int (m * 2 ^ k)))]), hh_run n m hm k fuel (f + 1)]
    · congr 1
      simp
      omega
    · unfold hhC
      simp [mSeq, mAsg, mFv, fz, mBin, cont, mVar, mC, mUn, mCons, mNil, mCall, conts, mTup, mLst, dsOf, dOf, mFz, mFt, mSkip, mRet, mIfS, mTest, mTruth, truD, mNot, mAnd, mOr, mAndV, mOrV, mNotV, mIf, mYes, mExpr, mBreak, mCont, gNm, gsNil, gsCons, gTupD, mItems, mFor, mMeth, mPop, mSetIx, ownAt, gApp, mPar, wsOf, setAll, mAug, mAugAdd, mAugSub, gSub, gFdiv, gMod, gPow, gShl, gShr, gAnd, gLt, gLe, gGt, gGe, gI, gAdd, gMul, gNeg, gLen, gAbs, gInt, gIx, gRev, gEq, gNe, gIs1, mReg, mSetReg, mSrcNe, mSrcLast, mSrcPop, mSrcPut, srcAt, mSl, mNoPart, mPart, gSl, mCallP, mCallM, argsOf, slotW, notD, noLW, mRange1, mRange2, mRange3, mEnum, mZip, mChain, runP, runM, startE, fin0, lenLine, wipeE, restE, plainAt, List.getElem?_cons_zero, List.getElem?_cons_succ, List.set_cons_zero, List.set_cons_succ, List.map_cons, List.map_nil, List.length_cons, List.length_nil, List.replicate, List.cons_append, List.nil_append, List.isEmpty_nil, List.all_cons, List.all_nil, h1, h2]
    · unfold hhB
      simp [mSeq, mAsg, mFv, fz, mBin, cont, mVar, mC, mUn, mCons, mNil, mCall, conts, mTup, mLst, dsOf, dOf, mFz, mFt, mSkip, mRet, mIfS, mTest, mTruth, truD, mNot, mAnd, mOr, mAndV, mOrV, mNotV, mIf, mYes, mExpr, mBreak, mCont, gNm, gsNil, gsCons, gTupD, mItems, mFor, mMeth, mPop, mSetIx, ownAt, gApp, mPar, wsOf, setAll, mAug, mAugAdd, mAugSub, gSub, gFdiv, gMod, gPow, gShl, gShr, gAnd, gLt, gLe, gGt, gGe, gI, gAdd, gMul, gNeg, gLen, gAbs, gInt, gIx, gRev, gEq, gNe, gIs1, mReg, mSetReg, mSrcNe, mSrcLast, mSrcPop, mSrcPut, srcAt, mSl, mNoPart, mPart, gSl, mCallP, mCallM, argsOf, slotW, notD, noLW, mRange1, mRange2, mRange3, mEnum, mZip, mChain, runP, runM, startE, fin0, lenLine, wipeE, restE, plainAt, List.getElem?_cons_zero, List.getElem?_cons_succ, List.set_cons_zero, List.set_cons_succ, List.map_cons, List.map_nil, List.length_cons, List.length_nil, List.replicate, List.cons_append, List.nil_append, List.isEmpty_nil, List.all_cons, List.all_nil, h3, h4]
theorem hh_ok (m : Int) (hm : m % 2 = 1) {k : Nat} (hk : k < 1000) : c_height [.int (m * 2 ^ k), .int 2] = some (.d (.int k)) := by
  have q := hh_run (m * 2 ^ k) m hm k (999 - k) 0
  have e : k + (999 - k) + 1 = 1000 := by omega
  rw [e] at q
  have e0 : startE 4 (List.map W.d [PyData.int (m * 2 ^ k), PyData.int 2]) = [some (.d (.int (m * 2 ^ k))), some (.d (.int 2)), none, none] := rfl
  have r : m_height [some (.d (.int (m * 2 ^ k))), some (.d (.int 2)), none, none] = some (.rt (.d (.int k)), [some (.d (.int (m * 2 ^ k))), some (.d (.int 2)), some (.d (.int (0 + k))), some (.d (.int m))]) := by
    have u : m_height = mSeq (mPar [2, 3] (mCons (mFv (mC (.int 0))) (mCons (mFv (mVar 0)) mNil))) (mSeq (whileM hhC hhB 1000) (mRet false (mVar 2))) := rfl
    have a : mPar [2, 3] (mCons (mFv (mC (.int 0))) (mCons (mFv (mVar 0)) mNil)) [some (.d (.int (m * 2 ^ k))), some (.d (.int 2)), none, none] = some (.nx, [some (.d (.int (m * 2 ^ k))), some (.d (.int 2)), some (.d (.int 0)), some (.d (.int (m * 2 ^ k)))]) := rfl
    rw [u, mSeq, a]
    simp only []
    rw [mSeq, q]
    simp [mSeq, mAsg, mFv, fz, mBin, cont, mVar, mC, mUn, mCons, mNil, mCall, conts, mTup, mLst, dsOf, dOf, mFz, mFt, mSkip, mRet, mIfS, mTest, mTruth, truD, mNot, mAnd, mOr, mAndV, mOrV, mNotV, mIf, mYes, mExpr, mBreak, mCont, gNm, gsNil, gsCons, gTupD, mItems, mFor, mMeth, mPop, mSetIx, ownAt, gApp, mPar, wsOf, setAll, mAug, mAugAdd, mAugSub, gSub, gFdiv, gMod, gPow, gShl, gShr, gAnd, gLt, gLe, gGt, gGe, gI, gAdd, gMul, gNeg, gLen, gAbs, gInt, gIx, gRev, gEq, gNe, gIs1, mReg, mSetReg, mSrcNe, mSrcLast, mSrcPop, mSrcPut, srcAt, mSl, mNoPart, mPart, gSl, mCallP, mCallM, argsOf, slotW, notD, noLW, mRange1, mRange2, mRange3, mEnum, mZip, mChain, runP, runM, startE, fin0, lenLine, wipeE, restE, plainAt, List.getElem?_cons_zero, List.getElem?_cons_succ, List.set_cons_zero, List.set_cons_succ, List.map_cons, List.map_nil, List.length_cons, List.length_nil, List.replicate, List.cons_append, List.nil_append, List.isEmpty_nil, List.all_cons, List.all_nil]
  show runP 4 m_height _ = _
  rw [runP, e0, r]
/-- every positive number below 2^N is an odd one times a power of two -/
theorem split_two : ∀ (N : Nat) (n : Int), 0 < n → n < 2 ^ N → ∃ (m : Int) (k : Nat), n = m * 2 ^ k ∧ m % 2 = 1 ∧ k < N ∧ 0 < m
  | 0, n, h, h2 => by simp at h2; omega
  | N + 1, n, h, h2 => by
    by_cases e : n % 2 = 1
    · exact ⟨n, 0, by simp, e, by omega, h⟩
    · have e2 : n = (n / 2) * 2 := by omega
      have e3 : n / 2 < 2 ^ N := by
        rw [Int.pow_succ] at h2; omega
      obtain ⟨m, k, h3, h4, h5, h6⟩ := split_two N (n / 2) (by omega) e3
      refine ⟨m, k + 1, ?_, h4, by omega, h6⟩
      rw [Int.pow_succ, ← Int.mul_assoc, ← h3]
      exact e2
theorem oh_ok (m : Int) (hm : m % 2 = 1) {k : Nat} (hk : k < 1000) (hs : cMul 2 (m * 2 ^ k) = true) : c_odd_height [.int (m * 2 ^ k)] = some (.d (.int (2 * (m * 2 ^ k) - 2 - k))) := by
  have e0 : startE 1 (List.map W.d [PyData.int (m * 2 ^ k)]) = [some (.d (.int (m * 2 ^ k)))] := rfl
  have r : m_odd_height [some (.d (.int (m * 2 ^ k)))] = some (.rt (.d (.int (2 * (m * 2 ^ k) - 2 - k))), [some (.d (.int (m * 2 ^ k)))]) := by
    unfold m_odd_height
    have q := hh_ok m hm hk
    generalize m * 2 ^ k = n at q hs ⊢
    simp [mSeq, mAsg, mFv, fz, mBin, cont, mVar, mC, mUn, mCons, mNil, mCall, conts, mTup, mLst, dsOf, dOf, mFz, mFt, mSkip, mRet, mIfS, mTest, mTruth, truD, mNot, mAnd, mOr, mAndV, mOrV, mNotV, mIf, mYes, mExpr, mBreak, mCont, gNm, gsNil, gsCons, gTupD, mItems, mFor, mMeth, mPop, mSetIx, ownAt, gApp, mPar, wsOf, setAll, mAug, mAugAdd, mAugSub, gSub, gFdiv, gMod, gPow, gShl, gShr, gAnd, gLt, gLe, gGt, gGe, gI, gAdd, gMul, gNeg, gLen, gAbs, gInt, gIx, gRev, gEq, gNe, gIs1, mReg, mSetReg, mSrcNe, mSrcLast, mSrcPop, mSrcPut, srcAt, mSl, mNoPart, mPart, gSl, mCallP, mCallM, argsOf, slotW, notD, noLW, mRange1, mRange2, mRange3, mEnum, mZip, mChain, runP, runM, startE, fin0, lenLine, wipeE, restE, plainAt, List.getElem?_cons_zero, List.getElem?_cons_succ, List.set_cons_zero, List.set_cons_succ, List.map_cons, List.map_nil, List.length_cons, List.length_nil, List.replicate, List.cons_append, List.nil_append, List.isEmpty_nil, List.all_cons, List.all_nil, q, hs]
  show runP 1 m_odd_height _ = _
  rw [runP, e0, r]
theorem pow_mono (a : Nat) (ha : 0 < a) {i j : Nat} (h : i ≤ j) : (a : Int) ^ i ≤ (a : Int) ^ j := by
  rw [← Int.natCast_pow, ← Int.natCast_pow]
  exact Int.ofNat_le.mpr (Nat.pow_le_pow_right ha h)
theorem pow10_le {k : Nat} (h : k ≤ 16) : (10 : Int) ^ k ≤ 10 ^ 16 := by
  have : (10 : Nat) ^ k ≤ 10 ^ 16 := Nat.pow_le_pow_right (by decide) h
  exact_mod_cast this
theorem wide_x (F : FP) (e : W) (f : D) (k : Nat) (found P : Int) (st : Option W) (h7 : F [.int k] = some (.d (.int P))) (h8 : cMod found P = true) : mRet true (mBin gMod (mCall gInt (mCons (mVar 3) mNil)) (mCallP F 1 (mCons (mFt (mVar 2)) mNil))) [some e, some (.d f), some (.d (.int k)), some (.d (.int found)), st] = some (.rt (.d (.int (found % P))), [some e, some (.d f), some (.d (.int k)), some (.d (.int found)), st]) := by
  simp [mSeq, mAsg, mFv, fz, mBin, cont, mVar, mC, mUn, mCons, mNil, mCall, conts, mTup, mLst, dsOf, dOf, mFz, mFt, mSkip, mRet, mIfS, mTest, mTruth, truD, mNot, mAnd, mOr, mAndV, mOrV, mNotV, mIf, mYes, mExpr, mBreak, mCont, gNm, gsNil, gsCons, gTupD, mItems, mFor, mMeth, mPop, mSetIx, ownAt, gApp, mPar, wsOf, setAll, mAug, mAugAdd, mAugSub, gSub, gFdiv, gMod, gPow, gShl, gShr, gAnd, gLt, gLe, gGt, gGe, gI, gAdd, gMul, gNeg, gLen, gAbs, gInt, gIx, gRev, gEq, gNe, gIs1, mReg, mSetReg, mSrcNe, mSrcLast, mSrcPop, mSrcPut, srcAt, mSl, mNoPart, mPart, gSl, mCallP, mCallM, argsOf, slotW, notD, noLW, mRange1, mRange2, mRange3, mEnum, mZip, mChain, runP, runM, startE, fin0, lenLine, wipeE, restE, plainAt, List.getElem?_cons_zero, List.getElem?_cons_succ, List.set_cons_zero, List.set_cons_succ, List.map_cons, List.map_nil, List.length_cons, List.length_nil, List.replicate, List.cons_append, List.nil_append, List.isEmpty_nil, List.all_cons, List.all_nil, h7, h8]
theorem wide_ok {cs : List Int} {mix f : Int} (hs : Src (.src cs [mix])) (hf : 1 ≤ f) (hf2 : f ≤ 16) : ∃ r cs' mix', c__law_wide (.src cs [mix]) [.int f] = some (.d (.int r), .src cs' [mix']) ∧ 0 ≤ r ∧ r < 10 ^ 16 ∧ Src (.src cs' [mix']) := by
  have e0 : startE 5 (W.src cs [mix] :: List.map W.d [PyData.int f]) = [some (.src cs [mix]), some (.d (.int f)), none, none, none] := rfl
  have s1 : ∃ (k : Nat) (cs1 : List Int) (mix1 : Int), (mAsg 2 (mIf (mTest (mBin gEq (mCallM c__law_any 2 (mCons (mVar 0) (mCons (mFt (mC (.int 3))) mNil))) (mC (.int 0)))) (mVar 1) (mBin gAdd (mC (.int 1)) (mCallM c__law_any 2 (mCons (mVar 0) (mCons (mFt (mVar 1)) mNil)))))) [some (.src cs [mix]), some (.d (.int f)), none, none, none] = some (.nx, [some (.src cs1 [mix1]), some (.d (.int f)), some (.d (.int k)), none, none]) ∧ 1 ≤ k ∧ k ≤ 16 ∧ Src (.src cs1 [mix1]) := by
    obtain ⟨r1, cs1, mix1, h1, _, _, hs1⟩ := any_ok' (b := 3) hs (by decide) (small9000 (by decide))
    by_cases hr : r1 = 0
    · subst hr
      refine ⟨f.toNat, cs1, mix1, ?_, by omega, by omega, hs1⟩
      have e : ((f.toNat : Nat) : Int) = f := by omega
      rw [e]
      simp [mSeq, mAsg, mFv, fz, mBin, cont, mVar, mC, mUn, mCons, mNil, mCall, conts, mTup, mLst, dsOf, dOf, mFz, mFt, mSkip, mRet, mIfS, mTest, mTruth, truD, mNot, mAnd, mOr, mAndV, mOrV, mNotV, mIf, mYes, mExpr, mBreak, mCont, gNm, gsNil, gsCons, gTupD, mItems, mFor, mMeth, mPop, mSetIx, ownAt, gApp, mPar, wsOf, setAll, mAug, mAugAdd, mAugSub, gSub, gFdiv, gMod, gPow, gShl, gShr, gAnd, gLt, gLe, gGt, gGe, gI, gAdd, gMul, gNeg, gLen, gAbs, gInt, gIx, gRev, gEq, gNe, gIs1, mReg, mSetReg, mSrcNe, mSrcLast, mSrcPop, mSrcPut, srcAt, mSl, mNoPart, mPart, gSl, mCallP, mCallM, argsOf, slotW, notD, noLW, mRange1, mRange2, mRange3, mEnum, mZip, mChain, runP, runM, startE, fin0, lenLine, wipeE, restE, plainAt, List.getElem?_cons_zero, List.getElem?_cons_succ, List.set_cons_zero, List.set_cons_succ, List.map_cons, List.map_nil, List.length_cons, List.length_nil, List.replicate, List.cons_append, List.nil_append, List.isEmpty_nil, List.all_cons, List.all_nil, h1]
    · obtain ⟨r2, cs2, mix2, h2, h3, h4, hs2⟩ := any_ok' (b := f) hs1 (by omega) (small9000 (by omega))
      refine ⟨(1 + r2).toNat, cs2, mix2, ?_, by omega, by omega, hs2⟩
      have e : (((1 + r2).toNat : Nat) : Int) = 1 + r2 := by omega
      rw [e]
      simp [mSeq, mAsg, mFv, fz, mBin, cont, mVar, mC, mUn, mCons, mNil, mCall, conts, mTup, mLst, dsOf, dOf, mFz, mFt, mSkip, mRet, mIfS, mTest, mTruth, truD, mNot, mAnd, mOr, mAndV, mOrV, mNotV, mIf, mYes, mExpr, mBreak, mCont, gNm, gsNil, gsCons, gTupD, mItems, mFor, mMeth, mPop, mSetIx, ownAt, gApp, mPar, wsOf, setAll, mAug, mAugAdd, mAugSub, gSub, gFdiv, gMod, gPow, gShl, gShr, gAnd, gLt, gLe, gGt, gGe, gI, gAdd, gMul, gNeg, gLen, gAbs, gInt, gIx, gRev, gEq, gNe, gIs1, mReg, mSetReg, mSrcNe, mSrcLast, mSrcPop, mSrcPut, srcAt, mSl, mNoPart, mPart, gSl, mCallP, mCallM, argsOf, slotW, notD, noLW, mRange1, mRange2, mRange3, mEnum, mZip, mChain, runP, runM, startE, fin0, lenLine, wipeE, restE, plainAt, List.getElem?_cons_zero, List.getElem?_cons_succ, List.set_cons_zero, List.set_cons_succ, List.map_cons, List.map_nil, List.length_cons, List.length_nil, List.replicate, List.cons_append, List.nil_append, List.isEmpty_nil, List.all_cons, List.all_nil, h1, hr, h2]
  obtain ⟨k, cs1, mix1, e1, hk1, hk2, hs1⟩ := s1
  have s3 := for_ix (g := gNm 4) (b := (mAsg 3 (mBin gAdd (mBin gMul (mVar 3) (mC (.int 100000))) (mCallM c__law_any 2 (mCons (mVar 0) (mCons (mFt (mC (.int 100000))) mNil)))))) (fun (i : Nat) => PyData.int (0 + (i : Int) * 1))
    (fun (s : Int × List Int × Int × Option W) => [some (.src s.2.1 [s.2.2.1]), some (.d (.int f)), some (.d (.int k)), some (.d (.int s.1)), s.2.2.2])
    (fun j s => Src (.src s.2.1 [s.2.2.1]) ∧ 0 ≤ s.1 ∧ s.1 < 100000 ^ j) 4 (List.range (((k : Int) + 4) / 5).toNat) 0 (0, cs1, mix1, none) (by rw [List.length_range]; omega) ⟨hs1, (by show (0 : Int) ≤ 0; decide), (by show (0 : Int) < 100000 ^ 0; decide)⟩ (fun j hj i s ⟨hs, h0, h1⟩ => by
    obtain ⟨r, cs2, mix2, h2, h3, h4, hs2⟩ := any_ok' (b := 100000) hs (by decide) (small9000 (by decide))
    have hb : s.1 < 100000 ^ 4 := Int.lt_of_lt_of_le h1 (pow_mono 100000 (by decide) (by omega))
    have hm : cMul s.1 100000 = true := cMul_lt 80 17 (by omega) (by decide)
    refine ⟨(s.1 * 100000 + r, cs2, mix2, some (.d (.int (0 + (i : Int) * 1)))), ⟨hs2, by show 0 ≤ s.1 * 100000 + r; omega, ?_⟩, [some (.src s.2.1 [s.2.2.1]), some (.d (.int f)), some (.d (.int k)), some (.d (.int s.1)), some (.d (.int (0 + (i : Int) * 1)))], rfl, ?_⟩
    · show s.1 * 100000 + r < 100000 ^ (j + 1)
      rw [Int.pow_succ]
      omega
    · simp [mSeq, mAsg, mFv, fz, mBin, cont, mVar, mC, mUn, mCons, mNil, mCall, conts, mTup, mLst, dsOf, dOf, mFz, mFt, mSkip, mRet, mIfS, mTest, mTruth, truD, mNot, mAnd, mOr, mAndV, mOrV, mNotV, mIf, mYes, mExpr, mBreak, mCont, gNm, gsNil, gsCons, gTupD, mItems, mFor, mMeth, mPop, mSetIx, ownAt, gApp, mPar, wsOf, setAll, mAug, mAugAdd, mAugSub, gSub, gFdiv, gMod, gPow, gShl, gShr, gAnd, gLt, gLe, gGt, gGe, gI, gAdd, gMul, gNeg, gLen, gAbs, gInt, gIx, gRev, gEq, gNe, gIs1, mReg, mSetReg, mSrcNe, mSrcLast, mSrcPop, mSrcPut, srcAt, mSl, mNoPart, mPart, gSl, mCallP, mCallM, argsOf, slotW, notD, noLW, mRange1, mRange2, mRange3, mEnum, mZip, mChain, runP, runM, startE, fin0, lenLine, wipeE, restE, plainAt, List.getElem?_cons_zero, List.getElem?_cons_succ, List.set_cons_zero, List.set_cons_succ, List.map_cons, List.map_nil, List.length_cons, List.length_nil, List.replicate, List.cons_append, List.nil_append, List.isEmpty_nil, List.all_cons, List.all_nil, h2, hm])
  obtain ⟨⟨found, cs3, mix3, st⟩, e3, hs3, hf0, _⟩ := s3
  have e3' : mFor (mRange1 (mCons (mBin gFdiv (mBin gAdd (mVar 2) (mC (.int 4))) (mC (.int 5))) mNil)) (gNm 4) (mAsg 3 (mBin gAdd (mBin gMul (mVar 3) (mC (.int 100000))) (mCallM c__law_any 2 (mCons (mVar 0) (mCons (mFt (mC (.int 100000))) mNil))))) [some (.src cs1 [mix1]), some (.d (.int f)), some (.d (.int k)), some (.d (.int 0)), none] = some (.nx, [some (.src cs3 [mix3]), some (.d (.int f)), some (.d (.int k)), some (.d (.int found)), st]) := by
    have h5 : cDiv ((k : Int) + 4) 5 = true := cDiv_lt 3 (by decide) (by decide)
    have h6 : okR (((k : Int) + 4) / 5) = true := by unfold okR; simp; omega
    have e : mRange1 (mCons (mBin gFdiv (mBin gAdd (mVar 2) (mC (.int 4))) (mC (.int 5))) mNil) [some (.src cs1 [mix1]), some (.d (.int f)), some (.d (.int k)), some (.d (.int 0)), none] = some (rangeD 0 1 (((k : Int) + 4) / 5).toNat, [some (.src cs1 [mix1]), some (.d (.int f)), some (.d (.int k)), some (.d (.int 0)), none]) := by
      simp [mSeq, mAsg, mFv, fz, mBin, cont, mVar, mC, mUn, mCons, mNil, mCall, conts, mTup, mLst, dsOf, dOf, mFz, mFt, mSkip, mRet, mIfS, mTest, mTruth, truD, mNot, mAnd, mOr, mAndV, mOrV, mNotV, mIf, mYes, mExpr, mBreak, mCont, gNm, gsNil, gsCons, gTupD, mItems, mFor, mMeth, mPop, mSetIx, ownAt, gApp, mPar, wsOf, setAll, mAug, mAugAdd, mAugSub, gSub, gFdiv, gMod, gPow, gShl, gShr, gAnd, gLt, gLe, gGt, gGe, gI, gAdd, gMul, gNeg, gLen, gAbs, gInt, gIx, gRev, gEq, gNe, gIs1, mReg, mSetReg, mSrcNe, mSrcLast, mSrcPop, mSrcPut, srcAt, mSl, mNoPart, mPart, gSl, mCallP, mCallM, argsOf, slotW, notD, noLW, mRange1, mRange2, mRange3, mEnum, mZip, mChain, runP, runM, startE, fin0, lenLine, wipeE, restE, plainAt, List.getElem?_cons_zero, List.getElem?_cons_succ, List.set_cons_zero, List.set_cons_succ, List.map_cons, List.map_nil, List.length_cons, List.length_nil, List.replicate, List.cons_append, List.nil_append, List.isEmpty_nil, List.all_cons, List.all_nil, h5, h6]
    rw [mFor, e]
    exact e3
  have e4 : mRet true (mBin gMod (mCall gInt (mCons (mVar 3) mNil)) (mCallP c__law_ten 1 (mCons (mFt (mVar 2)) mNil))) [some (.src cs3 [mix3]), some (.d (.int f)), some (.d (.int k)), some (.d (.int found)), st] = some (.rt (.d (.int (found % 10 ^ k))), [some (.src cs3 [mix3]), some (.d (.int f)), some (.d (.int k)), some (.d (.int found)), st]) := by
    exact wide_x c__law_ten _ _ _ _ _ _ (ten_ok (k := k) (by omega)) (cMod_pos (Int.pow_pos (by decide)))
  have hp : (0 : Int) < 10 ^ k := Int.pow_pos (by decide)
  refine ⟨found % 10 ^ k, cs3, mix3, ?_, Int.emod_nonneg _ (by omega), Int.lt_of_lt_of_le (Int.emod_lt_of_pos _ hp) (pow10_le hk2), hs3⟩
  have r : m__law_wide [some (.src cs [mix]), some (.d (.int f)), none, none, none] = some (.rt (.d (.int (found % 10 ^ k))), [some (.src cs3 [mix3]), some (.d (.int f)), some (.d (.int k)), some (.d (.int found)), st]) := by
    unfold m__law_wide
    rw [mSeq, e1]
    simp only []
    have e2 : mAsg 3 (mC (.int 0)) [some (.src cs1 [mix1]), some (.d (.int f)), some (.d (.int k)), none, none] = some (.nx, [some (.src cs1 [mix1]), some (.d (.int f)), some (.d (.int k)), some (.d (.int 0)), none]) := rfl
    rw [mSeq, e2]
    simp only []
    rw [mSeq, e3']
    simp only []
    rw [e4]
  show runM 5 m__law_wide _ _ = _
  rw [runM, e0, r]
  rfl
theorem place_x (F : FP) {cs cs' : List Int} {mix mix' r found P : Int} {st : Option W} (h : c__law_any (.src cs [mix]) [.int 32] = some (.d (.int r), .src cs' [mix'])) (h7 : F [.int 2, .int r] = some (.d (.int P))) (hm : cMul found P = true) :
    mAsg 1 (mBin gMul (mVar 1) (mCallP F 2 (mCons (mFt (mC (.int 2))) (mCons (mFt (mCallM c__law_any 2 (mCons (mVar 0) (mCons (mFt (mC (.int 32))) mNil)))) mNil)))) [some (.src cs [mix]), some (.d (.int found)), st] = some (.nx, [some (.src cs' [mix']), some (.d (.int (found * P))), st]) := by
  simp [mSeq, mAsg, mFv, fz, mBin, cont, mVar, mC, mUn, mCons, mNil, mCall, conts, mTup, mLst, dsOf, dOf, mFz, mFt, mSkip, mRet, mIfS, mTest, mTruth, truD, mNot, mAnd, mOr, mAndV, mOrV, mNotV, mIf, mYes, mExpr, mBreak, mCont, gNm, gsNil, gsCons, gTupD, mItems, mFor, mMeth, mPop, mSetIx, ownAt, gApp, mPar, wsOf, setAll, mAug, mAugAdd, mAugSub, gSub, gFdiv, gMod, gPow, gShl, gShr, gAnd, gLt, gLe, gGt, gGe, gI, gAdd, gMul, gNeg, gLen, gAbs, gInt, gIx, gRev, gEq, gNe, gIs1, mReg, mSetReg, mSrcNe, mSrcLast, mSrcPop, mSrcPut, srcAt, mSl, mNoPart, mPart, gSl, mCallP, mCallM, argsOf, slotW, notD, noLW, mRange1, mRange2, mRange3, mEnum, mZip, mChain, runP, runM, startE, fin0, lenLine, wipeE, restE, plainAt, List.getElem?_cons_zero, List.getElem?_cons_succ, List.set_cons_zero, List.set_cons_succ, List.map_cons, List.map_nil, List.length_cons, List.length_nil, List.replicate, List.cons_append, List.nil_append, List.isEmpty_nil, List.all_cons, List.all_nil, h, h7, hm]
theorem place_y (F : FM) {cs cs' : List Int} {mix mix' r : Int} (h : F (.src cs [mix]) [.int 16] = some (.d (.int r), .src cs' [mix'])) :
    mAsg 1 (mBin gAdd (mC (.int 1)) (mCallM F 2 (mCons (mVar 0) (mCons (mFt (mC (.int 16))) mNil)))) [some (.src cs [mix]), none, none] = some (.nx, [some (.src cs' [mix']), some (.d (.int (1 + r))), none]) := by
  simp [mSeq, mAsg, mFv, fz, mBin, cont, mVar, mC, mUn, mCons, mNil, mCall, conts, mTup, mLst, dsOf, dOf, mFz, mFt, mSkip, mRet, mIfS, mTest, mTruth, truD, mNot, mAnd, mOr, mAndV, mOrV, mNotV, mIf, mYes, mExpr, mBreak, mCont, gNm, gsNil, gsCons, gTupD, mItems, mFor, mMeth, mPop, mSetIx, ownAt, gApp, mPar, wsOf, setAll, mAug, mAugAdd, mAugSub, gSub, gFdiv, gMod, gPow, gShl, gShr, gAnd, gLt, gLe, gGt, gGe, gI, gAdd, gMul, gNeg, gLen, gAbs, gInt, gIx, gRev, gEq, gNe, gIs1, mReg, mSetReg, mSrcNe, mSrcLast, mSrcPop, mSrcPut, srcAt, mSl, mNoPart, mPart, gSl, mCallP, mCallM, argsOf, slotW, notD, noLW, mRange1, mRange2, mRange3, mEnum, mZip, mChain, runP, runM, startE, fin0, lenLine, wipeE, restE, plainAt, List.getElem?_cons_zero, List.getElem?_cons_succ, List.set_cons_zero, List.set_cons_succ, List.map_cons, List.map_nil, List.length_cons, List.length_nil, List.replicate, List.cons_append, List.nil_append, List.isEmpty_nil, List.all_cons, List.all_nil, h]
theorem place_ok {cs : List Int} {mix : Int} (hs : Src (.src cs [mix])) : ∃ r cs' mix', c__law_place (.src cs [mix]) [] = some (.d (.int r), .src cs' [mix']) ∧ 0 < r ∧ r < 2 ^ 118 ∧ Src (.src cs' [mix']) := by
  have e0 : startE 3 (W.src cs [mix] :: List.map W.d []) = [some (.src cs [mix]), none, none] := rfl
  obtain ⟨r1, cs1, mix1, h1, h2, h3, hs1⟩ := wide_ok (f := 16) hs (by decide) (by decide)
  have e1 := place_y c__law_wide h1
  obtain ⟨r2, cs2, mix2, h4, h5, h6, hs2⟩ := any_ok' (b := 3) hs1 (by decide) (small9000 (by decide))
  have s3 := for_ix (g := gNm 2) (b := (mAsg 1 (mBin gMul (mVar 1) (mCallP c__law_raised 2 (mCons (mFt (mC (.int 2))) (mCons (mFt (mCallM c__law_any 2 (mCons (mVar 0) (mCons (mFt (mC (.int 32))) mNil)))) mNil)))))) (fun (i : Nat) => PyData.int (0 + (i : Int) * 1))
    (fun (s : Int × List Int × Int × Option W) => [some (.src s.2.1 [s.2.2.1]), some (.d (.int s.1)), s.2.2.2])
    (fun j s => Src (.src s.2.1 [s.2.2.1]) ∧ 0 < s.1 ∧ s.1 < 2 ^ (54 + 32 * j)) 2 (List.range r2.toNat) 0 (1 + r1, cs2, mix2, none) (by rw [List.length_range]; omega) ⟨hs2, (by show 0 < 1 + r1; omega), (by show 1 + r1 < 2 ^ 54; omega)⟩ (fun j hj i s ⟨hs, h0, h1⟩ => by
    obtain ⟨r, cs3, mix3, h7, h8, h9, hs3⟩ := any_ok' (b := 32) hs (by decide) (small9000 (by decide))
    have er : r = ((r.toNat : Nat) : Int) := by omega
    have h10 := raised_ok (k := r.toNat) (by omega)
    rw [← er] at h10
    have hp : (0 : Int) < 2 ^ r.toNat := Int.pow_pos (by decide)
    have hp2 : (2 : Int) ^ r.toNat ≤ 2 ^ 31 := pow_mono 2 (by decide) (by omega)
    have hb : s.1 < 2 ^ 118 := Int.lt_of_lt_of_le h1 (pow_mono 2 (by decide) (by omega))
    have hm : cMul s.1 (2 ^ r.toNat) = true := cMul_lt 118 32 (by omega) (by omega)
    refine ⟨(s.1 * 2 ^ r.toNat, cs3, mix3, some (.d (.int (0 + (i : Int) * 1)))), ⟨hs3, Int.mul_pos h0 hp, ?_⟩, [some (.src s.2.1 [s.2.2.1]), some (.d (.int s.1)), some (.d (.int (0 + (i : Int) * 1)))], rfl, place_x c__law_raised h7 h10 hm⟩
    show s.1 * 2 ^ r.toNat < 2 ^ (54 + 32 * (j + 1))
    have e : 54 + 32 * (j + 1) = (54 + 32 * j) + 32 := by omega
    rw [e, Int.pow_add]
    have a1 : s.1 * 2 ^ r.toNat < 2 ^ (54 + 32 * j) * 2 ^ r.toNat := Int.mul_lt_mul_of_pos_right h1 hp
    have a2 : (2 : Int) ^ (54 + 32 * j) * 2 ^ r.toNat ≤ 2 ^ (54 + 32 * j) * 2 ^ 32 := Int.mul_le_mul_of_nonneg_left (by omega) (Int.le_of_lt (Int.pow_pos (by decide)))
    omega)
  obtain ⟨⟨found, cs3, mix3, st⟩, e3, hs3, hf0, hf1⟩ := s3
  have hf1 : found < 2 ^ (54 + 32 * (0 + (List.range r2.toNat).length)) := hf1
  rw [List.length_range] at hf1
  have e3' : mFor (mRange1 (mCons (mCallM c__law_any 2 (mCons (mVar 0) (mCons (mFt (mC (.int 3))) mNil))) mNil)) (gNm 2) (mAsg 1 (mBin gMul (mVar 1) (mCallP c__law_raised 2 (mCons (mFt (mC (.int 2))) (mCons (mFt (mCallM c__law_any 2 (mCons (mVar 0) (mCons (mFt (mC (.int 32))) mNil)))) mNil))))) [some (.src cs1 [mix1]), some (.d (.int (1 + r1))), none] = some (.nx, [some (.src cs3 [mix3]), some (.d (.int found)), st]) := by
    have h6 : okR r2 = true := by unfold okR; simp; omega
    have e : mRange1 (mCons (mCallM c__law_any 2 (mCons (mVar 0) (mCons (mFt (mC (.int 3))) mNil))) mNil) [some (.src cs1 [mix1]), some (.d (.int (1 + r1))), none] = some (rangeD 0 1 r2.toNat, [some (.src cs2 [mix2]), some (.d (.int (1 + r1))), none]) := by
      simp [mSeq, mAsg, mFv, fz, mBin, cont, mVar, mC, mUn, mCons, mNil, mCall, conts, mTup, mLst, dsOf, dOf, mFz, mFt, mSkip, mRet, mIfS, mTest, mTruth, truD, mNot, mAnd, mOr, mAndV, mOrV, mNotV, mIf, mYes, mExpr, mBreak, mCont, gNm, gsNil, gsCons, gTupD, mItems, mFor, mMeth, mPop, mSetIx, ownAt, gApp, mPar, wsOf, setAll, mAug, mAugAdd, mAugSub, gSub, gFdiv, gMod, gPow, gShl, gShr, gAnd, gLt, gLe, gGt, gGe, gI, gAdd, gMul, gNeg, gLen, gAbs, gInt, gIx, gRev, gEq, gNe, gIs1, mReg, mSetReg, mSrcNe, mSrcLast, mSrcPop, mSrcPut, srcAt, mSl, mNoPart, mPart, gSl, mCallP, mCallM, argsOf, slotW, notD, noLW, mRange1, mRange2, mRange3, mEnum, mZip, mChain, runP, runM, startE, fin0, lenLine, wipeE, restE, plainAt, List.getElem?_cons_zero, List.getElem?_cons_succ, List.set_cons_zero, List.set_cons_succ, List.map_cons, List.map_nil, List.length_cons, List.length_nil, List.replicate, List.cons_append, List.nil_append, List.isEmpty_nil, List.all_cons, List.all_nil, h4, h6]
    rw [mFor, e]
    exact e3
  refine ⟨found, cs3, mix3, ?_, hf0, Int.lt_of_lt_of_le hf1 (pow_mono 2 (by decide) (by omega)), hs3⟩
  have r : m__law_place [some (.src cs [mix]), none, none] = some (.rt (.d (.int found)), [some (.src cs3 [mix3]), some (.d (.int found)), st]) := by
    unfold m__law_place
    rw [mSeq, e1]
    simp only []
    rw [mSeq, e3']
    rfl
  show runM 3 m__law_place _ _ = _
  rw [runM, e0, r]
  rfl
theorem for_at0 {α S : Type} {g : MG} {b : MS} (f : α → D) (E : S → Env) (I : Nat → S → Prop) (all : List α) (h : ∀ j a s, all[j]? = some a → I j s → ∃ s', I (j + 1) s' ∧ ∃ e1, g (f a) (E s) = some e1 ∧ b e1 = some (.nx, E s')) : ∀ (suf pre : List α) (s : S), all = pre ++ suf → I pre.length s → ∃ s', forM' g b (suf.map f) (E s) = some (.nx, E s') ∧ I all.length s'
  | [], pre, s, e, hi => ⟨s, rfl, by rw [e, List.append_nil]; exact hi⟩
  | a :: as, pre, s, e, hi => by
    obtain ⟨s1, h1, e1, h2, h3⟩ := h pre.length a s (by rw [e, List.getElem?_append_right (Nat.le_refl _), Nat.sub_self]; rfl) hi
    rw [List.map_cons, for_turn h2 h3]
    exact for_at0 f E I all h as (pre ++ [a]) s1 (by rw [e, List.append_assoc]; rfl) (by rw [List.length_append]; exact h1)
/-- a loop whose invariant knows the place -/
theorem for_at {α S : Type} {g : MG} {b : MS} (f : α → D) (E : S → Env) (I : Nat → S → Prop) (all : List α) (s : S) (hi : I 0 s) (h : ∀ j a s, all[j]? = some a → I j s → ∃ s', I (j + 1) s' ∧ ∃ e1, g (f a) (E s) = some e1 ∧ b e1 = some (.nx, E s')) : ∃ s', forM' g b (all.map f) (E s) = some (.nx, E s') ∧ I all.length s' :=
  for_at0 f E I all h all [] s rfl hi
/-! ### zigzags -/
def sc (a : Int) : List Int → List Int
  | [] => [a]
  | x :: xs => a :: sc (a + x) xs
theorem sc_ini : ∀ (l : List Int) (a : Int), ∃ ini, sc a l = ini ++ [a + l.sum]
  | [], a => ⟨[], by simp [sc]⟩
  | x :: xs, a => by
    obtain ⟨ini, h⟩ := sc_ini xs (a + x)
    refine ⟨a :: ini, ?_⟩
    rw [sc, h, List.sum_cons, Int.add_assoc]
    rfl
theorem sc_snoc : ∀ (l : List Int) (a x : Int), sc a (l ++ [x]) = sc a l ++ [a + l.sum + x]
  | [], a, x => by simp [sc]
  | y :: ys, a, x => by
    rw [List.cons_append, sc, sc_snoc ys, sc, List.sum_cons, List.cons_append, Int.add_assoc a y]
theorem sc_len : ∀ (l : List Int) (a : Int), (sc a l).length = l.length + 1
  | [], a => rfl
  | y :: ys, a => by rw [sc, List.length_cons, sc_len ys, List.length_cons]
def zrow : Nat → List Int
  | 0 => [1]
  | n + 1 => sc 0 (zrow n).reverse
def lastI (l : List Int) : Int := match l.getLast? with
  | some x => x
  | none => 0
def zz (n : Nat) : Int := lastI (zrow n)
theorem zrow_len : ∀ n, (zrow n).length = n + 1
  | 0 => rfl
  | n + 1 => by rw [zrow, sc_len, List.length_reverse, zrow_len n]
theorem take_snoc {α : Type} {l : List α} {j : Nat} {x : α} (h : l[j]? = some x) : l.take (j + 1) = l.take j ++ [x] := by
  rw [List.take_add_one, h]
  rfl
theorem atI_last {ini : List Int} {t : Int} : atI ((ini ++ [t]).map PyData.int) (-1) = some (.int t) := by
  rw [List.map_append]
  show atI (ini.map PyData.int ++ [PyData.int t]) (-1) = some (.int t)
  unfold atI ixN
  rw [List.length_append]
  simp only [List.length_cons, List.length_nil]
  rw [if_neg (by omega), if_pos (by omega)]
  show (ini.map PyData.int ++ [PyData.int t])[(-1 + (((ini.map PyData.int).length + (0 + 1) : Nat) : Int)).toNat]? = some (PyData.int t)
  have : (-1 + (((ini.map PyData.int).length + (0 + 1) : Nat) : Int)).toNat = (ini.map PyData.int).length := by omega
  rw [this, List.getElem?_append_right (Nat.le_refl _)]
  simp
theorem lastI_snoc (ini : List Int) (t : Int) : lastI (ini ++ [t]) = t := by unfold lastI; simp
/-- the inner step: xs.append(xs[-1] + y) -/
theorem next_ok {xs : List Int} (h : xs ≠ [] ) (hl : xs.length ≤ 300) (hx : ∀ x ∈ xs, True) : c_next_to_and_fro [.list (xs.map .int)] = some (.own ((sc 0 xs.reverse).map .int)) := by
  have e0 : startE 3 (List.map W.d [PyData.list (xs.map .int)]) = [some (.d (.list (xs.map .int))), none, none] := rfl
  have q := for_at (g := gNm 2) (b := (mExpr (mMeth 1 gApp (mCons (mFz (mBin gAdd (mBin gIx (mVar 1) (mUn gNeg (mC (.int 1)))) (mBin gIx (mVar 0) (mVar 2)))) mNil)))) (fun (i : Nat) => PyData.int (((xs.length : Int) - 1) + (i : Int) * (-1)))
    (fun (s : List Int × Option W) => [some (.d (.list (xs.map .int))), some (.own (s.1.map .int)), s.2]) (fun j s => s.1 = sc 0 (xs.reverse.take j)) (List.range xs.length) ([0], none) rfl (fun j a s ha hs => by
    have hj : j < xs.length := by
      have := (List.getElem?_eq_some_iff.mp ha).1
      simpa using this
    rw [List.getElem?_range hj] at ha
    cases ha
    obtain ⟨ini, hi⟩ := sc_ini (xs.reverse.take j) 0
    have hr : xs.reverse[j]? = some (xs[xs.length - 1 - j]'(by omega)) := by
      rw [List.getElem?_reverse hj, List.getElem?_eq_getElem]
    generalize hx' : xs[xs.length - 1 - j]'(by omega) = x at hr
    have e1 : atI (xs.map PyData.int) (((xs.length : Int) - 1) + (j : Int) * (-1)) = some (.int x) := by
      have : ((xs.length : Int) - 1) + (j : Int) * (-1) = ((xs.length - 1 - j : Nat) : Int) := by omega
      rw [this]
      refine atI_nat ?_
      rw [List.getElem?_map, List.getElem?_eq_getElem (by omega), hx']
      rfl
    have hl2 : (s.1.map PyData.int).length < 16000000 := by
      rw [List.length_map, hs, sc_len, List.length_take]; omega
    refine ⟨(s.1 ++ [0 + (xs.reverse.take j).sum + x], some (.d (.int (((xs.length : Int) - 1) + (j : Int) * (-1))))), ?_, [some (.d (.list (xs.map .int))), some (.own (s.1.map .int)), some (.d (.int (((xs.length : Int) - 1) + (j : Int) * (-1))))], rfl, ?_⟩
    · show s.1 ++ _ = _
      rw [take_snoc hr, sc_snoc, hs]
    · have e2 : atI (s.1.map PyData.int) (-1) = some (.int (0 + (xs.reverse.take j).sum)) := by rw [hs, hi]; exact atI_last
      rw [List.map_append, List.map_cons, List.map_nil]
      generalize s.1.map PyData.int = ss at e2 hl2
      generalize xs.map PyData.int = xx at e1
      generalize ((xs.length : Int) - 1) + (j : Int) * (-1) = at' at e1
      generalize 0 + (xs.reverse.take j).sum = tt at e2
      simp [mSeq, mAsg, mFv, fz, mBin, cont, mVar, mC, mUn, mCons, mNil, mCall, conts, mTup, mLst, dsOf, dOf, mFz, mFt, mSkip, mRet, mIfS, mTest, mTruth, truD, mNot, mAnd, mOr, mAndV, mOrV, mNotV, mIf, mYes, mExpr, mBreak, mCont, gNm, gsNil, gsCons, gTupD, mItems, mFor, mMeth, mPop, mSetIx, ownAt, gApp, mPar, wsOf, setAll, mAug, mAugAdd, mAugSub, gSub, gFdiv, gMod, gPow, gShl, gShr, gAnd, gLt, gLe, gGt, gGe, gI, gAdd, gMul, gNeg, gLen, gAbs, gInt, gIx, gRev, gEq, gNe, gIs1, mReg, mSetReg, mSrcNe, mSrcLast, mSrcPop, mSrcPut, srcAt, mSl, mNoPart, mPart, gSl, mCallP, mCallM, argsOf, slotW, notD, noLW, mRange1, mRange2, mRange3, mEnum, mZip, mChain, runP, runM, startE, fin0, lenLine, wipeE, restE, plainAt, List.getElem?_cons_zero, List.getElem?_cons_succ, List.set_cons_zero, List.set_cons_succ, List.map_cons, List.map_nil, List.length_cons, List.length_nil, List.replicate, List.cons_append, List.nil_append, List.isEmpty_nil, List.all_cons, List.all_nil, e1, e2, hl2])
  obtain ⟨⟨fs, st⟩, h1, h2⟩ := q
  have h2 : fs = sc 0 (xs.reverse.take (List.range xs.length).length) := h2
  rw [List.length_range, List.take_of_length_le (by rw [List.length_reverse]; omega)] at h2
  subst h2
  have e3 : mFor (mRange3 (mCons (mBin gSub (mCall gLen (mCons (mVar 0) mNil)) (mC (.int 1))) (mCons (mUn gNeg (mC (.int 1))) (mCons (mUn gNeg (mC (.int 1))) mNil)))) (gNm 2) (mExpr (mMeth 1 gApp (mCons (mFz (mBin gAdd (mBin gIx (mVar 1) (mUn gNeg (mC (.int 1)))) (mBin gIx (mVar 0) (mVar 2)))) mNil))) [some (.d (.list (xs.map .int))), some (.own [.int 0]), none] = some (.nx, [some (.d (.list (xs.map .int))), some (.own ((sc 0 xs.reverse).map .int)), st]) := by
    have h56 := range_all (p := fun n => okRc ((n : Int) - 1) (-1) (-1) && decide ((Builtin.Range.rangeSize ((n : Int) - 1) (-1) (-1)).toNat = n)) (n := 301) (by decide +kernel) (i := xs.length) (by omega)
    rw [Bool.and_eq_true] at h56
    have h5 := h56.1
    have h6 := of_decide_eq_true h56.2
    have e : mRange3 (mCons (mBin gSub (mCall gLen (mCons (mVar 0) mNil)) (mC (.int 1))) (mCons (mUn gNeg (mC (.int 1))) (mCons (mUn gNeg (mC (.int 1))) mNil))) [some (.d (.list (xs.map .int))), some (.own [.int 0]), none] = some (rangeD ((xs.length : Int) - 1) (-1) xs.length, [some (.d (.list (xs.map .int))), some (.own [.int 0]), none]) := by
      have h7 : (xs.map PyData.int).length = xs.length := List.length_map _
      generalize xs.map PyData.int = xx at h7
      simp [mSeq, mAsg, mFv, fz, mBin, cont, mVar, mC, mUn, mCons, mNil, mCall, conts, mTup, mLst, dsOf, dOf, mFz, mFt, mSkip, mRet, mIfS, mTest, mTruth, truD, mNot, mAnd, mOr, mAndV, mOrV, mNotV, mIf, mYes, mExpr, mBreak, mCont, gNm, gsNil, gsCons, gTupD, mItems, mFor, mMeth, mPop, mSetIx, ownAt, gApp, mPar, wsOf, setAll, mAug, mAugAdd, mAugSub, gSub, gFdiv, gMod, gPow, gShl, gShr, gAnd, gLt, gLe, gGt, gGe, gI, gAdd, gMul, gNeg, gLen, gAbs, gInt, gIx, gRev, gEq, gNe, gIs1, mReg, mSetReg, mSrcNe, mSrcLast, mSrcPop, mSrcPut, srcAt, mSl, mNoPart, mPart, gSl, mCallP, mCallM, argsOf, slotW, notD, noLW, mRange1, mRange2, mRange3, mEnum, mZip, mChain, runP, runM, startE, fin0, lenLine, wipeE, restE, plainAt, List.getElem?_cons_zero, List.getElem?_cons_succ, List.set_cons_zero, List.set_cons_succ, List.map_cons, List.map_nil, List.length_cons, List.length_nil, List.replicate, List.cons_append, List.nil_append, List.isEmpty_nil, List.all_cons, List.all_nil, h5, h6, h7]
    rw [mFor, e]
    exact h1
  have r : m_next_to_and_fro [some (.d (.list (xs.map .int))), none, none] = some (.rt (.own ((sc 0 xs.reverse).map .int)), [some (.d (.list (xs.map .int))), some (.own ((sc 0 xs.reverse).map .int)), st]) := by
    unfold m_next_to_and_fro
    have e1 : mAsg 1 (mLst (mCons (mFz (mC (.int 0))) mNil)) [some (.d (.list (xs.map .int))), none, none] = some (.nx, [some (.d (.list (xs.map .int))), some (.own [.int 0]), none]) := by
      simp [mSeq, mAsg, mFv, fz, mBin, cont, mVar, mC, mUn, mCons, mNil, mCall, conts, mTup, mLst, dsOf, dOf, mFz, mFt, mSkip, mRet, mIfS, mTest, mTruth, truD, mNot, mAnd, mOr, mAndV, mOrV, mNotV, mIf, mYes, mExpr, mBreak, mCont, gNm, gsNil, gsCons, gTupD, mItems, mFor, mMeth, mPop, mSetIx, ownAt, gApp, mPar, wsOf, setAll, mAug, mAugAdd, mAugSub, gSub, gFdiv, gMod, gPow, gShl, gShr, gAnd, gLt, gLe, gGt, gGe, gI, gAdd, gMul, gNeg, gLen, gAbs, gInt, gIx, gRev, gEq, gNe, gIs1, mReg, mSetReg, mSrcNe, mSrcLast, mSrcPop, mSrcPut, srcAt, mSl, mNoPart, mPart, gSl, mCallP, mCallM, argsOf, slotW, notD, noLW, mRange1, mRange2, mRange3, mEnum, mZip, mChain, runP, runM, startE, fin0, lenLine, wipeE, restE, plainAt, List.getElem?_cons_zero, List.getElem?_cons_succ, List.set_cons_zero, List.set_cons_succ, List.map_cons, List.map_nil, List.length_cons, List.length_nil, List.replicate, List.cons_append, List.nil_append, List.isEmpty_nil, List.all_cons, List.all_nil]
    rw [mSeq, e1]
    simp only []
    rw [mSeq, e3]
    rfl
  show runP 3 m_next_to_and_fro _ = _
  rw [runP, e0, r]
theorem noLs_ints : ∀ l : List Int, noLs (l.map PyData.int) = true
  | [] => rfl
  | x :: xs => by rw [List.map_cons, noLs, noLs_ints xs]; rfl
theorem zt_x (F : FP) {n : D} {rr rr' ff : List D} {t : Int} {st : Option W} (h : F [.list rr] = some (.own rr')) (h2 : atI rr' (-1) = some (.int t)) (hl : ff.length < 16000000) (hn : noLs rr' = true) :
    (mSeq (mAsg 1 (mCallP F 1 (mCons (mFt (mVar 1)) mNil))) (mExpr (mMeth 2 gApp (mCons (mFz (mBin gIx (mVar 1) (mUn gNeg (mC (.int 1))))) mNil)))) [some (.d n), some (.own rr), some (.own ff), st] = some (.nx, [some (.d n), some (.own rr'), some (.own (ff ++ [.int t])), st]) := by
  simp [mSeq, mAsg, mFv, fz, mBin, cont, mVar, mC, mUn, mCons, mNil, mCall, conts, mTup, mLst, dsOf, dOf, mFz, mFt, mSkip, mRet, mIfS, mTest, mTruth, truD, mNot, mAnd, mOr, mAndV, mOrV, mNotV, mIf, mYes, mExpr, mBreak, mCont, gNm, gsNil, gsCons, gTupD, mItems, mFor, mMeth, mPop, mSetIx, ownAt, gApp, mPar, wsOf, setAll, mAug, mAugAdd, mAugSub, gSub, gFdiv, gMod, gPow, gShl, gShr, gAnd, gLt, gLe, gGt, gGe, gI, gAdd, gMul, gNeg, gLen, gAbs, gInt, gIx, gRev, gEq, gNe, gIs1, mReg, mSetReg, mSrcNe, mSrcLast, mSrcPop, mSrcPut, srcAt, mSl, mNoPart, mPart, gSl, mCallP, mCallM, argsOf, slotW, notD, noLW, mRange1, mRange2, mRange3, mEnum, mZip, mChain, runP, runM, startE, fin0, lenLine, wipeE, restE, plainAt, List.getElem?_cons_zero, List.getElem?_cons_succ, List.set_cons_zero, List.set_cons_succ, List.map_cons, List.map_nil, List.length_cons, List.length_nil, List.replicate, List.cons_append, List.nil_append, List.isEmpty_nil, List.all_cons, List.all_nil, h, h2, hl, hn]
theorem zrow_last (j : Nat) : ∃ ini, zrow j = ini ++ [zz j] := by
  cases j with
  | zero => exact ⟨[], rfl⟩
  | succ j =>
    obtain ⟨ini, h⟩ := sc_ini (zrow j).reverse 0
    refine ⟨ini, ?_⟩
    have e : zrow (j + 1) = sc 0 (zrow j).reverse := rfl
    unfold zz
    rw [e, h, lastI_snoc]
theorem range_snoc (f : Nat → Int) (j : Nat) : (List.range (j + 1)).map f = (List.range j).map f ++ [f j] := by
  rw [List.range_succ, List.map_append]; rfl
theorem zt_y {n : D} {rr ff : List D} {st : Option W} (hl : ff.length ≤ 16000000) : mRet false (mCall gTuple (mCons (mVar 2) mNil)) [some (.d n), some (.own rr), some (.own ff), st] = some (.rt (.d (.tuple ff)), [some (.d n), some (.own rr), some (.own ff), st]) := by
  simp [mSeq, mAsg, mFv, fz, mBin, cont, mVar, mC, mUn, mCons, mNil, mCall, conts, mTup, mLst, dsOf, dOf, mFz, mFt, mSkip, mRet, mIfS, mTest, mTruth, truD, mNot, mAnd, mOr, mAndV, mOrV, mNotV, mIf, mYes, mExpr, mBreak, mCont, gNm, gsNil, gsCons, gTupD, mItems, mFor, mMeth, mPop, mSetIx, ownAt, gApp, mPar, wsOf, setAll, mAug, mAugAdd, mAugSub, gSub, gFdiv, gMod, gPow, gShl, gShr, gAnd, gLt, gLe, gGt, gGe, gI, gAdd, gMul, gNeg, gLen, gAbs, gInt, gIx, gRev, gEq, gNe, gIs1, mReg, mSetReg, mSrcNe, mSrcLast, mSrcPop, mSrcPut, srcAt, mSl, mNoPart, mPart, gSl, mCallP, mCallM, argsOf, slotW, notD, noLW, mRange1, mRange2, mRange3, mEnum, mZip, mChain, runP, runM, startE, fin0, lenLine, wipeE, restE, plainAt, List.getElem?_cons_zero, List.getElem?_cons_succ, List.set_cons_zero, List.set_cons_succ, List.map_cons, List.map_nil, List.length_cons, List.length_nil, List.replicate, List.cons_append, List.nil_append, List.isEmpty_nil, List.all_cons, List.all_nil, gTuple, hl]
theorem zigs_ok {n : Nat} (hn : n ≤ 298) : c_zigzags_to [.int n] = some (.d (.tuple (((List.range (n + 1)).map zz).map .int))) := by
  have e0 : startE 4 (List.map W.d [PyData.int n]) = [some (.d (.int n)), none, none, none] := rfl
  have q := for_at (g := gNm 3) (b := (mSeq (mAsg 1 (mCallP c_next_to_and_fro 1 (mCons (mFt (mVar 1)) mNil))) (mExpr (mMeth 2 gApp (mCons (mFz (mBin gIx (mVar 1) (mUn gNeg (mC (.int 1))))) mNil))))) (fun (i : Nat) => PyData.int (1 + (i : Int) * 1))
    (fun (s : List Int × List Int × Option W) => [some (.d (.int n)), some (.own (s.1.map .int)), some (.own (s.2.1.map .int)), s.2.2]) (fun j s => s.1 = zrow j ∧ s.2.1 = (List.range (j + 1)).map zz) (List.range n) ([1], [1], none) ⟨rfl, rfl⟩ (fun j a s ha ⟨hs, hs2⟩ => by
    have hj : j < n := by
      have := (List.getElem?_eq_some_iff.mp ha).1
      simpa using this
    obtain ⟨ini, hi⟩ := zrow_last (j + 1)
    have hx := next_ok (xs := zrow j) (by cases h : zrow j with | nil => have := zrow_len j; rw [h] at this; cases this | cons a b => simp) (by rw [zrow_len]; omega) (fun _ _ => trivial)
    have e2 : atI ((zrow (j + 1)).map PyData.int) (-1) = some (.int (zz (j + 1))) := by rw [hi]; exact atI_last
    refine ⟨(zrow (j + 1), s.2.1 ++ [zz (j + 1)], some (.d (.int (1 + (a : Int) * 1)))), ⟨rfl, ?_⟩, [some (.d (.int n)), some (.own (s.1.map .int)), some (.own (s.2.1.map .int)), some (.d (.int (1 + (a : Int) * 1)))], rfl, ?_⟩
    · show s.2.1 ++ [zz (j + 1)] = _
      rw [hs2, range_snoc zz (j + 1)]
    · rw [hs]
      have q := zt_x c_next_to_and_fro (n := .int n) (ff := s.2.1.map .int) (st := some (.d (.int (1 + (a : Int) * 1)))) hx e2 (by rw [List.length_map, hs2, List.length_map, List.length_range]; omega) (noLs_ints _)
      rw [q]
      show _ = some (Fl.nx, [some (W.d (.int n)), some (W.own ((zrow (j + 1)).map .int)), some (W.own ((s.2.1 ++ [zz (j + 1)]).map .int)), some (W.d (.int (1 + (a : Int) * 1)))])
      rw [List.map_append]
      rfl)
  obtain ⟨⟨rw', fs, st⟩, h1, h2, h3⟩ := q
  have h3 : fs = (List.range ((List.range n).length + 1)).map zz := h3
  rw [List.length_range] at h3
  subst h3
  have e3 : mFor (mRange2 (mCons (mC (.int 1)) (mCons (mBin gAdd (mVar 0) (mC (.int 1))) mNil))) (gNm 3) (mSeq (mAsg 1 (mCallP c_next_to_and_fro 1 (mCons (mFt (mVar 1)) mNil))) (mExpr (mMeth 2 gApp (mCons (mFz (mBin gIx (mVar 1) (mUn gNeg (mC (.int 1))))) mNil)))) [some (.d (.int n)), some (.own [.int 1]), some (.own [.int 1]), none] = some (.nx, [some (.d (.int n)), some (.own (rw'.map .int)), some (.own (((List.range (n + 1)).map zz).map .int)), st]) := by
    have e : mRange2 (mCons (mC (.int 1)) (mCons (mBin gAdd (mVar 0) (mC (.int 1))) mNil)) [some (.d (.int n)), some (.own [.int 1]), some (.own [.int 1]), none] = some (rangeD 1 1 n, [some (.d (.int n)), some (.own [.int 1]), some (.own [.int 1]), none]) := by
      have h5 : okR 1 = true := by decide
      have h6 : okR ((n : Int) + 1) = true := by unfold okR; simp; omega
      have h7 : ((n : Int) + 1 - 1).toNat = n := by omega
      simp only [mSeq, mAsg, mFv, fz, mBin, cont, mVar, mC, mUn, mCons, mNil, mCall, conts, mTup, mLst, dsOf, dOf, mFz, mFt, mSkip, mRet, mIfS, mTest, mTruth, truD, mNot, mAnd, mOr, mAndV, mOrV, mNotV, mIf, mYes, mExpr, mBreak, mCont, gNm, gsNil, gsCons, gTupD, mItems, mFor, mMeth, mPop, mSetIx, ownAt, gApp, mPar, wsOf, setAll, mAug, mAugAdd, mAugSub, gSub, gFdiv, gMod, gPow, gShl, gShr, gAnd, gLt, gLe, gGt, gGe, gI, gAdd, gMul, gNeg, gLen, gAbs, gInt, gIx, gRev, gEq, gNe, gIs1, mReg, mSetReg, mSrcNe, mSrcLast, mSrcPop, mSrcPut, srcAt, mSl, mNoPart, mPart, gSl, mCallP, mCallM, argsOf, slotW, notD, noLW, mRange1, mRange2, mRange3, mEnum, mZip, mChain, runP, runM, startE, fin0, lenLine, wipeE, restE, plainAt, List.getElem?_cons_zero, List.getElem?_cons_succ, List.set_cons_zero, List.set_cons_succ, List.map_cons, List.map_nil, List.length_cons, List.length_nil, List.replicate, List.cons_append, List.nil_append, List.isEmpty_nil, List.all_cons, List.all_nil, h5, h6, h7, Bool.and_self, if_true]
    rw [mFor, e]
    exact h1
  have r : m_zigzags_to [some (.d (.int n)), none, none, none] = some (.rt (.d (.tuple (((List.range (n + 1)).map zz).map .int))), [some (.d (.int n)), some (.own (rw'.map .int)), some (.own (((List.range (n + 1)).map zz).map .int)), st]) := by
    unfold m_zigzags_to
    have e1 : mPar [1, 2] (mCons (mFv (mLst (mCons (mFz (mC (.int 1))) mNil))) (mCons (mFv (mLst (mCons (mFz (mC (.int 1))) mNil))) mNil)) [some (.d (.int n)), none, none, none] = some (.nx, [some (.d (.int n)), some (.own [.int 1]), some (.own [.int 1]), none]) := by
      simp [mSeq, mAsg, mFv, fz, mBin, cont, mVar, mC, mUn, mCons, mNil, mCall, conts, mTup, mLst, dsOf, dOf, mFz, mFt, mSkip, mRet, mIfS, mTest, mTruth, truD, mNot, mAnd, mOr, mAndV, mOrV, mNotV, mIf, mYes, mExpr, mBreak, mCont, gNm, gsNil, gsCons, gTupD, mItems, mFor, mMeth, mPop, mSetIx, ownAt, gApp, mPar, wsOf, setAll, mAug, mAugAdd, mAugSub, gSub, gFdiv, gMod, gPow, gShl, gShr, gAnd, gLt, gLe, gGt, gGe, gI, gAdd, gMul, gNeg, gLen, gAbs, gInt, gIx, gRev, gEq, gNe, gIs1, mReg, mSetReg, mSrcNe, mSrcLast, mSrcPop, mSrcPut, srcAt, mSl, mNoPart, mPart, gSl, mCallP, mCallM, argsOf, slotW, notD, noLW, mRange1, mRange2, mRange3, mEnum, mZip, mChain, runP, runM, startE, fin0, lenLine, wipeE, restE, plainAt, List.getElem?_cons_zero, List.getElem?_cons_succ, List.set_cons_zero, List.set_cons_succ, List.map_cons, List.map_nil, List.length_cons, List.length_nil, List.replicate, List.cons_append, List.nil_append, List.isEmpty_nil, List.all_cons, List.all_nil]
    rw [mSeq, e1]
    simp only []
    rw [mSeq, e3]
    simp only []
    rw [zt_y (by rw [List.length_map, List.length_map, List.length_range]; omega)]
  show runP 4 m_zigzags_to _ = _
  rw [runP, e0, r]
theorem zz_x (F : FP) {n : Int} {xs : List D} {t : Int} (h : F [.int n] = some (.d (.tuple xs))) (h2 : atI xs n = some (.int t)) : runP 1 (mRet false (mBin gIx (mCallP F 1 (mCons (mFt (mVar 0)) mNil)) (mVar 0))) [.int n] = some (.d (.int t)) := by
  simp [mSeq, mAsg, mFv, fz, mBin, cont, mVar, mC, mUn, mCons, mNil, mCall, conts, mTup, mLst, dsOf, dOf, mFz, mFt, mSkip, mRet, mIfS, mTest, mTruth, truD, mNot, mAnd, mOr, mAndV, mOrV, mNotV, mIf, mYes, mExpr, mBreak, mCont, gNm, gsNil, gsCons, gTupD, mItems, mFor, mMeth, mPop, mSetIx, ownAt, gApp, mPar, wsOf, setAll, mAug, mAugAdd, mAugSub, gSub, gFdiv, gMod, gPow, gShl, gShr, gAnd, gLt, gLe, gGt, gGe, gI, gAdd, gMul, gNeg, gLen, gAbs, gInt, gIx, gRev, gEq, gNe, gIs1, mReg, mSetReg, mSrcNe, mSrcLast, mSrcPop, mSrcPut, srcAt, mSl, mNoPart, mPart, gSl, mCallP, mCallM, argsOf, slotW, notD, noLW, mRange1, mRange2, mRange3, mEnum, mZip, mChain, runP, runM, startE, fin0, lenLine, wipeE, restE, plainAt, List.getElem?_cons_zero, List.getElem?_cons_succ, List.set_cons_zero, List.set_cons_succ, List.map_cons, List.map_nil, List.length_cons, List.length_nil, List.replicate, List.cons_append, List.nil_append, List.isEmpty_nil, List.all_cons, List.all_nil, h, h2]
theorem zig_ok {n : Nat} (hn : n ≤ 298) : c_zigzag [.int n] = some (.d (.int (zz n))) := by
  refine zz_x c_zigzags_to (zigs_ok hn) (atI_nat ?_)
  rw [List.getElem?_map, List.getElem?_map, List.getElem?_range (by omega)]
  rfl
/-! ### _law_zigzags -/
def lzB : MS := (mExpr (mMeth 4 gApp (mCons (mFz (mBin gAdd (mBin gIx (mVar 4) (mUn gNeg (mC (.int 1)))) (mVar 5))) mNil)))
theorem lz_x {m rw ff n : Option W} {ll : List D} {t a : Int} (h : atI ll (-1) = some (.int t)) (hl : ll.length < 16000000) : lzB [m, rw, ff, n, some (.own ll), some (.d (.int a))] = some (.nx, [m, rw, ff, n, some (.own (ll ++ [.int (t + a)])), some (.d (.int a))]) := by
  unfold lzB
  simp [mSeq, mAsg, mFv, fz, mBin, cont, mVar, mC, mUn, mCons, mNil, mCall, conts, mTup, mLst, dsOf, dOf, mFz, mFt, mSkip, mRet, mIfS, mTest, mTruth, truD, mNot, mAnd, mOr, mAndV, mOrV, mNotV, mIf, mYes, mExpr, mBreak, mCont, gNm, gsNil, gsCons, gTupD, mItems, mFor, mMeth, mPop, mSetIx, ownAt, gApp, mPar, wsOf, setAll, mAug, mAugAdd, mAugSub, gSub, gFdiv, gMod, gPow, gShl, gShr, gAnd, gLt, gLe, gGt, gGe, gI, gAdd, gMul, gNeg, gLen, gAbs, gInt, gIx, gRev, gEq, gNe, gIs1, mReg, mSetReg, mSrcNe, mSrcLast, mSrcPop, mSrcPut, srcAt, mSl, mNoPart, mPart, gSl, mCallP, mCallM, argsOf, slotW, notD, noLW, mRange1, mRange2, mRange3, mEnum, mZip, mChain, runP, runM, startE, fin0, lenLine, wipeE, restE, plainAt, List.getElem?_cons_zero, List.getElem?_cons_succ, List.set_cons_zero, List.set_cons_succ, List.map_cons, List.map_nil, List.length_cons, List.length_nil, List.replicate, List.cons_append, List.nil_append, List.isEmpty_nil, List.all_cons, List.all_nil, h, hl]
def RowW (w : W) (xs : List Int) : Prop := w = .own (xs.map .int) ∨ w = .d (.list (xs.map .int))
theorem lz_items {m ff n l o : Option W} {rw' : W} {xs : List Int} (h : RowW rw' xs) : mItems (mUn gRev (mVar 1)) [m, some rw', ff, n, l, o] = some (xs.reverse.map .int, [m, some rw', ff, n, l, o]) := by
  rw [List.map_reverse]
  rcases h with rfl | rfl <;> simp [mSeq, mAsg, mFv, fz, mBin, cont, mVar, mC, mUn, mCons, mNil, mCall, conts, mTup, mLst, dsOf, dOf, mFz, mFt, mSkip, mRet, mIfS, mTest, mTruth, truD, mNot, mAnd, mOr, mAndV, mOrV, mNotV, mIf, mYes, mExpr, mBreak, mCont, gNm, gsNil, gsCons, gTupD, mItems, mFor, mMeth, mPop, mSetIx, ownAt, gApp, mPar, wsOf, setAll, mAug, mAugAdd, mAugSub, gSub, gFdiv, gMod, gPow, gShl, gShr, gAnd, gLt, gLe, gGt, gGe, gI, gAdd, gMul, gNeg, gLen, gAbs, gInt, gIx, gRev, gEq, gNe, gIs1, mReg, mSetReg, mSrcNe, mSrcLast, mSrcPop, mSrcPut, srcAt, mSl, mNoPart, mPart, gSl, mCallP, mCallM, argsOf, slotW, notD, noLW, mRange1, mRange2, mRange3, mEnum, mZip, mChain, runP, runM, startE, fin0, lenLine, wipeE, restE, plainAt, List.getElem?_cons_zero, List.getElem?_cons_succ, List.set_cons_zero, List.set_cons_succ, List.map_cons, List.map_nil, List.length_cons, List.length_nil, List.replicate, List.cons_append, List.nil_append, List.isEmpty_nil, List.all_cons, List.all_nil]
theorem lz_in {m ff n o : Option W} {rw' : W} {xs : List Int} (h : RowW rw' xs) (hl : xs.length ≤ 300) : ∃ o', mFor (mItems (mUn gRev (mVar 1))) (gNm 5) lzB [m, some rw', ff, n, some (.own [.int 0]), o] = some (.nx, [m, some rw', ff, n, some (.own ((sc 0 xs.reverse).map .int)), o']) := by
  have q := for_at (g := gNm 5) (b := lzB) PyData.int (fun (s : List Int × Option W) => [m, some rw', ff, n, some (.own (s.1.map .int)), s.2]) (fun j s => s.1 = sc 0 (xs.reverse.take j)) xs.reverse ([0], o) rfl (fun j a s ha hs => by
    obtain ⟨ini, hi⟩ := sc_ini (xs.reverse.take j) 0
    have e2 : atI (s.1.map PyData.int) (-1) = some (.int (0 + (xs.reverse.take j).sum)) := by rw [hs, hi]; exact atI_last
    have hl2 : (s.1.map PyData.int).length < 16000000 := by
      rw [List.length_map, hs, sc_len, List.length_take, List.length_reverse]; omega
    refine ⟨(s.1 ++ [0 + (xs.reverse.take j).sum + a], some (.d (.int a))), ?_, [m, some rw', ff, n, some (.own (s.1.map .int)), some (.d (.int a))], rfl, ?_⟩
    · show s.1 ++ _ = _
      rw [take_snoc ha, sc_snoc, hs]
    · rw [lz_x e2 hl2]
      show _ = some (Fl.nx, [m, some rw', ff, n, some (W.own ((s.1 ++ [0 + (xs.reverse.take j).sum + a]).map .int)), some (W.d (.int a))])
      rw [List.map_append]
      rfl)
  obtain ⟨⟨fs, st⟩, h1, h2⟩ := q
  have h2 : fs = sc 0 (xs.reverse.take xs.reverse.length) := h2
  rw [List.take_length] at h2
  subst h2
  refine ⟨st, ?_⟩
  rw [mFor, lz_items h]
  exact h1
theorem lz_t {m n o : Option W} {w : Option W} {ff ll : List D} {t : Int} (h : atI ll (-1) = some (.int t)) (hl : ff.length < 16000000) : mSeq (mAsg 1 (mVar 4)) (mExpr (mMeth 2 gApp (mCons (mFz (mBin gIx (mVar 1) (mUn gNeg (mC (.int 1))))) mNil))) [m, w, some (.own ff), n, some (.own ll), o] = some (.nx, [m, some (.d (.list ll)), some (.own (ff ++ [.int t])), n, some (.d (.list ll)), o]) := by
  simp [mSeq, mAsg, mFv, fz, mBin, cont, mVar, mC, mUn, mCons, mNil, mCall, conts, mTup, mLst, dsOf, dOf, mFz, mFt, mSkip, mRet, mIfS, mTest, mTruth, truD, mNot, mAnd, mOr, mAndV, mOrV, mNotV, mIf, mYes, mExpr, mBreak, mCont, gNm, gsNil, gsCons, gTupD, mItems, mFor, mMeth, mPop, mSetIx, ownAt, gApp, mPar, wsOf, setAll, mAug, mAugAdd, mAugSub, gSub, gFdiv, gMod, gPow, gShl, gShr, gAnd, gLt, gLe, gGt, gGe, gI, gAdd, gMul, gNeg, gLen, gAbs, gInt, gIx, gRev, gEq, gNe, gIs1, mReg, mSetReg, mSrcNe, mSrcLast, mSrcPop, mSrcPut, srcAt, mSl, mNoPart, mPart, gSl, mCallP, mCallM, argsOf, slotW, notD, noLW, mRange1, mRange2, mRange3, mEnum, mZip, mChain, runP, runM, startE, fin0, lenLine, wipeE, restE, plainAt, List.getElem?_cons_zero, List.getElem?_cons_succ, List.set_cons_zero, List.set_cons_succ, List.map_cons, List.map_nil, List.length_cons, List.length_nil, List.replicate, List.cons_append, List.nil_append, List.isEmpty_nil, List.all_cons, List.all_nil, h, hl]
def lzO : MS := (mSeq (mAsg 4 (mLst (mCons (mFz (mC (.int 0))) mNil)))
    (mSeq (mFor (mItems (mUn gRev (mVar 1))) (gNm 5) lzB)
    (mSeq (mAsg 1 (mVar 4)) (mExpr (mMeth 2 gApp (mCons (mFz (mBin gIx (mVar 1) (mUn gNeg (mC (.int 1))))) mNil))))))
theorem lz_o {m n l o : Option W} {rw' : W} {j : Nat} {ff : List D} (h : RowW rw' (zrow j)) (hj : j ≤ 298) (hl : ff.length < 16000000) : ∃ o', lzO [m, some rw', some (.own ff), n, l, o] = some (.nx, [m, some (.d (.list ((zrow (j + 1)).map .int))), some (.own (ff ++ [.int (zz (j + 1))])), n, some (.d (.list ((zrow (j + 1)).map .int))), o']) := by
  obtain ⟨o', h1⟩ := lz_in (m := m) (ff := some (.own ff)) (n := n) (o := o) h (by rw [zrow_len]; omega)
  obtain ⟨ini, hi⟩ := zrow_last (j + 1)
  have e2 : atI ((zrow (j + 1)).map PyData.int) (-1) = some (.int (zz (j + 1))) := by rw [hi]; exact atI_last
  refine ⟨o', ?_⟩
  have e1 : mAsg 4 (mLst (mCons (mFz (mC (.int 0))) mNil)) [m, some rw', some (.own ff), n, l, o] = some (.nx, [m, some rw', some (.own ff), n, some (.own [.int 0]), o]) := by simp [mSeq, mAsg, mFv, fz, mBin, cont, mVar, mC, mUn, mCons, mNil, mCall, conts, mTup, mLst, dsOf, dOf, mFz, mFt, mSkip, mRet, mIfS, mTest, mTruth, truD, mNot, mAnd, mOr, mAndV, mOrV, mNotV, mIf, mYes, mExpr, mBreak, mCont, gNm, gsNil, gsCons, gTupD, mItems, mFor, mMeth, mPop, mSetIx, ownAt, gApp, mPar, wsOf, setAll, mAug, mAugAdd, mAugSub, gSub, gFdiv, gMod, gPow, gShl, gShr, gAnd, gLt, gLe, gGt, gGe, gI, gAdd, gMul, gNeg, gLen, gAbs, gInt, gIx, gRev, gEq, gNe, gIs1, mReg, mSetReg, mSrcNe, mSrcLast, mSrcPop, mSrcPut, srcAt, mSl, mNoPart, mPart, gSl, mCallP, mCallM, argsOf, slotW, notD, noLW, mRange1, mRange2, mRange3, mEnum, mZip, mChain, runP, runM, startE, fin0, lenLine, wipeE, restE, plainAt, List.getElem?_cons_zero, List.getElem?_cons_succ, List.set_cons_zero, List.set_cons_succ, List.map_cons, List.map_nil, List.length_cons, List.length_nil, List.replicate, List.cons_append, List.nil_append, List.isEmpty_nil, List.all_cons, List.all_nil]
  unfold lzO
  rw [mSeq, e1]
  simp only []
  rw [mSeq, h1]
  simp only []
  exact lz_t e2 hl
theorem lzigs_ok {n : Nat} (hn : n ≤ 298) : c__law_zigzags [.int n] = some (.own (((List.range (n + 1)).map zz).map .int)) := by
  have e0 : startE 6 (List.map W.d [PyData.int n]) = [some (.d (.int n)), none, none, none, none, none] := rfl
  have q := for_at (g := gNm 3) (b := lzO) (fun (i : Nat) => PyData.int (0 + (i : Int) * 1))
    (fun (s : W × List Int × Option W × Option W × Option W) => [some (.d (.int n)), some s.1, some (.own (s.2.1.map .int)), s.2.2.1, s.2.2.2.1, s.2.2.2.2]) (fun j s => RowW s.1 (zrow j) ∧ s.2.1 = (List.range (j + 1)).map zz) (List.range n) (.own [.int 1], [1], none, none, none) ⟨.inl rfl, rfl⟩ (fun j a s ha ⟨hs, hs2⟩ => by
    have hj : j < n := by
      have := (List.getElem?_eq_some_iff.mp ha).1
      simpa using this
    obtain ⟨o', h⟩ := lz_o (m := some (.d (.int n))) (n := some (.d (.int (0 + (a : Int) * 1)))) (l := s.2.2.2.1) (o := s.2.2.2.2) (ff := s.2.1.map .int) hs (by omega) (by rw [List.length_map, hs2, List.length_map, List.length_range]; omega)
    refine ⟨(.d (.list ((zrow (j + 1)).map .int)), s.2.1 ++ [zz (j + 1)], some (.d (.int (0 + (a : Int) * 1))), some (.d (.list ((zrow (j + 1)).map .int))), o'), ⟨.inr rfl, ?_⟩, [some (.d (.int n)), some s.1, some (.own (s.2.1.map .int)), some (.d (.int (0 + (a : Int) * 1))), s.2.2.2.1, s.2.2.2.2], rfl, ?_⟩
    · show s.2.1 ++ [zz (j + 1)] = _
      rw [hs2, range_snoc zz (j + 1)]
    · rw [h]
      show _ = some (Fl.nx, [some (W.d (.int n)), some (W.d (.list ((zrow (j + 1)).map .int))), some (W.own ((s.2.1 ++ [zz (j + 1)]).map .int)), some (W.d (.int (0 + (a : Int) * 1))), some (W.d (.list ((zrow (j + 1)).map .int))), o'])
      rw [List.map_append]
      rfl)
  obtain ⟨⟨rw', fs, st⟩, h1, h2, h3⟩ := q
  have h3 : fs = (List.range ((List.range n).length + 1)).map zz := h3
  rw [List.length_range] at h3
  subst h3
  have e3 : mFor (mRange1 (mCons (mVar 0) mNil)) (gNm 3) lzO [some (.d (.int n)), some (.own [.int 1]), some (.own [.int 1]), none, none, none] = some (.nx, [some (.d (.int n)), some rw', some (.own (((List.range (n + 1)).map zz).map .int)), st.1, st.2.1, st.2.2]) := by
    have e : mRange1 (mCons (mVar 0) mNil) [some (.d (.int n)), some (.own [.int 1]), some (.own [.int 1]), none, none, none] = some (rangeD 0 1 n, [some (.d (.int n)), some (.own [.int 1]), some (.own [.int 1]), none, none, none]) := by
      have h6 : okR (n : Int) = true := by unfold okR; simp; omega
      have h7 : ((n : Int)).toNat = n := by omega
      simp only [mSeq, mAsg, mFv, fz, mBin, cont, mVar, mC, mUn, mCons, mNil, mCall, conts, mTup, mLst, dsOf, dOf, mFz, mFt, mSkip, mRet, mIfS, mTest, mTruth, truD, mNot, mAnd, mOr, mAndV, mOrV, mNotV, mIf, mYes, mExpr, mBreak, mCont, gNm, gsNil, gsCons, gTupD, mItems, mFor, mMeth, mPop, mSetIx, ownAt, gApp, mPar, wsOf, setAll, mAug, mAugAdd, mAugSub, gSub, gFdiv, gMod, gPow, gShl, gShr, gAnd, gLt, gLe, gGt, gGe, gI, gAdd, gMul, gNeg, gLen, gAbs, gInt, gIx, gRev, gEq, gNe, gIs1, mReg, mSetReg, mSrcNe, mSrcLast, mSrcPop, mSrcPut, srcAt, mSl, mNoPart, mPart, gSl, mCallP, mCallM, argsOf, slotW, notD, noLW, mRange1, mRange2, mRange3, mEnum, mZip, mChain, runP, runM, startE, fin0, lenLine, wipeE, restE, plainAt, List.getElem?_cons_zero, List.getElem?_cons_succ, List.set_cons_zero, List.set_cons_succ, List.map_cons, List.map_nil, List.length_cons, List.length_nil, List.replicate, List.cons_append, List.nil_append, List.isEmpty_nil, List.all_cons, List.all_nil, h6, h7, if_true]
    rw [mFor, e]
    exact h1
  have r : m__law_zigzags [some (.d (.int n)), none, none, none, none, none] = some (.rt (.own (((List.range (n + 1)).map zz).map .int)), [some (.d (.int n)), some rw', some (.own (((List.range (n + 1)).map zz).map .int)), st.1, st.2.1, st.2.2]) := by
    have u : m__law_zigzags = (mSeq (mPar [1, 2] (mCons (mFv (mLst (mCons (mFz (mC (.int 1))) mNil))) (mCons (mFv (mLst (mCons (mFz (mC (.int 1))) mNil))) mNil))) (mSeq (mFor (mRange1 (mCons (mVar 0) mNil)) (gNm 3) lzO) (mRet false (mVar 2)))) := rfl
    have e1 : mPar [1, 2] (mCons (mFv (mLst (mCons (mFz (mC (.int 1))) mNil))) (mCons (mFv (mLst (mCons (mFz (mC (.int 1))) mNil))) mNil)) [some (.d (.int n)), none, none, none, none, none] = some (.nx, [some (.d (.int n)), some (.own [.int 1]), some (.own [.int 1]), none, none, none]) := by
      simp [mSeq, mAsg, mFv, fz, mBin, cont, mVar, mC, mUn, mCons, mNil, mCall, conts, mTup, mLst, dsOf, dOf, mFz, mFt, mSkip, mRet, mIfS, mTest, mTruth, truD, mNot, mAnd, mOr, mAndV, mOrV, mNotV, mIf, mYes, mExpr, mBreak, mCont, gNm, gsNil, gsCons, gTupD, mItems, mFor, mMeth, mPop, mSetIx, ownAt, gApp, mPar, wsOf, setAll, mAug, mAugAdd, mAugSub, gSub, gFdiv, gMod, gPow, gShl, gShr, gAnd, gLt, gLe, gGt, gGe, gI, gAdd, gMul, gNeg, gLen, gAbs, gInt, gIx, gRev, gEq, gNe, gIs1, mReg, mSetReg, mSrcNe, mSrcLast, mSrcPop, mSrcPut, srcAt, mSl, mNoPart, mPart, gSl, mCallP, mCallM, argsOf, slotW, notD, noLW, mRange1, mRange2, mRange3, mEnum, mZip, mChain, runP, runM, startE, fin0, lenLine, wipeE, restE, plainAt, List.getElem?_cons_zero, List.getElem?_cons_succ, List.set_cons_zero, List.set_cons_succ, List.map_cons, List.map_nil, List.length_cons, List.length_nil, List.replicate, List.cons_append, List.nil_append, List.isEmpty_nil, List.all_cons, List.all_nil]
    rw [u, mSeq, e1]
    simp only []
    rw [mSeq, e3]
    rfl
  show runP 6 m__law_zigzags _ = _
  rw [runP, e0, r]
/-! ### powers of two -/
def pwC : MT := (mTest (mBin gGt (mVar 4) (mC (.int 0))))
def pwB (X : ME) : MS := (mSeq (mIfS (mTest (mBin gEq (mBin gMod X (mC (.int 2))) (mC (.int 1)))) (mAsg 2 (mBin gMul (mVar 2) (mVar 3))) mSkip)
    (mSeq (mAsg 4 (mBin gFdiv (mVar 4) (mC (.int 2))))
    (mIfS (mTest (mBin gGt (mVar 4) (mC (.int 0)))) (mAsg 3 (mBin gMul (mVar 3) (mVar 3))) mSkip)))
theorem pw_body {X : ME} (hX : ∀ x y f s (l : Int), X [x, y, f, s, some (.d (.int l))] = some (.val (.d (.int l)), [x, y, f, s, some (.d (.int l))])) {x y : Option W} {F S L : Int} (h1 : L % 2 = 1 → cMul F S = true) (h2 : 0 < L / 2 → cMul S S = true) :
    pwB X [x, y, some (.d (.int F)), some (.d (.int S)), some (.d (.int L))] = some (.nx, [x, y, some (.d (.int (if L % 2 = 1 then F * S else F))), some (.d (.int (if 0 < L / 2 then S * S else S))), some (.d (.int (L / 2)))]) := by
  have h3 : cMod L 2 = true := cMod_pos (by decide)
  have h4 : cDiv L 2 = true := cDiv_lt 2 (by decide) (by decide)
  unfold pwB
  by_cases a : L % 2 = 1
  · by_cases b : 0 < L / 2
    · simp [mSeq, mAsg, mFv, fz, mBin, cont, mVar, mC, mUn, mCons, mNil, mCall, conts, mTup, mLst, dsOf, dOf, mFz, mFt, mSkip, mRet, mIfS, mTest, mTruth, truD, mNot, mAnd, mOr, mAndV, mOrV, mNotV, mIf, mYes, mExpr, mBreak, mCont, gNm, gsNil, gsCons, gTupD, mItems, mFor, mMeth, mPop, mSetIx, ownAt, gApp, mPar, wsOf, setAll, mAug, mAugAdd, mAugSub, gSub, gFdiv, gMod, gPow, gShl, gShr, gAnd, gLt, gLe, gGt, gGe, gI, gAdd, gMul, gNeg, gLen, gAbs, gInt, gIx, gRev, gEq, gNe, gIs1, mReg, mSetReg, mSrcNe, mSrcLast, mSrcPop, mSrcPut, srcAt, mSl, mNoPart, mPart, gSl, mCallP, mCallM, argsOf, slotW, notD, noLW, mRange1, mRange2, mRange3, mEnum, mZip, mChain, runP, runM, startE, fin0, lenLine, wipeE, restE, plainAt, List.getElem?_cons_zero, List.getElem?_cons_succ, List.set_cons_zero, List.set_cons_succ, List.map_cons, List.map_nil, List.length_cons, List.length_nil, List.replicate, List.cons_append, List.nil_append, List.isEmpty_nil, List.all_cons, List.all_nil, hX, h3, h4, h1 a, h2 b, a, b]
    · simp [mSeq, mAsg, mFv, fz, mBin, cont, mVar, mC, mUn, mCons, mNil, mCall, conts, mTup, mLst, dsOf, dOf, mFz, mFt, mSkip, mRet, mIfS, mTest, mTruth, truD, mNot, mAnd, mOr, mAndV, mOrV, mNotV, mIf, mYes, mExpr, mBreak, mCont, gNm, gsNil, gsCons, gTupD, mItems, mFor, mMeth, mPop, mSetIx, ownAt, gApp, mPar, wsOf, setAll, mAug, mAugAdd, mAugSub, gSub, gFdiv, gMod, gPow, gShl, gShr, gAnd, gLt, gLe, gGt, gGe, gI, gAdd, gMul, gNeg, gLen, gAbs, gInt, gIx, gRev, gEq, gNe, gIs1, mReg, mSetReg, mSrcNe, mSrcLast, mSrcPop, mSrcPut, srcAt, mSl, mNoPart, mPart, gSl, mCallP, mCallM, argsOf, slotW, notD, noLW, mRange1, mRange2, mRange3, mEnum, mZip, mChain, runP, runM, startE, fin0, lenLine, wipeE, restE, plainAt, List.getElem?_cons_zero, List.getElem?_cons_succ, List.set_cons_zero, List.set_cons_succ, List.map_cons, List.map_nil, List.length_cons, List.length_nil, List.replicate, List.cons_append, List.nil_append, List.isEmpty_nil, List.all_cons, List.all_nil, hX, h3, h4, h1 a, a, b]
  · by_cases b : 0 < L / 2
    · simp [mSeq, mAsg, mFv, fz, mBin, cont, mVar, mC, mUn, mCons, mNil, mCall, conts, mTup, mLst, dsOf, dOf, mFz, mFt, mSkip, mRet, mIfS, mTest, mTruth, truD, mNot, mAnd, mOr, mAndV, mOrV, mNotV, mIf, mYes, mExpr, mBreak, mCont, gNm, gsNil, gsCons, gTupD, mItems, mFor, mMeth, mPop, mSetIx, ownAt, gApp, mPar, wsOf, setAll, mAug, mAugAdd, mAugSub, gSub, gFdiv, gMod, gPow, gShl, gShr, gAnd, gLt, gLe, gGt, gGe, gI, gAdd, gMul, gNeg, gLen, gAbs, gInt, gIx, gRev, gEq, gNe, gIs1, mReg, mSetReg, mSrcNe, mSrcLast, mSrcPop, mSrcPut, srcAt, mSl, mNoPart, mPart, gSl, mCallP, mCallM, argsOf, slotW, notD, noLW, mRange1, mRange2, mRange3, mEnum, mZip, mChain, runP, runM, startE, fin0, lenLine, wipeE, restE, plainAt, List.getElem?_cons_zero, List.getElem?_cons_succ, List.set_cons_zero, List.set_cons_succ, List.map_cons, List.map_nil, List.length_cons, List.length_nil, List.replicate, List.cons_append, List.nil_append, List.isEmpty_nil, List.all_cons, List.all_nil, hX, h3, h4, h2 b, a, b]
    · simp [mSeq, mAsg, mFv, fz, mBin, cont, mVar, mC, mUn, mCons, mNil, mCall, conts, mTup, mLst, dsOf, dOf, mFz, mFt, mSkip, mRet, mIfS, mTest, mTruth, truD, mNot, mAnd, mOr, mAndV, mOrV, mNotV, mIf, mYes, mExpr, mBreak, mCont, gNm, gsNil, gsCons, gTupD, mItems, mFor, mMeth, mPop, mSetIx, ownAt, gApp, mPar, wsOf, setAll, mAug, mAugAdd, mAugSub, gSub, gFdiv, gMod, gPow, gShl, gShr, gAnd, gLt, gLe, gGt, gGe, gI, gAdd, gMul, gNeg, gLen, gAbs, gInt, gIx, gRev, gEq, gNe, gIs1, mReg, mSetReg, mSrcNe, mSrcLast, mSrcPop, mSrcPut, srcAt, mSl, mNoPart, mPart, gSl, mCallP, mCallM, argsOf, slotW, notD, noLW, mRange1, mRange2, mRange3, mEnum, mZip, mChain, runP, runM, startE, fin0, lenLine, wipeE, restE, plainAt, List.getElem?_cons_zero, List.getElem?_cons_succ, List.set_cons_zero, List.set_cons_succ, List.map_cons, List.map_nil, List.length_cons, List.length_nil, List.replicate, List.cons_append, List.nil_append, List.isEmpty_nil, List.all_cons, List.all_nil, hX, h3, h4, a, b]
theorem pow2_lt (a : Nat) : ((2 : Int) ^ a).natAbs < 2 ^ (a + 1) := by
  rw [Int.natAbs_pow]
  show 2 ^ a < 2 ^ (a + 1)
  exact Nat.pow_lt_pow_right (by decide) (by omega)
theorem cMul_pow (a b : Nat) (ha : a ≤ 2000) (hb : b ≤ 2000) : cMul (2 ^ a) (2 ^ b) = true := cMul_lt (a + 1) (b + 1) (pow2_lt a) (pow2_lt b) (by omega)
theorem pw_run {X : ME} (hX : ∀ x y f s (l : Int), X [x, y, f, s, some (.d (.int l))] = some (.val (.d (.int l)), [x, y, f, s, some (.d (.int l))])) {x y : Option W} : ∀ (fuel l a s : Nat), l < 2 ^ fuel → a + s * l ≤ 2000 → ∃ S', whileM pwC (pwB X) (fuel + 1) [x, y, some (.d (.int (2 ^ a))), some (.d (.int (2 ^ s))), some (.d (.int l))] = some (.nx, [x, y, some (.d (.int (2 ^ (a + s * l)))), S', some (.d (.int 0))])
  | fuel, 0, a, s, h, hb => by
    refine ⟨some (.d (.int (2 ^ s))), ?_⟩
    rw [whn_stop (e1 := [x, y, some (.d (.int (2 ^ a))), some (.d (.int (2 ^ s))), some (.d (.int 0))])]
    · rw [Nat.mul_zero, Nat.add_zero]
    · unfold pwC
      simp [mSeq, mAsg, mFv, fz, mBin, cont, mVar, mC, mUn, mCons, mNil, mCall, conts, mTup, mLst, dsOf, dOf, mFz, mFt, mSkip, mRet, mIfS, mTest, mTruth, truD, mNot, mAnd, mOr, mAndV, mOrV, mNotV, mIf, mYes, mExpr, mBreak, mCont, gNm, gsNil, gsCons, gTupD, mItems, mFor, mMeth, mPop, mSetIx, ownAt, gApp, mPar, wsOf, setAll, mAug, mAugAdd, mAugSub, gSub, gFdiv, gMod, gPow, gShl, gShr, gAnd, gLt, gLe, gGt, gGe, gI, gAdd, gMul, gNeg, gLen, gAbs, gInt, gIx, gRev, gEq, gNe, gIs1, mReg, mSetReg, mSrcNe, mSrcLast, mSrcPop, mSrcPut, srcAt, mSl, mNoPart, mPart, gSl, mCallP, mCallM, argsOf, slotW, notD, noLW, mRange1, mRange2, mRange3, mEnum, mZip, mChain, runP, runM, startE, fin0, lenLine, wipeE, restE, plainAt, List.getElem?_cons_zero, List.getElem?_cons_succ, List.set_cons_zero, List.set_cons_succ, List.map_cons, List.map_nil, List.length_cons, List.length_nil, List.replicate, List.cons_append, List.nil_append, List.isEmpty_nil, List.all_cons, List.all_nil]
  | 0, l + 1, a, s, h, hb => by simp at h
  | fuel + 1, l + 1, a, s, h, hb => by
    have hs : s ≤ a + s * (l + 1) := by rw [Nat.mul_add, Nat.mul_one]; omega
    have e1 := pw_body hX (x := x) (y := y) (F := 2 ^ a) (S := 2 ^ s) (L := ((l + 1 : Nat) : Int)) (fun _ => cMul_pow a s (by omega) (by omega)) (fun _ => cMul_pow s s (by omega) (by omega))
    have e2 : (if ((l + 1 : Nat) : Int) % 2 = 1 then (2 : Int) ^ a * 2 ^ s else 2 ^ a) = 2 ^ (if (l + 1) % 2 = 1 then a + s else a) := by
      by_cases c : (l + 1) % 2 = 1
      · rw [if_pos (by omega), if_pos c, Int.pow_add]
      · rw [if_neg (by omega), if_neg c]
    have e3 : (if 0 < ((l + 1 : Nat) : Int) / 2 then (2 : Int) ^ s * 2 ^ s else 2 ^ s) = 2 ^ (if 0 < (l + 1) / 2 then s + s else s) := by
      by_cases c : 0 < (l + 1) / 2
      · rw [if_pos (by omega), if_pos c, Int.pow_add]
      · rw [if_neg (by omega), if_neg c]
    have e4 : ((l + 1 : Nat) : Int) / 2 = (((l + 1) / 2 : Nat) : Int) := by omega
    rw [e2, e3, e4] at e1
    have e5 : (if (l + 1) % 2 = 1 then a + s else a) + (if 0 < (l + 1) / 2 then s + s else s) * ((l + 1) / 2) = a + s * (l + 1) := by
      have e6 : l + 1 = 2 * ((l + 1) / 2) + (l + 1) % 2 := by omega
      generalize (l + 1) / 2 = q at e6 ⊢
      by_cases c : (l + 1) % 2 = 1
      · rw [c] at e6
        rw [e6]
        rw [if_pos (by omega)]
        by_cases d : 0 < q
        · rw [if_pos d, Nat.mul_add, Nat.add_mul, ← Nat.mul_assoc, Nat.mul_comm s 2, Nat.mul_assoc]; omega
        · have : q = 0 := by omega
          subst this
          simp
      · have c0 : (l + 1) % 2 = 0 := by omega
        rw [c0] at e6
        rw [e6]
        rw [if_neg (by omega)]
        have d : 0 < q := by omega
        rw [if_pos d, Nat.add_zero, Nat.add_mul, ← Nat.mul_assoc, Nat.mul_comm s 2, Nat.mul_assoc]; omega
    obtain ⟨S', e7⟩ := pw_run hX (x := x) (y := y) fuel ((l + 1) / 2) (if (l + 1) % 2 = 1 then a + s else a) (if 0 < (l + 1) / 2 then s + s else s) (by rw [Nat.pow_succ] at h; omega) (by rw [e5]; exact hb)
    rw [e5] at e7
    refine ⟨S', ?_⟩
    rw [whn_turn (e1 := [x, y, some (.d (.int (2 ^ a))), some (.d (.int (2 ^ s))), some (.d (.int ((l + 1 : Nat) : Int)))]) ?_ e1, e7]
    unfold pwC
    have : (0 : Int) < ((l + 1 : Nat) : Int) := by omega
    simp only [mSeq, mAsg, mFv, fz, mBin, cont, mVar, mC, mUn, mCons, mNil, mCall, conts, mTup, mLst, dsOf, dOf, mFz, mFt, mSkip, mRet, mIfS, mTest, mTruth, truD, mNot, mAnd, mOr, mAndV, mOrV, mNotV, mIf, mYes, mExpr, mBreak, mCont, gNm, gsNil, gsCons, gTupD, mItems, mFor, mMeth, mPop, mSetIx, ownAt, gApp, mPar, wsOf, setAll, mAug, mAugAdd, mAugSub, gSub, gFdiv, gMod, gPow, gShl, gShr, gAnd, gLt, gLe, gGt, gGe, gI, gAdd, gMul, gNeg, gLen, gAbs, gInt, gIx, gRev, gEq, gNe, gIs1, mReg, mSetReg, mSrcNe, mSrcLast, mSrcPop, mSrcPut, srcAt, mSl, mNoPart, mPart, gSl, mCallP, mCallM, argsOf, slotW, notD, noLW, mRange1, mRange2, mRange3, mEnum, mZip, mChain, runP, runM, startE, fin0, lenLine, wipeE, restE, plainAt, List.getElem?_cons_zero, List.getElem?_cons_succ, List.set_cons_zero, List.set_cons_succ, List.map_cons, List.map_nil, List.length_cons, List.length_nil, List.replicate, List.cons_append, List.nil_append, List.isEmpty_nil, List.all_cons, List.all_nil, this, decide_true, if_true]
theorem pw_all {X : ME} (hX : ∀ x y f s (l : Int), X [x, y, f, s, some (.d (.int l))] = some (.val (.d (.int l)), [x, y, f, s, some (.d (.int l))])) {k : Nat} (hk : k ≤ 900) : runP 5 (mSeq (mPar [2, 3, 4] (mCons (mFv (mC (.int 1))) (mCons (mFv (mVar 0)) (mCons (mFv (mVar 1)) mNil)))) (mSeq (whileM pwC (pwB X) 1000) (mRet false (mVar 2)))) [.int 2, .int k] = some (.d (.int (2 ^ k))) := by
  have e0 : startE 5 (List.map W.d [PyData.int 2, PyData.int k]) = [some (.d (.int 2)), some (.d (.int k)), none, none, none] := rfl
  obtain ⟨S', q⟩ := pw_run hX (x := some (.d (.int 2))) (y := some (.d (.int k))) 999 k 0 1 (Nat.lt_of_le_of_lt hk (Nat.lt_of_lt_of_le (Nat.lt_two_pow_self) (Nat.pow_le_pow_right (by decide) (by decide : 900 ≤ 999)))) (by omega)
  rw [Nat.zero_add, Nat.one_mul] at q
  have a : mPar [2, 3, 4] (mCons (mFv (mC (.int 1))) (mCons (mFv (mVar 0)) (mCons (mFv (mVar 1)) mNil))) [some (.d (.int 2)), some (.d (.int k)), none, none, none] = some (.nx, [some (.d (.int 2)), some (.d (.int k)), some (.d (.int (2 ^ 0))), some (.d (.int (2 ^ 1))), some (.d (.int k))]) := rfl
  rw [runP, e0, mSeq, a]
  simp only []
  rw [mSeq, q]
  rfl
theorem wpow_ok {k : Nat} (hk : k ≤ 900) : c_whole_power [.int 2, .int k] = some (.d (.int (2 ^ k))) := pw_all (X := mVar 4) (fun _ _ _ _ _ => rfl) hk
theorem rais_ok {k : Nat} (hk : k ≤ 900) : c__law_raised [.int 2, .int k] = some (.d (.int (2 ^ k))) := pw_all (X := (mCall gInt (mCons (mVar 4) mNil))) (fun _ _ _ _ _ => rfl) hk
/-! ### gcd -/
def gcC : MT := (mTest (mBin gNe (mVar 1) (mC (.int 0))))
def gcB : MS := (mPar [0, 1] (mCons (mFv (mVar 1)) (mCons (mFv (mBin gMod (mCall gInt (mCons (mVar 0) mNil)) (mVar 1))) mNil)))
theorem gc_turn {l r : Nat} (hr : r ≠ 0) (n : Nat) : whileM gcC gcB (n + 1) [some (.d (.int l)), some (.d (.int r))] = whileM gcC gcB n [some (.d (.int r)), some (.d (.int ((l % r : Nat) : Int)))] := by
  have h3 : cMod (l : Int) r = true := cMod_pos (by omega)
  refine whn_turn (e1 := [some (.d (.int l)), some (.d (.int r))]) ?_ ?_
  · unfold gcC
    have : ¬ ((r : Int) = 0) := by omega
    simp [mSeq, mAsg, mFv, fz, mBin, cont, mVar, mC, mUn, mCons, mNil, mCall, conts, mTup, mLst, dsOf, dOf, mFz, mFt, mSkip, mRet, mIfS, mTest, mTruth, truD, mNot, mAnd, mOr, mAndV, mOrV, mNotV, mIf, mYes, mExpr, mBreak, mCont, gNm, gsNil, gsCons, gTupD, mItems, mFor, mMeth, mPop, mSetIx, ownAt, gApp, mPar, wsOf, setAll, mAug, mAugAdd, mAugSub, gSub, gFdiv, gMod, gPow, gShl, gShr, gAnd, gLt, gLe, gGt, gGe, gI, gAdd, gMul, gNeg, gLen, gAbs, gInt, gIx, gRev, gEq, gNe, gIs1, mReg, mSetReg, mSrcNe, mSrcLast, mSrcPop, mSrcPut, srcAt, mSl, mNoPart, mPart, gSl, mCallP, mCallM, argsOf, slotW, notD, noLW, mRange1, mRange2, mRange3, mEnum, mZip, mChain, runP, runM, startE, fin0, lenLine, wipeE, restE, plainAt, List.getElem?_cons_zero, List.getElem?_cons_succ, List.set_cons_zero, List.set_cons_succ, List.map_cons, List.map_nil, List.length_cons, List.length_nil, List.replicate, List.cons_append, List.nil_append, List.isEmpty_nil, List.all_cons, List.all_nil, this, hr]
  · unfold gcB
    simp [mSeq, mAsg, mFv, fz, mBin, cont, mVar, mC, mUn, mCons, mNil, mCall, conts, mTup, mLst, dsOf, dOf, mFz, mFt, mSkip, mRet, mIfS, mTest, mTruth, truD, mNot, mAnd, mOr, mAndV, mOrV, mNotV, mIf, mYes, mExpr, mBreak, mCont, gNm, gsNil, gsCons, gTupD, mItems, mFor, mMeth, mPop, mSetIx, ownAt, gApp, mPar, wsOf, setAll, mAug, mAugAdd, mAugSub, gSub, gFdiv, gMod, gPow, gShl, gShr, gAnd, gLt, gLe, gGt, gGe, gI, gAdd, gMul, gNeg, gLen, gAbs, gInt, gIx, gRev, gEq, gNe, gIs1, mReg, mSetReg, mSrcNe, mSrcLast, mSrcPop, mSrcPut, srcAt, mSl, mNoPart, mPart, gSl, mCallP, mCallM, argsOf, slotW, notD, noLW, mRange1, mRange2, mRange3, mEnum, mZip, mChain, runP, runM, startE, fin0, lenLine, wipeE, restE, plainAt, List.getElem?_cons_zero, List.getElem?_cons_succ, List.set_cons_zero, List.set_cons_succ, List.map_cons, List.map_nil, List.length_cons, List.length_nil, List.replicate, List.cons_append, List.nil_append, List.isEmpty_nil, List.all_cons, List.all_nil, h3]
theorem gc_stop {l : Nat} (n : Nat) : whileM gcC gcB (n + 1) [some (.d (.int l)), some (.d (.int 0))] = some (.nx, [some (.d (.int l)), some (.d (.int 0))]) := by
  refine whn_stop ?_
  unfold gcC
  simp [mSeq, mAsg, mFv, fz, mBin, cont, mVar, mC, mUn, mCons, mNil, mCall, conts, mTup, mLst, dsOf, dOf, mFz, mFt, mSkip, mRet, mIfS, mTest, mTruth, truD, mNot, mAnd, mOr, mAndV, mOrV, mNotV, mIf, mYes, mExpr, mBreak, mCont, gNm, gsNil, gsCons, gTupD, mItems, mFor, mMeth, mPop, mSetIx, ownAt, gApp, mPar, wsOf, setAll, mAug, mAugAdd, mAugSub, gSub, gFdiv, gMod, gPow, gShl, gShr, gAnd, gLt, gLe, gGt, gGe, gI, gAdd, gMul, gNeg, gLen, gAbs, gInt, gIx, gRev, gEq, gNe, gIs1, mReg, mSetReg, mSrcNe, mSrcLast, mSrcPop, mSrcPut, srcAt, mSl, mNoPart, mPart, gSl, mCallP, mCallM, argsOf, slotW, notD, noLW, mRange1, mRange2, mRange3, mEnum, mZip, mChain, runP, runM, startE, fin0, lenLine, wipeE, restE, plainAt, List.getElem?_cons_zero, List.getElem?_cons_succ, List.set_cons_zero, List.set_cons_succ, List.map_cons, List.map_nil, List.length_cons, List.length_nil, List.replicate, List.cons_append, List.nil_append, List.isEmpty_nil, List.all_cons, List.all_nil]
theorem gc_run : ∀ (k l r : Nat) (ex : Nat), r < 2 ^ k → whileM gcC gcB (2 * k + 1 + ex) [some (.d (.int l)), some (.d (.int r))] = some (.nx, [some (.d (.int (Nat.gcd l r : Nat))), some (.d (.int 0))])
  | 0, l, r, ex, h => by
    have : r = 0 := by simpa using h
    subst this
    have e : 2 * 0 + 1 + ex = ex + 1 := by omega
    rw [e]
    have := gc_stop (l := l) ex
    rw [Nat.gcd_zero_right]
    exact this
  | k + 1, l, r, ex, h => by
    by_cases hr : r = 0
    · subst hr
      have e : 2 * (k + 1) + 1 + ex = (2 * k + 2 + ex) + 1 := by omega
      rw [e, Nat.gcd_zero_right]
      exact gc_stop _
    · have e : 2 * (k + 1) + 1 + ex = (2 * k + 1 + ex + 1) + 1 := by omega
      rw [e, gc_turn hr]
      by_cases hm : l % r = 0
      · rw [hm]
        have g : Nat.gcd l r = r := by rw [Nat.gcd_comm, Nat.gcd_rec, hm, Nat.gcd_zero_left]
        rw [g]
        exact gc_stop _
      · rw [gc_turn hm]
        have hlt : l % r < r := Nat.mod_lt _ (by omega)
        have hh : r % (l % r) < 2 ^ k := by
          rw [Nat.pow_succ] at h
          have h1 : r % (l % r) < l % r := Nat.mod_lt _ (by omega)
          have h2 : r % (l % r) + (l % r) ≤ r := by
            have := Nat.mod_add_div r (l % r)
            have h4 : 1 ≤ r / (l % r) := (Nat.one_le_div_iff (by omega)).mpr (by omega)
            have h5 : (l % r) * 1 ≤ (l % r) * (r / (l % r)) := Nat.mul_le_mul_left _ h4
            omega
          omega
        rw [gc_run k (l % r) (r % (l % r)) ex hh]
        have g : Nat.gcd l r = Nat.gcd (l % r) (r % (l % r)) := by
          rw [Nat.gcd_comm l r, Nat.gcd_rec r l, Nat.gcd_rec (l % r) r, Nat.gcd_comm]
        rw [g]
theorem abs_nat (a : Int) : (if a < 0 then -a else a) = ((a.natAbs : Nat) : Int) := by split <;> omega
theorem lgcd_ok (a b : Int) (hb : b.natAbs < 2 ^ 490) : c__law_gcd [.int a, .int b] = some (.d (.int (Nat.gcd a.natAbs b.natAbs : Nat))) := by
  have e0 : startE 2 (List.map W.d [PyData.int a, PyData.int b]) = [some (.d (.int a)), some (.d (.int b))] := rfl
  have q := gc_run 490 a.natAbs b.natAbs 19 hb
  have e1 : mPar [0, 1] (mCons (mFv (mCall gAbs (mCons (mVar 0) mNil))) (mCons (mFv (mCall gAbs (mCons (mVar 1) mNil))) mNil)) [some (.d (.int a)), some (.d (.int b))] = some (.nx, [some (.d (.int a.natAbs)), some (.d (.int b.natAbs))]) := by
    rw [← abs_nat a, ← abs_nat b]
    rfl
  have u : m__law_gcd = mSeq (mPar [0, 1] (mCons (mFv (mCall gAbs (mCons (mVar 0) mNil))) (mCons (mFv (mCall gAbs (mCons (mVar 1) mNil))) mNil))) (mSeq (whileM gcC gcB 1000) (mRet false (mVar 0))) := rfl
  show runP 2 m__law_gcd _ = _
  rw [runP, e0, u, mSeq, e1]
  simp only []
  have e2 : 2 * 490 + 1 + 19 = 1000 := rfl
  rw [e2] at q
  rw [mSeq, q]
  rfl
/-! ### fractions in lowest terms, bernoulli's numbers -/
def gcdI (a b : Int) : Int := ((Nat.gcd a.natAbs b.natAbs : Nat) : Int)
def low (a b : Int) : D := .tuple [.int (a / gcdI a b), .int (b / gcdI a b)]
theorem gcdI_pos {a b : Int} (hb : 0 < b) : 0 < gcdI a b := by
  have := Nat.gcd_pos_of_pos_right a.natAbs (n := b.natAbs) (by omega)
  unfold gcdI; omega
theorem gcdI_le {a b : Int} (hb : 0 < b) : gcdI a b ≤ b := by
  have := Nat.gcd_le_right a.natAbs (n := b.natAbs) (by omega)
  unfold gcdI; omega
theorem lowest_x (F : FP) {a b g : Int} (h : F [.int a, .int b] = some (.d (.int g))) (hb : 0 < b) (h1 : cDiv a g = true) (h2 : cDiv b g = true) : runP 3 (mSeq (mAsg 2 (mIf (mTest (mBin gGt (mVar 1) (mC (.int 0)))) (mCallP F 2 (mCons (mFt (mVar 0)) (mCons (mFt (mVar 1)) mNil))) (mUn gNeg (mCallP F 2 (mCons (mFt (mVar 0)) (mCons (mFt (mVar 1)) mNil)))))) (mRet false (mTup (mCons (mFz (mBin gFdiv (mVar 0) (mVar 2))) (mCons (mFz (mBin gFdiv (mVar 1) (mVar 2))) mNil))))) [.int a, .int b] = some (.d (.tuple [.int (a / g), .int (b / g)])) := by
  simp [mSeq, mAsg, mFv, fz, mBin, cont, mVar, mC, mUn, mCons, mNil, mCall, conts, mTup, mLst, dsOf, dOf, mFz, mFt, mSkip, mRet, mIfS, mTest, mTruth, truD, mNot, mAnd, mOr, mAndV, mOrV, mNotV, mIf, mYes, mExpr, mBreak, mCont, gNm, gsNil, gsCons, gTupD, mItems, mFor, mMeth, mPop, mSetIx, ownAt, gApp, mPar, wsOf, setAll, mAug, mAugAdd, mAugSub, gSub, gFdiv, gMod, gPow, gShl, gShr, gAnd, gLt, gLe, gGt, gGe, gI, gAdd, gMul, gNeg, gLen, gAbs, gInt, gIx, gRev, gEq, gNe, gIs1, mReg, mSetReg, mSrcNe, mSrcLast, mSrcPop, mSrcPut, srcAt, mSl, mNoPart, mPart, gSl, mCallP, mCallM, argsOf, slotW, notD, noLW, mRange1, mRange2, mRange3, mEnum, mZip, mChain, runP, runM, startE, fin0, lenLine, wipeE, restE, plainAt, List.getElem?_cons_zero, List.getElem?_cons_succ, List.set_cons_zero, List.set_cons_succ, List.map_cons, List.map_nil, List.length_cons, List.length_nil, List.replicate, List.cons_append, List.nil_append, List.isEmpty_nil, List.all_cons, List.all_nil, h, hb, h1, h2]
theorem lowest_ok (a b : Int) (hb : 0 < b) (hb2 : b < 2 ^ 490) : c__law_lowest [.int a, .int b] = some (.d (low a b)) := by
  have hd : ∀ x, cDiv x (gcdI a b) = true := fun x => cDiv_lt 490 (gcdI_pos hb) (Int.lt_of_le_of_lt (gcdI_le hb) hb2)
  have hn : b.natAbs < 2 ^ 490 := by
    have : ((b.natAbs : Nat) : Int) = b := by omega
    rw [← Int.ofNat_lt, this]
    exact hb2
  exact lowest_x c__law_gcd (lgcd_ok a b hn) hb (hd _) (hd _)
theorem frac_x {a b g : Int} (hg : g = gcdI a b) (hb : 0 < b) (h1 : cDiv a g = true) (h2 : cDiv b g = true) : c_fraction [.int a, .int b] = some (.d (.tuple [.int (a / g), .int (b / g)])) := by
  have hb' : ¬ b < 0 := by omega
  unfold gcdI at hg
  show runP 3 m_fraction _ = _
  unfold m_fraction
  simp [mSeq, mAsg, mFv, fz, mBin, cont, mVar, mC, mUn, mCons, mNil, mCall, conts, mTup, mLst, dsOf, dOf, mFz, mFt, mSkip, mRet, mIfS, mTest, mTruth, truD, mNot, mAnd, mOr, mAndV, mOrV, mNotV, mIf, mYes, mExpr, mBreak, mCont, gNm, gsNil, gsCons, gTupD, mItems, mFor, mMeth, mPop, mSetIx, ownAt, gApp, mPar, wsOf, setAll, mAug, mAugAdd, mAugSub, gSub, gFdiv, gMod, gPow, gShl, gShr, gAnd, gLt, gLe, gGt, gGe, gI, gAdd, gMul, gNeg, gLen, gAbs, gInt, gIx, gRev, gEq, gNe, gIs1, mReg, mSetReg, mSrcNe, mSrcLast, mSrcPop, mSrcPut, srcAt, mSl, mNoPart, mPart, gSl, mCallP, mCallM, argsOf, slotW, notD, noLW, mRange1, mRange2, mRange3, mEnum, mZip, mChain, runP, runM, startE, fin0, lenLine, wipeE, restE, plainAt, List.getElem?_cons_zero, List.getElem?_cons_succ, List.set_cons_zero, List.set_cons_succ, List.map_cons, List.map_nil, List.length_cons, List.length_nil, List.replicate, List.cons_append, List.nil_append, List.isEmpty_nil, List.all_cons, List.all_nil, gGcd, ← hg, hb', h1, h2]
theorem frac_ok (a b : Int) (hb : 0 < b) (hb2 : b < 2 ^ 490) : c_fraction [.int a, .int b] = some (.d (low a b)) := by
  have hd : ∀ x, cDiv x (gcdI a b) = true := fun x => cDiv_lt 490 (gcdI_pos hb) (Int.lt_of_le_of_lt (gcdI_le hb) hb2)
  exact frac_x rfl hb (hd _) (hd _)
/-- the top of bernoulli(n), n even -/
def topB (n z : Int) : Int := if n % 4 = 0 then -(n * z) else n * z
def botB (n : Nat) : Int := 2 ^ n * (2 ^ n - 1)
def ber (n : Nat) (z : Int) : D := low (topB n z) (botB n)
theorem bfrom_x (F G : FP) {n z P : Int} {r : D} (h : F [.int 2, .int n] = some (.d (.int P))) (h2 : G [.int (topB n z), .int (P * (P - 1))] = some (.d r)) (h3 : cMul n z = true) (h4 : cMul P (P - 1) = true) : runP 4 (mSeq (mAsg 2 (mCallP F 2 (mCons (mFt (mC (.int 2))) (mCons (mFt (mVar 0)) mNil))))
    (mSeq (mAsg 3 (mBin gMul (mVar 0) (mVar 1)))
    (mSeq (mIfS (mTest (mBin gEq (mBin gMod (mVar 0) (mC (.int 4))) (mC (.int 0)))) (mAsg 3 (mUn gNeg (mVar 3))) mSkip)
    (mRet false (mCallP G 2 (mCons (mFt (mVar 3)) (mCons (mFt (mBin gMul (mVar 2) (mBin gSub (mVar 2) (mC (.int 1))))) mNil))))))) [.int n, .int z] = some (.d r) := by
  have h5 : cMod n 4 = true := cMod_pos (by decide)
  unfold topB at h2
  by_cases c : n % 4 = 0
  · rw [if_pos c] at h2
    simp [mSeq, mAsg, mFv, fz, mBin, cont, mVar, mC, mUn, mCons, mNil, mCall, conts, mTup, mLst, dsOf, dOf, mFz, mFt, mSkip, mRet, mIfS, mTest, mTruth, truD, mNot, mAnd, mOr, mAndV, mOrV, mNotV, mIf, mYes, mExpr, mBreak, mCont, gNm, gsNil, gsCons, gTupD, mItems, mFor, mMeth, mPop, mSetIx, ownAt, gApp, mPar, wsOf, setAll, mAug, mAugAdd, mAugSub, gSub, gFdiv, gMod, gPow, gShl, gShr, gAnd, gLt, gLe, gGt, gGe, gI, gAdd, gMul, gNeg, gLen, gAbs, gInt, gIx, gRev, gEq, gNe, gIs1, mReg, mSetReg, mSrcNe, mSrcLast, mSrcPop, mSrcPut, srcAt, mSl, mNoPart, mPart, gSl, mCallP, mCallM, argsOf, slotW, notD, noLW, mRange1, mRange2, mRange3, mEnum, mZip, mChain, runP, runM, startE, fin0, lenLine, wipeE, restE, plainAt, List.getElem?_cons_zero, List.getElem?_cons_succ, List.set_cons_zero, List.set_cons_succ, List.map_cons, List.map_nil, List.length_cons, List.length_nil, List.replicate, List.cons_append, List.nil_append, List.isEmpty_nil, List.all_cons, List.all_nil, h, h2, h3, h4, h5, c]
  · rw [if_neg c] at h2
    simp [mSeq, mAsg, mFv, fz, mBin, cont, mVar, mC, mUn, mCons, mNil, mCall, conts, mTup, mLst, dsOf, dOf, mFz, mFt, mSkip, mRet, mIfS, mTest, mTruth, truD, mNot, mAnd, mOr, mAndV, mOrV, mNotV, mIf, mYes, mExpr, mBreak, mCont, gNm, gsNil, gsCons, gTupD, mItems, mFor, mMeth, mPop, mSetIx, ownAt, gApp, mPar, wsOf, setAll, mAug, mAugAdd, mAugSub, gSub, gFdiv, gMod, gPow, gShl, gShr, gAnd, gLt, gLe, gGt, gGe, gI, gAdd, gMul, gNeg, gLen, gAbs, gInt, gIx, gRev, gEq, gNe, gIs1, mReg, mSetReg, mSrcNe, mSrcLast, mSrcPop, mSrcPut, srcAt, mSl, mNoPart, mPart, gSl, mCallP, mCallM, argsOf, slotW, notD, noLW, mRange1, mRange2, mRange3, mEnum, mZip, mChain, runP, runM, startE, fin0, lenLine, wipeE, restE, plainAt, List.getElem?_cons_zero, List.getElem?_cons_succ, List.set_cons_zero, List.set_cons_succ, List.map_cons, List.map_nil, List.length_cons, List.length_nil, List.replicate, List.cons_append, List.nil_append, List.isEmpty_nil, List.all_cons, List.all_nil, h, h2, h3, h4, h5, c]
theorem lbern_x (F G : FP) {n z P : Int} {row : List D} {r : D} (h : F [.int 2, .int n] = some (.d (.int P))) (h2 : G [.int (topB n z), .int (P * (P - 1))] = some (.d r)) (h3 : cMul n z = true) (h3' : cMul (-n) z = true) (h4 : cMul P (P - 1) = true) (hn : 2 ≤ n) (he : n % 2 = 0) (hz : atI row (n - 1) = some (.int z)) : runP 3 (mSeq (mIfS (mTest (mBin gLt (mVar 1) (mC (.int 2)))) (mRet false (mIf (mTest (mBin gEq (mVar 1) (mC (.int 0)))) (mTup (mCons (mFz (mC (.int 1))) (mCons (mFz (mC (.int 1))) mNil))) (mTup (mCons (mFz (mUn gNeg (mC (.int 1)))) (mCons (mFz (mC (.int 2))) mNil))))) mSkip)
    (mSeq (mIfS (mTest (mBin gEq (mBin gMod (mCall gInt (mCons (mVar 1) mNil)) (mC (.int 2))) (mC (.int 1)))) (mRet false (mTup (mCons (mFz (mC (.int 0))) (mCons (mFz (mC (.int 1))) mNil)))) mSkip)
    (mSeq (mAsg 2 (mCallP F 2 (mCons (mFt (mC (.int 2))) (mCons (mFt (mVar 1)) mNil))))
    (mRet false (mCallP G 2 (mCons (mFt (mIf (mTest (mBin gEq (mBin gMod (mCall gInt (mCons (mVar 1) mNil)) (mC (.int 4))) (mC (.int 2)))) (mBin gMul (mVar 1) (mBin gIx (mVar 0) (mBin gSub (mVar 1) (mC (.int 1))))) (mBin gMul (mUn gNeg (mVar 1)) (mBin gIx (mVar 0) (mBin gSub (mVar 1) (mC (.int 1))))))) (mCons (mFt (mBin gMul (mVar 2) (mBin gSub (mVar 2) (mC (.int 1))))) mNil))))))) [.list row, .int n] = some (.d r) := by
  have h5 : cMod n 4 = true := cMod_pos (by decide)
  have h6 : cMod n 2 = true := cMod_pos (by decide)
  have a1 : ¬ n < 2 := by omega
  have a2 : ¬ n % 2 = 1 := by omega
  unfold topB at h2
  by_cases c : n % 4 = 0
  · rw [if_pos c] at h2
    have a3 : ¬ n % 4 = 2 := by omega
    rw [← Int.neg_mul] at h2
    simp [mSeq, mAsg, mFv, fz, mBin, cont, mVar, mC, mUn, mCons, mNil, mCall, conts, mTup, mLst, dsOf, dOf, mFz, mFt, mSkip, mRet, mIfS, mTest, mTruth, truD, mNot, mAnd, mOr, mAndV, mOrV, mNotV, mIf, mYes, mExpr, mBreak, mCont, gNm, gsNil, gsCons, gTupD, mItems, mFor, mMeth, mPop, mSetIx, ownAt, gApp, mPar, wsOf, setAll, mAug, mAugAdd, mAugSub, gSub, gFdiv, gMod, gPow, gShl, gShr, gAnd, gLt, gLe, gGt, gGe, gI, gAdd, gMul, gNeg, gLen, gAbs, gInt, gIx, gRev, gEq, gNe, gIs1, mReg, mSetReg, mSrcNe, mSrcLast, mSrcPop, mSrcPut, srcAt, mSl, mNoPart, mPart, gSl, mCallP, mCallM, argsOf, slotW, notD, noLW, mRange1, mRange2, mRange3, mEnum, mZip, mChain, runP, runM, startE, fin0, lenLine, wipeE, restE, plainAt, List.getElem?_cons_zero, List.getElem?_cons_succ, List.set_cons_zero, List.set_cons_succ, List.map_cons, List.map_nil, List.length_cons, List.length_nil, List.replicate, List.cons_append, List.nil_append, List.isEmpty_nil, List.all_cons, List.all_nil, h, h2, h3', h4, h5, h6, a1, he, a3, hz, c]
  · rw [if_neg c] at h2
    have a3 : n % 4 = 2 := by omega
    simp [mSeq, mAsg, mFv, fz, mBin, cont, mVar, mC, mUn, mCons, mNil, mCall, conts, mTup, mLst, dsOf, dOf, mFz, mFt, mSkip, mRet, mIfS, mTest, mTruth, truD, mNot, mAnd, mOr, mAndV, mOrV, mNotV, mIf, mYes, mExpr, mBreak, mCont, gNm, gsNil, gsCons, gTupD, mItems, mFor, mMeth, mPop, mSetIx, ownAt, gApp, mPar, wsOf, setAll, mAug, mAugAdd, mAugSub, gSub, gFdiv, gMod, gPow, gShl, gShr, gAnd, gLt, gLe, gGt, gGe, gI, gAdd, gMul, gNeg, gLen, gAbs, gInt, gIx, gRev, gEq, gNe, gIs1, mReg, mSetReg, mSrcNe, mSrcLast, mSrcPop, mSrcPut, srcAt, mSl, mNoPart, mPart, gSl, mCallP, mCallM, argsOf, slotW, notD, noLW, mRange1, mRange2, mRange3, mEnum, mZip, mChain, runP, runM, startE, fin0, lenLine, wipeE, restE, plainAt, List.getElem?_cons_zero, List.getElem?_cons_succ, List.set_cons_zero, List.set_cons_succ, List.map_cons, List.map_nil, List.length_cons, List.length_nil, List.replicate, List.cons_append, List.nil_append, List.isEmpty_nil, List.all_cons, List.all_nil, h, h2, h3, h4, h5, h6, a1, he, a3, hz]
def tz : List Nat := [1,
  1,
  1,
  2,
  5,
  16,
  61,
  272,
  1385,
  7936,
  50521,
  353792,
  2702765,
  22368256,
  199360981,
  1903757312,
  19391512145,
  209865342976,
  2404879675441,
  29088885112832,
  370371188237525,
  4951498053124096,
  69348874393137901,
  1015423886506852352,
  15514534163557086905,
  246921480190207983616,
  4087072509293123892361,
  70251601603943959887872,
  1252259641403629865468285,
  23119184187809597841473536,
  441543893249023104553682821,
  8713962757125169296170811392,
  177519391579539289436664789665,
  3729407703720529571097509625856,
  80723299235887898062168247453281,
  1798651693450888780071750349094912,
  41222060339517702122347079671259045,
  970982810785059112379399707952152576,
  23489580527043108252017828576198947741,
  583203324917310043943191641625494290432,
  14851150718114980017877156781405826684425,
  387635983772083031828014624002175135645696,
  10364622733519612119397957304745185976310201,
  283727921907431909304183316295787837183229952,
  7947579422597592703608040510088070619519273805,
  227681379129930886488600284336316164603920777216,
  6667537516685544977435028474773748197524107684661,
  199500252157859031027160499643195658166340757225472,
  6096278645568542158691685742876843153976539044435185,
  190169564657928428175235445073924928592047775873499136,
  6053285248188621896314383785111649088103498225146815121,
  196535694915671808914892880726989984967498805398829268992,
  6506162486684608847715870634080822983483644236765385576565,
  219523439106761591280258358007964245987752702449505540243456,
  7546659939008739098061432565889736744212240024711699858645581,
  264239411287900883270178745605712648488731058170551223831232512,
  9420321896420241204202286237690583227209388852599646009394905945,
  341838301335718580350174449297951396847081443826785448952307122176,
  12622019251806218719903409237287489255482341061191825594069964920041,
  474090194351342155974522582010891145370303013658973457042263121068032,
  18108911496579230496545807741652158688733487349236314106008095454231325,
  703237958001393736999896827714634659411015090272684227831001161763127296,
  27757101702071580597366980908371527449233019594800917578033782766889782501,
  1113255345330866700339746218047088280783690575394538814699382505942970007552,
  45358103330017889174746887871567762366351861519470368881468843837919695760705,
  1876931252103779423744107928520940159241846377457001534447942558261899287330816,
  78862842066617894181007207422399904239478162972003768932709757494857167945376961,
  3363778185835623734685687723332931134189986914776308225242137528703520468549763072,
  145618443801396315007150470094942326661860812858314932986447697768064595488862902085,
  6396547057630278735849943432686645929388437954320994101254725815311360848899380084736,
  285051783223697718732198729556739339504255241778255239879353211106980427546235397447421,
  12884341695767894465395544961636963008138862731301380715918912221869864945957889839726592,
  590574720777544365455135032296439571372033016181822954929765972153659805050264501891063465,
  27445922734443719016523516486805245745786791148704643680696607073499034860202165027058221056,
  1292973664187864170497603235938698754076170519123672606411370597343787035331808195731850937881,
  61734944982941673707446818719138436060385873785204057284992863438262275131382921131888174170112,
  2986928183284576950930743652217140605692922369370680702813812833466898038172015655808960288452845,
  146418390589312431043292141269909391400071744147206307074722368442192963349157711135451772434251776,
  7270601714016864143803280651699281851647234288049207905108309583687335688017641546191095009395592341,
  365660095844068261072701444309680705805634270237030039800549837863741179370177492864227298614949445632,
  18622915758412697044482492303043126011920010194518556063577101095681956123546201442832293837005396878225,
  960313027666248107526695705675419563027855649374103048462771214859942977938414971357077068637416399568896,
  50131049408109796612908693678881009420083336722220539765973596236561571401154699761552253189084809951554801,
  2648896632807323067777310767819048309632044764392868829815922116385981067039286146655892367545208622811185152,
  141652557597856259916722069410021670405475845492837912390700146845374567994390844977125987675020436380612547605,
  7665199612724801366153179413075753499718654634906097360729090790761317212953998553670055279963708789754131644416,
  419664316404024471322573414069418891818962628391683907039212228549032921853217838146608053808786365440570254969261,
  23243494337453622193600440878090221708127145934478585859666167406091191919788758468215413082800961738380870441500672,
  1302159590524046398125858691330818681356757613986610030678095758242404286633729262297123677199743591748006204646868985,
  73779268247405640121148258616234176992181083621877149167320477772565215202773616583155193459471241703474330283945230336,
  4227240686139909064705589929214593102933845388672369082676644542650248228369590525634078984302153217507945782396923579721,
  244894195305156422278749861738770690564396509506877162622951953326640425034316224613187841278459274031396903343554866184192,
  14343212791976583406133682640578565858579882148843159111106574955509790196812618254848857854461550714631444034921517907250365,
  849199076226255944288362302662250632319426730586608497127041570684492312869167391053400799032391565277778495403330301807558656,
  50817990724580425164559757643090736003482435671513413926813239886828210876247074897752122164140484881907534297068189565042330181,
  3073415080289723782952312829064508016361883692178395131902257879025458234909234098619696267158091384403310411058565825930001907712,
  187833293645293026402007579184179892539001444997005361637080870116823642645755601678579681159136078780812233831035373097528077899745,
  11599103698421392440286399297184183467010271709776972261027688975098301378885471296757929558770355004525438239637066875695626637541376,
  723653438103385777657187661736782292986259565181067232760712431055015669043224647591792236141452770950810842191949814198134897708964641,
  45608516616801111821043829531451697185581949239892414478770427720660171869441004793654782298700276817088804993740898668991870306963423232,
  2903528346661097497054603834764435875077553006646158945080492319146997643370625023889353447129967354174648294748510553528692457632980625125,
  186692799066534977615992898281061747432550509816834287947349938718378281122719555175454266925299155563954320693512714629647725501158308970496,
  12122937378929218210539295497856098807695880456925359878374031252051425324802983023259164661895562465602169682143385407744646483057903979627101,
  794923268363837296825215844059079951502839696539875280526305449941401347934632528787725778885236384823116116040368113556143473620707300450762752,
  52630642496169907060022407358423666139200442518073843505404940449800003302063127338662338497391497609499419661748773660506383501215821938795634505,
  3518099302774480132955727650072746427146394056546029941974206008059819017892763499985629433255960303845173398006679743581640620702244711779077718016,
  237407307193676634703461698760652651633454428419287776842645279528164787872297417395385346705721704571478255056084593759586258920375695854688654461561,
  16171785887452159717110186706465251339772092481623917128707035197278214349579591086004226144662800376934587303929487648121879940556494332174486336438272,
  1111890094248282302497023358817578932825829534468708403452929407174064284980244814331727650672071012464829426226669534375777258933146494169710719722335885,
  77155782838093994905376802460595806757498056021116313197321330938331255608761145156539836404772101565447041628058815541548168678472159358567570089952935936,
  5403078659795293205619115494263476990474882718296420197408516010249814711845963278802717760330206627628886347827381068652979312079075986736179581399343212021,
  381807444419614780189662392859619830441124071291644300207358125472693672789561939519311021421845843700709322527031932756005581575166224455132793052568372641792,
  27223410855722270213715341445890954891150192452564467008366005911126658490094311265116229345791312467273661582061462389296672527429047120477605834230481160137265,
  1958398663290413156717011991725807974770028437591398543402412342038670128566552483950476964259280405845221831917016794290911384499992922792670554147395166332256256,
  142130105480096698118085204572231882248930706699532629917096701279605797073330019342069486123313307158077690567828653038008322871113514777576211651539204744250822481,
  10405526070691740839138908737476239610007069533004828823393190915642977785601053410985809456774360653272241472586027514595335777733542817610719774906691764716738445312,
  768426182064690265317095628366647793640120107733727644086704205408475538272770397647212368961686021466396893832789095280670677561989835334271110534014930150192489246645,
  57235850229555589879700407800312786069587871036923380470713491168746392466184489349928700787638369386390752650863308426114837583027014497286353785641261937502162020990976,
  4299621925439749642818890336486327550230296183651057083536623360354334771425729606583055234978935336116864465814878673654837862352124705254397361106883186269500698123036941,
  325729695441373711110813949152058708945786818558730200733388105597243421168172307776622284778659646647573601851664482821841396905108717176120451652717574085809209937947000832,
  24883915747829871631690245540848940823728670907090814055549996853018422439857255460434636907179279971030115914025391078487144429408300462747699810654037377064816073847531472025,
  1916832726258700590887122499282345997364096652891694250693750223326355622671413650452106550248287780915851226570657487900631280793141667619721420519637059177671156681627555332096,
  148875820890620408401048810913362395915478793564083833973207237459816306501767343796140793737097206398217384861379191422469834206918345616804639191657370276470685113028113791999401,
  11657606818390099790100164180304586455180437110911263197056368616012160550785392109822537965478675809454476371530776009202950569847676947727726747058811583848358002340459364432740352,
  920261411885209418840864126560312709303188948754786396791215222653149731663432347100659323257330657824214531723965200565829728484354443523626140017386856515799079310476245590771021405,
  73232076319128879519509607439895605332911767461472735640306416437636796181172673719414511241214805963793854978868988131256431501987520484966533282168017097492207595078882978477549551616,
  5874244457292435607478065500517984430211674718162917379004377873044017144926171891266074084469461144112736852192606411496471264275390680348174759064256336391461933148218214049172761853861,
  474936841492595668637213195541884144067817402734679853307684353175510931032972805609886785465139759710742997886898496362399619642923756582918300893795896699520968743024314062185612938575872,
  38701335541759272489972612533946579961352365553523768738072135618177504244633546143840403169376492579607451638909625298032991497065209765804220290008687022549327267049867240582378815415302785,
  3178306569556186372303467487726817426097426709902035282429201428476255242399298388373554600680225246891814732653599784927310186904359544968143334260201306379057965143421207422316427482587201536,
  263038464627282201918918005755736144830032766236489151905754681577981916252171316354973105486693742840216041344801990544825902436415863797115667159863613239597675722668781930227771509440274344321,
  21936668859216942514028834577645577382599145971122327575063670393271141462885045360784481048924761486461112950126473710031741055149196059329118676393004405355390405911496285627533511229453623099392,
  1843421861906816432167393181032769665893649202553086673267697133400715329732610535132157060489416615730057631236849420277623544223308406050150049799386558982851267671436620884430088317515295375724165,
  156083321211903879337520464088156445233627031325785320628903594621397641083453435525708328547702545640718074801623583191012637895286136271930565080376987737400800581918101296872421390519622013976313856,
  13315007608319975977798961906119591948409991994360182770848972097447201015445473110217825457685126268173968861952162736998351819924050543324674977645504022076111979662987053574616656318380157138294414781,
  1144340610211972366617475360719799907755236558281353720825080480351688703846804776421125098969151515051491707282502308231465739449196181498005828297966162451807630958706866602460024814880375911756607782912,
  99077340794640997027571994159414814352766157448188315407641572135205372433534236192424515676072423075561333548313166135347683467200999487267074099854449273061324576815951156531081456210665221369757248493545,
  8641219397655339631565331093418902631595172437910500142437534797008430080478292494072815465720193527485427134887700609357073940721105785546002145875101484716916185245981228680288108157167716239373774488600576,
  759161615376086554230567716763177263596944504514401890020970373192868465823452797551910845855011701531872230496643502087821632708042485735973318858027365853586062132254080496505748002294983034498658913855809241,
  67178323973159209201103139672365522403132167133850382428240664100195479318538703747719597599764078408544222856546048631929537602801724154882809000660769136936682771551477674729184914086797478945368244039484178432,
  5987386904215954780609340300928990507458814865030864762440959127489603790251637145749604626534662068704764148470130069641596881837375711869240420745498089109837751540966769902924250247702626992182004595330375418925,
  537448133213442415425134238386800903488442629430962814183301156363187685882532378510048088091479049277507655847679337048410924495607162875988191622844842019108761594898737526354209153042934191333670575340845002653696,
  48585315368052700716602256744577433881085302499382663900836359958053978334679521678499235910862547923367522652693577120760677663074098391609655555981666832137542638488228486996579524820945684901178997088057060206671701,
  4423043254632411250402247933354857183633182157330871781565226809008461017074316681447180813382167736227087329834934261717840842244792724688000113484902699867776829498290524712754420871238161598431646508049393128101117952,
  405474737750791455464680535308584710004101929169563905467638405199707140521827004885932487194196311384629842084483076219540852954566975387306730824214150387836999985900790862094369844554013935010614141726715992833064708305,
  37429319110918471693050856468981652708039641899064249933718239531178491642964791246270825249778940539628589802804696998485723482724376199611160851473515173504516121014514936173622321818127329152685901092826033624205771145216,
  3478923713390906014155853271332923403541090203929311448899155714127815582861789055632949031284778695873663565420214533346695135750726198835095396041501642366149906765137230219951898327177614490241412422254951219744444195146161,
  325568488507955609540740107864031264130296711633984987361231190764411350928937363024401427505580515918270827697011438547858638589260950332526504788704193613081255538985354851876754678073175677814091672876895412775740863751913472,
  30674973882510848944914435747946116083220899412955570785330782125085850822994275592137937387166344104853428704382523982556306276256496841127419594437788971414267195014927164088859438013568143250274310527345494536583779461051769685,
  2909715938679368371665346809338789446456322550972642865704870461699741653519447603337729309554936681730865596421537918418328585476837065355406436321040598348792415899050486432367146272858245481811885288698779984875021698791832027136,
  277857404780457414987248665136951661385802997430099285750035845293762404084709969434016870389430000091054914408044748463535290871776626229195061384515613583189227656542091580147189163312909279754107124154692415552717409356305334976621,
  26710317185079237850253788578016627491190767302049664747210724310062934909751434017252201445274728654714865630414724114810866915885702486493686370884005973396370589649079401641678241531184484603059254632780471613523842950674042681556992,
  2584656039027118150988150827308379115174812407188367803116872758991930250566541562544589073989950578909935058466885562351129428635550443922611127558529813801436817726453531944624537906808585432270433693391096422761986801214468540280011065,
  251752800299732574788891874855294607717741849823853486286022975222654169358661998482122850589657090029876062434534325801113051515933147615132185380634518423187330627290917399527845453649719811270344930593719252050357414198892877154883731456,
  24681704804636405045563113396740422284913963613553381119310714464086897710328935966343204704821215011220396889041957887977272838988705114952616785989353166602294179183185568410133533879320450255743187047640813787854468601259236495019991107081,
  2435493500627577373295667147975203191565452996075942515174252693685657492956972648840737870625937843814673624951662753600860746635807479829144505943008995768709770796880297809070951810948850810254272141388209547451867204523902933775658633920512,
  241875397603671333264713788326666700197340671860996631175487477066149092945173527219287017153434893262996063114359308897474705967957820772263285333425790096468917055702203670672158362936004666044597880710441727543177247110710982971270790081640445,
  24175277708511493426478733045205982630011724983836451444200614404834636561901326908822253118844956044380824728014026951215395295578747625130369612496307876935999536406652711192884900784447600582367792367105566007406947702396193638271636168744370176,
  2431692647091072771710367899825329042978312858255265849158106543369003845838171255990749023878827646026837755570989027633721272578260760823216194666305433150677044259166657997395157392763097373982550910734972959189271202613947473869254971668125281541,
  246142115493987369591882029023208099291819208401508014808986166307042339543347422066485151398318463044887976320497150305740962543678593049564137468787444843516658528271974305753406293122420372679325528214518255431300670803597287230720395134035958956032,
  25071830005737144960191522234762834423570096759890580082823874229833831690163136732846143787945517516134004403918012093742445562612207991873892705782881588541832155633594558800737824587847195977958539176361385963043761572318045891668199089009014838465825,
  2569756856485663375000708104464659107821575983986180844580493011886320763643257808021528685037894098386863447641318922061990747809233345696388200389574226500761919971635221601399618520702616417640657500110091061534280171874980276326778020197663372314935296,
  265025200052581375350895159803901659831186509795804976877103932177542318020045779086519791106794538569945733045234377251046033088600368744492574825867396946527628023569009258037862311192069917055607116562400084986721097342260635717067052951262238000041644001,
  27501406052250971133958334063296950656307041605880563888756377320745108145274070139265367115536302612747653644949445972306395808040450304695745001607595041064334317114654636697041828432474477225252638583265100652284811541830080185681927436168446492789599895552,
  2871301973166679684929916211003699350355491665017882386576590810781414905230946265312174490667829805944220519593098737669793312212344655925347962998276676335569668032112763438792820788122201865888588272479167270021118497953360503208862391552292341523102202695205,
  301608055411733197823710925426156368024519307324942291453620836311463627989223085047979437086695645649479520319577898426560252207295159642909422007067859213131001963121817830559990109055479605857122571372012737595698116980347926919724524843251023800320132766498816,
  31873602162354110469925167469864420834098442078376136286226148140338287017035197695328756656809299667273307907347165190625178484077234250517204540656593113024059121265558241036200035381298702075631555671297449641204531137714340685546565807854440168759599776572338461,
  3388658013973164621114035855742460047060394941769488210301354232537162723937498717929597131492516582482515355822772924096847508085978179580331720787047927165763473681887493688466625452800698107380065803450351563153181808161489190151266405715129967226081834129080451072,
  362424164505845624987618515668413679297368428470959430419177372722357715496048789904222294162298755472011811233179520097862835432818460155300478788728230612306992230546368708538380883202464365353259572681219213078461599999667716627989875973031221525692129832253957736585,
  38992759759289567956214538910485677235385977929321954713341069547356238106158052468756392233289781887605937093952012965084152966615966176774491350853293422029414283877761528843911267594143018071988828170618987675698358250988393918938292135091134143800194886009672471412736,
  4220005513130260808256874149121608869388378226451438744419711766672691776484360898579943327229799071566569220799418193734460802563701559836740994854234132201397018022945474085831250467336792289975504710405831631768298471319957990591150241176345336500257174834567448143108921,
  459398160306176164116809426664485207588764163918759310126587651716725397940273926266637081816909737505107848888165980942439927007560070062819881050015356839651438453867545233795580859852820863556695078249938856196431598159855245085158077390103754653727619253179762436412014592,
  50303455785315004160948142070710660439593901544551597080356572244210205075773159284826676928099940270939872774526099418212704602457883015550880609374839741032031206179280983823453694340619758267342883548028892341280034602479976747749715703194419086815449426273168058911598997965,
  5540182200843538017332972130700942904461265379579475313301277855846411929834089310952851248146228476342394263457302220114794260857253957827111692308226244743974752472688273047400166475981238572511463253257218589706650353266869972470830867231478756762055203150363148638175998509056,
  613696178494213385049453688204944204636835041666802209740192483994522535138197632032027876728439620218036076551166502472414087724628932609227576010540315789096026864349046503109733067745459186861716167337508369354851430550336742702533171567967843591218910874037226619687146158899381,
  68370946254772121457132591057173614961799065094395548706149946062223553298280533163032759591153562012758614850916653881915152934343054570599413372440583037587159433183925150359950432958007366143533843515565302756884573312928305444082095973849941585335167163364102090258523092640858112,
  7660628138463373238117993486913117308562407748239554636851645244118393096760642580070132782182835772493668906831994962418261329110184210711316709924323071512994727850216635598213049818871992930602710048380205776270646645138991027539523682417662144159357039711639395335257387062714687345,
  863212599481119671361812102511249677641262466528528567993941144842406269639486986010221034061408247388289295380812598403005277653446317692885499541829709989428641980050337369113075401053630117700941498863345817850203088798823522494771212720575719596905272682035887426437729976918292299776,
  97817801128396745489203682500546803403872360255612057472290995814028940657569551872612602635030289576006285112163460487006788750275459045674761339526892435304437523912608229784910115289726075080865329433014362080464452506657150132777910025357685051079641459420210025598173827232784149453841,
  11146821585526452682228746803078714513798782387456512815172529624058257430498350047516104221637480621815876731512745926044634976736865802076110804822431265304128782308155913964961549170177163276880874822283973494703524492793062229720424176744322652092613829974420437640639742779717204555333632,
  1277331663671980642072877732151869284598756140342756862203699204780475335159504968151690204213663447105620949434717932676191266292193883436288813754387946456540481384238565159064871619288178168239418776112961210567471496320773832611346566378550845636826548410755837970746928546952030526246612725,
  147184601326621612061084897417569983869862360015442381272356038981367190554569097946887995420671180500314817671812983675424703206184824943139686800114146320516690166410112446525227334219413953530852389862480201671108922682411587733389982379683418690524654663419277903473136383429103582071956176896,
  17053514185447205217802426378725362724508399481812665196183185839469158011648800766414345172492040882144780940250055450502103811937337627649553535279031334409027446814293963189746329859680133956137807801542189159104678231823917756570426736742078313409641795708676878010710355206142559271906114916301,
  1986758590341629604859730389677396037794335298910892634076811516164592166851915436735406069137666309854442488538873697775960738294480310284681109959842607298374216472797548598238403772078409044347249410914456794047129248523275612129846463649120536160593195497050048898034510955488602257543391873073152,
  232725003482003005917234767874590750828843210540078047886281880700396232654117603097887120350825606802684020540169008897758864075968133355897378097264320973459346754734349027374313232867002671030368528250677028109112619357305414420227914198997205241323025418795823117397360370536618314153609214710982105,
  27409107667077105879340808840879540414046287604175118632377915280408785659809799503204294306957588236655364248769011576593821745531677280788658057073252784967839449336372444842587614285405517975197321981090469731235760775801971435264383248132332934589994284355490998606992125148421549670726783200359612416,
  3245547458389246952777103278832933845184956449666944106748081221098004971979502254066582528906284770073761549543383103906303927727715342889541355685586978553240908139221233064498655969984337576192317823239580542304520495782233845892636036159572214042726477145501581518761100340306057999006722621375511430761,
  386375600939405635730468656451666955748844929211617154939955264630019983621989893350518041772896088930364893122652195317897065734326676791201835954549591407510069049930909269319160633224536920807633726739486313080490906417308040667776214990982815771090726211498821511038606238031112912354182958591536028188672,
  46243177258265190424323902925304114170042407076432117483933721161583024270375494907464953195040624432240322320524712189124876144822622634965765704667430207111740179646363567338066782394601826449410342985107494978904849450964415996016936759144300290944854767428786461007606000519224362860938359096378859459203485,
  5564031665165284471298993688472969013679694657847021489864886913539860056891437372964753619240938843129276359508382510026497386235671946259930176367404050511115515649925075762211508390718538385927758463075003651076973751397497586465940034124669866194692435129270098550176237024664294047640264485957843264089358336,
  673012788703472215217655714452463930422605593618476965163010790827494348121050458458808167113687985498382728742497229884244318774989604658830071458046921180500294567182145032339021048987567078430867278430624720984803716761303615031141015161171583843163932861106497453752681124616309213188697054892019876070316741221,
  81834570433871239989417010161838098284919103101095453141066200817938998800278015567057449427970840453177701491470800707479387763459882653994629305196489624229069190317750193223023308687827509398142485318864346192857248155792700490739469740513622175682046500535862281974726620658566149269780119345922580087964478472192,
  10002721075470702948386265823026163483669895640610599261740249751695410931924413327478644502636080554713875722082771962115974026208927494840484734129931938169342255775893709360766347394011188907826733272885243025212741698396828065372822136390127954643055484089178808234471480911904213409154650594583875686878661058684865,
  1229010492725655498745484630775869292235219986115945657880197081988738101261994445476671663399399144674521149839080643640031782421426323795057352186736787546864281175358261026133709977262418958556075381969153676703409787840133617735587986144211965315138828653637838694800591129405943027757792884518937420665617301064646656,
  151788001742576903207992143170625804833367146840512593697581109803783441062418722292353173362406757387163026277835502193676890265097747214978636721147025650948227001182968868695553697475091643369886230824266660346218002431650200371581395332787137185347364025966640370770231764554924669204389544777746423420568870837615791681,
  18843092407910422929425089491385757380434727491408830990076325307380364600482657302295383665510043108222121022136852343854834579966915567787312386286472930451276539292866803766581149499538757827986526034192356614703512789770681198395067055008428580385865627694544522836890142216344519041576689330246896863241908891749252595712,
  2351193499087345796723059513465729828732643551726453855632947768834488841240574267526618069087082444522917989055071208177640801828380347055695483276792815627924286073156053942543260992726127997093077262395345452290413895503152387428038999308953349450266404696081500346419631099459378277091987128005553701083364955338990873634245,
  294872805225681261223737215127011146994063998197142643656698173204347322201533161389032853131640150603954786499869110514590846772767159579477516622581268710293163977532514067261923211048984544584562460574972132296338935149823654918648094437699747924878272606801028792268427495956886804184837267979684735164856062044280025436389376,
  37168927911752344259554450025446386263738115190206227035342905404073960705579064409393910218246554903667588933376608359428813721567857067610081709486776372691962009144600733962545317580343173106144644644391227295633903176580399562482533877865267820980327228856581651044166815445017498285511891868913191332493115349670323865146326141,
  4708832410839036775127083656277455369927039641053956502555399993155472733019528453011116691778992363061715184657414377790009176379417288118062966167517347003597981485965853471991857601361417617516852747544156416749236128186966601581747429234102943849652014945729710502948586969216249495899499695789626698086604635236876027635257311232,
  599547163501087372474968414188065044926728618369425054868091366455415875680150799832459576446626662489154039676247901501453585520247873369633664981039166488273449468831053594931966683906734130221865944184112020908528590877181590543768716367090579274260976307066311777407073312889369750169548196419149504941815733845016897635621925859625]
/-- a number made whole before it goes on -/
def forceN {α : Type} (n : Nat) (f : Nat → α) : α := match n with
  | 0 => f 0
  | m + 1 => f (m + 1)
theorem forceN_eq {α : Type} (n : Nat) (f : Nat → α) : forceN n f = f n := by cases n <;> rfl
def scN (a : Nat) : List Nat → List Nat
  | [] => [a]
  | x :: xs => a :: forceN (a + x) fun b => scN b xs
theorem scN_eq : ∀ (l : List Nat) (a : Nat), (scN a l).map Int.ofNat = sc (Int.ofNat a) (l.map Int.ofNat)
  | [], a => rfl
  | x :: xs, a => by
    rw [scN, forceN_eq, List.map_cons, scN_eq xs (a + x)]
    rfl
/-- the rows walked, compared with the table -/
def lastOk (t : Nat) : List Nat → Bool
  | [] => false
  | [x] => Nat.beq x t
  | _ :: y :: ys => lastOk t (y :: ys)
def walkZ : List Nat → List Nat → Bool
  | [], _ => true
  | t :: ts, r => lastOk t r && walkZ ts (scN 0 r.reverse)
theorem lastOk_eq {t : Nat} : ∀ {r : List Nat}, lastOk t r = true → lastI (r.map Int.ofNat) = Int.ofNat t
  | [], h => by cases h
  | [x], h => by
    have e : x = t := Nat.eq_of_beq_eq_true h
    subst e; rfl
  | x :: y :: ys, h => by
    have := lastOk_eq (r := y :: ys) h
    unfold lastI at this ⊢
    rw [List.map_cons, List.map_cons, List.getLast?_cons_cons, ← List.map_cons]
    exact this
theorem walkZ_eq : ∀ (ts : List Nat) (r : List Nat) (i : Nat), r.map Int.ofNat = zrow i → walkZ ts r = true → ∀ j t, ts[j]? = some t → zz (i + j) = Int.ofNat t
  | [], r, i, hr, h, j, t, e => by simp at e
  | u :: us, r, i, hr, h, j, t, e => by
    rw [walkZ, Bool.and_eq_true] at h
    cases j with
    | zero =>
      cases e
      have := lastOk_eq h.1
      rw [hr] at this
      exact this
    | succ j =>
      have hn : (scN 0 r.reverse).map Int.ofNat = zrow (i + 1) := by
        rw [scN_eq, List.map_reverse, hr]; rfl
      have := walkZ_eq us _ (i + 1) hn h.2 j t (by simpa using e)
      have e2 : i + (j + 1) = i + 1 + j := by omega
      rw [e2]; exact this
theorem walk_true : walkZ tz [1] = true := by decide +kernel
theorem zz_tab {j t : Nat} (h : tz[j]? = some t) : zz j = Int.ofNat t := by
  have := walkZ_eq tz [1] 0 rfl walk_true j t h
  rw [Nat.zero_add] at this
  exact this
def v2f : Nat → Nat → Nat
  | 0, _ => 0
  | f + 1, n => if n % 2 = 0 then v2f f (n / 2) + 1 else 0
def berT (n : Nat) (z : Int) : Int := topB n z / gcdI (topB n z) (botB n)
def berB (n : Nat) (z : Int) : Int := botB n / gcdI (topB n z) (botB n)
def oddT (n : Nat) (z : Int) : Int := ((if n % 2 = 1 then -1 else 1) * 2 * (n : Int) * z) / (2 ^ (2 * n) / 2)
def nearOK (n : Nat) (z : Nat) : Bool :=
  let k := v2f 10 n
  let d := 2 * n - 2 - k
  decide (0 < z) && decide (z < 2 ^ 2000) && decide (oddT n z % 2 = 1) && decide ((z : Int) = ((z : Int) / 2 ^ d) * 2 ^ d) && decide (((z : Int) / 2 ^ d) % 2 = 1) && decide ((n : Int) = ((n : Int) / 2 ^ k) * 2 ^ k) && decide (((n : Int) / 2 ^ k) % 2 = 1) && decide (k + 2 ≤ 2 * n) && decide (k < 10) &&
  decide (oddT n z * berB (2 * n) z = 2 * (1 - 2 ^ (2 * n)) * berT (2 * n) z)
def tzD (i : Nat) : Nat := tz.getD i 0
theorem near_all : (List.range 100).all (fun i => nearOK (i + 1) (tzD (2 * i + 1))) = true := by decide +kernel
section
variable {row : List D} {n z P t b side odd deep k : Int} {num : D} {x2 x3 x4 x5 x6 x7 x8 : Option W}
theorem np1 (F : FP) (hm : cMul 2 n = true) (hz : atI row (2 * n - 1) = some (.int z)) (hF : F [.int 2, .int (2 * n)] = some (.d (.int P))) : mPar [2, 3] (mCons (mFv (mBin gIx (mVar 0) (mBin gSub (mBin gMul (mC (.int 2)) (mVar 1)) (mC (.int 1))))) (mCons (mFv (mCallP F 2 (mCons (mFt (mC (.int 2))) (mCons (mFt (mBin gMul (mC (.int 2)) (mVar 1))) mNil)))) mNil)) [some (.d (.list row)), some (.d (.int n)), none, none, x4, x5, x6, x7, x8] = some (.nx, [some (.d (.list row)), some (.d (.int n)), some (.d (.int z)), some (.d (.int P)), x4, x5, x6, x7, x8]) := by
  simp [mSeq, mAsg, mFv, fz, mBin, cont, mVar, mC, mUn, mCons, mNil, mCall, conts, mTup, mLst, dsOf, dOf, mFz, mFt, mSkip, mRet, mIfS, mTest, mTruth, truD, mNot, mAnd, mOr, mAndV, mOrV, mNotV, mIf, mYes, mExpr, mBreak, mCont, gNm, gsNil, gsCons, gTupD, mItems, mFor, mMeth, mPop, mSetIx, ownAt, gApp, mPar, wsOf, setAll, mAug, mAugAdd, mAugSub, gSub, gFdiv, gMod, gPow, gShl, gShr, gAnd, gLt, gLe, gGt, gGe, gI, gAdd, gMul, gNeg, gLen, gAbs, gInt, gIx, gRev, gEq, gNe, gIs1, mReg, mSetReg, mSrcNe, mSrcLast, mSrcPop, mSrcPut, srcAt, mSl, mNoPart, mPart, gSl, mCallP, mCallM, argsOf, slotW, notD, noLW, mRange1, mRange2, mRange3, mEnum, mZip, mChain, runP, runM, startE, fin0, lenLine, wipeE, restE, plainAt, List.getElem?_cons_zero, List.getElem?_cons_succ, List.set_cons_zero, List.set_cons_succ, List.map_cons, List.map_nil, List.length_cons, List.length_nil, List.replicate, List.cons_append, List.nil_append, List.isEmpty_nil, List.all_cons, List.all_nil, hm, hz, hF]
theorem np2 (F : FP) (hm : cMul 2 n = true) (hF : F [.list row, .int (2 * n)] = some (.d num)) : mAsg 4 (mCallP F 2 (mCons (mFt (mVar 0)) (mCons (mFt (mBin gMul (mC (.int 2)) (mVar 1))) mNil))) [some (.d (.list row)), some (.d (.int n)), x2, x3, x4, x5, x6, x7, x8] = some (.nx, [some (.d (.list row)), some (.d (.int n)), x2, x3, some (.d num), x5, x6, x7, x8]) := by
  simp [mSeq, mAsg, mFv, fz, mBin, cont, mVar, mC, mUn, mCons, mNil, mCall, conts, mTup, mLst, dsOf, dOf, mFz, mFt, mSkip, mRet, mIfS, mTest, mTruth, truD, mNot, mAnd, mOr, mAndV, mOrV, mNotV, mIf, mYes, mExpr, mBreak, mCont, gNm, gsNil, gsCons, gTupD, mItems, mFor, mMeth, mPop, mSetIx, ownAt, gApp, mPar, wsOf, setAll, mAug, mAugAdd, mAugSub, gSub, gFdiv, gMod, gPow, gShl, gShr, gAnd, gLt, gLe, gGt, gGe, gI, gAdd, gMul, gNeg, gLen, gAbs, gInt, gIx, gRev, gEq, gNe, gIs1, mReg, mSetReg, mSrcNe, mSrcLast, mSrcPop, mSrcPut, srcAt, mSl, mNoPart, mPart, gSl, mCallP, mCallM, argsOf, slotW, notD, noLW, mRange1, mRange2, mRange3, mEnum, mZip, mChain, runP, runM, startE, fin0, lenLine, wipeE, restE, plainAt, List.getElem?_cons_zero, List.getElem?_cons_succ, List.set_cons_zero, List.set_cons_succ, List.map_cons, List.map_nil, List.length_cons, List.length_nil, List.replicate, List.cons_append, List.nil_append, List.isEmpty_nil, List.all_cons, List.all_nil, hm, hF]
theorem np3 : mAsg 5 (mIf (mTest (mBin gEq (mBin gMod (mCall gInt (mCons (mVar 1) mNil)) (mC (.int 2))) (mC (.int 1)))) (mUn gNeg (mC (.int 1))) (mC (.int 1))) [some (.d (.list row)), some (.d (.int n)), x2, x3, x4, x5, x6, x7, x8] = some (.nx, [some (.d (.list row)), some (.d (.int n)), x2, x3, x4, some (.d (.int (if n % 2 = 1 then -1 else 1))), x6, x7, x8]) := by
  have h : cMod n 2 = true := cMod_pos (by decide)
  by_cases c : n % 2 = 1
  · simp [mSeq, mAsg, mFv, fz, mBin, cont, mVar, mC, mUn, mCons, mNil, mCall, conts, mTup, mLst, dsOf, dOf, mFz, mFt, mSkip, mRet, mIfS, mTest, mTruth, truD, mNot, mAnd, mOr, mAndV, mOrV, mNotV, mIf, mYes, mExpr, mBreak, mCont, gNm, gsNil, gsCons, gTupD, mItems, mFor, mMeth, mPop, mSetIx, ownAt, gApp, mPar, wsOf, setAll, mAug, mAugAdd, mAugSub, gSub, gFdiv, gMod, gPow, gShl, gShr, gAnd, gLt, gLe, gGt, gGe, gI, gAdd, gMul, gNeg, gLen, gAbs, gInt, gIx, gRev, gEq, gNe, gIs1, mReg, mSetReg, mSrcNe, mSrcLast, mSrcPop, mSrcPut, srcAt, mSl, mNoPart, mPart, gSl, mCallP, mCallM, argsOf, slotW, notD, noLW, mRange1, mRange2, mRange3, mEnum, mZip, mChain, runP, runM, startE, fin0, lenLine, wipeE, restE, plainAt, List.getElem?_cons_zero, List.getElem?_cons_succ, List.set_cons_zero, List.set_cons_succ, List.map_cons, List.map_nil, List.length_cons, List.length_nil, List.replicate, List.cons_append, List.nil_append, List.isEmpty_nil, List.all_cons, List.all_nil, h, c]
  · have c2 : n % 2 = 0 := by omega
    simp [mSeq, mAsg, mFv, fz, mBin, cont, mVar, mC, mUn, mCons, mNil, mCall, conts, mTup, mLst, dsOf, dOf, mFz, mFt, mSkip, mRet, mIfS, mTest, mTruth, truD, mNot, mAnd, mOr, mAndV, mOrV, mNotV, mIf, mYes, mExpr, mBreak, mCont, gNm, gsNil, gsCons, gTupD, mItems, mFor, mMeth, mPop, mSetIx, ownAt, gApp, mPar, wsOf, setAll, mAug, mAugAdd, mAugSub, gSub, gFdiv, gMod, gPow, gShl, gShr, gAnd, gLt, gLe, gGt, gGe, gI, gAdd, gMul, gNeg, gLen, gAbs, gInt, gIx, gRev, gEq, gNe, gIs1, mReg, mSetReg, mSrcNe, mSrcLast, mSrcPop, mSrcPut, srcAt, mSl, mNoPart, mPart, gSl, mCallP, mCallM, argsOf, slotW, notD, noLW, mRange1, mRange2, mRange3, mEnum, mZip, mChain, runP, runM, startE, fin0, lenLine, wipeE, restE, plainAt, List.getElem?_cons_zero, List.getElem?_cons_succ, List.set_cons_zero, List.set_cons_succ, List.map_cons, List.map_nil, List.length_cons, List.length_nil, List.replicate, List.cons_append, List.nil_append, List.isEmpty_nil, List.all_cons, List.all_nil, h, c2]
theorem np4 (h1 : cMul side 2 = true) (h2 : cMul (side * 2) n = true) (h3 : cMul (side * 2 * n) z = true) (h4 : cDiv P 2 = true) (h5 : cDiv (side * 2 * n * z) (P / 2) = true) : mAsg 6 (mCall gInt (mCons (mBin gFdiv (mBin gMul (mBin gMul (mBin gMul (mVar 5) (mC (.int 2))) (mVar 1)) (mVar 2)) (mBin gFdiv (mVar 3) (mC (.int 2)))) mNil)) [some (.d (.list row)), some (.d (.int n)), some (.d (.int z)), some (.d (.int P)), x4, some (.d (.int side)), x6, x7, x8] = some (.nx, [some (.d (.list row)), some (.d (.int n)), some (.d (.int z)), some (.d (.int P)), x4, some (.d (.int side)), some (.d (.int (side * 2 * n * z / (P / 2)))), x7, x8]) := by
  simp only [mSeq, mAsg, mFv, fz, mBin, cont, mVar, mC, mUn, mCons, mNil, mCall, conts, mTup, mLst, dsOf, dOf, mFz, mFt, mSkip, mRet, mIfS, mTest, mTruth, truD, mNot, mAnd, mOr, mAndV, mOrV, mNotV, mIf, mYes, mExpr, mBreak, mCont, gNm, gsNil, gsCons, gTupD, mItems, mFor, mMeth, mPop, mSetIx, ownAt, gApp, mPar, wsOf, setAll, mAug, mAugAdd, mAugSub, gSub, gFdiv, gMod, gPow, gShl, gShr, gAnd, gLt, gLe, gGt, gGe, gI, gAdd, gMul, gNeg, gLen, gAbs, gInt, gIx, gRev, gEq, gNe, gIs1, mReg, mSetReg, mSrcNe, mSrcLast, mSrcPop, mSrcPut, srcAt, mSl, mNoPart, mPart, gSl, mCallP, mCallM, argsOf, slotW, notD, noLW, mRange1, mRange2, mRange3, mEnum, mZip, mChain, runP, runM, startE, fin0, lenLine, wipeE, restE, plainAt, List.getElem?_cons_zero, List.getElem?_cons_succ, List.set_cons_zero, List.set_cons_succ, List.map_cons, List.map_nil, List.length_cons, List.length_nil, List.replicate, List.cons_append, List.nil_append, List.isEmpty_nil, List.all_cons, List.all_nil, h1, h2, h3, h4, h5, if_true]
theorem np5 (F : FP) (hm : cMul 2 n = true) (hF : F [.int n, .int 2] = some (.d (.int k))) : mAsg 7 (mBin gSub (mBin gSub (mBin gMul (mC (.int 2)) (mVar 1)) (mC (.int 2))) (mCallP F 2 (mCons (mFt (mVar 1)) (mCons (mFt (mC (.int 2))) mNil)))) [some (.d (.list row)), some (.d (.int n)), x2, x3, x4, x5, x6, x7, x8] = some (.nx, [some (.d (.list row)), some (.d (.int n)), x2, x3, x4, x5, x6, some (.d (.int (2 * n - 2 - k))), x8]) := by
  simp [mSeq, mAsg, mFv, fz, mBin, cont, mVar, mC, mUn, mCons, mNil, mCall, conts, mTup, mLst, dsOf, dOf, mFz, mFt, mSkip, mRet, mIfS, mTest, mTruth, truD, mNot, mAnd, mOr, mAndV, mOrV, mNotV, mIf, mYes, mExpr, mBreak, mCont, gNm, gsNil, gsCons, gTupD, mItems, mFor, mMeth, mPop, mSetIx, ownAt, gApp, mPar, wsOf, setAll, mAug, mAugAdd, mAugSub, gSub, gFdiv, gMod, gPow, gShl, gShr, gAnd, gLt, gLe, gGt, gGe, gI, gAdd, gMul, gNeg, gLen, gAbs, gInt, gIx, gRev, gEq, gNe, gIs1, mReg, mSetReg, mSrcNe, mSrcLast, mSrcPop, mSrcPut, srcAt, mSl, mNoPart, mPart, gSl, mCallP, mCallM, argsOf, slotW, notD, noLW, mRange1, mRange2, mRange3, mEnum, mZip, mChain, runP, runM, startE, fin0, lenLine, wipeE, restE, plainAt, List.getElem?_cons_zero, List.getElem?_cons_succ, List.set_cons_zero, List.set_cons_succ, List.map_cons, List.map_nil, List.length_cons, List.length_nil, List.replicate, List.cons_append, List.nil_append, List.isEmpty_nil, List.all_cons, List.all_nil, hm, hF]
theorem np6 (F : FP) {a : MS} (h1 : odd % 2 = 1) (hF : F [.int z, .int 2] = some (.d (.int deep))) (h2 : cMul odd b = true) (h3 : cMul 2 (1 - P) = true) (h4 : cMul (2 * (1 - P)) t = true) (h5 : odd * b = 2 * (1 - P) * t) : mIfS (mOr (mTest (mBin gNe (mBin gMod (mCall gInt (mCons (mVar 6) mNil)) (mC (.int 2))) (mC (.int 1)))) (mOr (mTest (mBin gNe (mCallP F 2 (mCons (mFt (mVar 2)) (mCons (mFt (mC (.int 2))) mNil))) (mVar 7))) (mTest (mBin gNe (mBin gMul (mVar 6) (mBin gIx (mVar 4) (mC (.int 1)))) (mBin gMul (mBin gMul (mC (.int 2)) (mBin gSub (mC (.int 1)) (mVar 3))) (mBin gIx (mVar 4) (mC (.int 0)))))))) a mSkip [some (.d (.list row)), some (.d (.int n)), some (.d (.int z)), some (.d (.int P)), some (.d (.tuple [.int t, .int b])), x5, some (.d (.int odd)), some (.d (.int deep)), x8] = some (.nx, [some (.d (.list row)), some (.d (.int n)), some (.d (.int z)), some (.d (.int P)), some (.d (.tuple [.int t, .int b])), x5, some (.d (.int odd)), some (.d (.int deep)), x8]) := by
  have h : cMod odd 2 = true := cMod_pos (by decide)
  have i0 : atI [PyData.int t, PyData.int b] 0 = some (.int t) := atI_nat (j := 0) rfl
  have i1 : atI [PyData.int t, PyData.int b] 1 = some (.int b) := atI_nat (j := 1) rfl
  simp [mSeq, mAsg, mFv, fz, mBin, cont, mVar, mC, mUn, mCons, mNil, mCall, conts, mTup, mLst, dsOf, dOf, mFz, mFt, mSkip, mRet, mIfS, mTest, mTruth, truD, mNot, mAnd, mOr, mAndV, mOrV, mNotV, mIf, mYes, mExpr, mBreak, mCont, gNm, gsNil, gsCons, gTupD, mItems, mFor, mMeth, mPop, mSetIx, ownAt, gApp, mPar, wsOf, setAll, mAug, mAugAdd, mAugSub, gSub, gFdiv, gMod, gPow, gShl, gShr, gAnd, gLt, gLe, gGt, gGe, gI, gAdd, gMul, gNeg, gLen, gAbs, gInt, gIx, gRev, gEq, gNe, gIs1, mReg, mSetReg, mSrcNe, mSrcLast, mSrcPop, mSrcPut, srcAt, mSl, mNoPart, mPart, gSl, mCallP, mCallM, argsOf, slotW, notD, noLW, mRange1, mRange2, mRange3, mEnum, mZip, mChain, runP, runM, startE, fin0, lenLine, wipeE, restE, plainAt, List.getElem?_cons_zero, List.getElem?_cons_succ, List.set_cons_zero, List.set_cons_succ, List.map_cons, List.map_nil, List.length_cons, List.length_nil, List.replicate, List.cons_append, List.nil_append, List.isEmpty_nil, List.all_cons, List.all_nil, h, h1, hF, h2, h3, h4, h5, i0, i1]
theorem np7 (F4 F5 F6 : FP) {o z' g : D} (hm : cMul 2 n = true) (h4 : F4 [.int n] = some (.d o)) (h5 : F5 [.int (2 * n - 1)] = some (.d z')) (h6 : F6 [.int z, .int 2] = some (.d g)) : mAsg 8 (mLst (mCons (mFz (mTup (mCons (mFz (mCallP F4 1 (mCons (mFt (mVar 1)) mNil))) (mCons (mFz (mVar 7)) mNil)))) (mCons (mFz (mTup (mCons (mFz (mCallP F5 1 (mCons (mFt (mBin gSub (mBin gMul (mC (.int 2)) (mVar 1)) (mC (.int 1)))) mNil))) (mCons (mFz (mVar 2)) mNil)))) (mCons (mFz (mTup (mCons (mFz (mCallP F6 2 (mCons (mFt (mVar 2)) (mCons (mFt (mC (.int 2))) mNil)))) (mCons (mFz (mVar 7)) mNil)))) mNil)))) [some (.d (.list row)), some (.d (.int n)), some (.d (.int z)), x3, x4, x5, x6, some (.d (.int deep)), x8] = some (.nx, [some (.d (.list row)), some (.d (.int n)), some (.d (.int z)), x3, x4, x5, x6, some (.d (.int deep)), some (.own [.tuple [o, .int deep], .tuple [z', .int z], .tuple [g, .int deep]])]) := by
  simp [mSeq, mAsg, mFv, fz, mBin, cont, mVar, mC, mUn, mCons, mNil, mCall, conts, mTup, mLst, dsOf, dOf, mFz, mFt, mSkip, mRet, mIfS, mTest, mTruth, truD, mNot, mAnd, mOr, mAndV, mOrV, mNotV, mIf, mYes, mExpr, mBreak, mCont, gNm, gsNil, gsCons, gTupD, mItems, mFor, mMeth, mPop, mSetIx, ownAt, gApp, mPar, wsOf, setAll, mAug, mAugAdd, mAugSub, gSub, gFdiv, gMod, gPow, gShl, gShr, gAnd, gLt, gLe, gGt, gGe, gI, gAdd, gMul, gNeg, gLen, gAbs, gInt, gIx, gRev, gEq, gNe, gIs1, mReg, mSetReg, mSrcNe, mSrcLast, mSrcPop, mSrcPut, srcAt, mSl, mNoPart, mPart, gSl, mCallP, mCallM, argsOf, slotW, notD, noLW, mRange1, mRange2, mRange3, mEnum, mZip, mChain, runP, runM, startE, fin0, lenLine, wipeE, restE, plainAt, List.getElem?_cons_zero, List.getElem?_cons_succ, List.set_cons_zero, List.set_cons_succ, List.map_cons, List.map_nil, List.length_cons, List.length_nil, List.replicate, List.cons_append, List.nil_append, List.isEmpty_nil, List.all_cons, List.all_nil, hm, h4, h5, h6]
theorem np8 (F7 F8 : FP) {o z' g : D} {ps : List D} (hl : ps.length = 3) (hm : cMul 2 n = true) (h7 : F7 [.int (2 * n)] = some (.d o)) (h8 : F8 [.int (2 * n)] = some (.d z')) : mRet false (mBin gAdd (mVar 8) (mLst (mCons (mFz (mTup (mCons (mFz (mCallP F7 1 (mCons (mFt (mBin gMul (mC (.int 2)) (mVar 1))) mNil))) (mCons (mFz (mVar 6)) mNil)))) (mCons (mFz (mTup (mCons (mFz (mCallP F8 1 (mCons (mFt (mBin gMul (mC (.int 2)) (mVar 1))) mNil))) (mCons (mFz (mVar 4)) mNil)))) mNil)))) [some (.d (.list row)), some (.d (.int n)), x2, x3, some (.d num), x5, some (.d (.int odd)), x7, some (.own ps)] = some (.rt (.own (ps ++ [.tuple [o, .int odd], .tuple [z', num]])), [some (.d (.list row)), some (.d (.int n)), x2, x3, some (.d num), x5, some (.d (.int odd)), x7, some (.own ps)]) := by
  simp [mSeq, mAsg, mFv, fz, mBin, cont, mVar, mC, mUn, mCons, mNil, mCall, conts, mTup, mLst, dsOf, dOf, mFz, mFt, mSkip, mRet, mIfS, mTest, mTruth, truD, mNot, mAnd, mOr, mAndV, mOrV, mNotV, mIf, mYes, mExpr, mBreak, mCont, gNm, gsNil, gsCons, gTupD, mItems, mFor, mMeth, mPop, mSetIx, ownAt, gApp, mPar, wsOf, setAll, mAug, mAugAdd, mAugSub, gSub, gFdiv, gMod, gPow, gShl, gShr, gAnd, gLt, gLe, gGt, gGe, gI, gAdd, gMul, gNeg, gLen, gAbs, gInt, gIx, gRev, gEq, gNe, gIs1, mReg, mSetReg, mSrcNe, mSrcLast, mSrcPop, mSrcPut, srcAt, mSl, mNoPart, mPart, gSl, mCallP, mCallM, argsOf, slotW, notD, noLW, mRange1, mRange2, mRange3, mEnum, mZip, mChain, runP, runM, startE, fin0, lenLine, wipeE, restE, plainAt, List.getElem?_cons_zero, List.getElem?_cons_succ, List.set_cons_zero, List.set_cons_succ, List.map_cons, List.map_nil, List.length_cons, List.length_nil, List.replicate, List.cons_append, List.nil_append, List.isEmpty_nil, List.all_cons, List.all_nil, hm, h7, h8, hl]
theorem bern_x (F G : FP) {r : D} (h : G [.int (n - 1)] = some (.d (.int z))) (h2 : F [.int n, .int z] = some (.d r)) (hn : 2 ≤ n) (he : n % 2 = 0) : runP 1 (mSeq (mIfS (mTest (mBin gEq (mVar 0) (mC (.int 0)))) (mRet false (mTup (mCons (mFz (mC (.int 1))) (mCons (mFz (mC (.int 1))) mNil)))) mSkip)
    (mSeq (mIfS (mTest (mBin gEq (mVar 0) (mC (.int 1)))) (mRet false (mTup (mCons (mFz (mUn gNeg (mC (.int 1)))) (mCons (mFz (mC (.int 2))) mNil)))) mSkip)
    (mSeq (mIfS (mTest (mBin gEq (mBin gMod (mVar 0) (mC (.int 2))) (mC (.int 1)))) (mRet false (mTup (mCons (mFz (mC (.int 0))) (mCons (mFz (mC (.int 1))) mNil)))) mSkip)
    (mRet false (mCallP F 2 (mCons (mFt (mVar 0)) (mCons (mFt (mCallP G 1 (mCons (mFt (mBin gSub (mVar 0) (mC (.int 1)))) mNil))) mNil))))))) [.int n] = some (.d r) := by
  have h5 : cMod n 2 = true := cMod_pos (by decide)
  have a1 : ¬ n = 0 := by omega
  have a2 : ¬ n = 1 := by omega
  simp [mSeq, mAsg, mFv, fz, mBin, cont, mVar, mC, mUn, mCons, mNil, mCall, conts, mTup, mLst, dsOf, dOf, mFz, mFt, mSkip, mRet, mIfS, mTest, mTruth, truD, mNot, mAnd, mOr, mAndV, mOrV, mNotV, mIf, mYes, mExpr, mBreak, mCont, gNm, gsNil, gsCons, gTupD, mItems, mFor, mMeth, mPop, mSetIx, ownAt, gApp, mPar, wsOf, setAll, mAug, mAugAdd, mAugSub, gSub, gFdiv, gMod, gPow, gShl, gShr, gAnd, gLt, gLe, gGt, gGe, gI, gAdd, gMul, gNeg, gLen, gAbs, gInt, gIx, gRev, gEq, gNe, gIs1, mReg, mSetReg, mSrcNe, mSrcLast, mSrcPop, mSrcPut, srcAt, mSl, mNoPart, mPart, gSl, mCallP, mCallM, argsOf, slotW, notD, noLW, mRange1, mRange2, mRange3, mEnum, mZip, mChain, runP, runM, startE, fin0, lenLine, wipeE, restE, plainAt, List.getElem?_cons_zero, List.getElem?_cons_succ, List.set_cons_zero, List.set_cons_succ, List.map_cons, List.map_nil, List.length_cons, List.length_nil, List.replicate, List.cons_append, List.nil_append, List.isEmpty_nil, List.all_cons, List.all_nil, h, h2, h5, a1, a2, he]
theorem gen_x (F G : FP) (h : F [.int n] = some (.d (.tuple [.int t, .int b]))) (h2 : G [.int 2, .int n] = some (.d (.int P))) (h3 : cMul 2 (1 - P) = true) (h4 : cMul (2 * (1 - P)) t = true) (h5 : cDiv (2 * (1 - P) * t) b = true) : runP 3 (mSeq (mAsgG (gTupD 2 (gsCons (gNm 1) (gsCons (gNm 2) gsNil))) (mCallP F 1 (mCons (mFt (mVar 0)) mNil)))
    (mRet false (mBin gFdiv (mBin gMul (mBin gMul (mC (.int 2)) (mBin gSub (mC (.int 1)) (mCallP G 2 (mCons (mFt (mC (.int 2))) (mCons (mFt (mVar 0)) mNil))))) (mVar 1)) (mVar 2)))) [.int n] = some (.d (.int (2 * (1 - P) * t / b))) := by
  simp [mSeq, mAsg, mFv, fz, mBin, cont, mVar, mC, mUn, mCons, mNil, mCall, conts, mTup, mLst, dsOf, dOf, mFz, mFt, mSkip, mRet, mIfS, mTest, mTruth, truD, mNot, mAnd, mOr, mAndV, mOrV, mNotV, mIf, mYes, mExpr, mBreak, mCont, gNm, gsNil, gsCons, gTupD, mItems, mFor, mMeth, mPop, mSetIx, ownAt, gApp, mPar, wsOf, setAll, mAug, mAugAdd, mAugSub, gSub, gFdiv, gMod, gPow, gShl, gShr, gAnd, gLt, gLe, gGt, gGe, gI, gAdd, gMul, gNeg, gLen, gAbs, gInt, gIx, gRev, gEq, gNe, gIs1, mReg, mSetReg, mSrcNe, mSrcLast, mSrcPop, mSrcPut, srcAt, mSl, mNoPart, mPart, gSl, mCallP, mCallM, argsOf, slotW, notD, noLW, mRange1, mRange2, mRange3, mEnum, mZip, mChain, runP, runM, startE, fin0, lenLine, wipeE, restE, plainAt, List.getElem?_cons_zero, List.getElem?_cons_succ, List.set_cons_zero, List.set_cons_succ, List.map_cons, List.map_nil, List.length_cons, List.length_nil, List.replicate, List.cons_append, List.nil_append, List.isEmpty_nil, List.all_cons, List.all_nil, mAsgG, h, h2, h3, h4, h5]
end
theorem p200 {m : Nat} (hm : m ≤ 200) : (2 : Int) ^ m ≤ 2 ^ 200 := pow_mono 2 (by decide) hm
theorem p1 (m : Nat) : (1 : Int) ≤ 2 ^ m := by
  have : (0 : Int) < 2 ^ m := Int.pow_pos (by decide)
  omega
theorem botB_pos {m : Nat} (h : 1 ≤ m) : 0 < botB m := by
  have h1 : (2 : Int) ^ 1 ≤ 2 ^ m := pow_mono 2 (by decide) h
  exact Int.mul_pos (by omega) (by omega)
theorem botB_lt {m : Nat} (hm : m ≤ 200) : botB m < 2 ^ 490 := by
  have h1 := p200 hm
  have h2 := p1 m
  have h3 : (2 : Int) ^ m * (2 ^ m - 1) ≤ 2 ^ 200 * 2 ^ 200 := Int.mul_le_mul h1 (by omega) (by omega) (by decide +kernel)
  have h4 : (2 : Int) ^ 200 * 2 ^ 200 < 2 ^ 490 := by decide +kernel
  unfold botB
  omega
theorem abs_lt {a : Int} {n : Nat} (h0 : 0 ≤ a) (h : a < 2 ^ n) : a.natAbs < 2 ^ n := by
  have : ((a.natAbs : Nat) : Int) = a := by omega
  rw [← Int.ofNat_lt, this]
  exact h
theorem cM_P {m : Nat} (hm : m ≤ 200) : cMul (2 ^ m) (2 ^ m - 1) = true := by
  have h1 := p200 hm
  have h2 := p1 m
  exact cMul_lt 201 201 (abs_lt (by omega) (by omega)) (abs_lt (by omega) (by omega))
theorem cM_z {a z : Int} (ha : a.natAbs < 2 ^ 300) (hz : z.natAbs < 2 ^ 5000) : cMul a z = true := cMul_lt 300 5000 ha hz
theorem bfrom_ok {m : Nat} (h1 : 1 ≤ m) (hm : m ≤ 200) {z : Int} (hz : z.natAbs < 2 ^ 5000) : c_bernoulli_from [.int m, .int z] = some (.d (ber m z)) :=
  bfrom_x c_whole_power c_fraction (wpow_ok (by omega)) (frac_ok _ _ (botB_pos h1) (botB_lt hm)) (cM_z (Nat.lt_of_le_of_lt (show (m : Int).natAbs ≤ 200 by omega) (by decide +kernel)) hz) (cM_P hm)
theorem bern_ok {m : Nat} (h1 : 2 ≤ m) (hm : m ≤ 200) (he : m % 2 = 0) (hz : (zz (m - 1)).natAbs < 2 ^ 5000) : c_bernoulli [.int m] = some (.d (ber m (zz (m - 1)))) := by
  have hg := zig_ok (n := m - 1) (by omega)
  have e : ((m - 1 : Nat) : Int) = (m : Int) - 1 := by omega
  rw [e] at hg
  exact bern_x c_bernoulli_from c_zigzag hg (bfrom_ok (by omega) hm hz) (by omega) (by omega)
theorem lbern_ok {m : Nat} (h1 : 2 ≤ m) (hm : m ≤ 200) (he : m % 2 = 0) {row : List D} {z : Int} (hz : z.natAbs < 2 ^ 5000) (hr : atI row ((m : Int) - 1) = some (.int z)) : c__law_bernoulli [.list row, .int m] = some (.d (ber m z)) := by
  have hb : (200 : Nat) < 2 ^ 300 := by decide +kernel
  exact lbern_x c__law_raised c__law_lowest (rais_ok (by omega)) (lowest_ok _ _ (botB_pos (by omega)) (botB_lt hm)) (cM_z (by omega) hz) (cM_z (by omega) hz) (cM_P hm) (by omega) (by omega) hr
/-- the facts of a place -/
structure NearF (n : Nat) (z odd : Int) (k d : Nat) : Prop where
  zp : 0 < z
  zl : z < 2 ^ 2000
  oo : odd = oddT n z
  o2 : odd % 2 = 1
  zd : ∃ m : Int, z = m * 2 ^ d ∧ m % 2 = 1
  nk : ∃ m : Int, (n : Int) = m * 2 ^ k ∧ m % 2 = 1
  kd : d = 2 * n - 2 - k
  kl : k + 2 ≤ 2 * n
  k10 : k < 10
  ob : odd * berB (2 * n) z = 2 * (1 - 2 ^ (2 * n)) * berT (2 * n) z
theorem tz_len : tz.length = 201 := by decide +kernel
theorem near_f {n : Nat} (h1 : 1 ≤ n) (h2 : n ≤ 100) : ∃ odd k d, NearF n (zz (2 * n - 1)) odd k d := by
  have h := range_all near_all (i := n - 1) (by omega)
  have e1 : n - 1 + 1 = n := by omega
  have e2 : 2 * (n - 1) + 1 = 2 * n - 1 := by omega
  rw [e1, e2] at h
  have ht : tz[2 * n - 1]? = some (tzD (2 * n - 1)) := by
    unfold tzD
    rw [List.getD_eq_getElem?_getD, List.getElem?_eq_getElem (by rw [tz_len]; omega)]
    rfl
  have hz := zz_tab ht
  rw [hz]
  generalize tzD (2 * n - 1) = t at h
  unfold nearOK at h
  simp only [Bool.and_eq_true, decide_eq_true_eq] at h
  obtain ⟨⟨⟨⟨⟨⟨⟨⟨⟨a1, a2⟩, a3⟩, a4⟩, a5⟩, a6⟩, a7⟩, a8⟩, a9⟩, a10⟩ := h
  refine ⟨oddT n t, v2f 10 n, 2 * n - 2 - v2f 10 n, ?_⟩
  refine ⟨by show 0 < (t : Int); omega, ?_, rfl, a3, ⟨_, a4, a5⟩, ⟨_, a6, a7⟩, rfl, a8, a9, a10⟩
  show (t : Int) < 2 ^ 2000
  have := Int.ofNat_lt.mpr a2
  rw [Int.natCast_pow] at this
  exact this
theorem div_abs (a : Int) {b : Int} {N : Nat} (h : a.natAbs < 2 ^ N) : (a / b).natAbs < 2 ^ N := Nat.lt_of_le_of_lt (Int.natAbs_ediv_le_natAbs a b) h
theorem mul_abs {a b : Int} {m n : Nat} (ha : a.natAbs < 2 ^ m) (hb : b.natAbs < 2 ^ n) : (a * b).natAbs < 2 ^ (m + n) := by
  rw [Int.natAbs_mul, Nat.pow_add]
  exact Nat.mul_lt_mul'' ha hb
theorem topB_abs {m : Nat} (hm : m ≤ 200) {z : Int} (hz : z.natAbs < 2 ^ 2000) : (topB m z).natAbs < 2 ^ (8 + 2000) := by
  have h := mul_abs (a := m) (m := 8) (show (m : Int).natAbs < 2 ^ 8 by omega) hz
  unfold topB
  split
  · rw [Int.natAbs_neg]; exact h
  · exact h
theorem ber_same (m : Nat) (z : Int) : pairOk (.tuple [ber m z, ber m z]) = true := by
  unfold ber low
  simp [pairOk, sameD, all2]
theorem gen_ok {m : Nat} (h1 : 2 ≤ m) (hm : m ≤ 200) (he : m % 2 = 0) (hz : (zz (m - 1)).natAbs < 2 ^ 2000) (odd : Int) (ho : odd * berB m (zz (m - 1)) = 2 * (1 - 2 ^ m) * berT m (zz (m - 1))) : c_genocchi [.int m] = some (.d (.int odd)) := by
  have hp := p200 hm
  have hq := p1 m
  have hb0 := botB_pos (m := m) (by omega)
  have hg := gcdI_pos (a := topB m (zz (m - 1))) hb0
  have hdv : (gcdI (topB m (zz (m - 1))) (botB m)) ∣ botB m := by
    unfold gcdI
    exact Int.ofNat_dvd_left.mpr (Nat.gcd_dvd_right _ _)
  have hb1 : 0 < berB m (zz (m - 1)) := Int.ediv_pos_of_pos_of_dvd hb0 (by omega) hdv
  have hb2 : berB m (zz (m - 1)) < 2 ^ 490 := Int.lt_of_le_of_lt (Int.ediv_le_self _ (by omega)) (botB_lt hm)
  have q := gen_x (t := berT m (zz (m - 1))) (b := berB m (zz (m - 1))) c_bernoulli c_whole_power (bern_ok h1 hm he (Nat.lt_trans hz (Nat.pow_lt_pow_right (by decide) (by decide)))) (wpow_ok (k := m) (by omega))
    (cMul_lt 2 201 (by decide) (by
      have : ((1 : Int) - 2 ^ m).natAbs = ((2 : Int) ^ m - 1).natAbs := by omega
      rw [this]; exact abs_lt (by omega) (by omega)))
    (cMul_lt 203 2008 (by
      have : ((2 : Int) * (1 - 2 ^ m)).natAbs = (2 * ((2 : Int) ^ m - 1)).natAbs := by omega
      rw [this]; exact abs_lt (by omega) (by omega)) (div_abs _ (topB_abs hm hz)))
    (cDiv_lt 490 hb1 hb2)
  rw [← ho, Int.mul_ediv_cancel _ (by omega)] at q
  exact q
theorem near_run {row : List D} {n z P t b odd side deep k : Int} {num o1 o2 o3 o4 o5 : D} (hnum : num = .tuple [.int t, .int b])
    (hm : cMul 2 n = true) (hz : atI row (2 * n - 1) = some (.int z)) (hF : c__law_raised [.int 2, .int (2 * n)] = some (.d (.int P))) (hB : c__law_bernoulli [.list row, .int (2 * n)] = some (.d num))
    (hs : side = if n % 2 = 1 then -1 else 1) (c1 : cMul side 2 = true) (c2 : cMul (side * 2) n = true) (c3 : cMul (side * 2 * n) z = true) (c4 : cDiv P 2 = true) (c5 : cDiv (side * 2 * n * z) (P / 2) = true) (ho : side * 2 * n * z / (P / 2) = odd)
    (hk : c__law_height [.int n, .int 2] = some (.d (.int k))) (hd : 2 * n - 2 - k = deep) (h1 : odd % 2 = 1) (hd2 : c__law_height [.int z, .int 2] = some (.d (.int deep))) (c6 : cMul odd b = true) (c7 : cMul 2 (1 - P) = true) (c8 : cMul (2 * (1 - P)) t = true) (h5 : odd * b = 2 * (1 - P) * t)
    (a1 : c_odd_height [.int n] = some (.d o1)) (a2 : c_zigzag [.int (2 * n - 1)] = some (.d o2)) (a3 : c_height [.int z, .int 2] = some (.d o3)) (a4 : c_genocchi [.int (2 * n)] = some (.d o4)) (a5 : c_bernoulli [.int (2 * n)] = some (.d o5)) :
    c__law_near_pairs [.list row, .int n] = some (.own ([.tuple [o1, .int deep], .tuple [o2, .int z], .tuple [o3, .int deep]] ++ [.tuple [o4, .int odd], .tuple [o5, num]])) := by
  have e0 : startE 9 (List.map W.d [PyData.list row, PyData.int n]) = [some (.d (.list row)), some (.d (.int n)), none, none, none, none, none, none, none] := rfl
  show runP 9 m__law_near_pairs _ = _
  rw [runP, e0]
  unfold m__law_near_pairs
  rw [mSeq, np1 c__law_raised hm hz hF]
  simp only []
  rw [mSeq, np2 c__law_bernoulli hm hB]
  simp only []
  rw [mSeq, np3]
  simp only []
  rw [← hs, mSeq, np4 c1 c2 c3 c4 c5, ho]
  simp only []
  rw [mSeq, np5 c__law_height hm hk, hd]
  simp only []
  subst hnum
  rw [mSeq, np6 c__law_height h1 hd2 c6 c7 c8 h5]
  simp only []
  rw [mSeq, np7 c_odd_height c_zigzag c_height hm a1 a2 a3]
  simp only []
  rw [np8 c_genocchi c_bernoulli rfl hm a4 a5]
  all_goals exact PyData.none
theorem near_ok {n : Nat} (h1 : 1 ≤ n) (h2 : n ≤ 100) {row : List D} (hrow : row = ((List.range 201).map zz).map .int) : ∃ ps, c__law_near_pairs [.list row, .int n] = some (.own ps) ∧ ps.all pairOk = true ∧ ps.length = 5 ∧ noLs ps = true := by
  obtain ⟨odd, k, d, f⟩ := near_f h1 h2
  generalize hZ : zz (2 * n - 1) = z at f
  have hp := p200 (m := 2 * n) (by omega)
  have hq := p1 (2 * n)
  have hq2 : (2 : Int) ^ 2 ≤ 2 ^ (2 * n) := pow_mono 2 (by decide) (by omega)
  have hza : z.natAbs < 2 ^ 2000 := abs_lt (by have := f.zp; omega) f.zl
  have hza5 : z.natAbs < 2 ^ 5000 := Nat.lt_trans hza (Nat.pow_lt_pow_right (by decide) (by decide))
  have ec : ((2 * n : Nat) : Int) = 2 * (n : Int) := by omega
  have ec1 : ((2 * n - 1 : Nat) : Int) = 2 * (n : Int) - 1 := by omega
  have hm : cMul 2 (n : Int) = true := cMul_lt 2 7 (by decide) (by omega)
  have hz : atI row (2 * (n : Int) - 1) = some (.int z) := by
    rw [← ec1, hrow]
    refine atI_nat ?_
    rw [List.getElem?_map, List.getElem?_map, List.getElem?_range (by omega), ← hZ]
    rfl
  have hF := rais_ok (k := 2 * n) (by omega)
  rw [ec] at hF
  have hB := lbern_ok (m := 2 * n) (by omega) (by omega) (by omega) (row := row) hza5 (by rw [ec]; exact hz)
  rw [ec] at hB
  obtain ⟨mn, en, on⟩ := f.nk
  obtain ⟨mz, ez, oz⟩ := f.zd
  have hk := lh_ok mn on (k := k) (by have := f.k10; omega)
  have hd2 := lh_ok mz oz (k := d) (by have := f.kd; omega)
  have a1 := oh_ok mn on (k := k) (by have := f.k10; omega) (by rw [← en]; exact hm)
  have a3 := hh_ok mz oz (k := d) (by have := f.kd; omega)
  rw [← en] at hk a1
  rw [← ez] at hd2 a3
  have edd : 2 * (n : Int) - 2 - (k : Int) = (d : Int) := by have := f.kd; have := f.kl; omega
  rw [edd] at a1
  have a2 := zig_ok (n := 2 * n - 1) (by omega)
  rw [ec1, hZ] at a2
  have a4 := gen_ok (m := 2 * n) (by omega) (by omega) (by omega) (by rw [hZ]; exact hza) odd (by rw [hZ]; exact f.ob)
  rw [ec] at a4
  have a5 := bern_ok (m := 2 * n) (by omega) (by omega) (by omega) (by rw [hZ]; exact hza5)
  rw [ec, hZ] at a5
  have hside : (if (n : Int) % 2 = 1 then (-1 : Int) else 1) = (if n % 2 = 1 then (-1 : Int) else 1) := by
    by_cases c : n % 2 = 1
    · rw [if_pos c, if_pos (by omega)]
    · rw [if_neg c, if_neg (by omega)]
  have hsa : (if n % 2 = 1 then (-1 : Int) else 1).natAbs < 2 ^ 1 := by split <;> decide
  have s2 := mul_abs hsa (show (2 : Int).natAbs < 2 ^ 2 by decide)
  have s3 := mul_abs s2 (show (n : Int).natAbs < 2 ^ 7 by omega)
  have s4 := mul_abs s3 hza
  have hodd : odd.natAbs < 2 ^ (1 + 2 + 7 + 2000) := by rw [f.oo]; exact div_abs _ s4
  have hta : (berT (2 * n) z).natAbs < 2 ^ (8 + 2000) := div_abs _ (topB_abs (by omega) hza)
  have hba : (berB (2 * n) z).natAbs < 2 ^ 490 := div_abs _ (abs_lt (Int.le_of_lt (botB_pos (by omega))) (botB_lt (by omega)))
  have hP1 : ((1 : Int) - 2 ^ (2 * n)).natAbs < 2 ^ 201 := by
    have : ((1 : Int) - 2 ^ (2 * n)).natAbs = ((2 : Int) ^ (2 * n) - 1).natAbs := by omega
    rw [this]; exact abs_lt (by omega) (by omega)
  have hP2 := mul_abs (show (2 : Int).natAbs < 2 ^ 2 by decide) hP1
  have q := near_run (row := row) (n := n) (z := z) (P := 2 ^ (2 * n)) (t := berT (2 * n) z) (b := berB (2 * n) z) (odd := odd) (side := if n % 2 = 1 then -1 else 1) (deep := d) (k := k) (num := ber (2 * n) z) rfl hm hz hF hB hside.symm
    (cMul_lt 1 2 hsa (by decide)) (cMul_lt (1 + 2) 7 s2 (by omega)) (cMul_lt (1 + 2 + 7) 2000 s3 hza) (cDiv_lt 2 (by decide) (by decide)) (cDiv_lt 200 (by omega) (by omega)) f.oo.symm hk edd f.o2 hd2
    (cMul_lt (1 + 2 + 7 + 2000) 490 hodd hba) (cMul_lt 2 201 (by decide) hP1) (cMul_lt (2 + 201) (8 + 2000) hP2 hta) f.ob a1 a2 a3 a4 a5
  refine ⟨_, q, ?_, rfl, ?_⟩
  · have b1 := pair_int (d : Int)
    have b2 := pair_int z
    have b3 := pair_int odd
    have b4 := ber_same (2 * n) z
    simp only [List.cons_append, List.nil_append, List.all_cons, List.all_nil, b1, b2, b3, b4, Bool.and_self]
  · unfold ber low
    rfl
theorem of_ok {cs : List Int} {mix : Int} {xs : List D} (hs : Src (.src cs [mix])) (h0 : 0 < xs.length) (h1 : xs.length ≤ 1000) : ∃ d cs' mix', c__law_of (.src cs [mix]) [.list xs] = some (.d d, .src cs' [mix']) ∧ d ∈ xs ∧ Src (.src cs' [mix']) := by
  obtain ⟨r, cs1, mix1, h2, h3, h4, hs1⟩ := any_ok' (b := (xs.length : Int)) hs (by omega) (small9000 (by omega))
  have hr : r.toNat < xs.length := by omega
  have hx : xs[r.toNat]? = some xs[r.toNat] := List.getElem?_eq_getElem hr
  have ha := atI_nat hx
  rw [Int.toNat_of_nonneg h3] at ha
  refine ⟨xs[r.toNat], cs1, mix1, ?_, List.getElem_mem hr, hs1⟩
  generalize xs[r.toNat] = d at ha
  show runM 2 m__law_of _ _ = _
  unfold m__law_of
  simp [mSeq, mAsg, mFv, fz, mBin, cont, mVar, mC, mUn, mCons, mNil, mCall, conts, mTup, mLst, dsOf, dOf, mFz, mFt, mSkip, mRet, mIfS, mTest, mTruth, truD, mNot, mAnd, mOr, mAndV, mOrV, mNotV, mIf, mYes, mExpr, mBreak, mCont, gNm, gsNil, gsCons, gTupD, mItems, mFor, mMeth, mPop, mSetIx, ownAt, gApp, mPar, wsOf, setAll, mAug, mAugAdd, mAugSub, gSub, gFdiv, gMod, gPow, gShl, gShr, gAnd, gLt, gLe, gGt, gGe, gI, gAdd, gMul, gNeg, gLen, gAbs, gInt, gIx, gRev, gEq, gNe, gIs1, mReg, mSetReg, mSrcNe, mSrcLast, mSrcPop, mSrcPut, srcAt, mSl, mNoPart, mPart, gSl, mCallP, mCallM, argsOf, slotW, notD, noLW, mRange1, mRange2, mRange3, mEnum, mZip, mChain, runP, runM, startE, fin0, lenLine, wipeE, restE, plainAt, List.getElem?_cons_zero, List.getElem?_cons_succ, List.set_cons_zero, List.set_cons_succ, List.map_cons, List.map_nil, List.length_cons, List.length_nil, List.replicate, List.cons_append, List.nil_append, List.isEmpty_nil, List.all_cons, List.all_nil, h2, ha]
def L8 : ME := (mLst (mCons (mFz (mC (.int 1))) (mCons (mFz (mC (.int 2))) (mCons (mFz (mC (.int 3))) (mCons (mFz (mC (.int 32))) (mCons (mFz (mC (.int 64))) (mCons (mFz (mC (.int 96))) (mCons (mFz (mC (.int 99))) (mCons (mFz (mC (.int 100))) mNil)))))))))
def D8 : List D := [.int 1, .int 2, .int 3, .int 32, .int 64, .int 96, .int 99, .int 100]
theorem L8_e (env : Env) : L8 env = some (.val (.own D8), env) := by
  unfold L8 D8
  simp [mSeq, mAsg, mFv, fz, mBin, cont, mVar, mC, mUn, mCons, mNil, mCall, conts, mTup, mLst, dsOf, dOf, mFz, mFt, mSkip, mRet, mIfS, mTest, mTruth, truD, mNot, mAnd, mOr, mAndV, mOrV, mNotV, mIf, mYes, mExpr, mBreak, mCont, gNm, gsNil, gsCons, gTupD, mItems, mFor, mMeth, mPop, mSetIx, ownAt, gApp, mPar, wsOf, setAll, mAug, mAugAdd, mAugSub, gSub, gFdiv, gMod, gPow, gShl, gShr, gAnd, gLt, gLe, gGt, gGe, gI, gAdd, gMul, gNeg, gLen, gAbs, gInt, gIx, gRev, gEq, gNe, gIs1, mReg, mSetReg, mSrcNe, mSrcLast, mSrcPop, mSrcPut, srcAt, mSl, mNoPart, mPart, gSl, mCallP, mCallM, argsOf, slotW, notD, noLW, mRange1, mRange2, mRange3, mEnum, mZip, mChain, runP, runM, startE, fin0, lenLine, wipeE, restE, plainAt, List.getElem?_cons_zero, List.getElem?_cons_succ, List.set_cons_zero, List.set_cons_succ, List.map_cons, List.map_nil, List.length_cons, List.length_nil, List.replicate, List.cons_append, List.nil_append, List.isEmpty_nil, List.all_cons, List.all_nil]
theorem lw_x (F : FM) {L : ME} {ds : List D} (hL : ∀ env, L env = some (.val (.own ds), env)) {cs cs1 cs2 cs3 : List Int} {mix mix1 mix2 mix3 r1 r3 b : Int} {x0 x2 x3 x4 x5 x6 x7 : Option W} (h1 : c__law_any (.src cs [mix]) [.int 100] = some (.d (.int r1), .src cs1 [mix1])) (h2 : F (.src cs1 [mix1]) [.list ds] = some (.d (.int b), .src cs2 [mix2])) (h3 : c__law_any (.src cs2 [mix2]) [.int 9] = some (.d (.int r3), .src cs3 [mix3])) :
    mItems (mLst (mCons (mFz (mBin gAdd (mC (.int 1)) (mCallM c__law_any 2 (mCons (mVar 1) (mCons (mFt (mC (.int 100))) mNil))))) (mCons (mFz (mCallM F 2 (mCons (mVar 1) (mCons (mFt L) mNil)))) (mCons (mFz (mBin gAdd (mC (.int 1)) (mCallM c__law_any 2 (mCons (mVar 1) (mCons (mFt (mC (.int 9))) mNil))))) mNil)))) [x0, some (.src cs [mix]), x2, x3, x4, x5, x6, x7] = some ([.int (1 + r1), .int b, .int (1 + r3)], [x0, some (.src cs3 [mix3]), x2, x3, x4, x5, x6, x7]) := by
  simp [mSeq, mAsg, mFv, fz, mBin, cont, mVar, mC, mUn, mCons, mNil, mCall, conts, mTup, mLst, dsOf, dOf, mFz, mFt, mSkip, mRet, mIfS, mTest, mTruth, truD, mNot, mAnd, mOr, mAndV, mOrV, mNotV, mIf, mYes, mExpr, mBreak, mCont, gNm, gsNil, gsCons, gTupD, mItems, mFor, mMeth, mPop, mSetIx, ownAt, gApp, mPar, wsOf, setAll, mAug, mAugAdd, mAugSub, gSub, gFdiv, gMod, gPow, gShl, gShr, gAnd, gLt, gLe, gGt, gGe, gI, gAdd, gMul, gNeg, gLen, gAbs, gInt, gIx, gRev, gEq, gNe, gIs1, mReg, mSetReg, mSrcNe, mSrcLast, mSrcPop, mSrcPut, srcAt, mSl, mNoPart, mPart, gSl, mCallP, mCallM, argsOf, slotW, notD, noLW, mRange1, mRange2, mRange3, mEnum, mZip, mChain, runP, runM, startE, fin0, lenLine, wipeE, restE, plainAt, List.getElem?_cons_zero, List.getElem?_cons_succ, List.set_cons_zero, List.set_cons_succ, List.map_cons, List.map_nil, List.length_cons, List.length_nil, List.replicate, List.cons_append, List.nil_append, List.isEmpty_nil, List.all_cons, List.all_nil, h1, h2, h3, hL]
theorem lb1 (F : FP) {x0 x1 x5 x6 x7 : Option W} {R qs ps : List D} {n : D} (h : F [.list R, n] = some (.own ps)) (hn : noLs ps = true) (hl : qs.length + ps.length ≤ 16000000) : mAsg 3 (mBin gAdd (mVar 3) (mCallP F 2 (mCons (mFt (mVar 2)) (mCons (mFt (mVar 4)) mNil)))) [x0, x1, some (.own R), some (.own qs), some (.d n), x5, x6, x7] = some (.nx, [x0, x1, some (.own R), some (.own (qs ++ ps)), some (.d n), x5, x6, x7]) := by
  simp [mSeq, mAsg, mFv, fz, mBin, cont, mVar, mC, mUn, mCons, mNil, mCall, conts, mTup, mLst, dsOf, dOf, mFz, mFt, mSkip, mRet, mIfS, mTest, mTruth, truD, mNot, mAnd, mOr, mAndV, mOrV, mNotV, mIf, mYes, mExpr, mBreak, mCont, gNm, gsNil, gsCons, gTupD, mItems, mFor, mMeth, mPop, mSetIx, ownAt, gApp, mPar, wsOf, setAll, mAug, mAugAdd, mAugSub, gSub, gFdiv, gMod, gPow, gShl, gShr, gAnd, gLt, gLe, gGt, gGe, gI, gAdd, gMul, gNeg, gLen, gAbs, gInt, gIx, gRev, gEq, gNe, gIs1, mReg, mSetReg, mSrcNe, mSrcLast, mSrcPop, mSrcPut, srcAt, mSl, mNoPart, mPart, gSl, mCallP, mCallM, argsOf, slotW, notD, noLW, mRange1, mRange2, mRange3, mEnum, mZip, mChain, runP, runM, startE, fin0, lenLine, wipeE, restE, plainAt, List.getElem?_cons_zero, List.getElem?_cons_succ, List.set_cons_zero, List.set_cons_succ, List.map_cons, List.map_nil, List.length_cons, List.length_nil, List.replicate, List.cons_append, List.nil_append, List.isEmpty_nil, List.all_cons, List.all_nil, h, hn, hl]
section
variable {x0 x2 x3 x4 x5 x6 x7 : Option W} {cs cs' : List Int} {mix mix' n k due other : Int}
theorem lt1 (F : FM) (h : F (.src cs [mix]) [] = some (.d (.int n), .src cs' [mix'])) : mAsg 4 (mCallM F 1 (mCons (mVar 1) mNil)) [x0, some (.src cs [mix]), x2, x3, x4, x5, x6, x7] = some (.nx, [x0, some (.src cs' [mix']), x2, x3, some (.d (.int n)), x5, x6, x7]) := by
  simp [mSeq, mAsg, mFv, fz, mBin, cont, mVar, mC, mUn, mCons, mNil, mCall, conts, mTup, mLst, dsOf, dOf, mFz, mFt, mSkip, mRet, mIfS, mTest, mTruth, truD, mNot, mAnd, mOr, mAndV, mOrV, mNotV, mIf, mYes, mExpr, mBreak, mCont, gNm, gsNil, gsCons, gTupD, mItems, mFor, mMeth, mPop, mSetIx, ownAt, gApp, mPar, wsOf, setAll, mAug, mAugAdd, mAugSub, gSub, gFdiv, gMod, gPow, gShl, gShr, gAnd, gLt, gLe, gGt, gGe, gI, gAdd, gMul, gNeg, gLen, gAbs, gInt, gIx, gRev, gEq, gNe, gIs1, mReg, mSetReg, mSrcNe, mSrcLast, mSrcPop, mSrcPut, srcAt, mSl, mNoPart, mPart, gSl, mCallP, mCallM, argsOf, slotW, notD, noLW, mRange1, mRange2, mRange3, mEnum, mZip, mChain, runP, runM, startE, fin0, lenLine, wipeE, restE, plainAt, List.getElem?_cons_zero, List.getElem?_cons_succ, List.set_cons_zero, List.set_cons_succ, List.map_cons, List.map_nil, List.length_cons, List.length_nil, List.replicate, List.cons_append, List.nil_append, List.isEmpty_nil, List.all_cons, List.all_nil, h]
theorem lt2 (F : FP) (hm : cMul 2 n = true) (h : F [.int n, .int 2] = some (.d (.int k))) : mAsg 6 (mBin gSub (mBin gSub (mBin gMul (mC (.int 2)) (mVar 4)) (mC (.int 2))) (mCallP F 2 (mCons (mFt (mVar 4)) (mCons (mFt (mC (.int 2))) mNil)))) [x0, some (.src cs [mix]), x2, x3, some (.d (.int n)), x5, x6, x7] = some (.nx, [x0, some (.src cs [mix]), x2, x3, some (.d (.int n)), x5, some (.d (.int (2 * n - 2 - k))), x7]) := by
  simp [mSeq, mAsg, mFv, fz, mBin, cont, mVar, mC, mUn, mCons, mNil, mCall, conts, mTup, mLst, dsOf, dOf, mFz, mFt, mSkip, mRet, mIfS, mTest, mTruth, truD, mNot, mAnd, mOr, mAndV, mOrV, mNotV, mIf, mYes, mExpr, mBreak, mCont, gNm, gsNil, gsCons, gTupD, mItems, mFor, mMeth, mPop, mSetIx, ownAt, gApp, mPar, wsOf, setAll, mAug, mAugAdd, mAugSub, gSub, gFdiv, gMod, gPow, gShl, gShr, gAnd, gLt, gLe, gGt, gGe, gI, gAdd, gMul, gNeg, gLen, gAbs, gInt, gIx, gRev, gEq, gNe, gIs1, mReg, mSetReg, mSrcNe, mSrcLast, mSrcPop, mSrcPut, srcAt, mSl, mNoPart, mPart, gSl, mCallP, mCallM, argsOf, slotW, notD, noLW, mRange1, mRange2, mRange3, mEnum, mZip, mChain, runP, runM, startE, fin0, lenLine, wipeE, restE, plainAt, List.getElem?_cons_zero, List.getElem?_cons_succ, List.set_cons_zero, List.set_cons_succ, List.map_cons, List.map_nil, List.length_cons, List.length_nil, List.replicate, List.cons_append, List.nil_append, List.isEmpty_nil, List.all_cons, List.all_nil, hm, h]
theorem lt3 (F : FP) {qs : List D} {o1 o2 : D} (hm : cMul 2 n = true) (h1 : F [.int n] = some (.d o1)) (h2 : F [.int (2 * n)] = some (.d o2)) (hl : qs.length + 3 ≤ 16000000) : mAsg 3 (mBin gAdd (mVar 3) (mLst (mCons (mFz (mTup (mCons (mFz (mCallP F 1 (mCons (mFt (mVar 4)) mNil))) (mCons (mFz (mVar 6)) mNil)))) (mCons (mFz (mTup (mCons (mFz (mCallP F 1 (mCons (mFt (mBin gMul (mC (.int 2)) (mVar 4))) mNil))) (mCons (mFz (mBin gSub (mBin gAdd (mBin gMul (mC (.int 2)) (mVar 4)) (mVar 6)) (mC (.int 1)))) mNil)))) (mCons (mFz (mTup (mCons (mFz (mCallP (permΦ F [0]) (0 + 1) (mCons (mFt (mVar 4)) mNil))) (mCons (mFz (mVar 6)) mNil)))) mNil))))) [x0, some (.src cs [mix]), x2, some (.own qs), some (.d (.int n)), x5, some (.d (.int due)), x7] = some (.nx, [x0, some (.src cs [mix]), x2, some (.own (qs ++ [.tuple [o1, .int due], .tuple [o2, .int (2 * n + due - 1)], .tuple [o1, .int due]])), some (.d (.int n)), x5, some (.d (.int due)), x7]) := by
  simp [mSeq, mAsg, mFv, fz, mBin, cont, mVar, mC, mUn, mCons, mNil, mCall, conts, mTup, mLst, dsOf, dOf, mFz, mFt, mSkip, mRet, mIfS, mTest, mTruth, truD, mNot, mAnd, mOr, mAndV, mOrV, mNotV, mIf, mYes, mExpr, mBreak, mCont, gNm, gsNil, gsCons, gTupD, mItems, mFor, mMeth, mPop, mSetIx, ownAt, gApp, mPar, wsOf, setAll, mAug, mAugAdd, mAugSub, gSub, gFdiv, gMod, gPow, gShl, gShr, gAnd, gLt, gLe, gGt, gGe, gI, gAdd, gMul, gNeg, gLen, gAbs, gInt, gIx, gRev, gEq, gNe, gIs1, mReg, mSetReg, mSrcNe, mSrcLast, mSrcPop, mSrcPut, srcAt, mSl, mNoPart, mPart, gSl, mCallP, mCallM, argsOf, slotW, notD, noLW, mRange1, mRange2, mRange3, mEnum, mZip, mChain, runP, runM, startE, fin0, lenLine, wipeE, restE, plainAt, List.getElem?_cons_zero, List.getElem?_cons_succ, List.set_cons_zero, List.set_cons_succ, List.map_cons, List.map_nil, List.length_cons, List.length_nil, List.replicate, List.cons_append, List.nil_append, List.isEmpty_nil, List.all_cons, List.all_nil, hm, h1, h2, hl, permΦ, permD]
theorem lt4 {r : Int} (h : c__law_any (.src cs [mix]) [.int 1000] = some (.d (.int r), .src cs' [mix'])) (hm : cMul 2 r = true) : mAsg 7 (mBin gAdd (mBin gMul (mC (.int 2)) (mCallM c__law_any 2 (mCons (mVar 1) (mCons (mFt (mC (.int 1000))) mNil)))) (mC (.int 1))) [x0, some (.src cs [mix]), x2, x3, x4, x5, x6, x7] = some (.nx, [x0, some (.src cs' [mix']), x2, x3, x4, x5, x6, some (.d (.int (2 * r + 1)))]) := by
  simp [mSeq, mAsg, mFv, fz, mBin, cont, mVar, mC, mUn, mCons, mNil, mCall, conts, mTup, mLst, dsOf, dOf, mFz, mFt, mSkip, mRet, mIfS, mTest, mTruth, truD, mNot, mAnd, mOr, mAndV, mOrV, mNotV, mIf, mYes, mExpr, mBreak, mCont, gNm, gsNil, gsCons, gTupD, mItems, mFor, mMeth, mPop, mSetIx, ownAt, gApp, mPar, wsOf, setAll, mAug, mAugAdd, mAugSub, gSub, gFdiv, gMod, gPow, gShl, gShr, gAnd, gLt, gLe, gGt, gGe, gI, gAdd, gMul, gNeg, gLen, gAbs, gInt, gIx, gRev, gEq, gNe, gIs1, mReg, mSetReg, mSrcNe, mSrcLast, mSrcPop, mSrcPut, srcAt, mSl, mNoPart, mPart, gSl, mCallP, mCallM, argsOf, slotW, notD, noLW, mRange1, mRange2, mRange3, mEnum, mZip, mChain, runP, runM, startE, fin0, lenLine, wipeE, restE, plainAt, List.getElem?_cons_zero, List.getElem?_cons_succ, List.set_cons_zero, List.set_cons_succ, List.map_cons, List.map_nil, List.length_cons, List.length_nil, List.replicate, List.cons_append, List.nil_append, List.isEmpty_nil, List.all_cons, List.all_nil, h, hm]
theorem lt5 (F G : FP) {qs : List D} {o : D} (hm : cMul 2 n = true) (hm2 : cMul n other = true) (hm3 : cMul (2 * n) other = true) (h1 : F [.int (n * other)] = some (.d o)) (h2 : G [.int n, .int 2] = some (.d (.int k))) (hl : qs.length < 16000000) : mExpr (mMeth 3 gApp (mCons (mFz (mTup (mCons (mFz (mCallP F 1 (mCons (mFt (mBin gMul (mVar 4) (mVar 7))) mNil))) (mCons (mFz (mBin gSub (mBin gSub (mBin gMul (mBin gMul (mC (.int 2)) (mVar 4)) (mVar 7)) (mC (.int 2))) (mCallP G 2 (mCons (mFt (mVar 4)) (mCons (mFt (mC (.int 2))) mNil))))) mNil)))) mNil)) [x0, some (.src cs [mix]), x2, some (.own qs), some (.d (.int n)), x5, x6, some (.d (.int other))] = some (.nx, [x0, some (.src cs [mix]), x2, some (.own (qs ++ [.tuple [o, .int (2 * n * other - 2 - k)]])), some (.d (.int n)), x5, x6, some (.d (.int other))]) := by
  simp [mSeq, mAsg, mFv, fz, mBin, cont, mVar, mC, mUn, mCons, mNil, mCall, conts, mTup, mLst, dsOf, dOf, mFz, mFt, mSkip, mRet, mIfS, mTest, mTruth, truD, mNot, mAnd, mOr, mAndV, mOrV, mNotV, mIf, mYes, mExpr, mBreak, mCont, gNm, gsNil, gsCons, gTupD, mItems, mFor, mMeth, mPop, mSetIx, ownAt, gApp, mPar, wsOf, setAll, mAug, mAugAdd, mAugSub, gSub, gFdiv, gMod, gPow, gShl, gShr, gAnd, gLt, gLe, gGt, gGe, gI, gAdd, gMul, gNeg, gLen, gAbs, gInt, gIx, gRev, gEq, gNe, gIs1, mReg, mSetReg, mSrcNe, mSrcLast, mSrcPop, mSrcPut, srcAt, mSl, mNoPart, mPart, gSl, mCallP, mCallM, argsOf, slotW, notD, noLW, mRange1, mRange2, mRange3, mEnum, mZip, mChain, runP, runM, startE, fin0, lenLine, wipeE, restE, plainAt, List.getElem?_cons_zero, List.getElem?_cons_succ, List.set_cons_zero, List.set_cons_succ, List.map_cons, List.map_nil, List.length_cons, List.length_nil, List.replicate, List.cons_append, List.nil_append, List.isEmpty_nil, List.all_cons, List.all_nil, hm, hm2, hm3, h1, h2, hl]
theorem lt6 (F : FP) {qs : List D} (h : F [.list qs] = some (.d (.bool true))) : mRet false (mCallP F 1 (mCons (mFt (mVar 3)) mNil)) [x0, some (.src cs [mix]), x2, some (.own qs), x4, x5, x6, x7] = some (.rt (.d (.bool true)), [x0, some (.src cs [mix]), x2, some (.own qs), x4, x5, x6, x7]) := by
  simp [mSeq, mAsg, mFv, fz, mBin, cont, mVar, mC, mUn, mCons, mNil, mCall, conts, mTup, mLst, dsOf, dOf, mFz, mFt, mSkip, mRet, mIfS, mTest, mTruth, truD, mNot, mAnd, mOr, mAndV, mOrV, mNotV, mIf, mYes, mExpr, mBreak, mCont, gNm, gsNil, gsCons, gTupD, mItems, mFor, mMeth, mPop, mSetIx, ownAt, gApp, mPar, wsOf, setAll, mAug, mAugAdd, mAugSub, gSub, gFdiv, gMod, gPow, gShl, gShr, gAnd, gLt, gLe, gGt, gGe, gI, gAdd, gMul, gNeg, gLen, gAbs, gInt, gIx, gRev, gEq, gNe, gIs1, mReg, mSetReg, mSrcNe, mSrcLast, mSrcPop, mSrcPut, srcAt, mSl, mNoPart, mPart, gSl, mCallP, mCallM, argsOf, slotW, notD, noLW, mRange1, mRange2, mRange3, mEnum, mZip, mChain, runP, runM, startE, fin0, lenLine, wipeE, restE, plainAt, List.getElem?_cons_zero, List.getElem?_cons_succ, List.set_cons_zero, List.set_cons_succ, List.map_cons, List.map_nil, List.length_cons, List.length_nil, List.replicate, List.cons_append, List.nil_append, List.isEmpty_nil, List.all_cons, List.all_nil, h, noL]
theorem lt0 (F : FP) {R : List D} (h : F [.int 200] = some (.own R)) : mPar [2, 3] (mCons (mFv (mCallP F 1 (mCons (mFt (mC (.int 200))) mNil))) (mCons (mFv (mLst mNil)) mNil)) [x0, some (.src cs [mix]), x2, x3, x4, x5, x6, x7] = some (.nx, [x0, some (.src cs [mix]), some (.own R), some (.own []), x4, x5, x6, x7]) := by
  simp [mSeq, mAsg, mFv, fz, mBin, cont, mVar, mC, mUn, mCons, mNil, mCall, conts, mTup, mLst, dsOf, dOf, mFz, mFt, mSkip, mRet, mIfS, mTest, mTruth, truD, mNot, mAnd, mOr, mAndV, mOrV, mNotV, mIf, mYes, mExpr, mBreak, mCont, gNm, gsNil, gsCons, gTupD, mItems, mFor, mMeth, mPop, mSetIx, ownAt, gApp, mPar, wsOf, setAll, mAug, mAugAdd, mAugSub, gSub, gFdiv, gMod, gPow, gShl, gShr, gAnd, gLt, gLe, gGt, gGe, gI, gAdd, gMul, gNeg, gLen, gAbs, gInt, gIx, gRev, gEq, gNe, gIs1, mReg, mSetReg, mSrcNe, mSrcLast, mSrcPop, mSrcPut, srcAt, mSl, mNoPart, mPart, gSl, mCallP, mCallM, argsOf, slotW, notD, noLW, mRange1, mRange2, mRange3, mEnum, mZip, mChain, runP, runM, startE, fin0, lenLine, wipeE, restE, plainAt, List.getElem?_cons_zero, List.getElem?_cons_succ, List.set_cons_zero, List.set_cons_succ, List.map_cons, List.map_nil, List.length_cons, List.length_nil, List.replicate, List.cons_append, List.nil_append, List.isEmpty_nil, List.all_cons, List.all_nil, h]
end
def B1 : MS := (mAsg 3 (mBin gAdd (mVar 3) (mCallP c__law_near_pairs 2 (mCons (mFt (mVar 2)) (mCons (mFt (mVar 4)) mNil)))))
def Rw : List D := ((List.range 201).map zz).map .int
theorem loop1 {x0 x1 x5 x6 x7 : Option W} {ns : List Nat} (hns : ∀ n ∈ ns, 1 ≤ n ∧ n ≤ 100) (hl : ns.length ≤ 100) (x4 : Option W) : ∃ qs x4', forM' (gNm 4) B1 (ns.map fun n : Nat => PyData.int n) [x0, x1, some (.own Rw), some (.own []), x4, x5, x6, x7] = some (.nx, [x0, x1, some (.own Rw), some (.own qs), x4', x5, x6, x7]) ∧ qs.all pairOk = true ∧ qs.length = 5 * ns.length := by
  have q := for_at (g := gNm 4) (b := B1) (fun n : Nat => PyData.int n) (fun (s : List D × Option W) => [x0, x1, some (.own Rw), some (.own s.1), s.2, x5, x6, x7]) (fun j s => s.1.all pairOk = true ∧ s.1.length = 5 * j) ns ([], x4) ⟨rfl, rfl⟩ (fun j n s ha ⟨h1, h2⟩ => by
    have hj := (List.getElem?_eq_some_iff.mp ha).1
    obtain ⟨n1, n2⟩ := hns n (List.mem_of_getElem? ha)
    obtain ⟨ps, p1, p2, p3, p4⟩ := near_ok n1 n2 (row := Rw) rfl
    refine ⟨(s.1 ++ ps, some (.d (.int n))), ⟨?_, ?_⟩, [x0, x1, some (.own Rw), some (.own s.1), some (.d (.int n)), x5, x6, x7], rfl, ?_⟩
    · show (s.1 ++ ps).all pairOk = true
      rw [List.all_append, h1, p2]; rfl
    · show (s.1 ++ ps).length = _
      rw [List.length_append, h2, p3]; omega
    · exact lb1 c__law_near_pairs p1 p4 (by rw [h2, p3]; omega))
  obtain ⟨s, h1, h2, h3⟩ := q
  exact ⟨s.1, s.2, h1, h2, h3⟩
def B2 : MS := (mSeq (mAsg 4 (mCallM c__law_place 1 (mCons (mVar 1) mNil)))
    (mSeq (mAsg 6 (mBin gSub (mBin gSub (mBin gMul (mC (.int 2)) (mVar 4)) (mC (.int 2))) (mCallP c__law_height 2 (mCons (mFt (mVar 4)) (mCons (mFt (mC (.int 2))) mNil)))))
    (mSeq (mAsg 3 (mBin gAdd (mVar 3) (mLst (mCons (mFz (mTup (mCons (mFz (mCallP c_odd_height 1 (mCons (mFt (mVar 4)) mNil))) (mCons (mFz (mVar 6)) mNil)))) (mCons (mFz (mTup (mCons (mFz (mCallP c_odd_height 1 (mCons (mFt (mBin gMul (mC (.int 2)) (mVar 4))) mNil))) (mCons (mFz (mBin gSub (mBin gAdd (mBin gMul (mC (.int 2)) (mVar 4)) (mVar 6)) (mC (.int 1)))) mNil)))) (mCons (mFz (mTup (mCons (mFz (mCallP (permΦ c_odd_height [0]) (0 + 1) (mCons (mFt (mVar 4)) mNil))) (mCons (mFz (mVar 6)) mNil)))) mNil))))))
    (mSeq (mAsg 7 (mBin gAdd (mBin gMul (mC (.int 2)) (mCallM c__law_any 2 (mCons (mVar 1) (mCons (mFt (mC (.int 1000))) mNil)))) (mC (.int 1))))
    (mExpr (mMeth 3 gApp (mCons (mFz (mTup (mCons (mFz (mCallP c_odd_height 1 (mCons (mFt (mBin gMul (mVar 4) (mVar 7))) mNil))) (mCons (mFz (mBin gSub (mBin gSub (mBin gMul (mBin gMul (mC (.int 2)) (mVar 4)) (mVar 7)) (mC (.int 2))) (mCallP c__law_height 2 (mCons (mFt (mVar 4)) (mCons (mFt (mC (.int 2))) mNil))))) mNil)))) mNil)))))))
theorem body2 {x0 x2 x4 x5 x6 x7 : Option W} {cs : List Int} {mix : Int} {qs : List D} (hs : Src (.src cs [mix])) (hq : qs.all pairOk = true) (hl : qs.length ≤ 1000) : ∃ cs' mix' qs' y4 y6 y7, B2 [x0, some (.src cs [mix]), x2, some (.own qs), x4, x5, x6, x7] = some (.nx, [x0, some (.src cs' [mix']), x2, some (.own qs'), y4, x5, y6, y7]) ∧ Src (.src cs' [mix']) ∧ qs'.all pairOk = true ∧ qs'.length = qs.length + 4 := by
  obtain ⟨n, cs1, mix1, h1, n0, n1, hs1⟩ := place_ok hs
  obtain ⟨r, cs2, mix2, h2, r0, r1, hs2⟩ := any_ok' (b := 1000) hs1 (by decide) (small9000 (by decide))
  obtain ⟨m, k, en, om, kl, m0⟩ := split_two 118 n n0 n1
  have na : n.natAbs < 2 ^ 118 := abs_lt (by omega) n1
  have ra : (2 * r + 1).natAbs < 2 ^ 12 := abs_lt (by omega) (by omega)
  have hm2 : cMul 2 n = true := cMul_lt 2 118 (by decide) na
  have n2a := mul_abs (show (2 : Int).natAbs < 2 ^ 2 by decide) na
  have nra := mul_abs na ra
  have hk := lh_ok m om (k := k) (by omega)
  have a1 := oh_ok m om (k := k) (by omega) (by rw [← en]; exact hm2)
  have e2 : m * 2 ^ (k + 1) = 2 * n := by rw [en, Int.pow_succ, ← Int.mul_assoc, Int.mul_comm]
  have a2 := oh_ok m om (k := k + 1) (by omega) (by rw [e2]; exact cMul_lt 2 120 (by decide) n2a)
  have om3 : (m * (2 * r + 1)) % 2 = 1 := by
    have : m * (2 * r + 1) = m + 2 * (m * r) := by rw [Int.mul_add, Int.mul_one, Int.mul_left_comm]; omega
    omega
  have e3 : (m * (2 * r + 1)) * 2 ^ k = n * (2 * r + 1) := by rw [en, Int.mul_assoc, Int.mul_comm (2 * r + 1), ← Int.mul_assoc]
  have a3 := oh_ok (m * (2 * r + 1)) om3 (k := k) (by omega) (by rw [e3]; exact cMul_lt 2 130 (by decide) nra)
  rw [e2] at a2
  rw [e3] at a3
  rw [← en] at hk a1
  have ed : 2 * n + (2 * n - 2 - (k : Int)) - 1 = 2 * (2 * n) - 2 - ((k + 1 : Nat) : Int) := by omega
  have ed2 : 2 * (n * (2 * r + 1)) - 2 - (k : Int) = 2 * n * (2 * r + 1) - 2 - k := by rw [Int.mul_assoc]
  have t1 := lt1 (x0 := x0) (x2 := x2) (x3 := some (.own qs)) (x4 := x4) (x5 := x5) (x6 := x6) (x7 := x7) c__law_place h1
  have t2 := lt2 (x0 := x0) (x2 := x2) (x3 := some (.own qs)) (x5 := x5) (x6 := x6) (x7 := x7) (cs := cs1) (mix := mix1) c__law_height hm2 hk
  have t3 := lt3 (x0 := x0) (x2 := x2) (x5 := x5) (x7 := x7) (cs := cs1) (mix := mix1) (due := 2 * n - 2 - k) (qs := qs) c_odd_height hm2 a1 a2 (by omega)
  have t4 := lt4 (x0 := x0) (x2 := x2) (x3 := some (.own (qs ++ [.tuple [.int (2 * n - 2 - k), .int (2 * n - 2 - k)], .tuple [.int (2 * (2 * n) - 2 - ((k + 1 : Nat) : Int)), .int (2 * n + (2 * n - 2 - k) - 1)], .tuple [.int (2 * n - 2 - k), .int (2 * n - 2 - k)]]))) (x4 := some (.d (.int n))) (x5 := x5) (x6 := some (.d (.int (2 * n - 2 - k)))) (x7 := x7) h2 (cMul_lt 2 10 (by decide) (by omega))
  have t5 := lt5 (x0 := x0) (x2 := x2) (x5 := x5) (x6 := some (.d (.int (2 * n - 2 - k)))) (cs := cs2) (mix := mix2) (qs := qs ++ [.tuple [.int (2 * n - 2 - k), .int (2 * n - 2 - k)], .tuple [.int (2 * (2 * n) - 2 - ((k + 1 : Nat) : Int)), .int (2 * n + (2 * n - 2 - k) - 1)], .tuple [.int (2 * n - 2 - k), .int (2 * n - 2 - k)]]) c_odd_height c__law_height hm2 (cMul_lt 118 12 na ra) (cMul_lt (2 + 118) 12 n2a ra) a3 hk (by rw [List.length_append]; simp only [List.length_cons, List.length_nil]; omega)
  refine ⟨cs2, mix2, (qs ++ [.tuple [.int (2 * n - 2 - k), .int (2 * n - 2 - k)], .tuple [.int (2 * (2 * n) - 2 - ((k + 1 : Nat) : Int)), .int (2 * n + (2 * n - 2 - k) - 1)], .tuple [.int (2 * n - 2 - k), .int (2 * n - 2 - k)]]) ++ [.tuple [.int (2 * (n * (2 * r + 1)) - 2 - k), .int (2 * n * (2 * r + 1) - 2 - k)]], some (.d (.int n)), some (.d (.int (2 * n - 2 - k))), some (.d (.int (2 * r + 1))), ?_, hs2, ?_, ?_⟩
  · unfold B2
    rw [mSeq, t1]
    simp only []
    rw [mSeq, t2]
    simp only []
    rw [mSeq, t3]
    simp only []
    rw [mSeq, t4]
    simp only []
    exact t5
  · rw [ed, ed2, List.all_append, List.all_append, hq]
    have b1 := pair_int (2 * n - 2 - (k : Int))
    have b2 := pair_int (2 * (2 * n) - 2 - ((k + 1 : Nat) : Int))
    have b3 := pair_int (2 * n * (2 * r + 1) - 2 - (k : Int))
    simp only [List.all_cons, List.all_nil, b1, b2, b3, Bool.and_self]
  · rw [List.length_append, List.length_append]
    rfl
theorem loop2 {x0 x2 x4 x5 x6 x7 : Option W} {cs : List Int} {mix : Int} {qs : List D} (hs : Src (.src cs [mix])) (hq : qs.all pairOk = true) (hl : qs.length ≤ 100) : ∃ cs' mix' qs' y4 y5 y6 y7, mFor (mRange1 (mCons (mC (.int 3)) mNil)) (gNm 5) B2 [x0, some (.src cs [mix]), x2, some (.own qs), x4, x5, x6, x7] = some (.nx, [x0, some (.src cs' [mix']), x2, some (.own qs'), y4, y5, y6, y7]) ∧ qs'.all pairOk = true ∧ qs'.length ≤ 200 := by
  have q := for_at (g := gNm 5) (b := B2) (fun (i : Nat) => PyData.int (0 + (i : Int) * 1)) (fun (s : List Int × Int × List D × Option W × Option W × Option W × Option W) => [x0, some (.src s.1 [s.2.1]), x2, some (.own s.2.2.1), s.2.2.2.1, s.2.2.2.2.1, s.2.2.2.2.2.1, s.2.2.2.2.2.2]) (fun j s => Src (.src s.1 [s.2.1]) ∧ s.2.2.1.all pairOk = true ∧ s.2.2.1.length ≤ 100 + 4 * j) (List.range 3) (cs, mix, qs, x4, x5, x6, x7) ⟨hs, hq, hl⟩ (fun j a s ha ⟨h1, h2, h3⟩ => by
    have hj : j < 3 := by
      have := (List.getElem?_eq_some_iff.mp ha).1
      simpa using this
    obtain ⟨cs', mix', qs', y4, y6, y7, e, g1, g2, g3⟩ := body2 (x0 := x0) (x2 := x2) (x4 := s.2.2.2.1) (x5 := some (.d (.int (0 + (a : Int) * 1)))) (x6 := s.2.2.2.2.2.1) (x7 := s.2.2.2.2.2.2) h1 h2 (by omega)
    exact ⟨(cs', mix', qs', y4, some (.d (.int (0 + (a : Int) * 1))), y6, y7), ⟨g1, g2, by show qs'.length ≤ _; omega⟩, _, rfl, e⟩)
  obtain ⟨s, h1, h2, h3, h4⟩ := q
  refine ⟨s.1, s.2.1, s.2.2.1, s.2.2.2.1, s.2.2.2.2.1, s.2.2.2.2.2.1, s.2.2.2.2.2.2, ?_, h3, by rw [List.length_range] at h4; omega⟩
  have e : mRange1 (mCons (mC (.int 3)) mNil) [x0, some (.src cs [mix]), x2, some (.own qs), x4, x5, x6, x7] = some (rangeD 0 1 3, [x0, some (.src cs [mix]), x2, some (.own qs), x4, x5, x6, x7]) := by
    have h6 : okR 3 = true := by decide
    have h7 : (3 : Int).toNat = 3 := rfl
    simp only [mSeq, mAsg, mFv, fz, mBin, cont, mVar, mC, mUn, mCons, mNil, mCall, conts, mTup, mLst, dsOf, dOf, mFz, mFt, mSkip, mRet, mIfS, mTest, mTruth, truD, mNot, mAnd, mOr, mAndV, mOrV, mNotV, mIf, mYes, mExpr, mBreak, mCont, gNm, gsNil, gsCons, gTupD, mItems, mFor, mMeth, mPop, mSetIx, ownAt, gApp, mPar, wsOf, setAll, mAug, mAugAdd, mAugSub, gSub, gFdiv, gMod, gPow, gShl, gShr, gAnd, gLt, gLe, gGt, gGe, gI, gAdd, gMul, gNeg, gLen, gAbs, gInt, gIx, gRev, gEq, gNe, gIs1, mReg, mSetReg, mSrcNe, mSrcLast, mSrcPop, mSrcPut, srcAt, mSl, mNoPart, mPart, gSl, mCallP, mCallM, argsOf, slotW, notD, noLW, mRange1, mRange2, mRange3, mEnum, mZip, mChain, runP, runM, startE, fin0, lenLine, wipeE, restE, plainAt, List.getElem?_cons_zero, List.getElem?_cons_succ, List.set_cons_zero, List.set_cons_succ, List.map_cons, List.map_nil, List.length_cons, List.length_nil, List.replicate, List.cons_append, List.nil_append, List.isEmpty_nil, List.all_cons, List.all_nil, h6, h7, if_true]
  rw [mFor, e]
  exact h1
theorem D8_in {d : D} (h : d ∈ D8) : ∃ n : Nat, d = .int n ∧ 1 ≤ n ∧ n ≤ 100 := by
  unfold D8 at h
  simp only [List.mem_cons, List.not_mem_nil, or_false] at h
  rcases h with h | h | h | h | h | h | h | h <;> subst h
  · exact ⟨1, rfl, by decide, by decide⟩
  · exact ⟨2, rfl, by decide, by decide⟩
  · exact ⟨3, rfl, by decide, by decide⟩
  · exact ⟨32, rfl, by decide, by decide⟩
  · exact ⟨64, rfl, by decide, by decide⟩
  · exact ⟨96, rfl, by decide, by decide⟩
  · exact ⟨99, rfl, by decide, by decide⟩
  · exact ⟨100, rfl, by decide, by decide⟩
theorem law_true : ∀ w, Src w → ∃ env', m_law ((List.replicate 8 none).set 1 (some w)) = some (.rt (.d (.bool true)), env') := by
  intro w hw
  obtain ⟨cs, mix, rfl⟩ : ∃ cs mix, w = .src cs [mix] := by
    unfold Src at hw
    split at hw
    · exact ⟨_, _, rfl⟩
    · exact hw.elim
  have e0 : (List.replicate 8 (none : Option W)).set 1 (some (.src cs [mix])) = [none, some (.src cs [mix]), none, none, none, none, none, none] := rfl
  rw [e0]
  have r0 := lt0 (x0 := none) (x2 := none) (x3 := none) (x4 := none) (x5 := none) (x6 := none) (x7 := none) (cs := cs) (mix := mix) c__law_zigzags (R := Rw) (lzigs_ok (n := 200) (by decide))
  obtain ⟨a, cs1, mix1, h1, a0, a1, hs1⟩ := any_ok' (b := 100) hw (by decide) (small9000 (by decide))
  obtain ⟨d, cs2, mix2, h2, hd, hs2⟩ := of_ok (xs := D8) hs1 (by decide) (by decide)
  obtain ⟨b, rfl, b0, b1⟩ := D8_in hd
  obtain ⟨c, cs3, mix3, h3, c0, c1, hs3⟩ := any_ok' (b := 9) hs2 (by decide) (small9000 (by decide))
  have r1 := lw_x c__law_of (x0 := none) (x2 := some (.own Rw)) (x3 := some (.own [])) (x4 := none) (x5 := none) (x6 := none) (x7 := none) L8_e h1 h2 h3
  obtain ⟨qs, x4', r2, hq, hl⟩ := loop1 (x0 := none) (x1 := some (.src cs3 [mix3])) (x5 := none) (x6 := none) (x7 := none) (ns := [(1 + a).toNat, b, (1 + c).toNat]) (fun n hn => by
    simp only [List.mem_cons, List.not_mem_nil, or_false] at hn
    rcases hn with h | h | h <;> subst h <;> omega) (by show 3 ≤ 100; decide) none
  have ea : (((1 + a).toNat : Nat) : Int) = 1 + a := by omega
  have ec : (((1 + c).toNat : Nat) : Int) = 1 + c := by omega
  have r2' : mFor (mItems (mLst (mCons (mFz (mBin gAdd (mC (.int 1)) (mCallM c__law_any 2 (mCons (mVar 1) (mCons (mFt (mC (.int 100))) mNil))))) (mCons (mFz (mCallM c__law_of 2 (mCons (mVar 1) (mCons (mFt L8) mNil)))) (mCons (mFz (mBin gAdd (mC (.int 1)) (mCallM c__law_any 2 (mCons (mVar 1) (mCons (mFt (mC (.int 9))) mNil))))) mNil))))) (gNm 4) B1 [none, some (.src cs [mix]), some (.own Rw), some (.own []), none, none, none, none] = some (.nx, [none, some (.src cs3 [mix3]), some (.own Rw), some (.own qs), x4', none, none, none]) := by
    rw [mFor, r1]
    rw [List.map_cons, List.map_cons, List.map_cons, List.map_nil, ea, ec] at r2
    exact r2
  obtain ⟨cs4, mix4, qs', y4, y5, y6, y7, r3, hq', hl'⟩ := loop2 (x0 := none) (x2 := some (.own Rw)) (x4 := x4') (x5 := none) (x6 := none) (x7 := none) hs3 hq (by rw [hl]; show 5 * 3 ≤ 100; decide)
  have r4 := lt6 (x0 := none) (x2 := some (.own Rw)) (x4 := y4) (x5 := y5) (x6 := y6) (x7 := y7) (cs := cs4) (mix := mix4) c__law_all (qs := qs') (all_of qs' hq' (by unfold lenLine; omega))
  refine ⟨[none, some (.src cs4 [mix4]), some (.own Rw), some (.own qs'), y4, y5, y6, y7], ?_⟩
  · have u : m_law = mSeq (mPar [2, 3] (mCons (mFv (mCallP c__law_zigzags 1 (mCons (mFt (mC (.int 200))) mNil))) (mCons (mFv (mLst mNil)) mNil))) (mSeq (mFor (mItems (mLst (mCons (mFz (mBin gAdd (mC (.int 1)) (mCallM c__law_any 2 (mCons (mVar 1) (mCons (mFt (mC (.int 100))) mNil))))) (mCons (mFz (mCallM c__law_of 2 (mCons (mVar 1) (mCons (mFt L8) mNil)))) (mCons (mFz (mBin gAdd (mC (.int 1)) (mCallM c__law_any 2 (mCons (mVar 1) (mCons (mFt (mC (.int 9))) mNil))))) mNil))))) (gNm 4) B1) (mSeq (mFor (mRange1 (mCons (mC (.int 3)) mNil)) (gNm 5) B2) (mRet false (mCallP c__law_all 1 (mCons (mFt (mVar 3)) mNil))))) := rfl
    rw [u, mSeq, r0]
    simp only []
    rw [mSeq, r2']
    simp only []
    rw [mSeq, r3]
    simp only []
    exact r4

end L2.Z

namespace L2.Z
open PySem PySem.Spec PyProof.Rows
def top (i : Nat) : Stmt := PySem.Challenge.pw_toldheights_k40_whole_odd_heights.main.body.getD i (.Pass ⟨0, 0, 0, 0⟩)
def sd__law_deal : { s : Stmt // s = top 18 } := by
  refine ⟨?s, ?h⟩
  case h => conv => rhs; whnf
abbrev s__law_deal : Stmt := sd__law_deal.1
abbrev N__law_deal : List Str := ["script", "salt", "most", "cells", "mix", "cell"]
theorem sc__law_deal : FnScope N__law_deal ["script", "salt"] (defScope s__law_deal) := ⟨rfl, rfl, rfl, by decide +kernel, rfl, by decide +kernel, by decide +kernel⟩
def sd__law_same : { s : Stmt // s = top 23 } := by
  refine ⟨?s, ?h⟩
  case h => conv => rhs; whnf
abbrev s__law_same : Stmt := sd__law_same.1
abbrev N__law_same : List Str := ["told", "due", "at"]
theorem sc__law_same : FnScope N__law_same ["told", "due"] (defScope s__law_same) := ⟨rfl, rfl, rfl, by decide +kernel, rfl, by decide +kernel, by decide +kernel⟩
def sd__law_all : { s : Stmt // s = top 24 } := by
  refine ⟨?s, ?h⟩
  case h => conv => rhs; whnf
abbrev s__law_all : Stmt := sd__law_all.1
abbrev N__law_all : List Str := ["pairs", "told", "due"]
theorem sc__law_all : FnScope N__law_all ["pairs"] (defScope s__law_all) := ⟨rfl, rfl, rfl, by decide +kernel, rfl, by decide +kernel, by decide +kernel⟩
def sd__law_zigzags : { s : Stmt // s = top 28 } := by
  refine ⟨?s, ?h⟩
  case h => conv => rhs; whnf
abbrev s__law_zigzags : Stmt := sd__law_zigzags.1
abbrev N__law_zigzags : List Str := ["many", "row", "found", "n", "late", "one"]
theorem sc__law_zigzags : FnScope N__law_zigzags ["many"] (defScope s__law_zigzags) := ⟨rfl, rfl, rfl, by decide +kernel, rfl, by decide +kernel, by decide +kernel⟩
def sd__law_any : { s : Stmt // s = top 19 } := by
  refine ⟨?s, ?h⟩
  case h => conv => rhs; whnf
abbrev s__law_any : Stmt := sd__law_any.1
abbrev N__law_any : List Str := ["deal", "bound", "rest"]
theorem sc__law_any : FnScope N__law_any ["deal", "bound"] (defScope s__law_any) := ⟨rfl, rfl, rfl, by decide +kernel, rfl, by decide +kernel, by decide +kernel⟩
def sd__law_of : { s : Stmt // s = top 20 } := by
  refine ⟨?s, ?h⟩
  case h => conv => rhs; whnf
abbrev s__law_of : Stmt := sd__law_of.1
abbrev N__law_of : List Str := ["deal", "some"]
theorem sc__law_of : FnScope N__law_of ["deal", "some"] (defScope s__law_of) := ⟨rfl, rfl, rfl, by decide +kernel, rfl, by decide +kernel, by decide +kernel⟩
def sd__law_ten : { s : Stmt // s = top 21 } := by
  refine ⟨?s, ?h⟩
  case h => conv => rhs; whnf
abbrev s__law_ten : Stmt := sd__law_ten.1
abbrev N__law_ten : List Str := ["many", "found", "step"]
theorem sc__law_ten : FnScope N__law_ten ["many"] (defScope s__law_ten) := ⟨rfl, rfl, rfl, by decide +kernel, rfl, by decide +kernel, by decide +kernel⟩
def sd__law_wide : { s : Stmt // s = top 22 } := by
  refine ⟨?s, ?h⟩
  case h => conv => rhs; whnf
abbrev s__law_wide : Stmt := sd__law_wide.1
abbrev N__law_wide : List Str := ["deal", "figures", "count", "found", "step"]
theorem sc__law_wide : FnScope N__law_wide ["deal", "figures"] (defScope s__law_wide) := ⟨rfl, rfl, rfl, by decide +kernel, rfl, by decide +kernel, by decide +kernel⟩
def sd__law_raised : { s : Stmt // s = top 27 } := by
  refine ⟨?s, ?h⟩
  case h => conv => rhs; whnf
abbrev s__law_raised : Stmt := sd__law_raised.1
abbrev N__law_raised : List Str := ["base", "times", "found", "square", "left"]
theorem sc__law_raised : FnScope N__law_raised ["base", "times"] (defScope s__law_raised) := ⟨rfl, rfl, rfl, by decide +kernel, rfl, by decide +kernel, by decide +kernel⟩
def sd__law_place : { s : Stmt // s = top 32 } := by
  refine ⟨?s, ?h⟩
  case h => conv => rhs; whnf
abbrev s__law_place : Stmt := sd__law_place.1
abbrev N__law_place : List Str := ["deal", "found", "step"]
theorem sc__law_place : FnScope N__law_place ["deal"] (defScope s__law_place) := ⟨rfl, rfl, rfl, by decide +kernel, rfl, by decide +kernel, by decide +kernel⟩
def sd__law_gcd : { s : Stmt // s = top 25 } := by
  refine ⟨?s, ?h⟩
  case h => conv => rhs; whnf
abbrev s__law_gcd : Stmt := sd__law_gcd.1
abbrev N__law_gcd : List Str := ["left", "right"]
theorem sc__law_gcd : FnScope N__law_gcd ["left", "right"] (defScope s__law_gcd) := ⟨rfl, rfl, rfl, by decide +kernel, rfl, by decide +kernel, by decide +kernel⟩
def sd__law_lowest : { s : Stmt // s = top 26 } := by
  refine ⟨?s, ?h⟩
  case h => conv => rhs; whnf
abbrev s__law_lowest : Stmt := sd__law_lowest.1
abbrev N__law_lowest : List Str := ["top", "bottom", "part"]
theorem sc__law_lowest : FnScope N__law_lowest ["top", "bottom"] (defScope s__law_lowest) := ⟨rfl, rfl, rfl, by decide +kernel, rfl, by decide +kernel, by decide +kernel⟩
def sd__law_bernoulli : { s : Stmt // s = top 29 } := by
  refine ⟨?s, ?h⟩
  case h => conv => rhs; whnf
abbrev s__law_bernoulli : Stmt := sd__law_bernoulli.1
abbrev N__law_bernoulli : List Str := ["row", "n", "four"]
theorem sc__law_bernoulli : FnScope N__law_bernoulli ["row", "n"] (defScope s__law_bernoulli) := ⟨rfl, rfl, rfl, by decide +kernel, rfl, by decide +kernel, by decide +kernel⟩
def sd__law_height : { s : Stmt // s = top 30 } := by
  refine ⟨?s, ?h⟩
  case h => conv => rhs; whnf
abbrev s__law_height : Stmt := sd__law_height.1
abbrev N__law_height : List Str := ["number", "p", "found"]
theorem sc__law_height : FnScope N__law_height ["number", "p"] (defScope s__law_height) := ⟨rfl, rfl, rfl, by decide +kernel, rfl, by decide +kernel, by decide +kernel⟩
def sd_height : { s : Stmt // s = top 6 } := by
  refine ⟨?s, ?h⟩
  case h => conv => rhs; whnf
abbrev s_height : Stmt := sd_height.1
abbrev N_height : List Str := ["number", "p", "found", "left"]
theorem sc_height : FnScope N_height ["number", "p"] (defScope s_height) := ⟨rfl, rfl, rfl, by decide +kernel, rfl, by decide +kernel, by decide +kernel⟩
def sd_odd_height : { s : Stmt // s = top 16 } := by
  refine ⟨?s, ?h⟩
  case h => conv => rhs; whnf
abbrev s_odd_height : Stmt := sd_odd_height.1
abbrev N_odd_height : List Str := ["n"]
theorem sc_odd_height : FnScope N_odd_height ["n"] (defScope s_odd_height) := ⟨rfl, rfl, rfl, by decide +kernel, rfl, by decide +kernel, by decide +kernel⟩
def sd_next_to_and_fro : { s : Stmt // s = top 8 } := by
  refine ⟨?s, ?h⟩
  case h => conv => rhs; whnf
abbrev s_next_to_and_fro : Stmt := sd_next_to_and_fro.1
abbrev N_next_to_and_fro : List Str := ["row", "found", "at"]
theorem sc_next_to_and_fro : FnScope N_next_to_and_fro ["row"] (defScope s_next_to_and_fro) := ⟨rfl, rfl, rfl, by decide +kernel, rfl, by decide +kernel, by decide +kernel⟩
def sd_zigzags_to : { s : Stmt // s = top 9 } := by
  refine ⟨?s, ?h⟩
  case h => conv => rhs; whnf
abbrev s_zigzags_to : Stmt := sd_zigzags_to.1
abbrev N_zigzags_to : List Str := ["n", "row", "found", "many"]
theorem sc_zigzags_to : FnScope N_zigzags_to ["n"] (defScope s_zigzags_to) := ⟨rfl, rfl, rfl, by decide +kernel, rfl, by decide +kernel, by decide +kernel⟩
def sd_zigzag : { s : Stmt // s = top 12 } := by
  refine ⟨?s, ?h⟩
  case h => conv => rhs; whnf
abbrev s_zigzag : Stmt := sd_zigzag.1
abbrev N_zigzag : List Str := ["n"]
theorem sc_zigzag : FnScope N_zigzag ["n"] (defScope s_zigzag) := ⟨rfl, rfl, rfl, by decide +kernel, rfl, by decide +kernel, by decide +kernel⟩
def sd_whole_power : { s : Stmt // s = top 2 } := by
  refine ⟨?s, ?h⟩
  case h => conv => rhs; whnf
abbrev s_whole_power : Stmt := sd_whole_power.1
abbrev N_whole_power : List Str := ["base", "times", "found", "square", "left"]
theorem sc_whole_power : FnScope N_whole_power ["base", "times"] (defScope s_whole_power) := ⟨rfl, rfl, rfl, by decide +kernel, rfl, by decide +kernel, by decide +kernel⟩
def sd_fraction : { s : Stmt // s = top 4 } := by
  refine ⟨?s, ?h⟩
  case h => conv => rhs; whnf
abbrev s_fraction : Stmt := sd_fraction.1
abbrev N_fraction : List Str := ["top", "bottom", "shared"]
theorem sc_fraction : FnScope N_fraction ["top", "bottom"] (defScope s_fraction) := ⟨rfl, rfl, rfl, by decide +kernel, rfl, by decide +kernel, by decide +kernel⟩
def sd_bernoulli_from : { s : Stmt // s = top 10 } := by
  refine ⟨?s, ?h⟩
  case h => conv => rhs; whnf
abbrev s_bernoulli_from : Stmt := sd_bernoulli_from.1
abbrev N_bernoulli_from : List Str := ["n", "before", "power", "top"]
theorem sc_bernoulli_from : FnScope N_bernoulli_from ["n", "before"] (defScope s_bernoulli_from) := ⟨rfl, rfl, rfl, by decide +kernel, rfl, by decide +kernel, by decide +kernel⟩
def sd_bernoulli : { s : Stmt // s = top 13 } := by
  refine ⟨?s, ?h⟩
  case h => conv => rhs; whnf
abbrev s_bernoulli : Stmt := sd_bernoulli.1
abbrev N_bernoulli : List Str := ["n"]
theorem sc_bernoulli : FnScope N_bernoulli ["n"] (defScope s_bernoulli) := ⟨rfl, rfl, rfl, by decide +kernel, rfl, by decide +kernel, by decide +kernel⟩
def sd_genocchi : { s : Stmt // s = top 14 } := by
  refine ⟨?s, ?h⟩
  case h => conv => rhs; whnf
abbrev s_genocchi : Stmt := sd_genocchi.1
abbrev N_genocchi : List Str := ["n", "top", "bottom"]
theorem sc_genocchi : FnScope N_genocchi ["n"] (defScope s_genocchi) := ⟨rfl, rfl, rfl, by decide +kernel, rfl, by decide +kernel, by decide +kernel⟩
def sd__law_near_pairs : { s : Stmt // s = top 31 } := by
  refine ⟨?s, ?h⟩
  case h => conv => rhs; whnf
abbrev s__law_near_pairs : Stmt := sd__law_near_pairs.1
abbrev N__law_near_pairs : List Str := ["row", "n", "due", "four", "number", "side", "odd", "deep", "pairs"]
theorem sc__law_near_pairs : FnScope N__law_near_pairs ["row", "n"] (defScope s__law_near_pairs) := ⟨rfl, rfl, rfl, by decide +kernel, rfl, by decide +kernel, by decide +kernel⟩
def sd_law : { s : Stmt // s = top 33 } := by
  refine ⟨?s, ?h⟩
  case h => conv => rhs; whnf
abbrev s_law : Stmt := sd_law.1
abbrev N_law : List Str := ["script", "deal", "row", "pairs", "n", "turn", "due", "other"]
theorem sc_law : FnScope N_law ["script"] (defScope s_law) := ⟨rfl, rfl, rfl, by decide +kernel, rfl, by decide +kernel, by decide +kernel⟩
structure Txt (K : PySem.W.Frag) (mg : Str → Option Value) where
  f__law_deal : Fn0 K mg "_law_deal" s__law_deal ["script", "salt"]
  f__law_same : Fn0 K mg "_law_same" s__law_same ["told", "due"]
  f__law_all : Fn0 K mg "_law_all" s__law_all ["pairs"]
  f__law_zigzags : Fn0 K mg "_law_zigzags" s__law_zigzags ["many"]
  f__law_any : Fn0 K mg "_law_any" s__law_any ["deal", "bound"]
  f__law_of : Fn0 K mg "_law_of" s__law_of ["deal", "some"]
  f__law_ten : Fn0 K mg "_law_ten" s__law_ten ["many"]
  f__law_wide : Fn0 K mg "_law_wide" s__law_wide ["deal", "figures"]
  f__law_raised : Fn0 K mg "_law_raised" s__law_raised ["base", "times"]
  f__law_place : Fn0 K mg "_law_place" s__law_place ["deal"]
  f__law_gcd : Fn0 K mg "_law_gcd" s__law_gcd ["left", "right"]
  f__law_lowest : Fn0 K mg "_law_lowest" s__law_lowest ["top", "bottom"]
  f__law_bernoulli : Fn0 K mg "_law_bernoulli" s__law_bernoulli ["row", "n"]
  f__law_height : Fn0 K mg "_law_height" s__law_height ["number", "p"]
  f_height : Fn0 K mg "height" s_height ["number", "p"]
  f_odd_height : Fn0 K mg "odd_height" s_odd_height ["n"]
  k_odd_height_n : KBinds K f_odd_height.d ["n"] ["n"] (gKp 0 1 [0] .none) (gKp 0 1 [0] .non)
  f_next_to_and_fro : Fn0 K mg "next_to_and_fro" s_next_to_and_fro ["row"]
  f_zigzags_to : Fn0 K mg "zigzags_to" s_zigzags_to ["n"]
  f_zigzag : Fn0 K mg "zigzag" s_zigzag ["n"]
  f_whole_power : Fn0 K mg "whole_power" s_whole_power ["base", "times"]
  f_fraction : Fn0 K mg "fraction" s_fraction ["top", "bottom"]
  f_bernoulli_from : Fn0 K mg "bernoulli_from" s_bernoulli_from ["n", "before"]
  f_bernoulli : Fn0 K mg "bernoulli" s_bernoulli ["n"]
  f_genocchi : Fn0 K mg "genocchi" s_genocchi ["n"]
  f__law_near_pairs : Fn0 K mg "_law_near_pairs" s__law_near_pairs ["row", "n"]
  f_law : Fn0 K mg "law" s_law ["script"]
  z_abs : mg "abs" = none
  z_bool : mg "bool" = none
  z_int : mg "int" = none
  z_isinstance : mg "isinstance" = none
  z_len : mg "len" = none
  z_range : mg "range" = none
  z_str : mg "str" = none
  z_tuple : mg "tuple" = none
  g_gcd : mg "gcd" = some (.builtin "math.gcd")
section
variable {P : Program} {w : World} {K : PySem.W.Frag} {mg : Str → Option Value} {base : Heap}
theorem ok__law_deal (T : Txt K mg) : FnOk P w K mg base CX0 1 T.f__law_deal.a T.f__law_deal.d ["script", "salt"] (spDeal K) := fn_deal T.f__law_deal.F sc__law_deal fun cdv A outer s H E hr =>
  pss_cons (JS.ps (jset (kk := true) 2 sc__law_deal.nd (je_bin bo_mul (je_bin bo_mul (je_bin bo_mul (je_bin bo_mul (je_bin bo_mul (je_bin bPow je_int je_int) (je_bin bPow je_int je_int)) (je_bin bPow je_int je_int)) (je_bin bPow je_int je_int)) (je_bin bPow je_int je_int)) (je_bin bPow je_int je_int))))
  (pss_cons (ps_setLc (i := 3) (own := [("cell", 5)]) rfl sc__law_deal.nd rfl rfl (sw_true rfl rfl rfl (by decide +kernel)) (pi_list (pe_slice sl_list (pe_var (i := 0) rfl (by first | exact Or.inl rfl | exact Or.inr (Or.inl rfl) | exact Or.inr (Or.inr rfl))) po_none (po_some pe_int))) (blkOk_by (own := [("cell", 5)]) (N := N__law_deal) (sc := defScope s__law_deal) (by decide +kernel)) (fun _ _ _ _ _ => JG.pg (jgn 5 sc__law_deal.nd)) (fun _ _ _ _ _ => JTs.pts jts_nil) (fun _ _ _ _ _ => JE.pe (je_fz (je_bin bMod (je_callTy cb_int rfl T.z_int (by decide +kernel) (ja_cons (je_callB cb_abs rfl T.z_abs (by decide +kernel) (ja_cons (je_callTy cb_int rfl T.z_int (by decide +kernel) (ja_cons (jv 5) ja_nil)) ja_nil)) ja_nil)) (jv 2)))))
  (pss_cons (JS.ps (jset (kk := true) 4 sc__law_deal.nd (je_bin bo_add je_int (je_bin bo_mul je_int (jv 1)))))
  (pss_cons (JS.ps (js_for (k := true) PassesOwn.never rfl (ji_seq (jv 3)) (jgn 5 sc__law_deal.nd) (jss_one (jset 4 sc__law_deal.nd (je_bin bMod (je_callTy cb_int rfl T.z_int (by decide +kernel) (ja_cons (je_bin bo_add (je_bin bo_add (je_bin bo_mul (jv 4) je_int) (je_bin bMod (je_callTy cb_int rfl T.z_int (by decide +kernel) (ja_cons (jv 5) ja_nil)) je_int)) je_int) ja_nil)) je_int))) (by decide)))
  (pss_one (ps_ret (pe_lst (JA.pa (ja_cons (je_rev (je_lc (own := [("cell", 5)]) rfl sc__law_deal.nd (ji_seq (jv 3)) (blkOk_by (own := [("cell", 5)]) (N := N__law_deal) (sc := defScope s__law_deal) (by decide +kernel)) (fun _ _ _ _ _ => (jgn 5 sc__law_deal.nd)) (fun _ _ _ _ _ => (jts_one (jt_cmp bGe (jv 5) (je_bin bPow je_int je_int) (nomark _)))) (fun _ _ _ _ _ => (jv 5)) (by decide))) (ja_cons (jv 4) ja_nil)))))))))
theorem ok__law_same_d (T : Txt K mg) : ∀ n : Nat, FnOk P w K mg base CX0 n T.f__law_same.a T.f__law_same.d ["told", "due"] (spP (c__law_same_d n) 2)
  | 0 => fn_none fun ds => by unfold c__law_same_d; split <;> rfl
  | n + 1 => by
    have ih := ok__law_same_d T n
    exact (fn_P (ms := m__law_same (c__law_same_d n)) (N := N__law_same) (ps := ["told", "due"]) T.f__law_same.F sc__law_same fun cdv A outer s H E hr => (jss_cons (js_if (jt_truth (je_isi (Ts := "tuple") (jv 1) rfl rfl T.z_isinstance rfl T.z_tuple (by decide +kernel))) (jss_cons (js_if (JW.jt (jw_or (jt_not (jt_truth (je_isi (Ts := "tuple") (jv 0) rfl rfl T.z_isinstance rfl T.z_tuple (by decide +kernel)))) (jw_or1 (jt_cmp (bo_ne hr.units) (je_callB cb_len rfl T.z_len (by decide +kernel) (ja_cons (jv 0) ja_nil)) (je_callB cb_len rfl T.z_len (by decide +kernel) (ja_cons (jv 1) ja_nil)) (nomark _))))) (jss_one (js_ret je_bl)) jss_nil)
    (jss_one (js_ret (je_cmp (bo_eq hr.units) (je_callB cb_len rfl T.z_len (by decide +kernel) (ja_cons (je_lc (own := [("at", 2)]) rfl sc__law_same.nd (ji_range1 rfl T.z_range (ja_cons (je_callB cb_len rfl T.z_len (by decide +kernel) (ja_cons (jv 1) ja_nil)) ja_nil)) (blkOk_by (own := [("at", 2)]) (N := N__law_same) (sc := defScope s__law_same) (by decide +kernel)) (fun _ _ _ _ _ => (jgn 2 sc__law_same.nd)) (fun _ _ _ _ _ => (jts_one (jt_not (jt_truth (je_callP ih (hr) rfl T.f__law_same.m T.f__law_same.F.kp T.f__law_same.b (ja_cons (je_ft (je_ix (jv 0) (jv 2))) (ja_cons (je_ft (je_ix (jv 1) (jv 2))) ja_nil))))))) (fun _ _ _ _ _ => (jv 2)) (by decide)) ja_nil)) je_int (nomark _))))) jss_nil)
    (jss_cons (js_if (jt_cmp bo_is (jv 1) je_non (nomark _)) (jss_one (js_ret (je_cmp bo_is (jv 0) je_non (nomark _)))) jss_nil)
    (jss_cons (js_if (JW.jt (jw_or (jt_cmp bo_is (jv 1) je_bl (nomark _)) (jw_or1 (jt_cmp bo_is (jv 1) je_bl (nomark _))))) (jss_one (js_ret (je_if (jt_truth (jv 1)) (je_cmp bo_is (jv 0) je_bl (nomark _)) (je_cmp bo_is (jv 0) je_bl (nomark _))))) jss_nil)
    (jss_cons (js_if (jt_truth (je_isi (Ts := "str") (jv 1) rfl rfl T.z_isinstance rfl T.z_str (by decide +kernel))) (jss_one (js_ret (je_and (je_isi (Ts := "str") (jv 0) rfl rfl T.z_isinstance rfl T.z_str (by decide +kernel)) (je_one (je_cmp (bo_eq hr.units) (jv 0) (jv 1) (nomark _)))))) jss_nil)
    (jss_one (js_ret (je_and (je_isi (Ts := "int") (jv 0) rfl rfl T.z_isinstance rfl T.z_int (by decide +kernel)) (je_and (je_not (je_isi (Ts := "bool") (jv 0) rfl rfl T.z_isinstance rfl T.z_bool (by decide +kernel))) (je_one (je_cmp (bo_eq hr.units) (jv 0) (jv 1) (nomark _)))))))))))).imp (spP.imp (k__law_same n))
theorem ok__law_same (T : Txt K mg) : FnOk P w K mg base CX0 4 T.f__law_same.a T.f__law_same.d ["told", "due"] (spP c__law_same 2) := ok__law_same_d T 4
theorem ok__law_all (T : Txt K mg) : FnOk P w K mg base CX0 5 T.f__law_all.a T.f__law_all.d ["pairs"] (spP c__law_all 1) := fn_P (ms := m__law_all) (N := N__law_all) (ps := ["pairs"]) T.f__law_all.F sc__law_all fun cdv A outer s H E hr =>
  (jss_one (js_ret (je_cmp (bo_eq hr.units) (je_callB cb_len rfl T.z_len (by decide +kernel) (ja_cons (je_lc (own := [("told", 1), ("due", 2)]) rfl sc__law_all.nd (ji_seq (jv 0)) (blkOk_by (own := [("told", 1), ("due", 2)]) (N := N__law_all) (sc := defScope s__law_all) (by decide +kernel)) (fun _ _ _ _ _ => (jg_tup rfl (jgs_cons (jgn 1 sc__law_all.nd) (jgs_cons (jgn 2 sc__law_all.nd) jgs_nil)))) (fun _ _ _ _ _ => (jts_one (jt_not (jt_truth (je_callP (ok__law_same T) (hr.mono (by decide)) rfl T.f__law_same.m T.f__law_same.F.kp T.f__law_same.b (ja_cons (je_ft (jv 1)) (ja_cons (je_ft (jv 2)) ja_nil))))))) (fun _ _ _ _ _ => (jv 1)) (by decide)) ja_nil)) je_int (nomark _))))
theorem ok__law_zigzags (T : Txt K mg) : FnOk P w K mg base CX0 1 T.f__law_zigzags.a T.f__law_zigzags.d ["many"] (spP c__law_zigzags 1) := fn_P (ms := m__law_zigzags) (N := N__law_zigzags) (ps := ["many"]) T.f__law_zigzags.F sc__law_zigzags fun cdv A outer s H E hr =>
  (jss_cons (js_par (i := 1) (j := 2) rfl sc__law_zigzags.nd rfl rfl (by decide) rfl rfl (ja_cons (je_fv (je_lst (ja_cons (je_fz je_int) ja_nil))) (ja_cons (je_fv (je_lst (ja_cons (je_fz je_int) ja_nil))) ja_nil)) (by decide) rfl)
    (jss_cons (js_for PassesOwn.never rfl (ji_range1 rfl T.z_range (ja_cons (jv 0) ja_nil)) (jgn 3 sc__law_zigzags.nd) (jss_cons (jset 4 sc__law_zigzags.nd (je_lst (ja_cons (je_fz je_int) ja_nil)))
    (jss_cons (js_for PassesOwn.never rfl (ji_seq (je_rev (jv 1))) (jgn 5 sc__law_zigzags.nd) (jss_one (js_expr (je_append (j := 4) rfl (by first | exact Or.inl rfl | exact Or.inr (Or.inl rfl) | exact Or.inr (Or.inr rfl)) (je_bin bo_add (je_ix (jv 4) (je_neg je_int)) (jv 5))))) (by decide))
    (jss_cons (jset 1 sc__law_zigzags.nd (jv 4))
    (jss_one (js_expr (je_append (j := 2) rfl (by first | exact Or.inl rfl | exact Or.inr (Or.inl rfl) | exact Or.inr (Or.inr rfl)) (je_ix (jv 1) (je_neg je_int)))))))) (by decide))
    (jss_one (js_ret (jv 2)))))
theorem ok__law_any (T : Txt K mg) : FnOk P w K mg base CX0 1 T.f__law_any.a T.f__law_any.d ["deal", "bound"] (spM c__law_any 2) := (fn_M (ms := m__law_any) (N := N__law_any) (ps := ["deal", "bound"]) T.f__law_any.F sc__law_any fun cdv A outer s H E hr => (jss_cons (js_while PassesOwn.never (JW.jt (jw_and (jt_srcNe (j := 0) hr.units rfl (by first | exact Or.inl rfl | exact Or.inr (Or.inl rfl) | exact Or.inr (Or.inr rfl))) (jw_and1 (jt_cmp (bo_eq hr.units) (je_srcLast (j := 0) rfl (by first | exact Or.inl rfl | exact Or.inr (Or.inl rfl) | exact Or.inr (Or.inr rfl))) je_int (nomark _))))) (jss_one (js_expr (je_srcPop (j := 0) rfl (by first | exact Or.inl rfl | exact Or.inr (Or.inl rfl) | exact Or.inr (Or.inr rfl))))))
    (jss_cons (js_if (jt_srcNe (j := 0) hr.units rfl (by first | exact Or.inl rfl | exact Or.inr (Or.inl rfl) | exact Or.inr (Or.inr rfl))) (jss_cons (jset 2 sc__law_any.nd (je_callTy cb_int rfl T.z_int (by decide +kernel) (ja_cons (je_srcPop (j := 0) rfl (by first | exact Or.inl rfl | exact Or.inr (Or.inl rfl) | exact Or.inr (Or.inr rfl))) ja_nil)))
    (jss_cons (js_expr (je_srcPut (j := 0) (u := 2) (v := 1) rfl (by first | exact Or.inl rfl | exact Or.inr (Or.inl rfl) | exact Or.inr (Or.inr rfl)) rfl (by first | exact Or.inl rfl | exact Or.inr (Or.inl rfl) | exact Or.inr (Or.inr rfl)) rfl (by first | exact Or.inl rfl | exact Or.inr (Or.inl rfl) | exact Or.inr (Or.inr rfl))))
    (jss_one (js_ret (je_bin bMod (jv 2) (jv 1)))))) jss_nil)
    (jss_cons (js_setReg (j := 0) rfl (by first | exact Or.inl rfl | exact Or.inr (Or.inl rfl) | exact Or.inr (Or.inr rfl)) (je_bin bMod (je_callTy cb_int rfl T.z_int (by decide +kernel) (ja_cons (je_bin bo_add (je_bin bo_mul (je_reg (j := 0) rfl (by first | exact Or.inl rfl | exact Or.inr (Or.inl rfl) | exact Or.inr (Or.inr rfl))) je_int) je_int) ja_nil)) je_int))
    (jss_one (js_ret (je_bin bMod (je_callTy cb_int rfl T.z_int (by decide +kernel) (ja_cons (je_bin bFdiv (je_reg (j := 0) rfl (by first | exact Or.inl rfl | exact Or.inr (Or.inl rfl) | exact Or.inr (Or.inr rfl))) je_int) ja_nil)) (jv 1)))))))).imp (spM.imp k__law_any)
theorem ok__law_of (T : Txt K mg) : FnOk P w K mg base CX0 2 T.f__law_of.a T.f__law_of.d ["deal", "some"] (spM c__law_of 2) := fn_M (ms := m__law_of) (N := N__law_of) (ps := ["deal", "some"]) T.f__law_of.F sc__law_of fun cdv A outer s H E hr =>
  (jss_one (js_ret (je_ix (jv 1) (je_callMu (ok__law_any T) (hr.mono (by decide)) rfl T.f__law_any.m T.f__law_any.F.kp T.f__law_any.b (ja_cons (jv 0) (ja_cons (je_ft (je_callB cb_len rfl T.z_len (by decide +kernel) (ja_cons (jv 1) ja_nil))) ja_nil))))))
theorem ok__law_ten (T : Txt K mg) : FnOk P w K mg base CX0 1 T.f__law_ten.a T.f__law_ten.d ["many"] (spP c__law_ten 1) := fn_P (ms := m__law_ten) (N := N__law_ten) (ps := ["many"]) T.f__law_ten.F sc__law_ten fun cdv A outer s H E hr =>
  (jss_cons (jset 1 sc__law_ten.nd je_int)
    (jss_cons (js_for PassesOwn.never rfl (ji_range1 rfl T.z_range (ja_cons (jv 0) ja_nil)) (jgn 2 sc__law_ten.nd) (jss_one (jset 1 sc__law_ten.nd (je_bin bo_mul (jv 1) je_int))) (by decide))
    (jss_one (js_ret (jv 1)))))
theorem ok__law_wide (T : Txt K mg) : FnOk P w K mg base CX0 2 T.f__law_wide.a T.f__law_wide.d ["deal", "figures"] (spM c__law_wide 2) := fn_M (ms := m__law_wide) (N := N__law_wide) (ps := ["deal", "figures"]) T.f__law_wide.F sc__law_wide fun cdv A outer s H E hr =>
  (jss_cons (jset 2 sc__law_wide.nd (je_if (jt_cmp (bo_eq hr.units) (je_callMu (ok__law_any T) (hr.mono (by decide)) rfl T.f__law_any.m T.f__law_any.F.kp T.f__law_any.b (ja_cons (jv 0) (ja_cons (je_ft je_int) ja_nil))) je_int (nomark _)) (jv 1) (je_bin bo_add je_int (je_callMu (ok__law_any T) (hr.mono (by decide)) rfl T.f__law_any.m T.f__law_any.F.kp T.f__law_any.b (ja_cons (jv 0) (ja_cons (je_ft (jv 1)) ja_nil))))))
    (jss_cons (jset 3 sc__law_wide.nd je_int)
    (jss_cons (js_for PassesOwn.never rfl (ji_range1 rfl T.z_range (ja_cons (je_bin bFdiv (je_bin bo_add (jv 2) je_int) je_int) ja_nil)) (jgn 4 sc__law_wide.nd) (jss_one (jset 3 sc__law_wide.nd (je_bin bo_add (je_bin bo_mul (jv 3) je_int) (je_callMu (ok__law_any T) (hr.mono (by decide)) rfl T.f__law_any.m T.f__law_any.F.kp T.f__law_any.b (ja_cons (jv 0) (ja_cons (je_ft je_int) ja_nil)))))) (by decide))
    (jss_one (js_ret (je_bin bMod (je_callTy cb_int rfl T.z_int (by decide +kernel) (ja_cons (jv 3) ja_nil)) (je_callP (ok__law_ten T) (hr.mono (by decide)) rfl T.f__law_ten.m T.f__law_ten.F.kp T.f__law_ten.b (ja_cons (je_ft (jv 2)) ja_nil))))))))
theorem ok__law_raised (T : Txt K mg) : FnOk P w K mg base CX0 1 T.f__law_raised.a T.f__law_raised.d ["base", "times"] (spP c__law_raised 2) := fn_P (ms := m__law_raised) (N := N__law_raised) (ps := ["base", "times"]) T.f__law_raised.F sc__law_raised fun cdv A outer s H E hr =>
  (jss_cons (js_par3 (i := 2) (j := 3) (l := 4) rfl sc__law_raised.nd rfl rfl rfl (by decide) (by decide) (by decide) rfl rfl rfl (ja_cons (je_fv je_int) (ja_cons (je_fv (jv 0)) (ja_cons (je_fv (jv 1)) ja_nil))) (by decide) rfl)
    (jss_cons (js_whileN 1000 PassesOwn.never (jt_cmp bGt (jv 4) je_int (nomark _)) (jss_cons (js_if (jt_cmp (bo_eq hr.units) (je_bin bMod (je_callTy cb_int rfl T.z_int (by decide +kernel) (ja_cons (jv 4) ja_nil)) je_int) je_int (nomark _)) (jss_one (jset 2 sc__law_raised.nd (je_bin bo_mul (jv 2) (jv 3)))) jss_nil)
    (jss_cons (jset 4 sc__law_raised.nd (je_bin bFdiv (jv 4) je_int))
    (jss_one (js_if (jt_cmp bGt (jv 4) je_int (nomark _)) (jss_one (jset 3 sc__law_raised.nd (je_bin bo_mul (jv 3) (jv 3)))) jss_nil)))))
    (jss_one (js_ret (jv 2)))))
theorem ok__law_place (T : Txt K mg) : FnOk P w K mg base CX0 3 T.f__law_place.a T.f__law_place.d ["deal"] (spM c__law_place 1) := fn_M (ms := m__law_place) (N := N__law_place) (ps := ["deal"]) T.f__law_place.F sc__law_place fun cdv A outer s H E hr =>
  (jss_cons (jset 1 sc__law_place.nd (je_bin bo_add je_int (je_callMu (ok__law_wide T) (hr.mono (by decide)) rfl T.f__law_wide.m T.f__law_wide.F.kp T.f__law_wide.b (ja_cons (jv 0) (ja_cons (je_ft je_int) ja_nil)))))
    (jss_cons (js_for PassesOwn.never rfl (ji_range1 rfl T.z_range (ja_cons (je_callMu (ok__law_any T) (hr.mono (by decide)) rfl T.f__law_any.m T.f__law_any.F.kp T.f__law_any.b (ja_cons (jv 0) (ja_cons (je_ft je_int) ja_nil))) ja_nil)) (jgn 2 sc__law_place.nd) (jss_one (jset 1 sc__law_place.nd (je_bin bo_mul (jv 1) (je_callP (ok__law_raised T) (hr.mono (by decide)) rfl T.f__law_raised.m T.f__law_raised.F.kp T.f__law_raised.b (ja_cons (je_ft je_int) (ja_cons (je_ft (je_callMu (ok__law_any T) (hr.mono (by decide)) rfl T.f__law_any.m T.f__law_any.F.kp T.f__law_any.b (ja_cons (jv 0) (ja_cons (je_ft je_int) ja_nil)))) ja_nil)))))) (by decide))
    (jss_one (js_ret (jv 1)))))
theorem ok__law_gcd (T : Txt K mg) : FnOk P w K mg base CX0 1 T.f__law_gcd.a T.f__law_gcd.d ["left", "right"] (spP c__law_gcd 2) := fn_P (ms := m__law_gcd) (N := N__law_gcd) (ps := ["left", "right"]) T.f__law_gcd.F sc__law_gcd fun cdv A outer s H E hr =>
  (jss_cons (js_par (i := 0) (j := 1) rfl sc__law_gcd.nd rfl rfl (by decide) rfl rfl (ja_cons (je_fv (je_callB cb_abs rfl T.z_abs (by decide +kernel) (ja_cons (jv 0) ja_nil))) (ja_cons (je_fv (je_callB cb_abs rfl T.z_abs (by decide +kernel) (ja_cons (jv 1) ja_nil))) ja_nil)) (by decide) rfl)
    (jss_cons (js_whileN 1000 PassesOwn.never (jt_cmp (bo_ne hr.units) (jv 1) je_int (nomark _)) (jss_one (js_par (i := 0) (j := 1) rfl sc__law_gcd.nd rfl rfl (by decide) rfl rfl (ja_cons (je_fv (jv 1)) (ja_cons (je_fv (je_bin bMod (je_callTy cb_int rfl T.z_int (by decide +kernel) (ja_cons (jv 0) ja_nil)) (jv 1))) ja_nil)) (by decide) rfl)))
    (jss_one (js_ret (jv 0)))))
theorem ok__law_lowest (T : Txt K mg) : FnOk P w K mg base CX0 2 T.f__law_lowest.a T.f__law_lowest.d ["top", "bottom"] (spP c__law_lowest 2) := fn_P (ms := m__law_lowest) (N := N__law_lowest) (ps := ["top", "bottom"]) T.f__law_lowest.F sc__law_lowest fun cdv A outer s H E hr =>
  (jss_cons (jset 2 sc__law_lowest.nd (je_if (jt_cmp bGt (jv 1) je_int (nomark _)) (je_callP (ok__law_gcd T) (hr.mono (by decide)) rfl T.f__law_gcd.m T.f__law_gcd.F.kp T.f__law_gcd.b (ja_cons (je_ft (jv 0)) (ja_cons (je_ft (jv 1)) ja_nil))) (je_neg (je_callP (ok__law_gcd T) (hr.mono (by decide)) rfl T.f__law_gcd.m T.f__law_gcd.F.kp T.f__law_gcd.b (ja_cons (je_ft (jv 0)) (ja_cons (je_ft (jv 1)) ja_nil))))))
    (jss_one (js_ret (je_tup (ja_cons (je_fz (je_bin bFdiv (jv 0) (jv 2))) (ja_cons (je_fz (je_bin bFdiv (jv 1) (jv 2))) ja_nil))))))
theorem ok__law_bernoulli (T : Txt K mg) : FnOk P w K mg base CX0 3 T.f__law_bernoulli.a T.f__law_bernoulli.d ["row", "n"] (spP c__law_bernoulli 2) := fn_P (ms := m__law_bernoulli) (N := N__law_bernoulli) (ps := ["row", "n"]) T.f__law_bernoulli.F sc__law_bernoulli fun cdv A outer s H E hr =>
  (jss_cons (js_if (jt_cmp bLt (jv 1) je_int (nomark _)) (jss_one (js_ret (je_if (jt_cmp (bo_eq hr.units) (jv 1) je_int (nomark _)) (je_tup (ja_cons (je_fz je_int) (ja_cons (je_fz je_int) ja_nil))) (je_tup (ja_cons (je_fz (je_neg je_int)) (ja_cons (je_fz je_int) ja_nil)))))) jss_nil)
    (jss_cons (js_if (jt_cmp (bo_eq hr.units) (je_bin bMod (je_callTy cb_int rfl T.z_int (by decide +kernel) (ja_cons (jv 1) ja_nil)) je_int) je_int (nomark _)) (jss_one (js_ret (je_tup (ja_cons (je_fz je_int) (ja_cons (je_fz je_int) ja_nil))))) jss_nil)
    (jss_cons (jset 2 sc__law_bernoulli.nd (je_callP (ok__law_raised T) (hr.mono (by decide)) rfl T.f__law_raised.m T.f__law_raised.F.kp T.f__law_raised.b (ja_cons (je_ft je_int) (ja_cons (je_ft (jv 1)) ja_nil))))
    (jss_one (js_ret (je_callP (ok__law_lowest T) (hr.mono (by decide)) rfl T.f__law_lowest.m T.f__law_lowest.F.kp T.f__law_lowest.b (ja_cons (je_ft (je_if (jt_cmp (bo_eq hr.units) (je_bin bMod (je_callTy cb_int rfl T.z_int (by decide +kernel) (ja_cons (jv 1) ja_nil)) je_int) je_int (nomark _)) (je_bin bo_mul (jv 1) (je_ix (jv 0) (je_bin bSub (jv 1) je_int))) (je_bin bo_mul (je_neg (jv 1)) (je_ix (jv 0) (je_bin bSub (jv 1) je_int))))) (ja_cons (je_ft (je_bin bo_mul (jv 2) (je_bin bSub (jv 2) je_int))) ja_nil))))))))
theorem ok__law_height (T : Txt K mg) : FnOk P w K mg base CX0 1 T.f__law_height.a T.f__law_height.d ["number", "p"] (spP c__law_height 2) := fn_P (ms := m__law_height) (N := N__law_height) (ps := ["number", "p"]) T.f__law_height.F sc__law_height fun cdv A outer s H E hr =>
  (jss_cons (jset 2 sc__law_height.nd je_int)
    (jss_cons (js_whileN 1000 PassesOwn.never (jt_cmp (bo_eq hr.units) (je_bin bMod (je_callTy cb_int rfl T.z_int (by decide +kernel) (ja_cons (jv 0) ja_nil)) (jv 1)) je_int (nomark _)) (jss_cons (jset 0 sc__law_height.nd (je_bin bFdiv (jv 0) (jv 1)))
    (jss_one (jaugAdd 2 sc__law_height.nd je_int))))
    (jss_one (js_ret (jv 2)))))
theorem ok_height (T : Txt K mg) : FnOk P w K mg base CX0 1 T.f_height.a T.f_height.d ["number", "p"] (spP c_height 2) := fn_P (ms := m_height) (N := N_height) (ps := ["number", "p"]) T.f_height.F sc_height fun cdv A outer s H E hr =>
  (jss_cons (js_par (i := 2) (j := 3) rfl sc_height.nd rfl rfl (by decide) rfl rfl (ja_cons (je_fv je_int) (ja_cons (je_fv (jv 0)) ja_nil)) (by decide) rfl)
    (jss_cons (js_whileN 1000 PassesOwn.never (jt_cmp (bo_eq hr.units) (je_bin bMod (jv 3) (jv 1)) je_int (nomark _)) (jss_one (js_par (i := 3) (j := 2) rfl sc_height.nd rfl rfl (by decide) rfl rfl (ja_cons (je_fv (je_bin bFdiv (jv 3) (jv 1))) (ja_cons (je_fv (je_bin bo_add (jv 2) je_int)) ja_nil)) (by decide) rfl)))
    (jss_one (js_ret (jv 2)))))
theorem ok_odd_height (T : Txt K mg) : FnOk P w K mg base CX0 2 T.f_odd_height.a T.f_odd_height.d ["n"] (spP c_odd_height 1) := fn_P (ms := m_odd_height) (N := N_odd_height) (ps := ["n"]) T.f_odd_height.F sc_odd_height fun cdv A outer s H E hr =>
  (jss_one (js_ret (je_bin bSub (je_bin bSub (je_bin bo_mul je_int (jv 0)) je_int) (je_callP (ok_height T) (hr.mono (by decide)) rfl T.f_height.m T.f_height.F.kp T.f_height.b (ja_cons (je_ft (jv 0)) (ja_cons (je_ft je_int) ja_nil))))))
theorem ok_next_to_and_fro (T : Txt K mg) : FnOk P w K mg base CX0 1 T.f_next_to_and_fro.a T.f_next_to_and_fro.d ["row"] (spP c_next_to_and_fro 1) := fn_P (ms := m_next_to_and_fro) (N := N_next_to_and_fro) (ps := ["row"]) T.f_next_to_and_fro.F sc_next_to_and_fro fun cdv A outer s H E hr =>
  (jss_cons (jset 1 sc_next_to_and_fro.nd (je_lst (ja_cons (je_fz je_int) ja_nil)))
    (jss_cons (js_for PassesOwn.never rfl (ji_range3 rfl T.z_range (ja_cons (je_bin bSub (je_callB cb_len rfl T.z_len (by decide +kernel) (ja_cons (jv 0) ja_nil)) je_int) (ja_cons (je_neg je_int) (ja_cons (je_neg je_int) ja_nil)))) (jgn 2 sc_next_to_and_fro.nd) (jss_one (js_expr (je_append (j := 1) rfl (by first | exact Or.inl rfl | exact Or.inr (Or.inl rfl) | exact Or.inr (Or.inr rfl)) (je_bin bo_add (je_ix (jv 1) (je_neg je_int)) (je_ix (jv 0) (jv 2)))))) (by decide))
    (jss_one (js_ret (jv 1)))))
theorem ok_zigzags_to (T : Txt K mg) : FnOk P w K mg base CX0 2 T.f_zigzags_to.a T.f_zigzags_to.d ["n"] (spP c_zigzags_to 1) := fn_P (ms := m_zigzags_to) (N := N_zigzags_to) (ps := ["n"]) T.f_zigzags_to.F sc_zigzags_to fun cdv A outer s H E hr =>
  (jss_cons (js_par (i := 1) (j := 2) rfl sc_zigzags_to.nd rfl rfl (by decide) rfl rfl (ja_cons (je_fv (je_lst (ja_cons (je_fz je_int) ja_nil))) (ja_cons (je_fv (je_lst (ja_cons (je_fz je_int) ja_nil))) ja_nil)) (by decide) rfl)
    (jss_cons (js_for PassesOwn.never rfl (ji_range2 rfl T.z_range (ja_cons je_int (ja_cons (je_bin bo_add (jv 0) je_int) ja_nil))) (jgn 3 sc_zigzags_to.nd) (jss_cons (jset 1 sc_zigzags_to.nd (je_callP (ok_next_to_and_fro T) (hr.mono (by decide)) rfl T.f_next_to_and_fro.m T.f_next_to_and_fro.F.kp T.f_next_to_and_fro.b (ja_cons (je_ft (jv 1)) ja_nil)))
    (jss_one (js_expr (je_append (j := 2) rfl (by first | exact Or.inl rfl | exact Or.inr (Or.inl rfl) | exact Or.inr (Or.inr rfl)) (je_ix (jv 1) (je_neg je_int)))))) (by decide))
    (jss_one (js_ret (je_callTy cb_tuple rfl T.z_tuple (by decide +kernel) (ja_cons (jv 2) ja_nil))))))
theorem ok_zigzag (T : Txt K mg) : FnOk P w K mg base CX0 3 T.f_zigzag.a T.f_zigzag.d ["n"] (spP c_zigzag 1) := fn_P (ms := m_zigzag) (N := N_zigzag) (ps := ["n"]) T.f_zigzag.F sc_zigzag fun cdv A outer s H E hr =>
  (jss_one (js_ret (je_ix (je_callP (ok_zigzags_to T) (hr.mono (by decide)) rfl T.f_zigzags_to.m T.f_zigzags_to.F.kp T.f_zigzags_to.b (ja_cons (je_ft (jv 0)) ja_nil)) (jv 0))))
theorem ok_whole_power (T : Txt K mg) : FnOk P w K mg base CX0 1 T.f_whole_power.a T.f_whole_power.d ["base", "times"] (spP c_whole_power 2) := fn_P (ms := m_whole_power) (N := N_whole_power) (ps := ["base", "times"]) T.f_whole_power.F sc_whole_power fun cdv A outer s H E hr =>
  (jss_cons (js_par3 (i := 2) (j := 3) (l := 4) rfl sc_whole_power.nd rfl rfl rfl (by decide) (by decide) (by decide) rfl rfl rfl (ja_cons (je_fv je_int) (ja_cons (je_fv (jv 0)) (ja_cons (je_fv (jv 1)) ja_nil))) (by decide) rfl)
    (jss_cons (js_whileN 1000 PassesOwn.never (jt_cmp bGt (jv 4) je_int (nomark _)) (jss_cons (js_if (jt_cmp (bo_eq hr.units) (je_bin bMod (jv 4) je_int) je_int (nomark _)) (jss_one (jset 2 sc_whole_power.nd (je_bin bo_mul (jv 2) (jv 3)))) jss_nil)
    (jss_cons (jset 4 sc_whole_power.nd (je_bin bFdiv (jv 4) je_int))
    (jss_one (js_if (jt_cmp bGt (jv 4) je_int (nomark _)) (jss_one (jset 3 sc_whole_power.nd (je_bin bo_mul (jv 3) (jv 3)))) jss_nil)))))
    (jss_one (js_ret (jv 2)))))
theorem ok_fraction (T : Txt K mg) : FnOk P w K mg base CX0 1 T.f_fraction.a T.f_fraction.d ["top", "bottom"] (spP c_fraction 2) := fn_P (ms := m_fraction) (N := N_fraction) (ps := ["top", "bottom"]) T.f_fraction.F sc_fraction fun cdv A outer s H E hr =>
  (jss_cons (jset 2 sc_fraction.nd (je_callM cb_gcd rfl T.g_gcd (ja_cons (jv 0) (ja_cons (jv 1) ja_nil))))
    (jss_cons (js_if (jt_cmp bLt (jv 1) je_int (nomark _)) (jss_one (jset 2 sc_fraction.nd (je_neg (jv 2)))) jss_nil)
    (jss_one (js_ret (je_tup (ja_cons (je_fz (je_bin bFdiv (jv 0) (jv 2))) (ja_cons (je_fz (je_bin bFdiv (jv 1) (jv 2))) ja_nil)))))))
theorem ok_bernoulli_from (T : Txt K mg) : FnOk P w K mg base CX0 2 T.f_bernoulli_from.a T.f_bernoulli_from.d ["n", "before"] (spP c_bernoulli_from 2) := fn_P (ms := m_bernoulli_from) (N := N_bernoulli_from) (ps := ["n", "before"]) T.f_bernoulli_from.F sc_bernoulli_from fun cdv A outer s H E hr =>
  (jss_cons (jset 2 sc_bernoulli_from.nd (je_callP (ok_whole_power T) (hr.mono (by decide)) rfl T.f_whole_power.m T.f_whole_power.F.kp T.f_whole_power.b (ja_cons (je_ft je_int) (ja_cons (je_ft (jv 0)) ja_nil))))
    (jss_cons (jset 3 sc_bernoulli_from.nd (je_bin bo_mul (jv 0) (jv 1)))
    (jss_cons (js_if (jt_cmp (bo_eq hr.units) (je_bin bMod (jv 0) je_int) je_int (nomark _)) (jss_one (jset 3 sc_bernoulli_from.nd (je_neg (jv 3)))) jss_nil)
    (jss_one (js_ret (je_callP (ok_fraction T) (hr.mono (by decide)) rfl T.f_fraction.m T.f_fraction.F.kp T.f_fraction.b (ja_cons (je_ft (jv 3)) (ja_cons (je_ft (je_bin bo_mul (jv 2) (je_bin bSub (jv 2) je_int))) ja_nil))))))))
theorem ok_bernoulli (T : Txt K mg) : FnOk P w K mg base CX0 4 T.f_bernoulli.a T.f_bernoulli.d ["n"] (spP c_bernoulli 1) := fn_P (ms := m_bernoulli) (N := N_bernoulli) (ps := ["n"]) T.f_bernoulli.F sc_bernoulli fun cdv A outer s H E hr =>
  (jss_cons (js_if (jt_cmp (bo_eq hr.units) (jv 0) je_int (nomark _)) (jss_one (js_ret (je_tup (ja_cons (je_fz je_int) (ja_cons (je_fz je_int) ja_nil))))) jss_nil)
    (jss_cons (js_if (jt_cmp (bo_eq hr.units) (jv 0) je_int (nomark _)) (jss_one (js_ret (je_tup (ja_cons (je_fz (je_neg je_int)) (ja_cons (je_fz je_int) ja_nil))))) jss_nil)
    (jss_cons (js_if (jt_cmp (bo_eq hr.units) (je_bin bMod (jv 0) je_int) je_int (nomark _)) (jss_one (js_ret (je_tup (ja_cons (je_fz je_int) (ja_cons (je_fz je_int) ja_nil))))) jss_nil)
    (jss_one (js_ret (je_callP (ok_bernoulli_from T) (hr.mono (by decide)) rfl T.f_bernoulli_from.m T.f_bernoulli_from.F.kp T.f_bernoulli_from.b (ja_cons (je_ft (jv 0)) (ja_cons (je_ft (je_callP (ok_zigzag T) (hr.mono (by decide)) rfl T.f_zigzag.m T.f_zigzag.F.kp T.f_zigzag.b (ja_cons (je_ft (je_bin bSub (jv 0) je_int)) ja_nil))) ja_nil))))))))
theorem ok_genocchi (T : Txt K mg) : FnOk P w K mg base CX0 5 T.f_genocchi.a T.f_genocchi.d ["n"] (spP c_genocchi 1) := fn_P (ms := m_genocchi) (N := N_genocchi) (ps := ["n"]) T.f_genocchi.F sc_genocchi fun cdv A outer s H E hr =>
  (jss_cons (js_asgG (je_callP (ok_bernoulli T) (hr.mono (by decide)) rfl T.f_bernoulli.m T.f_bernoulli.F.kp T.f_bernoulli.b (ja_cons (je_ft (jv 0)) ja_nil)) (jg_tup rfl (jgs_cons (jgn 1 sc_genocchi.nd) (jgs_cons (jgn 2 sc_genocchi.nd) jgs_nil))) (by decide))
    (jss_one (js_ret (je_bin bFdiv (je_bin bo_mul (je_bin bo_mul je_int (je_bin bSub je_int (je_callP (ok_whole_power T) (hr.mono (by decide)) rfl T.f_whole_power.m T.f_whole_power.F.kp T.f_whole_power.b (ja_cons (je_ft je_int) (ja_cons (je_ft (jv 0)) ja_nil))))) (jv 1)) (jv 2)))))
theorem ok__law_near_pairs (T : Txt K mg) : FnOk P w K mg base CX0 6 T.f__law_near_pairs.a T.f__law_near_pairs.d ["row", "n"] (spP c__law_near_pairs 2) := fn_P (ms := m__law_near_pairs) (N := N__law_near_pairs) (ps := ["row", "n"]) T.f__law_near_pairs.F sc__law_near_pairs fun cdv A outer s H E hr =>
  (jss_cons (js_par (i := 2) (j := 3) rfl sc__law_near_pairs.nd rfl rfl (by decide) rfl rfl (ja_cons (je_fv (je_ix (jv 0) (je_bin bSub (je_bin bo_mul je_int (jv 1)) je_int))) (ja_cons (je_fv (je_callP (ok__law_raised T) (hr.mono (by decide)) rfl T.f__law_raised.m T.f__law_raised.F.kp T.f__law_raised.b (ja_cons (je_ft je_int) (ja_cons (je_ft (je_bin bo_mul je_int (jv 1))) ja_nil)))) ja_nil)) (by decide) rfl)
    (jss_cons (jset 4 sc__law_near_pairs.nd (je_callP (ok__law_bernoulli T) (hr.mono (by decide)) rfl T.f__law_bernoulli.m T.f__law_bernoulli.F.kp T.f__law_bernoulli.b (ja_cons (je_ft (jv 0)) (ja_cons (je_ft (je_bin bo_mul je_int (jv 1))) ja_nil))))
    (jss_cons (jset 5 sc__law_near_pairs.nd (je_if (jt_cmp (bo_eq hr.units) (je_bin bMod (je_callTy cb_int rfl T.z_int (by decide +kernel) (ja_cons (jv 1) ja_nil)) je_int) je_int (nomark _)) (je_neg je_int) je_int))
    (jss_cons (jset 6 sc__law_near_pairs.nd (je_callTy cb_int rfl T.z_int (by decide +kernel) (ja_cons (je_bin bFdiv (je_bin bo_mul (je_bin bo_mul (je_bin bo_mul (jv 5) je_int) (jv 1)) (jv 2)) (je_bin bFdiv (jv 3) je_int)) ja_nil)))
    (jss_cons (jset 7 sc__law_near_pairs.nd (je_bin bSub (je_bin bSub (je_bin bo_mul je_int (jv 1)) je_int) (je_callP (ok__law_height T) (hr.mono (by decide)) rfl T.f__law_height.m T.f__law_height.F.kp T.f__law_height.b (ja_cons (je_ft (jv 1)) (ja_cons (je_ft je_int) ja_nil)))))
    (jss_cons (js_if (JW.jt (jw_or (jt_cmp (bo_ne hr.units) (je_bin bMod (je_callTy cb_int rfl T.z_int (by decide +kernel) (ja_cons (jv 6) ja_nil)) je_int) je_int (nomark _)) (jw_or (jt_cmp (bo_ne hr.units) (je_callP (ok__law_height T) (hr.mono (by decide)) rfl T.f__law_height.m T.f__law_height.F.kp T.f__law_height.b (ja_cons (je_ft (jv 2)) (ja_cons (je_ft je_int) ja_nil))) (jv 7) (nomark _)) (jw_or1 (jt_cmp (bo_ne hr.units) (je_bin bo_mul (jv 6) (je_ix (jv 4) je_int)) (je_bin bo_mul (je_bin bo_mul je_int (je_bin bSub je_int (jv 3))) (je_ix (jv 4) je_int)) (nomark _)))))) (jss_one (js_ret (je_lst (ja_cons (je_fz (je_tup (ja_cons (je_fz je_bl) (ja_cons (je_fz je_bl) ja_nil)))) ja_nil)))) jss_nil)
    (jss_cons (jset 8 sc__law_near_pairs.nd (je_lst (ja_cons (je_fz (je_tup (ja_cons (je_fz (je_callP (ok_odd_height T) (hr.mono (by decide)) rfl T.f_odd_height.m T.f_odd_height.F.kp T.f_odd_height.b (ja_cons (je_ft (jv 1)) ja_nil))) (ja_cons (je_fz (jv 7)) ja_nil)))) (ja_cons (je_fz (je_tup (ja_cons (je_fz (je_callP (ok_zigzag T) (hr.mono (by decide)) rfl T.f_zigzag.m T.f_zigzag.F.kp T.f_zigzag.b (ja_cons (je_ft (je_bin bSub (je_bin bo_mul je_int (jv 1)) je_int)) ja_nil))) (ja_cons (je_fz (jv 2)) ja_nil)))) (ja_cons (je_fz (je_tup (ja_cons (je_fz (je_callP (ok_height T) (hr.mono (by decide)) rfl T.f_height.m T.f_height.F.kp T.f_height.b (ja_cons (je_ft (jv 2)) (ja_cons (je_ft je_int) ja_nil)))) (ja_cons (je_fz (jv 7)) ja_nil)))) ja_nil)))))
    (jss_one (js_ret (je_bin bo_add (jv 8) (je_lst (ja_cons (je_fz (je_tup (ja_cons (je_fz (je_callP (ok_genocchi T) (hr.mono (by decide)) rfl T.f_genocchi.m T.f_genocchi.F.kp T.f_genocchi.b (ja_cons (je_ft (je_bin bo_mul je_int (jv 1))) ja_nil))) (ja_cons (je_fz (jv 6)) ja_nil)))) (ja_cons (je_fz (je_tup (ja_cons (je_fz (je_callP (ok_bernoulli T) (hr.mono (by decide)) rfl T.f_bernoulli.m T.f_bernoulli.F.kp T.f_bernoulli.b (ja_cons (je_ft (je_bin bo_mul je_int (jv 1))) ja_nil))) (ja_cons (je_fz (jv 4)) ja_nil)))) ja_nil)))))))))))))
theorem ok_law (T : Txt K mg) : FnOk P w K mg base CX0 7 T.f_law.a T.f_law.d ["script"] (spLaw K) := fn_law (n := 7) (i := 1) (salt := 40) (ms := m_law) (N := N_law) T.f_law.F sc_law rfl (by decide) (fun cdv A outer s H E hr => ⟨_,
  pss_cons (ps_set (i := 1) sc_law.nd rfl (by first | exact Or.inl rfl | exact Or.inr rfl) (pe_call (ok__law_deal T) (hr.mono (by decide)) rfl T.f__law_deal.m T.f__law_deal.F.kp T.f__law_deal.b .nil pass0 (pa_cons (pe_var (i := 0) rfl (by first | exact Or.inl rfl | exact Or.inr (Or.inl rfl) | exact Or.inr (Or.inr rfl))) (pa_cons pe_int pa_nil))))
  (JSs.ps (jss_cons (js_par (i := 2) (j := 3) rfl sc_law.nd rfl rfl (by decide) rfl rfl (ja_cons (je_fv (je_callP (ok__law_zigzags T) (hr.mono (by decide)) rfl T.f__law_zigzags.m T.f__law_zigzags.F.kp T.f__law_zigzags.b (ja_cons (je_ft je_int) ja_nil))) (ja_cons (je_fv (je_lst ja_nil)) ja_nil)) (by decide) rfl)
    (jss_cons (js_for PassesOwn.never rfl (ji_seq (je_lst (ja_cons (je_fz (je_bin bo_add je_int (je_callMu (ok__law_any T) (hr.mono (by decide)) rfl T.f__law_any.m T.f__law_any.F.kp T.f__law_any.b (ja_cons (jv 1) (ja_cons (je_ft je_int) ja_nil))))) (ja_cons (je_fz (je_callMu (ok__law_of T) (hr.mono (by decide)) rfl T.f__law_of.m T.f__law_of.F.kp T.f__law_of.b (ja_cons (jv 1) (ja_cons (je_ft (je_lst (ja_cons (je_fz je_int) (ja_cons (je_fz je_int) (ja_cons (je_fz je_int) (ja_cons (je_fz je_int) (ja_cons (je_fz je_int) (ja_cons (je_fz je_int) (ja_cons (je_fz je_int) (ja_cons (je_fz je_int) ja_nil)))))))))) ja_nil)))) (ja_cons (je_fz (je_bin bo_add je_int (je_callMu (ok__law_any T) (hr.mono (by decide)) rfl T.f__law_any.m T.f__law_any.F.kp T.f__law_any.b (ja_cons (jv 1) (ja_cons (je_ft je_int) ja_nil))))) ja_nil))))) (jgn 4 sc_law.nd) (jss_one (jset 3 sc_law.nd (je_bin bo_add (jv 3) (je_callP (ok__law_near_pairs T) (hr.mono (by decide)) rfl T.f__law_near_pairs.m T.f__law_near_pairs.F.kp T.f__law_near_pairs.b (ja_cons (je_ft (jv 2)) (ja_cons (je_ft (jv 4)) ja_nil)))))) (by decide))
    (jss_cons (js_for PassesOwn.never rfl (ji_range1 rfl T.z_range (ja_cons je_int ja_nil)) (jgn 5 sc_law.nd) (jss_cons (jset 4 sc_law.nd (je_callMu (ok__law_place T) (hr.mono (by decide)) rfl T.f__law_place.m T.f__law_place.F.kp T.f__law_place.b (ja_cons (jv 1) ja_nil)))
    (jss_cons (jset 6 sc_law.nd (je_bin bSub (je_bin bSub (je_bin bo_mul je_int (jv 4)) je_int) (je_callP (ok__law_height T) (hr.mono (by decide)) rfl T.f__law_height.m T.f__law_height.F.kp T.f__law_height.b (ja_cons (je_ft (jv 4)) (ja_cons (je_ft je_int) ja_nil)))))
    (jss_cons (jset 3 sc_law.nd (je_bin bo_add (jv 3) (je_lst (ja_cons (je_fz (je_tup (ja_cons (je_fz (je_callP (ok_odd_height T) (hr.mono (by decide)) rfl T.f_odd_height.m T.f_odd_height.F.kp T.f_odd_height.b (ja_cons (je_ft (jv 4)) ja_nil))) (ja_cons (je_fz (jv 6)) ja_nil)))) (ja_cons (je_fz (je_tup (ja_cons (je_fz (je_callP (ok_odd_height T) (hr.mono (by decide)) rfl T.f_odd_height.m T.f_odd_height.F.kp T.f_odd_height.b (ja_cons (je_ft (je_bin bo_mul je_int (jv 4))) ja_nil))) (ja_cons (je_fz (je_bin bSub (je_bin bo_add (je_bin bo_mul je_int (jv 4)) (jv 6)) je_int)) ja_nil)))) (ja_cons (je_fz (je_tup (ja_cons (je_fz (je_kw0 [0] (ok_odd_height T) (hr.mono (by decide)) rfl T.f_odd_height.m T.f_odd_height.F.kp T.k_odd_height_n (jk_cons (je_ft (jv 4)) jk_nil))) (ja_cons (je_fz (jv 6)) ja_nil)))) ja_nil))))))
    (jss_cons (jset 7 sc_law.nd (je_bin bo_add (je_bin bo_mul je_int (je_callMu (ok__law_any T) (hr.mono (by decide)) rfl T.f__law_any.m T.f__law_any.F.kp T.f__law_any.b (ja_cons (jv 1) (ja_cons (je_ft je_int) ja_nil)))) je_int))
    (jss_one (js_expr (je_append (j := 3) rfl (by first | exact Or.inl rfl | exact Or.inr (Or.inl rfl) | exact Or.inr (Or.inr rfl)) (je_tup (ja_cons (je_fz (je_callP (ok_odd_height T) (hr.mono (by decide)) rfl T.f_odd_height.m T.f_odd_height.F.kp T.f_odd_height.b (ja_cons (je_ft (je_bin bo_mul (jv 4) (jv 7))) ja_nil))) (ja_cons (je_fz (je_bin bSub (je_bin bSub (je_bin bo_mul (je_bin bo_mul je_int (jv 4)) (jv 7)) je_int) (je_callP (ok__law_height T) (hr.mono (by decide)) rfl T.f__law_height.m T.f__law_height.F.kp T.f__law_height.b (ja_cons (je_ft (jv 4)) (ja_cons (je_ft je_int) ja_nil))))) ja_nil)))))))))) (by decide))
    (jss_one (js_ret (je_callP (ok__law_all T) (hr.mono (by decide)) rfl T.f__law_all.m T.f__law_all.F.kp T.f__law_all.b (ja_cons (je_ft (jv 3)) ja_nil))))))))⟩) law_true
end
end L2.Z

namespace L2.Z
open PySem PySem.Spec PyProof.Rows
theorem all_mk {l : PySem.W.OpenLaw} {w : World} {K : PySem.W.Frag} {h : Heap} {mg : Str → Option Value} {fa : Addr} (X : K.In h) (G : h.Ns mainGlobals mg) (hfa : mg "law" = some (.ref fa))
    {x0 x1 x2 x3 x4 x5 x6 x7 x8 x9 x10 x11 x12 x13 x14 x15 x16 x17 x18 x19 x20 x21 x22 x23 x24 x25 : Addr} {od0 an0 od1 an1 od2 an2 od3 an3 od4 an4 od5 an5 od6 an6 od7 an7 od8 an8 od9 an9 od10 an10 od11 an11 od12 an12 od13 an13 od14 an14 od15 an15 od16 an16 od17 an17 od18 an18 od19 an19 od20 an20 od21 an21 od22 an22 od23 an23 od24 an24 od25 an25 : Option Addr} {sl0 sl1 sl2 sl3 sl4 sl5 sl6 sl7 sl8 sl9 sl10 sl11 sl12 sl13 sl14 sl15 sl16 sl17 sl18 sl19 sl20 sl21 sl22 sl23 sl24 sl25 : Array (Option Value)} {oc0 kV0 dc0 pm0 cd0 ct0 oc1 kV1 dc1 pm1 cd1 ct1 oc2 kV2 dc2 pm2 cd2 ct2 oc3 kV3 dc3 pm3 cd3 ct3 oc4 kV4 dc4 pm4 cd4 ct4 oc5 kV5 dc5 pm5 cd5 ct5 oc6 kV6 dc6 pm6 cd6 ct6 oc7 kV7 dc7 pm7 cd7 ct7 oc8 kV8 dc8 pm8 cd8 ct8 oc9 kV9 dc9 pm9 cd9 ct9 oc10 kV10 dc10 pm10 cd10 ct10 oc11 kV11 dc11 pm11 cd11 ct11 oc12 kV12 dc12 pm12 cd12 ct12 oc13 kV13 dc13 pm13 cd13 ct13 oc14 kV14 dc14 pm14 cd14 ct14 oc15 kV15 dc15 pm15 cd15 ct15 oc16 kV16 dc16 pm16 cd16 ct16 oc17 kV17 dc17 pm17 cd17 ct17 oc18 kV18 dc18 pm18 cd18 ct18 oc19 kV19 dc19 pm19 cd19 ct19 oc20 kV20 dc20 pm20 cd20 ct20 oc21 kV21 dc21 pm21 cd21 ct21 oc22 kV22 dc22 pm22 cd22 ct22 oc23 kV23 dc23 pm23 cd23 ct23 oc24 kV24 dc24 pm24 cd24 ct24 oc25 kV25 dc25 pm25 cd25 ct25 : Value}
    (a0 : PySem.W.nsIn K mainGlobals "_law_deal" = some (some (.ref x0))) (l0 : K.lookup x0 = some ⟨oc0, od0, .func (PySem.W.fnOf "_law_deal" "_law_deal" (defArgs s__law_deal) (defBody s__law_deal) (defScope s__law_deal) .none kV0 dc0 pm0 an0 cd0 ct0), sl0⟩) (c0 : PySem.W.codeIn K cd0 "_law_deal" = true) (k0 : PySem.W.keepIn K (.ref x0) = true)
    (a1 : PySem.W.nsIn K mainGlobals "_law_same" = some (some (.ref x1))) (l1 : K.lookup x1 = some ⟨oc1, od1, .func (PySem.W.fnOf "_law_same" "_law_same" (defArgs s__law_same) (defBody s__law_same) (defScope s__law_same) .none kV1 dc1 pm1 an1 cd1 ct1), sl1⟩) (c1 : PySem.W.codeIn K cd1 "_law_same" = true) (k1 : PySem.W.keepIn K (.ref x1) = true)
    (a2 : PySem.W.nsIn K mainGlobals "_law_all" = some (some (.ref x2))) (l2 : K.lookup x2 = some ⟨oc2, od2, .func (PySem.W.fnOf "_law_all" "_law_all" (defArgs s__law_all) (defBody s__law_all) (defScope s__law_all) .none kV2 dc2 pm2 an2 cd2 ct2), sl2⟩) (c2 : PySem.W.codeIn K cd2 "_law_all" = true) (k2 : PySem.W.keepIn K (.ref x2) = true)
    (a3 : PySem.W.nsIn K mainGlobals "_law_zigzags" = some (some (.ref x3))) (l3 : K.lookup x3 = some ⟨oc3, od3, .func (PySem.W.fnOf "_law_zigzags" "_law_zigzags" (defArgs s__law_zigzags) (defBody s__law_zigzags) (defScope s__law_zigzags) .none kV3 dc3 pm3 an3 cd3 ct3), sl3⟩) (c3 : PySem.W.codeIn K cd3 "_law_zigzags" = true) (k3 : PySem.W.keepIn K (.ref x3) = true)
    (a4 : PySem.W.nsIn K mainGlobals "_law_any" = some (some (.ref x4))) (l4 : K.lookup x4 = some ⟨oc4, od4, .func (PySem.W.fnOf "_law_any" "_law_any" (defArgs s__law_any) (defBody s__law_any) (defScope s__law_any) .none kV4 dc4 pm4 an4 cd4 ct4), sl4⟩) (c4 : PySem.W.codeIn K cd4 "_law_any" = true) (k4 : PySem.W.keepIn K (.ref x4) = true)
    (a5 : PySem.W.nsIn K mainGlobals "_law_of" = some (some (.ref x5))) (l5 : K.lookup x5 = some ⟨oc5, od5, .func (PySem.W.fnOf "_law_of" "_law_of" (defArgs s__law_of) (defBody s__law_of) (defScope s__law_of) .none kV5 dc5 pm5 an5 cd5 ct5), sl5⟩) (c5 : PySem.W.codeIn K cd5 "_law_of" = true) (k5 : PySem.W.keepIn K (.ref x5) = true)
    (a6 : PySem.W.nsIn K mainGlobals "_law_ten" = some (some (.ref x6))) (l6 : K.lookup x6 = some ⟨oc6, od6, .func (PySem.W.fnOf "_law_ten" "_law_ten" (defArgs s__law_ten) (defBody s__law_ten) (defScope s__law_ten) .none kV6 dc6 pm6 an6 cd6 ct6), sl6⟩) (c6 : PySem.W.codeIn K cd6 "_law_ten" = true) (k6 : PySem.W.keepIn K (.ref x6) = true)
    (a7 : PySem.W.nsIn K mainGlobals "_law_wide" = some (some (.ref x7))) (l7 : K.lookup x7 = some ⟨oc7, od7, .func (PySem.W.fnOf "_law_wide" "_law_wide" (defArgs s__law_wide) (defBody s__law_wide) (defScope s__law_wide) .none kV7 dc7 pm7 an7 cd7 ct7), sl7⟩) (c7 : PySem.W.codeIn K cd7 "_law_wide" = true) (k7 : PySem.W.keepIn K (.ref x7) = true)
    (a8 : PySem.W.nsIn K mainGlobals "_law_raised" = some (some (.ref x8))) (l8 : K.lookup x8 = some ⟨oc8, od8, .func (PySem.W.fnOf "_law_raised" "_law_raised" (defArgs s__law_raised) (defBody s__law_raised) (defScope s__law_raised) .none kV8 dc8 pm8 an8 cd8 ct8), sl8⟩) (c8 : PySem.W.codeIn K cd8 "_law_raised" = true) (k8 : PySem.W.keepIn K (.ref x8) = true)
    (a9 : PySem.W.nsIn K mainGlobals "_law_place" = some (some (.ref x9))) (l9 : K.lookup x9 = some ⟨oc9, od9, .func (PySem.W.fnOf "_law_place" "_law_place" (defArgs s__law_place) (defBody s__law_place) (defScope s__law_place) .none kV9 dc9 pm9 an9 cd9 ct9), sl9⟩) (c9 : PySem.W.codeIn K cd9 "_law_place" = true) (k9 : PySem.W.keepIn K (.ref x9) = true)
    (a10 : PySem.W.nsIn K mainGlobals "_law_gcd" = some (some (.ref x10))) (l10 : K.lookup x10 = some ⟨oc10, od10, .func (PySem.W.fnOf "_law_gcd" "_law_gcd" (defArgs s__law_gcd) (defBody s__law_gcd) (defScope s__law_gcd) .none kV10 dc10 pm10 an10 cd10 ct10), sl10⟩) (c10 : PySem.W.codeIn K cd10 "_law_gcd" = true) (k10 : PySem.W.keepIn K (.ref x10) = true)
    (a11 : PySem.W.nsIn K mainGlobals "_law_lowest" = some (some (.ref x11))) (l11 : K.lookup x11 = some ⟨oc11, od11, .func (PySem.W.fnOf "_law_lowest" "_law_lowest" (defArgs s__law_lowest) (defBody s__law_lowest) (defScope s__law_lowest) .none kV11 dc11 pm11 an11 cd11 ct11), sl11⟩) (c11 : PySem.W.codeIn K cd11 "_law_lowest" = true) (k11 : PySem.W.keepIn K (.ref x11) = true)
    (a12 : PySem.W.nsIn K mainGlobals "_law_bernoulli" = some (some (.ref x12))) (l12 : K.lookup x12 = some ⟨oc12, od12, .func (PySem.W.fnOf "_law_bernoulli" "_law_bernoulli" (defArgs s__law_bernoulli) (defBody s__law_bernoulli) (defScope s__law_bernoulli) .none kV12 dc12 pm12 an12 cd12 ct12), sl12⟩) (c12 : PySem.W.codeIn K cd12 "_law_bernoulli" = true) (k12 : PySem.W.keepIn K (.ref x12) = true)
    (a13 : PySem.W.nsIn K mainGlobals "_law_height" = some (some (.ref x13))) (l13 : K.lookup x13 = some ⟨oc13, od13, .func (PySem.W.fnOf "_law_height" "_law_height" (defArgs s__law_height) (defBody s__law_height) (defScope s__law_height) .none kV13 dc13 pm13 an13 cd13 ct13), sl13⟩) (c13 : PySem.W.codeIn K cd13 "_law_height" = true) (k13 : PySem.W.keepIn K (.ref x13) = true)
    (a14 : PySem.W.nsIn K mainGlobals "height" = some (some (.ref x14))) (l14 : K.lookup x14 = some ⟨oc14, od14, .func (PySem.W.fnOf "height" "height" (defArgs s_height) (defBody s_height) (defScope s_height) .none kV14 dc14 pm14 an14 cd14 ct14), sl14⟩) (c14 : PySem.W.codeIn K cd14 "height" = true) (k14 : PySem.W.keepIn K (.ref x14) = true)
    (a15 : PySem.W.nsIn K mainGlobals "odd_height" = some (some (.ref x15))) (l15 : K.lookup x15 = some ⟨oc15, od15, .func (PySem.W.fnOf "odd_height" "odd_height" (defArgs s_odd_height) (defBody s_odd_height) (defScope s_odd_height) .none kV15 dc15 pm15 an15 cd15 ct15), sl15⟩) (c15 : PySem.W.codeIn K cd15 "odd_height" = true) (k15 : PySem.W.keepIn K (.ref x15) = true)
    (a16 : PySem.W.nsIn K mainGlobals "next_to_and_fro" = some (some (.ref x16))) (l16 : K.lookup x16 = some ⟨oc16, od16, .func (PySem.W.fnOf "next_to_and_fro" "next_to_and_fro" (defArgs s_next_to_and_fro) (defBody s_next_to_and_fro) (defScope s_next_to_and_fro) .none kV16 dc16 pm16 an16 cd16 ct16), sl16⟩) (c16 : PySem.W.codeIn K cd16 "next_to_and_fro" = true) (k16 : PySem.W.keepIn K (.ref x16) = true)
    (a17 : PySem.W.nsIn K mainGlobals "zigzags_to" = some (some (.ref x17))) (l17 : K.lookup x17 = some ⟨oc17, od17, .func (PySem.W.fnOf "zigzags_to" "zigzags_to" (defArgs s_zigzags_to) (defBody s_zigzags_to) (defScope s_zigzags_to) .none kV17 dc17 pm17 an17 cd17 ct17), sl17⟩) (c17 : PySem.W.codeIn K cd17 "zigzags_to" = true) (k17 : PySem.W.keepIn K (.ref x17) = true)
    (a18 : PySem.W.nsIn K mainGlobals "zigzag" = some (some (.ref x18))) (l18 : K.lookup x18 = some ⟨oc18, od18, .func (PySem.W.fnOf "zigzag" "zigzag" (defArgs s_zigzag) (defBody s_zigzag) (defScope s_zigzag) .none kV18 dc18 pm18 an18 cd18 ct18), sl18⟩) (c18 : PySem.W.codeIn K cd18 "zigzag" = true) (k18 : PySem.W.keepIn K (.ref x18) = true)
    (a19 : PySem.W.nsIn K mainGlobals "whole_power" = some (some (.ref x19))) (l19 : K.lookup x19 = some ⟨oc19, od19, .func (PySem.W.fnOf "whole_power" "whole_power" (defArgs s_whole_power) (defBody s_whole_power) (defScope s_whole_power) .none kV19 dc19 pm19 an19 cd19 ct19), sl19⟩) (c19 : PySem.W.codeIn K cd19 "whole_power" = true) (k19 : PySem.W.keepIn K (.ref x19) = true)
    (a20 : PySem.W.nsIn K mainGlobals "fraction" = some (some (.ref x20))) (l20 : K.lookup x20 = some ⟨oc20, od20, .func (PySem.W.fnOf "fraction" "fraction" (defArgs s_fraction) (defBody s_fraction) (defScope s_fraction) .none kV20 dc20 pm20 an20 cd20 ct20), sl20⟩) (c20 : PySem.W.codeIn K cd20 "fraction" = true) (k20 : PySem.W.keepIn K (.ref x20) = true)
    (a21 : PySem.W.nsIn K mainGlobals "bernoulli_from" = some (some (.ref x21))) (l21 : K.lookup x21 = some ⟨oc21, od21, .func (PySem.W.fnOf "bernoulli_from" "bernoulli_from" (defArgs s_bernoulli_from) (defBody s_bernoulli_from) (defScope s_bernoulli_from) .none kV21 dc21 pm21 an21 cd21 ct21), sl21⟩) (c21 : PySem.W.codeIn K cd21 "bernoulli_from" = true) (k21 : PySem.W.keepIn K (.ref x21) = true)
    (a22 : PySem.W.nsIn K mainGlobals "bernoulli" = some (some (.ref x22))) (l22 : K.lookup x22 = some ⟨oc22, od22, .func (PySem.W.fnOf "bernoulli" "bernoulli" (defArgs s_bernoulli) (defBody s_bernoulli) (defScope s_bernoulli) .none kV22 dc22 pm22 an22 cd22 ct22), sl22⟩) (c22 : PySem.W.codeIn K cd22 "bernoulli" = true) (k22 : PySem.W.keepIn K (.ref x22) = true)
    (a23 : PySem.W.nsIn K mainGlobals "genocchi" = some (some (.ref x23))) (l23 : K.lookup x23 = some ⟨oc23, od23, .func (PySem.W.fnOf "genocchi" "genocchi" (defArgs s_genocchi) (defBody s_genocchi) (defScope s_genocchi) .none kV23 dc23 pm23 an23 cd23 ct23), sl23⟩) (c23 : PySem.W.codeIn K cd23 "genocchi" = true) (k23 : PySem.W.keepIn K (.ref x23) = true)
    (a24 : PySem.W.nsIn K mainGlobals "_law_near_pairs" = some (some (.ref x24))) (l24 : K.lookup x24 = some ⟨oc24, od24, .func (PySem.W.fnOf "_law_near_pairs" "_law_near_pairs" (defArgs s__law_near_pairs) (defBody s__law_near_pairs) (defScope s__law_near_pairs) .none kV24 dc24 pm24 an24 cd24 ct24), sl24⟩) (c24 : PySem.W.codeIn K cd24 "_law_near_pairs" = true) (k24 : PySem.W.keepIn K (.ref x24) = true)
    (a25 : PySem.W.nsIn K mainGlobals "law" = some (some (.ref x25))) (l25 : K.lookup x25 = some ⟨oc25, od25, .func (PySem.W.fnOf "law" "law" (defArgs s_law) (defBody s_law) (defScope s_law) .none kV25 dc25 pm25 an25 cd25 ct25), sl25⟩) (c25 : PySem.W.codeIn K cd25 "law" = true) (k25 : PySem.W.keepIn K (.ref x25) = true)
    (z0 : PySem.W.nsIn K mainGlobals "abs" = some none)
    (z1 : PySem.W.nsIn K mainGlobals "bool" = some none)
    (z2 : PySem.W.nsIn K mainGlobals "int" = some none)
    (z3 : PySem.W.nsIn K mainGlobals "isinstance" = some none)
    (z4 : PySem.W.nsIn K mainGlobals "len" = some none)
    (z5 : PySem.W.nsIn K mainGlobals "range" = some none)
    (z6 : PySem.W.nsIn K mainGlobals "str" = some none)
    (z7 : PySem.W.nsIn K mainGlobals "tuple" = some none)
    (g0 : PySem.W.nsIn K mainGlobals "gcd" = some (some (.builtin "math.gcd"))) :
    ∃ fd : FuncData, (∀ (s : Shared) (v : Value), BindsTo s fd ⟨[v], []⟩ [("script", v)]) ∧ ∀ base : Heap, K.In base → base.Ns mainGlobals mg → FnOk l.prog w K mg base CX0 7 fa fd ["script"] (spLaw K) := by
  have e := hfa.symm.trans (PySem.W.mg_of X G a25)
  cases e
  have F0 := fun_mk (st := s__law_deal) l0 c0 k0
  have b0 := F0.binds (ps := ["script", "salt"]) fun _ _ _ _ _ _ us hl => match us, hl with | [_, _], _ => rfl
  have F1 := fun_mk (st := s__law_same) l1 c1 k1
  have b1 := F1.binds (ps := ["told", "due"]) fun _ _ _ _ _ _ us hl => match us, hl with | [_, _], _ => rfl
  have F2 := fun_mk (st := s__law_all) l2 c2 k2
  have b2 := F2.binds (ps := ["pairs"]) fun _ _ _ _ _ _ us hl => match us, hl with | [_], _ => rfl
  have F3 := fun_mk (st := s__law_zigzags) l3 c3 k3
  have b3 := F3.binds (ps := ["many"]) fun _ _ _ _ _ _ us hl => match us, hl with | [_], _ => rfl
  have F4 := fun_mk (st := s__law_any) l4 c4 k4
  have b4 := F4.binds (ps := ["deal", "bound"]) fun _ _ _ _ _ _ us hl => match us, hl with | [_, _], _ => rfl
  have F5 := fun_mk (st := s__law_of) l5 c5 k5
  have b5 := F5.binds (ps := ["deal", "some"]) fun _ _ _ _ _ _ us hl => match us, hl with | [_, _], _ => rfl
  have F6 := fun_mk (st := s__law_ten) l6 c6 k6
  have b6 := F6.binds (ps := ["many"]) fun _ _ _ _ _ _ us hl => match us, hl with | [_], _ => rfl
  have F7 := fun_mk (st := s__law_wide) l7 c7 k7
  have b7 := F7.binds (ps := ["deal", "figures"]) fun _ _ _ _ _ _ us hl => match us, hl with | [_, _], _ => rfl
  have F8 := fun_mk (st := s__law_raised) l8 c8 k8
  have b8 := F8.binds (ps := ["base", "times"]) fun _ _ _ _ _ _ us hl => match us, hl with | [_, _], _ => rfl
  have F9 := fun_mk (st := s__law_place) l9 c9 k9
  have b9 := F9.binds (ps := ["deal"]) fun _ _ _ _ _ _ us hl => match us, hl with | [_], _ => rfl
  have F10 := fun_mk (st := s__law_gcd) l10 c10 k10
  have b10 := F10.binds (ps := ["left", "right"]) fun _ _ _ _ _ _ us hl => match us, hl with | [_, _], _ => rfl
  have F11 := fun_mk (st := s__law_lowest) l11 c11 k11
  have b11 := F11.binds (ps := ["top", "bottom"]) fun _ _ _ _ _ _ us hl => match us, hl with | [_, _], _ => rfl
  have F12 := fun_mk (st := s__law_bernoulli) l12 c12 k12
  have b12 := F12.binds (ps := ["row", "n"]) fun _ _ _ _ _ _ us hl => match us, hl with | [_, _], _ => rfl
  have F13 := fun_mk (st := s__law_height) l13 c13 k13
  have b13 := F13.binds (ps := ["number", "p"]) fun _ _ _ _ _ _ us hl => match us, hl with | [_, _], _ => rfl
  have F14 := fun_mk (st := s_height) l14 c14 k14
  have b14 := F14.binds (ps := ["number", "p"]) fun _ _ _ _ _ _ us hl => match us, hl with | [_, _], _ => rfl
  have F15 := fun_mk (st := s_odd_height) l15 c15 k15
  have b15 := F15.binds (ps := ["n"]) fun _ _ _ _ _ _ us hl => match us, hl with | [_], _ => rfl
  have F16 := fun_mk (st := s_next_to_and_fro) l16 c16 k16
  have b16 := F16.binds (ps := ["row"]) fun _ _ _ _ _ _ us hl => match us, hl with | [_], _ => rfl
  have F17 := fun_mk (st := s_zigzags_to) l17 c17 k17
  have b17 := F17.binds (ps := ["n"]) fun _ _ _ _ _ _ us hl => match us, hl with | [_], _ => rfl
  have F18 := fun_mk (st := s_zigzag) l18 c18 k18
  have b18 := F18.binds (ps := ["n"]) fun _ _ _ _ _ _ us hl => match us, hl with | [_], _ => rfl
  have F19 := fun_mk (st := s_whole_power) l19 c19 k19
  have b19 := F19.binds (ps := ["base", "times"]) fun _ _ _ _ _ _ us hl => match us, hl with | [_, _], _ => rfl
  have F20 := fun_mk (st := s_fraction) l20 c20 k20
  have b20 := F20.binds (ps := ["top", "bottom"]) fun _ _ _ _ _ _ us hl => match us, hl with | [_, _], _ => rfl
  have F21 := fun_mk (st := s_bernoulli_from) l21 c21 k21
  have b21 := F21.binds (ps := ["n", "before"]) fun _ _ _ _ _ _ us hl => match us, hl with | [_, _], _ => rfl
  have F22 := fun_mk (st := s_bernoulli) l22 c22 k22
  have b22 := F22.binds (ps := ["n"]) fun _ _ _ _ _ _ us hl => match us, hl with | [_], _ => rfl
  have F23 := fun_mk (st := s_genocchi) l23 c23 k23
  have b23 := F23.binds (ps := ["n"]) fun _ _ _ _ _ _ us hl => match us, hl with | [_], _ => rfl
  have F24 := fun_mk (st := s__law_near_pairs) l24 c24 k24
  have b24 := F24.binds (ps := ["row", "n"]) fun _ _ _ _ _ _ us hl => match us, hl with | [_, _], _ => rfl
  have F25 := fun_mk (st := s_law) l25 c25 k25
  have b25 := F25.binds (ps := ["script"]) fun _ _ _ _ _ _ us hl => match us, hl with | [_], _ => rfl
  let T : Txt K mg := {
    f__law_deal := ⟨x0, _, F0, PySem.W.mg_of X G a0, b0⟩,
    f__law_same := ⟨x1, _, F1, PySem.W.mg_of X G a1, b1⟩,
    f__law_all := ⟨x2, _, F2, PySem.W.mg_of X G a2, b2⟩,
    f__law_zigzags := ⟨x3, _, F3, PySem.W.mg_of X G a3, b3⟩,
    f__law_any := ⟨x4, _, F4, PySem.W.mg_of X G a4, b4⟩,
    f__law_of := ⟨x5, _, F5, PySem.W.mg_of X G a5, b5⟩,
    f__law_ten := ⟨x6, _, F6, PySem.W.mg_of X G a6, b6⟩,
    f__law_wide := ⟨x7, _, F7, PySem.W.mg_of X G a7, b7⟩,
    f__law_raised := ⟨x8, _, F8, PySem.W.mg_of X G a8, b8⟩,
    f__law_place := ⟨x9, _, F9, PySem.W.mg_of X G a9, b9⟩,
    f__law_gcd := ⟨x10, _, F10, PySem.W.mg_of X G a10, b10⟩,
    f__law_lowest := ⟨x11, _, F11, PySem.W.mg_of X G a11, b11⟩,
    f__law_bernoulli := ⟨x12, _, F12, PySem.W.mg_of X G a12, b12⟩,
    f__law_height := ⟨x13, _, F13, PySem.W.mg_of X G a13, b13⟩,
    f_height := ⟨x14, _, F14, PySem.W.mg_of X G a14, b14⟩,
    f_odd_height := ⟨x15, _, F15, PySem.W.mg_of X G a15, b15⟩,
    k_odd_height_n := kbinds F15 (by decide) fun _ _ _ _ _ _ us ws h1 h2 => match us, ws, h1, h2 with | [], [_], _, _ => rfl,
    f_next_to_and_fro := ⟨x16, _, F16, PySem.W.mg_of X G a16, b16⟩,
    f_zigzags_to := ⟨x17, _, F17, PySem.W.mg_of X G a17, b17⟩,
    f_zigzag := ⟨x18, _, F18, PySem.W.mg_of X G a18, b18⟩,
    f_whole_power := ⟨x19, _, F19, PySem.W.mg_of X G a19, b19⟩,
    f_fraction := ⟨x20, _, F20, PySem.W.mg_of X G a20, b20⟩,
    f_bernoulli_from := ⟨x21, _, F21, PySem.W.mg_of X G a21, b21⟩,
    f_bernoulli := ⟨x22, _, F22, PySem.W.mg_of X G a22, b22⟩,
    f_genocchi := ⟨x23, _, F23, PySem.W.mg_of X G a23, b23⟩,
    f__law_near_pairs := ⟨x24, _, F24, PySem.W.mg_of X G a24, b24⟩,
    f_law := ⟨fa, _, F25, PySem.W.mg_of X G a25, b25⟩,
    z_abs := PySem.W.mg_none_of X G z0,
    z_bool := PySem.W.mg_none_of X G z1,
    z_int := PySem.W.mg_none_of X G z2,
    z_isinstance := PySem.W.mg_none_of X G z3,
    z_len := PySem.W.mg_none_of X G z4,
    z_range := PySem.W.mg_none_of X G z5,
    z_str := PySem.W.mg_none_of X G z6,
    z_tuple := PySem.W.mg_none_of X G z7,
    g_gcd := PySem.W.mg_of X G g0 }
  exact ⟨PySem.W.fnOf "law" "law" (defArgs s_law) (defBody s_law) (defScope s_law) .none kV25 dc25 pm25 an25 cd25 ct25, fun s v => .of_eq rfl, fun base _ _ => ok_law T⟩
end L2.Z
open PySem PySem.W PyProof.Rows
set_option maxRecDepth 100000 in
set_option maxHeartbeats 0 in
theorem PySem.Challenge.cw_toldheights_k40_whole_odd_heights_holds : PySem.Challenge.rw_toldheights_k40_whole_odd_heights.Holds := by
  w_on; o_law; k_head; (case hw => w_witness2)
  k_fill
  refine L2.Z.walk (k := 7) (l := PySem.Challenge.rw_toldheights_k40_whole_odd_heights) ⟨rfl, by decide, by decide⟩ rfl rfl (fun w h Y => PySem.W.kIn_of Y) ?F
  case F =>
    intro w mg fa h KX G hmg
    refine' L2.Z.all_mk KX G hmg ?a0 ?l0 ?c0 ?k0 ?a1 ?l1 ?c1 ?k1 ?a2 ?l2 ?c2 ?k2 ?a3 ?l3 ?c3 ?k3 ?a4 ?l4 ?c4 ?k4 ?a5 ?l5 ?c5 ?k5 ?a6 ?l6 ?c6 ?k6 ?a7 ?l7 ?c7 ?k7 ?a8 ?l8 ?c8 ?k8 ?a9 ?l9 ?c9 ?k9 ?a10 ?l10 ?c10 ?k10 ?a11 ?l11 ?c11 ?k11 ?a12 ?l12 ?c12 ?k12 ?a13 ?l13 ?c13 ?k13 ?a14 ?l14 ?c14 ?k14 ?a15 ?l15 ?c15 ?k15 ?a16 ?l16 ?c16 ?k16 ?a17 ?l17 ?c17 ?k17 ?a18 ?l18 ?c18 ?k18 ?a19 ?l19 ?c19 ?k19 ?a20 ?l20 ?c20 ?k20 ?a21 ?l21 ?c21 ?k21 ?a22 ?l22 ?c22 ?k22 ?a23 ?l23 ?c23 ?k23 ?a24 ?l24 ?c24 ?k24 ?a25 ?l25 ?c25 ?k25 ?z0 ?z1 ?z2 ?z3 ?z4 ?z5 ?z6 ?z7 ?g0
    (case a0 => k_is)
    (case l0 => k_is)
    (case c0 => k_is)
    (case k0 => k_is)
    (case a1 => k_is)
    (case l1 => k_is)
    (case c1 => k_is)
    (case k1 => k_is)
    (case a2 => k_is)
    (case l2 => k_is)
    (case c2 => k_is)
    (case k2 => k_is)
    (case a3 => k_is)
    (case l3 => k_is)
    (case c3 => k_is)
    (case k3 => k_is)
    (case a4 => k_is)
    (case l4 => k_is)
    (case c4 => k_is)
    (case k4 => k_is)
    (case a5 => k_is)
    (case l5 => k_is)
    (case c5 => k_is)
    (case k5 => k_is)
    (case a6 => k_is)
    (case l6 => k_is)
    (case c6 => k_is)
    (case k6 => k_is)
    (case a7 => k_is)
    (case l7 => k_is)
    (case c7 => k_is)
    (case k7 => k_is)
    (case a8 => k_is)
    (case l8 => k_is)
    (case c8 => k_is)
    (case k8 => k_is)
    (case a9 => k_is)
    (case l9 => k_is)
    (case c9 => k_is)
    (case k9 => k_is)
    (case a10 => k_is)
    (case l10 => k_is)
    (case c10 => k_is)
    (case k10 => k_is)
    (case a11 => k_is)
    (case l11 => k_is)
    (case c11 => k_is)
    (case k11 => k_is)
    (case a12 => k_is)
    (case l12 => k_is)
    (case c12 => k_is)
    (case k12 => k_is)
    (case a13 => k_is)
    (case l13 => k_is)
    (case c13 => k_is)
    (case k13 => k_is)
    (case a14 => k_is)
    (case l14 => k_is)
    (case c14 => k_is)
    (case k14 => k_is)
    (case a15 => k_is)
    (case l15 => k_is)
    (case c15 => k_is)
    (case k15 => k_is)
    (case a16 => k_is)
    (case l16 => k_is)
    (case c16 => k_is)
    (case k16 => k_is)
    (case a17 => k_is)
    (case l17 => k_is)
    (case c17 => k_is)
    (case k17 => k_is)
    (case a18 => k_is)
    (case l18 => k_is)
    (case c18 => k_is)
    (case k18 => k_is)
    (case a19 => k_is)
    (case l19 => k_is)
    (case c19 => k_is)
    (case k19 => k_is)
    (case a20 => k_is)
    (case l20 => k_is)
    (case c20 => k_is)
    (case k20 => k_is)
    (case a21 => k_is)
    (case l21 => k_is)
    (case c21 => k_is)
    (case k21 => k_is)
    (case a22 => k_is)
    (case l22 => k_is)
    (case c22 => k_is)
    (case k22 => k_is)
    (case a23 => k_is)
    (case l23 => k_is)
    (case c23 => k_is)
    (case k23 => k_is)
    (case a24 => k_is)
    (case l24 => k_is)
    (case c24 => k_is)
    (case k24 => k_is)
    (case a25 => k_is)
    (case l25 => k_is)
    (case c25 => k_is)
    (case k25 => k_is)
    (case z0 => k_is)
    (case z1 => k_is)
    (case z2 => k_is)
    (case z3 => k_is)
    (case z4 => k_is)
    (case z5 => k_is)
    (case z6 => k_is)
    (case z7 => k_is)
    (case g0 => k_is)

