import PyProof.Rows.All
import Wide.All
import OpenK.AllK
import Wide.FinOn
import HandS.ForMost
import HandS.ForExc
import HandS.TupAny
import HandS.TupMul
import HandS.Deep
import HandS.IsInst
import HandS.Wide
import KE.SortData
import HandS.Zip
import KE.DataFind
import KE.GoesMore
import HandS.HotCalls
import HandS.ExcIs
import HandS.More
import HandS.Conv
import PyProof.DictUpdate
import HandS.TryOnly
import PySem.Challenge.RW_cutwork_k19_runs
set_option Elab.async false
set_option linter.all false
set_option autoImplicit false
set_option maxRecDepth 100000
set_option maxHeartbeats 4000000
namespace Cw
open PySem L2

/-! ### data that stands still, slots, what is owned -/
abbrev Fr := PySem.W.Frag
def Dis (h g : Hp) : Prop := ∀ a, h a = none ∨ g a = none
theorem Dis.symm {h g : Hp} (d : Dis h g) : Dis g h := fun a => (d a).symm
theorem Dis.none {h g : Hp} (d : Dis h g) {a : Addr} {o : HO} (e : h a = some o) : g a = Option.none := by
  rcases d a with q | q
  · rw [q] at e; cases e
  · exact q
theorem Dis.of {h g : Hp} (d : ∀ a o, h a = some o → g a = Option.none) : Dis h g := fun a => by
  cases e : h a with
  | none => exact .inl rfl
  | some o => exact .inr (d a o e)
theorem Dis.sub {h h' g g' : Hp} (d : Dis h' g') (e : Same h h') (e2 : Same g g') : Dis h g := .of fun a o q => by
  have q' := d.none (e a o q)
  exact e2.free q'
theorem seqT {K : Fr} {H H' : Hp} {a : Addr} {xs : List V} (e : Same H H') (h : SqT K H a xs) : SqT K H' a xs := by
  rcases h with (h | ⟨o, h⟩) | h
  · exact .inl (.inl (e _ _ h))
  · exact .inl (.inr ⟨o, e _ _ h⟩)
  · exact .inr h
mutual
theorem dp_mono {K : Fr} {H H' : Hp} (e : Same H H') : ∀ (d : PyData) (v : V), Dp K H v d → Dp K H' v d
  | .none, _, h => by cases h; exact .non
  | .bool b, _, h => by cases h; exact .bl b
  | .int i, _, h => by cases h; exact .int i
  | .str x, _, h => by cases h; exact .str x
  | .list ds, _, h => by
    cases h with
    | lst hs ha => exact .lst (e.seq hs) (dps_mono e ds _ ha)
  | .tuple ds, _, h => by
    cases h with
    | tup hs ha => exact .tup (seqT e hs) (dps_mono e ds _ ha)
  | .dict _, _, h => by cases h
theorem dps_mono {K : Fr} {H H' : Hp} (e : Same H H') : ∀ (ds : List PyData) (vs : List V), DpAll K H vs ds → DpAll K H' vs ds
  | [], _, h => by cases h; exact .nil
  | d :: ds, _, h => by
    cases h with
    | cons h1 h2 => exact .cons (dp_mono e d _ h1) (dps_mono e ds _ h2)
end
theorem dps_len {K : Fr} {H : Hp} : ∀ {vs : List V} {ds : List PyData}, DpAll K H vs ds → vs.length = ds.length
  | _, _, .nil => rfl
  | _, _, .cons _ h => by simp [dps_len h]
theorem dps_at {K : Fr} {H : Hp} : ∀ {vs : List V} {ds : List PyData} {i : Nat} {d : PyData}, DpAll K H vs ds → ds[i]? = some d → ∃ v, vs[i]? = some v ∧ Dp K H v d
  | _, _, _, _, .nil, e => by simp at e
  | _, _, 0, d, .cons h _, e => by simp at e; subst e; exact ⟨_, rfl, h⟩
  | _, _, i + 1, d, .cons _ h, e => by
    obtain ⟨v, h1, h2⟩ := dps_at (i := i) h (by simpa using e)
    exact ⟨v, by simpa using h1, h2⟩
theorem dps_at2 {K : Fr} {H : Hp} : ∀ {vs : List V} {ds : List PyData} {i : Nat} {v : V}, DpAll K H vs ds → vs[i]? = some v → ∃ d, ds[i]? = some d ∧ Dp K H v d
  | _, _, _, _, .nil, e => by simp at e
  | _, _, 0, v, .cons h _, e => by simp at e; subst e; exact ⟨_, rfl, h⟩
  | _, _, i + 1, v, .cons _ h, e => by
    obtain ⟨d, h1, h2⟩ := dps_at2 (i := i) h (by simpa using e)
    exact ⟨d, by simpa using h1, h2⟩
theorem dps_app {K : Fr} {H : Hp} : ∀ {vs ws : List V} {ds es : List PyData}, DpAll K H vs ds → DpAll K H ws es → DpAll K H (vs ++ ws) (ds ++ es)
  | _, _, _, _, .nil, h => h
  | _, _, _, _, .cons h t, k => .cons h (dps_app t k)
theorem dps_set {K : Fr} {H : Hp} : ∀ {vs : List V} {ds : List PyData} (i : Nat) {v : V} {d : PyData}, DpAll K H vs ds → Dp K H v d → DpAll K H (vs.set i v) (ds.set i d)
  | _, _, _, _, _, .nil, _ => .nil
  | _, _, 0, _, _, .cons _ t, k => .cons k t
  | _, _, i + 1, _, _, .cons h t, k => .cons h (dps_set i t k)
theorem dps_take {K : Fr} {H : Hp} : ∀ {vs : List V} {ds : List PyData} (i : Nat), DpAll K H vs ds → DpAll K H (vs.take i) (ds.take i)
  | _, _, 0, _ => by simp; exact .nil
  | _, _, i + 1, .nil => .nil
  | _, _, i + 1, .cons h t => .cons h (dps_take i t)
theorem dps_drop {K : Fr} {H : Hp} : ∀ {vs : List V} {ds : List PyData} (i : Nat), DpAll K H vs ds → DpAll K H (vs.drop i) (ds.drop i)
  | _, _, 0, h => h
  | _, _, i + 1, .nil => .nil
  | _, _, i + 1, .cons h t => dps_drop i t
theorem dps_rev {K : Fr} {H : Hp} : ∀ {vs : List V} {ds : List PyData}, DpAll K H vs ds → DpAll K H vs.reverse ds.reverse
  | _, _, .nil => .nil
  | _, _, .cons h t => by simp; exact dps_app (dps_rev t) (.cons h .nil)
theorem dps_ints {K : Fr} {H : Hp} : ∀ (ns : List Int), DpAll K H (ns.map V.int) (ns.map PyData.int)
  | [] => .nil
  | n :: ns => .cons (.int n) (dps_ints ns)
theorem dps_ints_of {K : Fr} {H : Hp} : ∀ (ns : List Int) {vs : List V}, DpAll K H vs (ns.map PyData.int) → vs = ns.map V.int
  | [], _, h => by cases h; rfl
  | n :: ns, _, h => by
    cases h with
    | cons h1 h2 => cases h1; rw [dps_ints_of ns h2]; rfl
theorem dps_bools_of {K : Fr} {H : Hp} : ∀ (ns : List Bool) {vs : List V}, DpAll K H vs (ns.map PyData.bool) → vs = ns.map V.bl
  | [], _, h => by cases h; rfl
  | n :: ns, _, h => by
    cases h with
    | cons h1 h2 => cases h1; rw [dps_bools_of ns h2]; rfl

/-- what is said of a slot, of an argument, of an answer -/
inductive SD where
  | un
  | d (x : PyData)
  | v (x : V)
def Rp (K : Fr) (F : Hp) (x : V) : SD → Prop
  | .un => True
  | .d d => Dp K F x d
  | .v y => x = y
theorem Rp.mono {K : Fr} {F F' : Hp} {x : V} {s : SD} (e : Same F F') (h : Rp K F x s) : Rp K F' x s := by
  cases s with
  | un => trivial
  | d d => exact dp_mono e d x h
  | v y => exact h
def Sl1 (K : Fr) (F : Hp) : SD → Option V → Prop
  | .un, _ => True
  | _, none => False
  | s, some x => Rp K F x s
def Sl (K : Fr) (F : Hp) : List SD → St → Prop
  | [], [] => True
  | s :: Γ, o :: σ => Sl1 K F s o ∧ Sl K F Γ σ
  | _, _ => False
theorem Sl1.mono {K : Fr} {F F' : Hp} {s : SD} {o : Option V} (e : Same F F') (h : Sl1 K F s o) : Sl1 K F' s o := by
  cases s with
  | un => trivial
  | d x => cases o with
    | none => exact h
    | some y => exact Rp.mono (s := .d x) e h
  | v x => cases o with
    | none => exact h
    | some y => exact h
theorem Sl.mono {K : Fr} {F F' : Hp} (e : Same F F') : ∀ {Γ : List SD} {σ : St}, Sl K F Γ σ → Sl K F' Γ σ
  | [], [], h => h
  | s :: Γ, o :: σ, h => ⟨h.1.mono e, Sl.mono e h.2⟩
  | [], _ :: _, h => h.elim
  | _ :: _, [], h => h.elim
theorem Sl.get {K : Fr} {F : Hp} : ∀ {Γ : List SD} {σ : St} {i : Nat} {s : SD}, Sl K F Γ σ → Γ[i]? = some s → s ≠ .un → ∃ x, σ[i]? = some (some x) ∧ Rp K F x s
  | [], [], _, _, _, e, _ => by simp at e
  | s :: Γ, o :: σ, 0, t, h, e, n => by
    simp at e; subst e
    cases o with
    | none => cases s <;> first | exact absurd rfl n | exact h.1.elim
    | some x => cases s <;> first | exact absurd rfl n | exact ⟨x, rfl, h.1⟩
  | s :: Γ, o :: σ, i + 1, t, h, e, n => by
    obtain ⟨x, h1, h2⟩ := Sl.get (i := i) h.2 (by simpa using e) n
    exact ⟨x, by simpa using h1, h2⟩
  | [], _ :: _, _, _, h, _, _ => h.elim
  | _ :: _, [], _, _, h, _, _ => h.elim
theorem Sl.set {K : Fr} {F : Hp} {x : V} {s : SD} (r : Rp K F x s) : ∀ {Γ : List SD} {σ : St} (i : Nat), Sl K F Γ σ → Sl K F (Γ.set i s) (σ.set i (some x))
  | [], [], _, h => h
  | t :: Γ, o :: σ, 0, h => ⟨by cases s <;> first | trivial | exact r, h.2⟩
  | t :: Γ, o :: σ, i + 1, h => ⟨h.1, Sl.set r i h.2⟩
  | [], _ :: _, _, h => h.elim
  | _ :: _, [], _, h => h.elim
theorem Sl.unset {K : Fr} {F : Hp} {o' : Option V} : ∀ {Γ : List SD} {σ : St} (i : Nat), Sl K F Γ σ → Sl K F (Γ.set i .un) (σ.set i o')
  | [], [], _, h => h
  | t :: Γ, o :: σ, 0, h => ⟨trivial, h.2⟩
  | t :: Γ, o :: σ, i + 1, h => ⟨h.1, Sl.unset i h.2⟩
  | [], _ :: _, _, h => h.elim
  | _ :: _, [], _, h => h.elim
/-- fewer words -/
inductive Wk : List SD → List SD → Prop
  | nil : Wk [] []
  | eq {s : SD} {Γ Γ' : List SD} : Wk Γ Γ' → Wk (s :: Γ) (s :: Γ')
  | un {s : SD} {Γ Γ' : List SD} : Wk Γ Γ' → Wk (s :: Γ) (.un :: Γ')
theorem Wk.refl : ∀ Γ : List SD, Wk Γ Γ
  | [] => .nil
  | _ :: Γ => .eq (Wk.refl Γ)
theorem Sl.weak {K : Fr} {F : Hp} : ∀ {Γ Γ' : List SD} {σ : St}, Wk Γ Γ' → Sl K F Γ σ → Sl K F Γ' σ
  | _, _, [], .nil, h => h
  | _, _, o :: σ, .eq w, h => ⟨h.1, Sl.weak w h.2⟩
  | _, _, o :: σ, .un w, h => ⟨trivial, Sl.weak w h.2⟩
  | _, _, [], .eq _, h => h.elim
  | _, _, [], .un _, h => h.elim
  | _, _, _ :: _, .nil, h => h.elim
theorem Sl.start {K : Fr} {F : Hp} {ss : List SD} {vs : List V} {N : List Str} (h : Sl K F ss (vs.map some)) : Sl K F (ss ++ List.replicate (N.length - ss.length) .un) (L2.start N vs) := by
  have un : ∀ n, Sl K F (List.replicate n SD.un) (List.replicate n (none : Option V)) := fun n => by
    induction n with
    | zero => trivial
    | succ n ih => exact ⟨trivial, ih⟩
  have len : ∀ {Γ : List SD} {σ : St}, Sl K F Γ σ → Γ.length = σ.length := fun {Γ} => by
    induction Γ with
    | nil => intro σ h; cases σ with
      | nil => rfl
      | cons _ _ => exact h.elim
    | cons s Γ ih => intro σ h; cases σ with
      | nil => exact h.elim
      | cons o σ => simp [ih h.2]
  have app : ∀ {Γ Δ : List SD} {σ τ : St}, Sl K F Γ σ → Sl K F Δ τ → Sl K F (Γ ++ Δ) (σ ++ τ) := fun {Γ} => by
    induction Γ with
    | nil => intro Δ σ τ h k; cases σ with
      | nil => exact k
      | cons _ _ => exact h.elim
    | cons s Γ ih => intro Δ σ τ h k; cases σ with
      | nil => exact h.elim
      | cons o σ => exact ⟨h.1, ih h.2 k⟩
  have e := len h
  rw [List.length_map] at e
  unfold L2.start
  rw [← e]
  exact app h (un _)

structure Own where
  P : Hp → Hp → Prop
  mono : ∀ {F F' h h' : Hp}, Same F F' → Same h h' → P F h → P F' h'
/-- a mutable list of data -/
def lst (K : Fr) (p : Addr) (ds : List PyData) : Own := ⟨fun F h => ∃ xs, h p = some (.lst xs) ∧ DpAll K F xs ds, fun e e2 ⟨xs, h1, h2⟩ => ⟨xs, e2 _ _ h1, dps_mono e ds xs h2⟩⟩
/-- a mutable list of these very values -/
def lstV (p : Addr) (xs : List V) : Own := ⟨fun _ h => h p = some (.lst xs), fun _ e2 h1 => e2 _ _ h1⟩
def emp : Own := ⟨fun _ _ => True, fun _ _ _ => trivial⟩
def star (O1 O2 : Own) : Own := ⟨fun F h => ∃ h1 h2, Dis h1 h2 ∧ Same h1 h ∧ Same h2 h ∧ O1.P F h1 ∧ O2.P F h2,
  fun e e2 ⟨h1, h2, d, s1, s2, p1, p2⟩ => ⟨h1, h2, d, s1.trans e2, s2.trans e2, O1.mono e (Same.refl _) p1, O2.mono e (Same.refl _) p2⟩⟩

/-- the state: frozen F (behind the base B.1), the frame B.2, the slots, what is owned -/
structure At (K : Fr) (B : Hp × Hp) (F : Hp) (Γ : List SD) (Os : List Own) (σ : St) (H : Hp) : Prop where
  sl : Sl K F Γ σ
  bs : Same B.1 F
  fr : Same F H
  rs : Same B.2 H
  rf : Dis B.2 F
  ow : ∃ hs : Nat → Hp, (∀ (i : Nat) (O : Own), Os[i]? = some O → O.P F (hs i)) ∧ (∀ i, Same (hs i) H) ∧ (∀ i, Dis (hs i) F) ∧ (∀ i j, i ≠ j → Dis (hs i) (hs j)) ∧ ∀ i, Dis (hs i) B.2
section
variable {K : Fr} {B : Hp × Hp} {F F' : Hp} {Γ Γ' : List SD} {Os Os' : List Own} {σ σ' : St} {H H' : Hp}
def hp0 : Hp := fun _ => none
theorem same0 (H : Hp) : Same hp0 H := fun _ _ h => nomatch h
theorem dis0 (H : Hp) : Dis hp0 H := fun _ => .inl rfl
theorem At.slots (A : At K B F Γ Os σ H) (h : Sl K F Γ' σ') : At K B F Γ' Os σ' H := ⟨h, A.bs, A.fr, A.rs, A.rf, A.ow⟩
theorem At.weak (A : At K B F Γ Os σ H) (w : Wk Γ Γ') : At K B F Γ' Os σ H := A.slots (A.sl.weak w)
theorem At.get {i : Nat} {s : SD} (A : At K B F Γ Os σ H) (e : Γ[i]? = some s) (n : s ≠ .un) : ∃ x, σ[i]? = some (some x) ∧ Rp K F x s := A.sl.get e n
theorem At.set {i : Nat} {x : V} {s : SD} (A : At K B F Γ Os σ H) (r : Rp K F x s) : At K B F (Γ.set i s) Os (σ.set i (some x)) H := A.slots (A.sl.set r i)
/-- the heap grows; some of what is new is frozen -/
theorem At.grow (A : At K B F Γ Os σ H) (e : Same F F') (f : Same F' H') (g : Same H H') (n : ∀ a o, F' a = some o → F a = none → H a = none) : At K B F' Γ Os σ H' := by
  obtain ⟨hs, h1, h2, h3, h4, h5⟩ := A.ow
  have dd : ∀ {h : Hp}, Same h H → Dis h F → Dis h F' := fun {h} s d => .of fun a o q => by
    cases q' : F' a with
    | none => rfl
    | some o' =>
      have z := n a o' q' (d.none q)
      rw [s a o q] at z; cases z
  exact ⟨A.sl.mono e, A.bs.trans e, f, A.rs.trans g, dd A.rs A.rf, hs, fun i O q => O.mono e (Same.refl _) (h1 i O q), fun i => (h2 i).trans g, fun i => dd (h2 i) (h3 i), h4, h5⟩
theorem At.same (A : At K B F Γ Os σ H) (g : Same H H') : At K B F Γ Os σ H' := A.grow (Same.refl _) (A.fr.trans g) g fun a o h n => by rw [h] at n; cases n
/-- a new object, frozen -/
theorem same_upd {p : Addr} {o : HO} (n : H p = none) : Same H (upd H p o) := fun a u e => by rw [upd_ne (ne_of_none e n)]; exact e
theorem At.newF {p : Addr} {o : HO} (A : At K B F Γ Os σ H) (n : H p = none) : At K B (upd F p o) Γ Os σ (upd H p o) := by
  have nf : F p = none := A.fr.free n
  refine A.grow (same_upd nf) (fun a u e => ?_) (same_upd n) fun a u e z => ?_
  · by_cases q : a = p
    · subst q; rw [upd_same] at e; cases e; exact upd_same
    · rw [upd_ne q] at e ⊢; exact A.fr a u e
  · by_cases q : a = p
    · subst q; exact n
    · rw [upd_ne q, z] at e; cases e
/-- one more that is owned -/
theorem At.add {h' : Hp} {O' : Own} (A : At K B F Γ Os σ H) (e : Same F F') (f : Same F' H') (g : Same H H') (n : ∀ a o, F' a = some o → F a = none → H a = none)
    (p : O'.P F' h') (s : Same h' H') (d : Dis h' F') (m : ∀ a o, h' a = some o → H a = none) : At K B F' Γ (Os ++ [O']) σ H' := by
  have A' := A.grow e f g n
  obtain ⟨hs, h1, h2, h3, h4, h5⟩ := A.ow
  have dd : ∀ {h : Hp}, Same h H → Dis h F → Dis h F' := fun {h} s d => .of fun a o q => by
    cases q' : F' a with
    | none => rfl
    | some o' =>
      have z := n a o' q' (d.none q)
      rw [s a o q] at z; cases z
  have dh : ∀ {h : Hp}, Same h H → Dis h h' := fun {h} s => .of fun a o q => by
    cases q' : h' a with
    | none => rfl
    | some o' =>
      have z := m a o' q'
      rw [s a o q] at z; cases z
  refine ⟨A'.sl, A'.bs, A'.fr, A'.rs, A'.rf, fun i => if i = Os.length then h' else hs i, fun i O q => ?_, fun i => ?_, fun i => ?_, fun i j ne => ?_, fun i => ?_⟩
  · by_cases z : i = Os.length
    · subst z
      simp at q; subst q
      simp only [if_pos]; exact p
    · simp only [if_neg z]
      have lt : i < Os.length := by
        have := (List.getElem?_eq_some_iff.mp q).1
        simp at this; omega
      rw [List.getElem?_append_left lt] at q
      exact O.mono e (Same.refl _) (h1 i O q)
  · by_cases z : i = Os.length
    · simp only [if_pos z]; exact s
    · simp only [if_neg z]; exact (h2 i).trans g
  · by_cases z : i = Os.length
    · simp only [if_pos z]; exact d
    · simp only [if_neg z]; exact dd (h2 i) (h3 i)
  · by_cases z : i = Os.length
    · by_cases z2 : j = Os.length
      · exact absurd (z.trans z2.symm) ne
      · simp only [if_pos z, if_neg z2]; exact (dh (h2 j)).symm
    · by_cases z2 : j = Os.length
      · simp only [if_pos z2, if_neg z]; exact dh (h2 i)
      · simp only [if_neg z, if_neg z2]; exact h4 i j ne
  · by_cases z : i = Os.length
    · simp only [if_pos z]; exact (dh A.rs).symm
    · simp only [if_neg z]; exact h5 i
def one (p : Addr) (o : HO) : Hp := fun a => if a = p then some o else none
theorem one_same {p : Addr} {o : HO} : one p o p = some o := by unfold one; rw [if_pos rfl]
theorem one_of {p a : Addr} {o u : HO} (h : one p o a = some u) : a = p ∧ u = o := by
  unfold one at h
  by_cases q : a = p
  · rw [if_pos q] at h; cases h; exact ⟨q, rfl⟩
  · rw [if_neg q] at h; cases h
theorem At.newO {p : Addr} {o : HO} {O' : Own} (A : At K B F Γ Os σ H) (n : H p = none) (q : O'.P F (one p o)) : At K B F Γ (Os ++ [O']) σ (upd H p o) := by
  refine A.add (Same.refl _) (A.fr.trans (same_upd n)) (same_upd n) (fun a o h z => by rw [h] at z; cases z) q (fun a u e => ?_) (.of fun a u e => ?_) fun a u e => ?_
  · obtain ⟨rfl, rfl⟩ := one_of e; exact upd_same
  · obtain ⟨rfl, rfl⟩ := one_of e; exact A.fr.free n
  · obtain ⟨rfl, rfl⟩ := one_of e; exact n
/-- one of the owned is touched -/
theorem At.touch {i : Nat} {O : Own} (A : At K B F Γ Os σ H) (hi : Os[i]? = some O) : ∃ h, O.P F h ∧ Same h H ∧ Dis h F ∧ ∀ {F' H' h' : Hp} {O' : Own}, Same F F' → Same F' H' →
    O'.P F' h' → Same h' H' → Dis h' F' → (∀ a o, H a = some o → h a = none → H' a = some o) → (∀ a o, h' a = some o → h a = none → H a = none) → (∀ a o, F' a = some o → F a = none → h a = none → H a = none) → At K B F' Γ (Os.set i O') σ H' := by
  obtain ⟨hs, h1, h2, h3, h4, h5⟩ := A.ow
  refine ⟨hs i, h1 i O hi, h2 i, h3 i, fun {F' H' h' O'} e f p s d k m n => ?_⟩
  have dd : ∀ {h : Hp}, Same h H → Dis h F → Dis h (hs i) → Dis h F' := fun {h} s d d2 => .of fun a o q => by
    cases q' : F' a with
    | none => rfl
    | some o' =>
      have z := n a o' q' (d.none q) (d2.none q)
      rw [s a o q] at z; cases z
  have dh : ∀ {h : Hp}, Same h H → Dis h (hs i) → Dis h h' := fun {h} s d2 => .of fun a o q => by
    cases q' : h' a with
    | none => rfl
    | some o' =>
      have z := m a o' q' (d2.none q)
      rw [s a o q] at z; cases z
  have ks : ∀ {h : Hp}, Same h H → Dis h (hs i) → Same h H' := fun {h} s d2 a o q => k a o (s a o q) (d2.none q)
  refine ⟨A.sl.mono e, A.bs.trans e, f, ks A.rs (h5 i).symm, dd A.rs A.rf (h5 i).symm, fun j => if j = i then h' else hs j, fun j O q => ?_, fun j => ?_, fun j => ?_, fun j l ne => ?_, fun j => ?_⟩
  · by_cases z : j = i
    · subst z
      have lt := (List.getElem?_eq_some_iff.mp hi).1
      rw [List.getElem?_set_self lt] at q
      cases q
      simp only [if_pos]; exact p
    · simp only [if_neg z]
      rw [List.getElem?_set_ne (Ne.symm z)] at q
      exact O.mono e (Same.refl _) (h1 j O q)
  · by_cases z : j = i
    · simp only [if_pos z]; exact s
    · simp only [if_neg z]; exact ks (h2 j) (h4 j i z)
  · by_cases z : j = i
    · simp only [if_pos z]; exact d
    · simp only [if_neg z]; exact dd (h2 j) (h3 j) (h4 j i z)
  · by_cases z : j = i
    · by_cases z2 : l = i
      · exact absurd (z.trans z2.symm) ne
      · simp only [if_pos z, if_neg z2]; exact (dh (h2 l) (h4 l i z2)).symm
    · by_cases z2 : l = i
      · simp only [if_pos z2, if_neg z]; exact dh (h2 j) (h4 j i z)
      · simp only [if_neg z, if_neg z2]; exact h4 j l ne
  · by_cases z : j = i
    · simp only [if_pos z]; exact (dh A.rs (h5 i).symm).symm
    · simp only [if_neg z]; exact h5 j
/-- another order, fewer -/
theorem At.re (A : At K B F Γ Os σ H) (f : Nat → Nat) (inj : ∀ i j, i < Os'.length → j < Os'.length → f i = f j → i = j) (h : ∀ (i : Nat) (O : Own), Os'[i]? = some O → Os[f i]? = some O) : At K B F Γ Os' σ H := by
  obtain ⟨hs, h1, h2, h3, h4, h5⟩ := A.ow
  refine ⟨A.sl, A.bs, A.fr, A.rs, A.rf, fun i => if i < Os'.length then hs (f i) else hp0, fun i O q => ?_, fun i => ?_, fun i => ?_, fun i j ne => ?_, fun i => ?_⟩
  · have lt := (List.getElem?_eq_some_iff.mp q).1
    simp only [if_pos lt]
    exact h1 _ _ (h i O q)
  · by_cases z : i < Os'.length
    · simp only [if_pos z]; exact h2 _
    · simp only [if_neg z]; exact same0 _
  · by_cases z : i < Os'.length
    · simp only [if_pos z]; exact h3 _
    · simp only [if_neg z]; exact dis0 _
  · by_cases z : i < Os'.length
    · by_cases z2 : j < Os'.length
      · simp only [if_pos z, if_pos z2]; exact h4 _ _ fun q => ne (inj i j z z2 q)
      · simp only [if_neg z2]; exact (dis0 _).symm
    · simp only [if_neg z]; exact dis0 _
  · by_cases z : i < Os'.length
    · simp only [if_pos z]; exact h5 _
    · simp only [if_neg z]; exact dis0 _
theorem At.take (A : At K B F Γ Os σ H) (n : Nat) : At K B F Γ (Os.take n) σ H := A.re id (fun _ _ _ _ q => q) fun i O q => by
  have lt := (List.getElem?_eq_some_iff.mp q).1
  rw [List.length_take] at lt
  rw [List.getElem?_take_of_lt (by omega)] at q
  exact q
/-- the owned list is given up: it stands still from now on -/
theorem At.freeze {i : Nat} {p : Addr} {ds : List PyData} (A : At K B F Γ Os σ H) (hi : Os[i]? = some (lst K p ds)) : ∃ F', Same F F' ∧ At K B F' Γ (Os.set i emp) σ H ∧ Dp K F' (.ref p) (.list ds) := by
  obtain ⟨h, ⟨xs, hp, hd⟩, s, d, k⟩ := A.touch hi
  have nf : F p = none := d.none hp
  refine ⟨upd F p (.lst xs), same_upd nf, k (h' := hp0) (same_upd nf) (fun a o e => ?_) trivial (same0 _) (dis0 _) (fun a o e _ => e) (fun a o e => nomatch e) (fun a o e z z2 => ?_), .lst (.inl (.inl upd_same)) (dps_mono (same_upd nf) ds xs hd)⟩
  · by_cases q : a = p
    · subst q; rw [upd_same] at e; cases e; exact s _ _ hp
    · rw [upd_ne q] at e; exact A.fr a o e
  · by_cases q : a = p
    · subst q; rw [hp] at z2; cases z2
    · rw [upd_ne q, z] at e; cases e
/-- what a callee sees: one of the owned; all else is its frame -/
theorem At.call1 {i : Nat} {O : Own} (A : At K B F Γ Os σ H) (hi : Os[i]? = some O) : ∃ B', B'.1 = F ∧ At K B' F Γ [O] σ H ∧ ∀ {F' H' : Hp} {O' : Own} {Ot : List Own} {σ' : St}, At K B' F' [] (O' :: Ot) σ' H' → At K B F' Γ (Os.set i O' ++ Ot) σ H' := by
  obtain ⟨hs, h1, h2, h3, h4, h5⟩ := id A.ow
  refine ⟨(F, fun a => if (hs i a).isSome ∨ (F a).isSome then none else H a), rfl, ⟨A.sl, Same.refl _, A.fr, fun a o e => ?_, .of fun a o e => ?_, fun j => if j = 0 then hs i else hp0, fun j O' q => ?_, fun j => ?_, fun j => ?_, fun j l ne => ?_, fun j => ?_⟩, fun {F' H' O' Ot σ'} A' => ?_⟩
  · dsimp only at e; split at e
    · cases e
    · exact e
  · dsimp only at e; split at e
    · cases e
    · rename_i z
      cases q : F a with
      | none => rfl
      | some u => exact absurd (.inr (by rw [q]; rfl)) z
  · cases j with
    | zero => simp at q; subst q; exact h1 i _ hi
    | succ j => simp at q
  · by_cases z : j = 0
    · simp only [if_pos z]; exact h2 i
    · simp only [if_neg z]; exact same0 _
  · by_cases z : j = 0
    · simp only [if_pos z]; exact h3 i
    · simp only [if_neg z]; exact dis0 _
  · by_cases z : j = 0
    · by_cases z2 : l = 0
      · exact absurd (z.trans z2.symm) ne
      · simp only [if_neg z2]; exact (dis0 _).symm
    · simp only [if_neg z]; exact dis0 _
  · by_cases z : j = 0
    · simp only [if_pos z]
      refine .of fun a o e => ?_
      show (if (hs i a).isSome ∨ (F a).isSome then none else H a) = none
      rw [if_pos (.inl (by rw [e]; rfl))]
    · simp only [if_neg z]; exact dis0 _
  · obtain ⟨gs, g1, g2, g3, g4, g5⟩ := A'.ow
    have e : Same F F' := A'.bs
    -- what is framed
    have inR : ∀ {h : Hp}, Same h H → Dis h F → Dis h (hs i) → Same h (fun a => if (hs i a).isSome ∨ (F a).isSome then none else H a) := fun {h} s d d2 a o q => by
      show (if (hs i a).isSome ∨ (F a).isSome then none else H a) = some o
      rw [if_neg (by rintro (z | z) <;> first | (rw [d2.none q] at z; cases z) | (rw [d.none q] at z; cases z))]
      exact s a o q
    have lt := (List.getElem?_eq_some_iff.mp hi).1
    have rR := inR A.rs A.rf (h5 i).symm
    refine ⟨A.sl.mono e, A.bs.trans e, A'.fr, rR.trans A'.rs, A'.rf.sub rR (Same.refl _), fun j => if j = i then gs 0 else if j < Os.length then hs j else if j - Os.length < Ot.length then gs (j - Os.length + 1) else hp0, fun j O2 q => ?_, fun j => ?_, fun j => ?_, fun j l ne => ?_, fun j => ?_⟩
    · by_cases z : j = i
      · subst z
        rw [List.getElem?_append_left (by rw [List.length_set]; exact lt), List.getElem?_set_self lt] at q
        cases q
        simp only [if_pos]
        exact g1 0 _ rfl
      · simp only [if_neg z]
        by_cases z2 : j < Os.length
        · simp only [if_pos z2]
          rw [List.getElem?_append_left (by rw [List.length_set]; exact z2), List.getElem?_set_ne (Ne.symm z)] at q
          exact O2.mono e (Same.refl _) (h1 j _ q)
        · simp only [if_neg z2]
          rw [List.getElem?_append_right (by rw [List.length_set]; omega), List.length_set] at q
          have lt2 := (List.getElem?_eq_some_iff.mp q).1
          simp only [if_pos lt2]
          exact g1 _ _ (by simpa using q)
    · by_cases z : j = i
      · simp only [if_pos z]; exact g2 0
      · simp only [if_neg z]
        by_cases z2 : j < Os.length
        · simp only [if_pos z2]; exact (inR (h2 j) (h3 j) (h4 j i z)).trans A'.rs
        · simp only [if_neg z2]
          split
          · exact g2 _
          · exact same0 _
    · by_cases z : j = i
      · simp only [if_pos z]; exact g3 0
      · simp only [if_neg z]
        by_cases z2 : j < Os.length
        · simp only [if_pos z2]; exact A'.rf.sub (inR (h2 j) (h3 j) (h4 j i z)) (Same.refl _)
        · simp only [if_neg z2]
          split
          · exact g3 _
          · exact dis0 _
    · have fr : ∀ j, j ≠ i → ∀ k, Dis (gs k) (hs j) := fun j nj k => (g5 k).sub (Same.refl _) (inR (h2 j) (h3 j) (h4 j i nj))
      by_cases z : j = i
      · simp only [if_pos z]
        by_cases y : l = i
        · exact absurd (z.trans y.symm) ne
        · simp only [if_neg y]
          by_cases y2 : l < Os.length
          · simp only [if_pos y2]; exact fr l y 0
          · simp only [if_neg y2]
            split
            · exact g4 _ _ (by omega)
            · exact (dis0 _).symm
      · simp only [if_neg z]
        by_cases z2 : j < Os.length
        · simp only [if_pos z2]
          by_cases y : l = i
          · simp only [if_pos y]; exact (fr j z 0).symm
          · simp only [if_neg y]
            by_cases y2 : l < Os.length
            · simp only [if_pos y2]; exact h4 j l ne
            · simp only [if_neg y2]
              split
              · exact (fr j z _).symm
              · exact (dis0 _).symm
        · simp only [if_neg z2]
          split
          · by_cases y : l = i
            · simp only [if_pos y]; exact g4 _ _ (by omega)
            · simp only [if_neg y]
              by_cases y2 : l < Os.length
              · simp only [if_pos y2]; exact fr l y _
              · simp only [if_neg y2]
                split
                · exact g4 _ _ (by omega)
                · exact (dis0 _).symm
          · exact dis0 _
    · by_cases z : j = i
      · simp only [if_pos z]; exact (g5 0).sub (Same.refl _) rR
      · simp only [if_neg z]
        by_cases z2 : j < Os.length
        · simp only [if_pos z2]; exact h5 j
        · simp only [if_neg z2]
          split
          · exact (g5 _).sub (Same.refl _) rR
          · exact dis0 _
/-- .. nothing owned -/
theorem At.call0 (A : At K B F Γ Os σ H) : ∃ B', B'.1 = F ∧ At K B' F Γ [] σ H ∧ ∀ {F' H' : Hp} {Ot : List Own} {σ' : St}, At K B' F' [] Ot σ' H' → At K B F' Γ (Os ++ Ot) σ H' := by
  have A2 : At K B F Γ (Os ++ [emp]) σ H := A.add (h' := hp0) (Same.refl _) A.fr (Same.refl _) (fun a o h z => by rw [h] at z; cases z) trivial (same0 _) (dis0 _) fun a o e => nomatch e
  obtain ⟨B', e, C, k⟩ := A2.call1 (i := Os.length) (O := emp) (by simp)
  refine ⟨B', e, C.re id (fun _ _ _ _ q => q) fun i O q => by simp at q, fun {F' H' Ot σ'} A' => ?_⟩
  have A3 : At K B' F' [] (emp :: Ot) σ' H' := by
    have A4 : At K B' F' [] (Ot ++ [emp]) σ' H' := A'.add (h' := hp0) (Same.refl _) A'.fr (Same.refl _) (fun a o h z => by rw [h] at z; cases z) trivial (same0 _) (dis0 _) fun a o e => nomatch e
    refine A4.re (fun i => if i = 0 then Ot.length else i - 1) (fun i j h1 h2 q => ?_) fun i O q => ?_
    · simp at h1 h2
      split at q <;> split at q <;> omega
    · cases i with
      | zero => simp at q; subst q; simp
      | succ i =>
        simp at q ⊢
        have lt := (List.getElem?_eq_some_iff.mp q).1
        rw [List.getElem?_append_left lt]; exact q
  have A5 := k A3
  refine A5.re (fun i => if i < Os.length then i else i + 1) (fun i j h1 h2 q => ?_) fun i O q => ?_
  · split at q <;> split at q <;> omega
  · by_cases z : i < Os.length
    · rw [List.getElem?_append_left z] at q
      simp only [if_pos z]
      rw [List.getElem?_append_left (by simp; omega), List.getElem?_set_ne (by omega), List.getElem?_append_left z]
      exact q
    · rw [List.getElem?_append_right (by omega)] at q
      simp only [if_neg z]
      rw [List.getElem?_append_right (by simp; omega)]
      simp
      exact q
end
end Cw

namespace Cw
open PySem L2

def SD.ok : SD → Bool
  | .un => false
  | _ => true
theorem SD.ne {s : SD} (h : s.ok = true) : s ≠ .un := fun e => by subst e; cases h
theorem Rp.sl1 {K : Fr} {F : Hp} {x : V} {s : SD} (h : Rp K F x s) : Sl1 K F s (some x) := by
  cases s <;> first | trivial | exact h
def Bl (B B' : Hp × Hp) : Prop := Same B.1 B'.1 ∧ B.2 = B'.2
theorem Bl.refl (B : Hp × Hp) : Bl B B := ⟨Same.refl _, rfl⟩
theorem Bl.trans {B C D : Hp × Hp} (a : Bl B C) (b : Bl C D) : Bl B D := ⟨a.1.trans b.1, a.2.trans b.2⟩
theorem At.rebase {K : Fr} {B B' : Hp × Hp} {F : Hp} {Γ : List SD} {Os : List Own} {σ : St} {H : Hp} (A : At K B' F Γ Os σ H) (b : Bl B B') : At K B F Γ Os σ H :=
  ⟨A.sl, b.1.trans A.bs, A.fr, by rw [b.2]; exact A.rs, by rw [b.2]; exact A.rf, by rw [b.2]; exact A.ow⟩
theorem At.upbase {K : Fr} {B : Hp × Hp} {F F1 : Hp} {Γ : List SD} {Os : List Own} {σ : St} {H : Hp} (A : At K B F Γ Os σ H) (e : Same F1 F) : At K (F1, B.2) F Γ Os σ H := ⟨A.sl, e, A.fr, A.rs, A.rf, A.ow⟩

/-! ### what evaluates to what -/
def E (K : Fr) (Γ : List SD) (Os : List Own) (te : TE) (s : SD) (Os' : List Own) : Prop := ∀ (B : Hp × Hp) (F : Hp) (σ : St) (H : Hp), At K B F Γ Os σ H → ∀ Q : VK,
  (∀ x F' H', At K B F' Γ Os' σ H' → Same F F' → Rp K F' x s → Q x H') → te σ H Q
def EL (K : Fr) (Γ : List SD) (Os : List Own) (te : TE) (ds : List PyData) (Os' : List Own) : Prop := ∀ (B : Hp × Hp) (F : Hp) (σ : St) (H : Hp), At K B F Γ Os σ H → ∀ Q : VK,
  (∀ p F' H', At K B F' Γ (Os' ++ [lst K p ds]) σ H' → Same F F' → Q (.ref p) H') → te σ H Q
def ET (K : Fr) (Γ : List SD) (Os : List Own) (tt : TT) (b : Bool) (Os' : List Own) : Prop := ∀ (B : Hp × Hp) (F : Hp) (σ : St) (H : Hp), At K B F Γ Os σ H → ∀ Q : Bool → Hp → Prop,
  (∀ F' H', At K B F' Γ Os' σ H' → Same F F' → Q b H') → tt σ H Q
def EA (K : Fr) (Γ : List SD) (Os : List Own) (ta : TA) (ss : List SD) (Os' : List Own) : Prop := ∀ (B : Hp × Hp) (F : Hp) (σ : St) (H : Hp), At K B F Γ Os σ H → ∀ Q : List V → Hp → Prop,
  (∀ xs F' H', At K B F' Γ Os' σ H' → Same F F' → Sl K F' ss (xs.map some) → Q xs H') → ta σ H Q
def EO (K : Fr) (Γ : List SD) (Os : List Own) (to : TO) (o : Option Int) (Os' : List Own) : Prop := ∀ (B : Hp × Hp) (F : Hp) (σ : St) (H : Hp), At K B F Γ Os σ H → ∀ Q : Option Int → Hp → Prop,
  (∀ F' H', At K B F' Γ Os' σ H' → Same F F' → Q o H') → to σ H Q
/-- by values -/
def OpD (K : Fr) (Os : List Own) (r : R2) (sx sy sz : SD) : Prop := ∀ (B : Hp × Hp) (F : Hp) (Γ : List SD) (σ : St) (H : Hp) (x y : V), At K B F Γ Os σ H → Rp K F x sx → Rp K F y sy → ∀ Q : VK,
  (∀ z F' H', At K B F' Γ Os σ H' → Same F F' → Rp K F' z sz → Q z H') → r x y H Q
def OpL (K : Fr) (Os : List Own) (r : R2) (sx sy : SD) (ds : List PyData) : Prop := ∀ (B : Hp × Hp) (F : Hp) (Γ : List SD) (σ : St) (H : Hp) (x y : V), At K B F Γ Os σ H → Rp K F x sx → Rp K F y sy → ∀ Q : VK,
  (∀ p F' H', At K B F' Γ (Os ++ [lst K p ds]) σ H' → Same F F' → Q (.ref p) H') → r x y H Q
def CbD (K : Fr) (Os : List Own) (r : List V → Hp → VK → Prop) (ss : List SD) (s : SD) (Os' : List Own) : Prop := ∀ (B : Hp × Hp) (F : Hp) (Γ : List SD) (σ : St) (H : Hp) (xs : List V), At K B F Γ Os σ H → Sl K F ss (xs.map some) → ∀ Q : VK,
  (∀ z F' H', At K B F' Γ Os' σ H' → Same F F' → Rp K F' z s → Q z H') → r xs H Q
def CbL (K : Fr) (Os : List Own) (r : List V → Hp → VK → Prop) (ss : List SD) (ds : List PyData) (Os' : List Own) : Prop := ∀ (B : Hp × Hp) (F : Hp) (Γ : List SD) (σ : St) (H : Hp) (xs : List V), At K B F Γ Os σ H → Sl K F ss (xs.map some) → ∀ Q : VK,
  (∀ p F' H', At K B F' Γ (Os' ++ [lst K p ds]) σ H' → Same F F' → Q (.ref p) H') → r xs H Q
/-- calls of own defs -/
def CaD (K : Fr) (Os : List Own) (sp : Sp) (ss : List SD) (s : SD) (Os' : List Own) : Prop := ∀ (X : XK), CbD K Os (fun xs H Q => sp xs H Q X) ss s Os'
def CaL (K : Fr) (Os : List Own) (sp : Sp) (ss : List SD) (ds : List PyData) (Os' : List Own) : Prop := ∀ (X : XK), CbL K Os (fun xs H Q => sp xs H Q X) ss ds Os'

section
variable {K : Fr} {Γ : List SD} {Os Os1 Os2 Os3 : List Own} {ta tb tc te : TE} {tt tu : TT} {sx sy sz s : SD} {r r' r1 r2 : R2} {ds es : List PyData} {d e : PyData}
theorem e_var {i : Nat} (h : Γ[i]? = some s) (n : s.ok = true) : E K Γ Os (tVar i) s Os := fun B F σ H A Q k => by
  obtain ⟨x, h1, h2⟩ := A.get h (SD.ne n)
  exact ⟨x, h1, k x F H A (Same.refl _) h2⟩
theorem e_int {i : Int} : E K Γ Os (tC (.int i)) (.d (.int i)) Os := fun B F σ H A Q k => k _ F H A (Same.refl _) (.int i)
theorem e_bl {b : Bool} : E K Γ Os (tC (.bl b)) (.d (.bool b)) Os := fun B F σ H A Q k => k _ F H A (Same.refl _) (.bl b)
theorem e_str {x : Str} : E K Γ Os (tC (.str x)) (.d (.str x)) Os := fun B F σ H A Q k => k _ F H A (Same.refl _) (.str x)
theorem e_non : E K Γ Os (tC .non) (.d .none) Os := fun B F σ H A Q k => k _ F H A (Same.refl _) .non
theorem e_cv {x : V} : E K Γ Os (tC x) (.v x) Os := fun B F σ H A Q k => k _ F H A (Same.refl _) rfl
theorem take_set_app {α : Type} (l : List α) (x y : α) : ((l ++ [x]).set l.length y).take l.length = l := by
  simp [List.set_append]
theorem e_fz (h : EL K Γ Os te ds Os1) : E K Γ Os te (.d (.list ds)) Os1 := fun B F σ H A Q k => h B F σ H A Q fun p F' H' A' e => by
  obtain ⟨F2, e2, A2, q⟩ := A'.freeze (i := Os1.length) (p := p) (ds := ds) (by simp)
  have A3 := A2.take Os1.length
  rw [take_set_app] at A3
  exact k _ F2 H' A3 (e.trans e2) q
theorem e_op (ha : E K Γ Os ta sx Os1) (hb : E K Γ Os1 tb sy Os2) (hr : OpD K Os2 r sx sy sz) : E K Γ Os (tOp r ta tb) sz Os2 := fun B F σ H A Q k =>
  ha B F σ H A _ fun x F1 H1 A1 e1 r1 => hb B F1 σ H1 A1 _ fun y F2 H2 A2 e2 r2 => hr B F2 Γ σ H2 x y A2 (r1.mono e2) r2 Q fun z F3 H3 A3 e3 r3 => k z F3 H3 A3 ((e1.trans e2).trans e3) r3
theorem el_op (ha : E K Γ Os ta sx Os1) (hb : E K Γ Os1 tb sy Os2) (hr : OpL K Os2 r sx sy ds) : EL K Γ Os (tOp r ta tb) ds Os2 := fun B F σ H A Q k =>
  ha B F σ H A _ fun x F1 H1 A1 e1 r1 => hb B F1 σ H1 A1 _ fun y F2 H2 A2 e2 r2 => hr B F2 Γ σ H2 x y A2 (r1.mono e2) r2 Q fun z F3 H3 A3 e3 => k z F3 H3 A3 ((e1.trans e2).trans e3)
theorem e_un {r : V → Hp → VK → Prop} {f : Int → Int} {i : Int} (ha : E K Γ Os ta (.d (.int i)) Os1) : E K Γ Os (tUn (rU fun i => .int (f i)) ta) (.d (.int (f i))) Os1 := fun B F σ H A Q k =>
  ha B F σ H A _ fun x F1 H1 A1 e1 r1 => by
    cases (show Dp K F1 x (.int i) from r1)
    exact ⟨i, rfl, k _ F1 H1 A1 e1 (.int _)⟩
theorem e_chain {b1 b2 : Bool} (ha : E K Γ Os ta sx Os1) (hb : E K Γ Os1 tb sy Os2) (hr : OpD K Os2 r sx sy (.d (.bool b1))) (hc : b1 = true → E K Γ Os2 tc sz Os2) (hr2 : b1 = true → OpD K Os2 r' sy sz (.d (.bool b2))) :
    E K Γ Os (tChain r r' ta tb tc) (.d (.bool (b1 && b2))) Os2 := fun B F σ H A Q k =>
  ha B F σ H A _ fun x F1 H1 A1 e1 q1 => hb B F1 σ H1 A1 _ fun y F2 H2 A2 e2 q2 => hr B F2 Γ σ H2 x y A2 (q1.mono e2) q2 _ fun z F3 H3 A3 e3 q3 => by
    cases (show Dp K F3 z (.bool b1) from q3)
    refine ⟨b1, rfl, ?_⟩
    cases b1 with
    | true =>
      exact hc rfl B F3 σ H3 A3 _ fun u F4 H4 A4 e4 q4 => hr2 rfl B F4 Γ σ H4 y u A4 ((q2.mono e3).mono e4) q4 Q fun z F5 H5 A5 e5 q5 => k z F5 H5 A5 ((((e1.trans e2).trans e3).trans e4).trans e5) q5
    | false => exact k _ F3 H3 A3 ((e1.trans e2).trans e3) (.bl false)
theorem e_andV {a b : Bool} (ha : E K Γ Os ta (.d (.bool a)) Os1) (hb : a = true → E K Γ Os1 tb (.d (.bool b)) Os1) : E K Γ Os (tAndV ta tb) (.d (.bool (a && b))) Os1 := fun B F σ H A Q k =>
  ha B F σ H A _ fun x F1 H1 A1 e1 q1 => by
    cases (show Dp K F1 x (.bool a) from q1)
    refine ⟨a, rfl, ?_⟩
    cases a with
    | true => exact iteT (hb rfl B F1 σ H1 A1 _ fun y F2 H2 A2 e2 q2 => k y F2 H2 A2 (e1.trans e2) q2)
    | false => exact iteF (k _ F1 H1 A1 e1 (.bl false))
theorem e_orV {a b : Bool} (ha : E K Γ Os ta (.d (.bool a)) Os1) (hb : a = false → E K Γ Os1 tb (.d (.bool b)) Os1) : E K Γ Os (tOrV ta tb) (.d (.bool (a || b))) Os1 := fun B F σ H A Q k =>
  ha B F σ H A _ fun x F1 H1 A1 e1 q1 => by
    cases (show Dp K F1 x (.bool a) from q1)
    refine ⟨a, rfl, ?_⟩
    cases a with
    | false => exact iteF (hb rfl B F1 σ H1 A1 _ fun y F2 H2 A2 e2 q2 => k y F2 H2 A2 (e1.trans e2) q2)
    | true => exact iteT (k _ F1 H1 A1 e1 (.bl true))
theorem e_notV {a : Bool} (ha : E K Γ Os ta (.d (.bool a)) Os1) : E K Γ Os (tNotV ta) (.d (.bool (!a))) Os1 := fun B F σ H A Q k =>
  ha B F σ H A _ fun x F1 H1 A1 e1 q1 => by
    cases (show Dp K F1 x (.bool a) from q1)
    exact ⟨a, rfl, k _ F1 H1 A1 e1 (.bl _)⟩
theorem e_if {b : Bool} {d1 d2 : PyData} (ht : ET K Γ Os tt b Os1) (h1 : b = true → E K Γ Os1 ta (.d d1) Os2) (h2 : b = false → E K Γ Os1 tb (.d d2) Os2) : E K Γ Os (tIf tt ta tb) (.d (if b = true then d1 else d2)) Os2 := fun B F σ H A Q k =>
  ht B F σ H A _ fun F1 H1 A1 e1 => by
    cases b with
    | true => exact iteT (h1 rfl B F1 σ H1 A1 _ fun y F2 H2 A2 e2 q2 => k y F2 H2 A2 (e1.trans e2) q2)
    | false => exact iteF (h2 rfl B F1 σ H1 A1 _ fun y F2 H2 A2 e2 q2 => k y F2 H2 A2 (e1.trans e2) q2)
theorem e_is {s' : SD} (h : E K Γ Os te s Os1) (e : s = s') : E K Γ Os te s' Os1 := by rw [← e]; exact h
theorem e_os (h : E K Γ Os te s Os1) (e : Os1 = Os2) : E K Γ Os te s Os2 := by rw [← e]; exact h
theorem et_is {b b' : Bool} (h : ET K Γ Os tt b Os1) (e : b = b') : ET K Γ Os tt b' Os1 := by rw [← e]; exact h
/-! tests -/
theorem t_B {b : Bool} (h : E K Γ Os te (.d (.bool b)) Os1) : ET K Γ Os (tB te) b Os1 := fun B F σ H A Q k => h B F σ H A _ fun x F1 H1 A1 e1 q1 => by
  cases (show Dp K F1 x (.bool b) from q1)
  exact ⟨b, rfl, k F1 H1 A1 e1⟩
theorem t_T {b : Bool} (h : E K Γ Os te (.d (.bool b)) Os1) : ET K Γ Os (tTest te) b Os1 := fun B F σ H A Q k => h B F σ H A _ fun x F1 H1 A1 e1 q1 => by
  cases (show Dp K F1 x (.bool b) from q1)
  exact ⟨b, rfl, k F1 H1 A1 e1⟩
theorem t_and {a b : Bool} (ha : ET K Γ Os tt a Os1) (hb : a = true → ET K Γ Os1 tu b Os1) : ET K Γ Os (tAnd tt tu) (a && b) Os1 := fun B F σ H A Q k => ha B F σ H A _ fun F1 H1 A1 e1 => by
  cases a with
  | true => exact iteT (hb rfl B F1 σ H1 A1 _ fun F2 H2 A2 e2 => k F2 H2 A2 (e1.trans e2))
  | false => exact iteF (k F1 H1 A1 e1)
theorem t_or {a b : Bool} (ha : ET K Γ Os tt a Os1) (hb : a = false → ET K Γ Os1 tu b Os1) : ET K Γ Os (tOr tt tu) (a || b) Os1 := fun B F σ H A Q k => ha B F σ H A _ fun F1 H1 A1 e1 => by
  cases a with
  | false => exact iteF (hb rfl B F1 σ H1 A1 _ fun F2 H2 A2 e2 => k F2 H2 A2 (e1.trans e2))
  | true => exact iteT (k F1 H1 A1 e1)
theorem t_not {a : Bool} (ha : ET K Γ Os tt a Os1) : ET K Γ Os (tNot tt) (!a) Os1 := fun B F σ H A Q k => ha B F σ H A _ fun F1 H1 A1 e1 => k F1 H1 A1 e1
theorem t_yes : ET K Γ Os tYes true Os := fun B F σ H A Q k => k F H A (Same.refl _)
/-- .. where the second part owns on: by cases -/
theorem t_and' {a b : Bool} {Osb : List Own} (ha : ET K Γ Os tt a Os1) (hb : a = true → ET K Γ Os1 tu b Os2) (h2 : a = false → Os1 = Os2) : ET K Γ Os (tAnd tt tu) (a && b) Os2 := fun B F σ H A Q k => ha B F σ H A _ fun F1 H1 A1 e1 => by
  cases a with
  | true => exact iteT (hb rfl B F1 σ H1 A1 _ fun F2 H2 A2 e2 => k F2 H2 A2 (e1.trans e2))
  | false =>
    have z := h2 rfl
    subst z
    exact iteF (k F1 H1 A1 e1)
/-! arguments, displays -/
theorem a_nil : EA K Γ Os tNil [] Os := fun B F σ H A Q k => k [] F H A (Same.refl _) trivial
theorem a_cons {tr : TA} {ss : List SD} (h : E K Γ Os te s Os1) (hr : EA K Γ Os1 tr ss Os2) : EA K Γ Os (tCons te tr) (s :: ss) Os2 := fun B F σ H A Q k =>
  h B F σ H A _ fun x F1 H1 A1 e1 q1 => hr B F1 σ H1 A1 _ fun xs F2 H2 A2 e2 q2 => k (x :: xs) F2 H2 A2 (e1.trans e2) ⟨(q1.mono e2).sl1, q2⟩
theorem Sl.dps {F : Hp} : ∀ {ds : List PyData} {xs : List V}, Sl K F (ds.map .d) (xs.map some) → DpAll K F xs ds
  | [], [], _ => .nil
  | d :: ds, x :: xs, h => .cons h.1 (Sl.dps h.2)
  | [], _ :: _, h => h.elim
  | _ :: _, [], h => h.elim
theorem Sl.of_dps {F : Hp} : ∀ {ds : List PyData} {xs : List V}, DpAll K F xs ds → Sl K F (ds.map .d) (xs.map some)
  | _, _, .nil => trivial
  | _, _, .cons h t => ⟨h, Sl.of_dps t⟩
theorem szl {n : Nat} (h : n ≤ 1000000) : n ≤ sizeLine := Nat.le_trans h (by decide)
theorem szl_lt {n : Nat} (h : n < 1000000) : n < sizeLine := Nat.lt_of_lt_of_le h (by decide)
theorem e_tup {ta : TA} {ss : List SD} (h : EA K Γ Os ta ss Os1) (he : ss = ds.map .d) (hl : ds.length ≤ 1000000) : E K Γ Os (tTup ta) (.d (.tuple ds)) Os1 := fun B F σ H A Q k =>
  h B F σ H A _ fun xs F1 H1 A1 e1 q1 => by
    subst he
    have q := Sl.dps q1
    refine ⟨szl (by rw [dps_len q]; exact hl), fun p hp => ?_⟩
    have nf : F1 p = none := A1.fr.free hp
    exact k _ _ _ (A1.newF (o := .tup xs) hp) (e1.trans (same_upd nf)) (.tup (.inl (.inl upd_same)) (dps_mono (same_upd nf) ds xs q))
theorem el_lst {ta : TA} {ss : List SD} (h : EA K Γ Os ta ss Os1) (he : ss = ds.map .d) (hl : ds.length ≤ 1000000) : EL K Γ Os (tLst ta) ds Os1 := fun B F σ H A Q k =>
  h B F σ H A _ fun xs F1 H1 A1 e1 q1 => by
    subst he
    have q := Sl.dps q1
    exact ⟨szl (by rw [dps_len q]; exact hl), fun p hp => k p F1 _ (A1.newO hp ⟨xs, one_same, q⟩) e1⟩
theorem e_cb {r : List V → Hp → VK → Prop} {ta : TA} {ss : List SD} (h : EA K Γ Os ta ss Os1) (hr : CbD K Os1 r ss s Os2) : E K Γ Os (tCB r ta) s Os2 := fun B F σ H A Q k =>
  h B F σ H A _ fun xs F1 H1 A1 e1 q1 => hr B F1 Γ σ H1 xs A1 q1 Q fun z F2 H2 A2 e2 q2 => k z F2 H2 A2 (e1.trans e2) q2
theorem el_cb {r : List V → Hp → VK → Prop} {ta : TA} {ss : List SD} (h : EA K Γ Os ta ss Os1) (hr : CbL K Os1 r ss ds Os2) : EL K Γ Os (tCB r ta) ds Os2 := fun B F σ H A Q k =>
  h B F σ H A _ fun xs F1 H1 A1 e1 q1 => hr B F1 Γ σ H1 xs A1 q1 Q fun p F2 H2 A2 e2 => k p F2 H2 A2 (e1.trans e2)
theorem e_call {sp : Sp} {X : XK} {ta : TA} {ss : List SD} (h : EA K Γ Os ta ss Os1) (hr : CaD K Os1 sp ss s Os2) : E K Γ Os (tCall sp [] X ta) s Os2 := fun B F σ H A Q k =>
  h B F σ H A _ fun xs F1 H1 A1 e1 q1 => by
    show sp (xs ++ []) H1 Q X
    rw [List.append_nil]
    exact hr X B F1 Γ σ H1 xs A1 q1 Q fun z F2 H2 A2 e2 q2 => k z F2 H2 A2 (e1.trans e2) q2
theorem el_call {sp : Sp} {X : XK} {ta : TA} {ss : List SD} (h : EA K Γ Os ta ss Os1) (hr : CaL K Os1 sp ss ds Os2) : EL K Γ Os (tCall sp [] X ta) ds Os2 := fun B F σ H A Q k =>
  h B F σ H A _ fun xs F1 H1 A1 e1 q1 => by
    show sp (xs ++ []) H1 Q X
    rw [List.append_nil]
    exact hr X B F1 Γ σ H1 xs A1 q1 Q fun p F2 H2 A2 e2 => k p F2 H2 A2 (e1.trans e2)
/-- there is an instance of C at a, without an attribute m of its own -/
def InsD (K : Fr) (Os : List Own) (C a : Addr) (m : Str) : Prop := ∀ (B : Hp × Hp) (F : Hp) (Γ : List SD) (σ : St) (H : Hp), At K B F Γ Os σ H → ∃ dx fs, H a = some (.ins C dx fs) ∧ fs.lookup m = none
theorem e_meth {C a : Addr} {m : Str} {sp : Sp} {X : XK} {t : TA} {ss : List SD} (ho : E K Γ Os ta (.v (.ref a)) Os1) (hi : InsD K Os1 C a m) (h : EA K Γ Os1 t ss Os2) (hr : CaD K Os2 sp (.v (.ref a) :: ss) s Os3) : E K Γ Os (tMeth C m sp [] X ta t) s Os3 := fun B F σ H A Q k =>
  ho B F σ H A _ fun x F1 H1 A1 e1 q1 => by
    obtain ⟨dx, fs, h1, h2⟩ := hi B F1 Γ σ H1 A1
    refine ⟨a, dx, fs, q1, h1, h2, h B F1 σ H1 A1 _ fun xs F2 H2 A2 e2 q2 => ?_⟩
    first
      | rw [List.append_nil]
      | skip
    exact hr X B F2 Γ σ H2 (x :: xs) A2 ⟨(q1.mono e2 : Rp K F2 x (.v (.ref a))), q2⟩ Q fun z F3 H3 A3 e3 q3 => k z F3 H3 A3 ((e1.trans e2).trans e3) q3
theorem el_meth {C a : Addr} {m : Str} {sp : Sp} {X : XK} {t : TA} {ss : List SD} (ho : E K Γ Os ta (.v (.ref a)) Os1) (hi : InsD K Os1 C a m) (h : EA K Γ Os1 t ss Os2) (hr : CaL K Os2 sp (.v (.ref a) :: ss) ds Os3) : EL K Γ Os (tMeth C m sp [] X ta t) ds Os3 := fun B F σ H A Q k =>
  ho B F σ H A _ fun x F1 H1 A1 e1 q1 => by
    obtain ⟨dx, fs, h1, h2⟩ := hi B F1 Γ σ H1 A1
    refine ⟨a, dx, fs, q1, h1, h2, h B F1 σ H1 A1 _ fun xs F2 H2 A2 e2 q2 => ?_⟩
    first
      | rw [List.append_nil]
      | skip
    exact hr X B F2 Γ σ H2 (x :: xs) A2 ⟨(q1.mono e2 : Rp K F2 x (.v (.ref a))), q2⟩ Q fun p F3 H3 A3 e3 => k p F3 H3 A3 ((e1.trans e2).trans e3)
/-- an attribute read -/
def FldD (K : Fr) (Os : List Own) (a : Addr) (f : Str) (s : SD) : Prop := ∀ (B : Hp × Hp) (F : Hp) (Γ : List SD) (σ : St) (H : Hp), At K B F Γ Os σ H → ∃ C dx fs v, H a = some (.ins C dx fs) ∧ Cls K C ∧ NoAttr K C f ∧ fs.lookup f = some v ∧ Rp K F v s
theorem e_fld {a : Addr} {f : Str} (ho : E K Γ Os ta (.v (.ref a)) Os1) (hf : FldD K Os1 a f s) : E K Γ Os (tFld K ta f) s Os1 := fun B F σ H A Q k =>
  ho B F σ H A _ fun x F1 H1 A1 e1 q1 => by
    obtain ⟨C, dx, fs, v, h1, h2, h3, h4, h5⟩ := hf B F1 Γ σ H1 A1
    exact ⟨a, C, dx, fs, v, q1, h1, h2, h3, h4, k v F1 H1 A1 e1 h5⟩

/-! ### data views: still, or owned -/
inductive Vw (K : Fr) (Os : List Own) : SD → PyData → Prop
  | dat {d : PyData} : Vw K Os (.d d) d
  | own {p : Addr} {ds : List PyData} (i : Nat) (h : Os[i]? = some (lst K p ds)) : Vw K Os (.v (.ref p)) (.list ds)
theorem At.getL {B : Hp × Hp} {F H : Hp} {σ : St} {i : Nat} {p : Addr} (A : At K B F Γ Os σ H) (h : Os[i]? = some (lst K p ds)) : ∃ xs, H p = some (.lst xs) ∧ DpAll K F xs ds := by
  obtain ⟨h', ⟨xs, h1, h2⟩, s, _⟩ := A.touch h
  exact ⟨xs, s _ _ h1, h2⟩
theorem Vw.dp {B : Hp × Hp} {F H : Hp} {σ : St} {x : V} (w : Vw K Os s d) (A : At K B F Γ Os σ H) (r : Rp K F x s) : Dp K H x d := by
  cases w with
  | dat => exact dp_mono A.fr _ _ r
  | own i h =>
    obtain ⟨xs, h1, h2⟩ := A.getL h
    rw [show x = _ from r]
    exact .lst (.inl (.inl h1)) (dps_mono A.fr _ _ h2)
theorem Vw.list {B : Hp × Hp} {F H : Hp} {σ : St} {x : V} (w : Vw K Os s (.list ds)) (A : At K B F Γ Os σ H) (r : Rp K F x s) : ∃ p xs, x = .ref p ∧ SqL K H p xs ∧ DpAll K F xs ds := by
  cases w with
  | dat =>
    cases (show Dp K F x (.list ds) from r) with
    | lst hs ha => exact ⟨_, _, rfl, A.fr.seq hs, ha⟩
  | own i h =>
    obtain ⟨xs, h1, h2⟩ := A.getL h
    exact ⟨_, xs, r, .inl (.inl h1), h2⟩
theorem Vw.tup {B : Hp × Hp} {F H : Hp} {σ : St} {x : V} (w : Vw K Os s (.tuple ds)) (A : At K B F Γ Os σ H) (r : Rp K F x s) : ∃ p xs, x = .ref p ∧ SqT K H p xs ∧ DpAll K F xs ds := by
  cases w with
  | dat =>
    cases (show Dp K F x (.tuple ds) from r) with
    | tup hs ha => exact ⟨_, _, rfl, seqT A.fr hs, ha⟩

/-! ### operators -/
def rOr (r1 r2 : R2) : R2 := fun x y H Q => r1 x y H Q ∨ r2 x y H Q
theorem op_or {X : Cx} {f : Value → Value → Sem Value} {r1 r2 : R2} (h1 : OpR X f r1) (h2 : OpR X f r2) : OpR X f (rOr r1 r2) := by
  intro pins s σ H x y v u Q I rx ry h
  rcases h with h | h
  · exact h1 pins s σ H x y v u Q I rx ry h
  · exact h2 pins s σ H x y v u Q I rx ry h
theorem od_l (h : OpD K Os r1 sx sy sz) : OpD K Os (rOr r1 r2) sx sy sz := fun B F Γ σ H x y A hx hy Q k => .inl (h B F Γ σ H x y A hx hy Q k)
theorem od_r (h : OpD K Os r2 sx sy sz) : OpD K Os (rOr r1 r2) sx sy sz := fun B F Γ σ H x y A hx hy Q k => .inr (h B F Γ σ H x y A hx hy Q k)
theorem ol_l (h : OpL K Os r1 sx sy ds) : OpL K Os (rOr r1 r2) sx sy ds := fun B F Γ σ H x y A hx hy Q k => .inl (h B F Γ σ H x y A hx hy Q k)
theorem ol_r (h : OpL K Os r2 sx sy ds) : OpL K Os (rOr r1 r2) sx sy ds := fun B F Γ σ H x y A hx hy Q k => .inr (h B F Γ σ H x y A hx hy Q k)
theorem od_I0 {g : Int → Int → V} {f : Int → Int → PyData} (hg : ∀ F i j, Dp K F (g i j) (f i j)) {i j : Int} : OpD K Os (rI0 g) (.d (.int i)) (.d (.int j)) (.d (f i j)) := fun B F Γ σ H x y A hx hy Q k => by
  cases (show Dp K F x (.int i) from hx)
  cases (show Dp K F y (.int j) from hy)
  exact ⟨i, j, rfl, rfl, k _ F H A (Same.refl _) (hg F i j)⟩
theorem od_I {C : Int → Int → Prop} {g : Int → Int → V} {f : Int → Int → PyData} (hg : ∀ F i j, Dp K F (g i j) (f i j)) {i j : Int} (hc : C i j) : OpD K Os (rI C g) (.d (.int i)) (.d (.int j)) (.d (f i j)) := fun B F Γ σ H x y A hx hy Q k => by
  cases (show Dp K F x (.int i) from hx)
  cases (show Dp K F y (.int j) from hy)
  exact ⟨i, j, rfl, rfl, hc, k _ F H A (Same.refl _) (hg F i j)⟩
theorem od_sub {i j : Int} : OpD K Os (rI0 fun i j => .int (i - j)) (.d (.int i)) (.d (.int j)) (.d (.int (i - j))) := od_I0 fun _ _ _ => .int _
theorem od_mod {i j : Int} (h : 0 < j) : OpD K Os (rI (fun _ j => 0 < j) fun i j => .int (i % j)) (.d (.int i)) (.d (.int j)) (.d (.int (i % j))) := od_I (f := fun i j => .int (i % j)) (fun _ _ _ => .int _) h
theorem od_fdiv {i j : Int} (h : CDiv i j) : OpD K Os (rI CDiv fun i j => .int (i / j)) (.d (.int i)) (.d (.int j)) (.d (.int (i / j))) := od_I (f := fun i j => .int (i / j)) (fun _ _ _ => .int _) h
theorem od_lt {i j : Int} : OpD K Os (rI0 fun i j => .bl (decide (i < j))) (.d (.int i)) (.d (.int j)) (.d (.bool (decide (i < j)))) := od_I0 (f := fun i j => .bool (decide (i < j))) fun _ _ _ => .bl _
theorem od_le {i j : Int} : OpD K Os (rI0 fun i j => .bl (decide (i ≤ j))) (.d (.int i)) (.d (.int j)) (.d (.bool (decide (i ≤ j)))) := od_I0 (f := fun i j => .bool (decide (i ≤ j))) fun _ _ _ => .bl _
theorem od_gt {i j : Int} : OpD K Os (rI0 fun i j => .bl (decide (j < i))) (.d (.int i)) (.d (.int j)) (.d (.bool (decide (j < i)))) := od_I0 (f := fun i j => .bool (decide (j < i))) fun _ _ _ => .bl _
theorem od_ge {i j : Int} : OpD K Os (rI0 fun i j => .bl (decide (j ≤ i))) (.d (.int i)) (.d (.int j)) (.d (.bool (decide (j ≤ i)))) := od_I0 (f := fun i j => .bool (decide (j ≤ i))) fun _ _ _ => .bl _
/-- + of ints, lists, tuples -/
def addU (K : Fr) : R2 := rOr (rI0 fun i j => .int (i + j)) (rOr rCat (rCatA K))
theorem op_addU {X : Cx} : OpR X (binaryOp .Add) (addU X.K) := op_or op_add (op_or op_cat op_catA)
theorem od_add {i j : Int} : OpD K Os (addU K) (.d (.int i)) (.d (.int j)) (.d (.int (i + j))) := od_l (od_I0 (f := fun i j => .int (i + j)) fun _ _ _ => .int _)
theorem od_addT (hl : ds.length + es.length ≤ 1000000) : OpD K Os (addU K) (.d (.tuple ds)) (.d (.tuple es)) (.d (.tuple (ds ++ es))) := od_r (od_r fun B F Γ σ H x y A hx hy Q k => by
  cases (show Dp K F x (.tuple ds) from hx) with
  | tup hs ha => cases (show Dp K F y (.tuple es) from hy) with
    | tup hs2 ha2 =>
      have l1 := dps_len ha
      have l2 := dps_len ha2
      have all := dps_app ha ha2
      refine ⟨_, _, _, _, rfl, rfl, seqT A.fr hs, seqT A.fr hs2, szl (by omega), fun z => ?_, fun _ z => ?_, fun _ _ p hp => ?_⟩
      · subst z
        exact k _ F H A (Same.refl _) (.tup hs2 (by simpa using all))
      · subst z
        exact k _ F H A (Same.refl _) (.tup hs (by simpa using all))
      · have nf : F p = none := A.fr.free hp
        exact k _ _ _ (A.newF hp) (same_upd nf) (.tup (.inl (.inl upd_same)) (dps_mono (same_upd nf) _ _ all)))
/-- a list that is ours -/
theorem At.getM {B : Hp × Hp} {F H : Hp} {σ : St} {i : Nat} {p : Addr} (A : At K B F Γ Os σ H) (h : Os[i]? = some (lst K p ds)) : ∃ xs, H p = some (.lst xs) ∧ DpAll K F xs ds ∧
    ∀ {es : List PyData} {ys : List V}, DpAll K F ys es → At K B F Γ (Os.set i (lst K p es)) σ (upd H p (.lst ys)) := by
  obtain ⟨h', ⟨xs, h1, h2⟩, s, d, k⟩ := A.touch h
  have nf : F p = none := d.none h1
  refine ⟨xs, s _ _ h1, h2, fun {es ys} q => k (h' := one p (.lst ys)) (Same.refl _) (fun a o e => ?_) ⟨ys, one_same, q⟩ (fun a o e => ?_) (.of fun a o e => ?_) (fun a o e z => ?_) (fun a o e z => ?_) fun a o e z => by rw [e] at z; cases z⟩
  · rw [upd_ne (fun q => by subst q; rw [nf] at e; cases e)]; exact A.fr a o e
  · obtain ⟨rfl, rfl⟩ := one_of e; exact upd_same
  · obtain ⟨rfl, rfl⟩ := one_of e; exact nf
  · rw [upd_ne (fun q => by subst q; rw [h1] at z; cases z)]; exact e
  · obtain ⟨rfl, rfl⟩ := one_of e; rw [h1] at z; cases z
theorem ol_cat {p q : Addr} {i j : Nat} (h1 : Os[i]? = some (lst K p ds)) (h2 : Os[j]? = some (lst K q es)) (hl : ds.length + es.length ≤ 1000000) : OpL K Os (addU K) (.v (.ref p)) (.v (.ref q)) (ds ++ es) := ol_r (ol_l fun B F Γ σ H x y A hx hy Q k => by
  obtain ⟨xs, a1, a2⟩ := A.getL h1
  obtain ⟨ys, b1, b2⟩ := A.getL h2
  have l1 := dps_len a2
  have l2 := dps_len b2
  exact ⟨p, q, xs, ys, hx, hy, a1, b1, szl (by omega), fun r hr => k r F _ (A.newO hr ⟨_, one_same, dps_app a2 b2⟩) (Same.refl _)⟩)
/-! == and != of data -/
theorem od_eq (hx : Vw K Os sx d) (hy : Vw K Os sy e) (h1 : SeqAt.shaped d = true) (h2 : SeqAt.shaped e = true) : OpD K Os (rEqD K) sx sy (.d (.bool (PyData.eqv d e))) := fun B F Γ σ H x y A rx ry Q k =>
  ⟨d, e, hx.dp A rx, hy.dp A ry, h1, h2, k _ F H A (Same.refl _) (.bl _)⟩
theorem od_ne (hx : Vw K Os sx d) (hy : Vw K Os sy e) (h1 : SeqAt.shaped d = true) (h2 : SeqAt.shaped e = true) : OpD K Os (rNeD K) sx sy (.d (.bool (!PyData.eqv d e))) := fun B F Γ σ H x y A rx ry Q k =>
  ⟨d, e, hx.dp A rx, hy.dp A ry, h1, h2, k _ F H A (Same.refl _) (.bl _)⟩
def isNone : PyData → Bool
  | .none => true
  | _ => false
def rIsN : R2 := fun x y H Q => y = .non ∧ Q (.bl (decide (x = .non))) H
def rNotN : R2 := fun x y H Q => y = .non ∧ Q (.bl (!decide (x = .non))) H
theorem op_isn {X : Cx} : OpR X (compareOp .Is) rIsN := op_isN
theorem op_notn {X : Cx} : OpR X (compareOp .IsNot) rNotN := op_notN
theorem dp_none {F : Hp} {x : V} (h : Dp K F x d) : decide (x = .non) = isNone d := by
  cases h <;> first | rfl | (exact decide_eq_false (fun z => nomatch z))
theorem od_isn : OpD K Os rIsN (.d d) (.d .none) (.d (.bool (isNone d))) := fun B F Γ σ H x y A rx ry Q k => by
  cases (show Dp K F y .none from ry)
  refine ⟨rfl, ?_⟩
  rw [dp_none (show Dp K F x d from rx)]
  exact k _ F H A (Same.refl _) (.bl _)
theorem od_notn : OpD K Os rNotN (.d d) (.d .none) (.d (.bool (!isNone d))) := fun B F Γ σ H x y A rx ry Q k => by
  cases (show Dp K F y .none from ry)
  refine ⟨rfl, ?_⟩
  rw [dp_none (show Dp K F x d from rx)]
  exact k _ F H A (Same.refl _) (.bl _)
/-! an item -/
theorem od_ixL {i : Int} (hx : Vw K Os sx (.list ds)) (h : atI ds i = some d) : OpD K Os (rIx K) sx (.d (.int i)) (.d d) := fun B F Γ σ H x y A rx ry Q k => by
  obtain ⟨p, xs, rfl, hq, ha⟩ := hx.list A rx
  cases (show Dp K F y (.int i) from ry)
  have h' : (ixN ds.length i).bind (fun j => ds[j]?) = some d := h
  cases q : ixN ds.length i with
  | none => rw [q] at h'; cases h'
  | some j =>
    rw [q] at h'
    obtain ⟨v, h1, h2⟩ := dps_at ha (show ds[j]? = some d from h')
    refine .inl ⟨p, xs, i, v, rfl, rfl, hq, ?_, k v F H A (Same.refl _) h2⟩
    show (ixN xs.length i).bind (fun j => xs[j]?) = some v
    rw [dps_len ha, q]
    exact h1
theorem od_ixT {i : Int} (h : atI ds i = some d) : OpD K Os (rIx K) (.d (.tuple ds)) (.d (.int i)) (.d d) := fun B F Γ σ H x y A rx ry Q k => by
  obtain ⟨p, xs, rfl, hq, ha⟩ := (Vw.dat (K := K) (Os := Os)).tup A rx
  cases (show Dp K F y (.int i) from ry)
  have h' : (ixN ds.length i).bind (fun j => ds[j]?) = some d := h
  cases q : ixN ds.length i with
  | none => rw [q] at h'; cases h'
  | some j =>
    rw [q] at h'
    obtain ⟨v, h1, h2⟩ := dps_at ha (show ds[j]? = some d from h')
    refine .inr (.inl ⟨p, xs, i, v, rfl, rfl, hq, ?_, k v F H A (Same.refl _) h2⟩)
    show (ixN xs.length i).bind (fun j => xs[j]?) = some v
    rw [dps_len ha, q]
    exact h1
/-! built-ins -/
theorem sl1 {F : Hp} {xs : List V} {s : SD} (n : s.ok = true) (h : Sl K F [s] (xs.map some)) : ∃ x, xs = [x] ∧ Rp K F x s := by
  cases xs with
  | nil => exact h.elim
  | cons x xs => cases xs with
    | nil => exact ⟨x, rfl, by cases s <;> first | (cases n; done) | exact h.1⟩
    | cons _ _ => exact h.2.elim
theorem sl2 {F : Hp} {xs : List V} {s t : SD} (n : s.ok = true) (m : t.ok = true) (h : Sl K F [s, t] (xs.map some)) : ∃ x y, xs = [x, y] ∧ Rp K F x s ∧ Rp K F y t := by
  cases xs with
  | nil => exact h.elim
  | cons x xs =>
    obtain ⟨y, rfl, q⟩ := sl1 m h.2
    exact ⟨x, y, rfl, by cases s <;> first | (cases n; done) | exact h.1, q⟩
def rLen (K : Fr) : List V → Hp → VK → Prop := fun xs H Q => ∃ p ys, xs = [.ref p] ∧ (SqL K H p ys ∨ SqT K H p ys) ∧ Q (.int ys.length) H
theorem cr_len {X : Cx} : CallR X (.builtin "len") (rLen X.K) := call_len_seq
theorem Vw.ok (h : Vw K Os s d) : s.ok = true := by cases h <;> rfl
theorem cd_lenL (h : Vw K Os s (.list ds)) : CbD K Os (rLen K) [s] (.d (.int ds.length)) Os := fun B F Γ σ H xs A r Q k => by
  obtain ⟨x, rfl, q⟩ := sl1 h.ok r
  obtain ⟨p, ys, rfl, hq, ha⟩ := h.list A q
  refine ⟨p, ys, rfl, .inl hq, ?_⟩
  rw [dps_len ha]
  exact k _ F H A (Same.refl _) (.int _)
theorem cd_lenT : CbD K Os (rLen K) [.d (.tuple ds)] (.d (.int ds.length)) Os := fun B F Γ σ H xs A r Q k => by
  obtain ⟨x, rfl, q⟩ := sl1 rfl r
  obtain ⟨p, ys, rfl, hq, ha⟩ := (Vw.dat (K := K) (Os := Os)).tup A q
  refine ⟨p, ys, rfl, .inr hq, ?_⟩
  rw [dps_len ha]
  exact k _ F H A (Same.refl _) (.int _)
end
end Cw

namespace Cw
open PySem L2

/-! ### promises -/
structure Pm (K : Fr) (G : Type) where
  pre : G → Prop
  args : G → List SD
  own : G → List Own
  res : G → SD
  out : G → List Own
  /-- the class of what is raised, if so -/
  err : G → Option Addr
  outE : G → List Own
def Pm.sp {K : Fr} {G : Type} (p : Pm K G) : Sp := fun vs H Q X => ∃ (g : G) (B : Hp × Hp) (F : Hp), p.pre g ∧ At K B F (p.args g) (p.own g) (vs.map some) H ∧ B.1 = F ∧
  (p.err g = none → ∀ x F' H', At K B F' [] (p.out g) [] H' → Rp K F' x (p.res g) → Q x H') ∧
  (∀ C, p.err g = some C → ∀ F' H', At K B F' [] (p.outE g) [] H' → X (.ref C) none H')
theorem Sl.len {K : Fr} {F : Hp} : ∀ {Γ : List SD} {σ : St}, Sl K F Γ σ → Γ.length = σ.length
  | [], [], _ => rfl
  | _ :: _, _ :: _, h => by simp [Sl.len h.2]
  | [], _ :: _, h => h.elim
  | _ :: _, [], h => h.elim
theorem Pm.len {K : Fr} {G : Type} (p : Pm K G) {n : Nat} (h : ∀ g, (p.args g).length = n) : ∀ vs H Q X, p.sp vs H Q X → vs.length = n := fun vs H Q X ⟨g, B, F, _, A, _⟩ => by
  have := Sl.len A.sl
  rw [h, List.length_map] at this
  exact this.symm
section
variable {K : Fr} {Γ : List SD} {Os : List Own} {G : Type}
/-- a promise with nothing owned: answers new data -/
theorem ca0 {p : Pm K G} {ss : List SD} {s : SD} (g : G) (hp : p.pre g) (he : p.err g = none) (ha : p.args g = ss) (ho : p.own g = []) (hq : p.out g = []) (hr : p.res g = s) : CaD K Os p.sp ss s Os := fun X B F Γ σ H xs A r Q k => by
  obtain ⟨B', e, A0, back⟩ := (A.slots r).call0
  refine ⟨g, B', F, hp, by rw [ha, ho]; exact A0, e, fun _ x F' H' A' q => ?_, fun C c => by rw [he] at c; cases c⟩
  rw [hq] at A'
  have A2 := back A'
  rw [List.append_nil] at A2
  have e2 : Same F F' := by rw [← e]; exact A'.bs
  exact k x F' H' (A2.slots (A.sl.mono e2)) e2 (by rw [← hr]; exact q)
/-- .. with one thing owned -/
theorem ca1 {p : Pm K G} {ss : List SD} {s : SD} {O O' : Own} (i : Nat) (g : G) (hi : Os[i]? = some O) (hp : p.pre g) (he : p.err g = none) (ha : p.args g = ss) (ho : p.own g = [O]) (hq : p.out g = [O']) (hr : p.res g = s) : CaD K Os p.sp ss s (Os.set i O') := fun X B F Γ σ H xs A r Q k => by
  obtain ⟨B', e, A0, back⟩ := (A.slots r).call1 hi
  refine ⟨g, B', F, hp, by rw [ha, ho]; exact A0, e, fun _ x F' H' A' q => ?_, fun C c => by rw [he] at c; cases c⟩
  rw [hq] at A'
  have A2 := back A'
  rw [List.append_nil] at A2
  have e2 : Same F F' := by rw [← e]; exact A'.bs
  exact k x F' H' (A2.slots (A.sl.mono e2)) e2 (by rw [← hr]; exact q)
/-- a promise that answers a list of its own -/
structure Pl (K : Fr) (G : Type) where
  pre : G → Prop
  args : G → List SD
  own : G → List Own
  res : G → List PyData
  out : G → List Own
  err : G → Option Addr
  outE : G → List Own
def Pl.sp {K : Fr} {G : Type} (p : Pl K G) : Sp := fun vs H Q X => ∃ (g : G) (B : Hp × Hp) (F : Hp), p.pre g ∧ At K B F (p.args g) (p.own g) (vs.map some) H ∧ B.1 = F ∧
  (p.err g = none → ∀ a F' H', At K B F' [] (p.out g ++ [lst K a (p.res g)]) [] H' → Q (.ref a) H') ∧
  (∀ C, p.err g = some C → ∀ F' H', At K B F' [] (p.outE g) [] H' → X (.ref C) none H')
theorem Pl.len {K : Fr} {G : Type} (p : Pl K G) {n : Nat} (h : ∀ g, (p.args g).length = n) : ∀ vs H Q X, p.sp vs H Q X → vs.length = n := fun vs H Q X ⟨g, B, F, _, A, _⟩ => by
  have := Sl.len A.sl
  rw [h, List.length_map] at this
  exact this.symm
theorem cl0 {p : Pl K G} {ss : List SD} {ds : List PyData} (g : G) (hp : p.pre g) (he : p.err g = none) (ha : p.args g = ss) (ho : p.own g = []) (hq : p.out g = []) (hr : p.res g = ds) : CaL K Os p.sp ss ds Os := fun X B F Γ σ H xs A r Q k => by
  obtain ⟨B', e, A0, back⟩ := (A.slots r).call0
  refine ⟨g, B', F, hp, by rw [ha, ho]; exact A0, e, fun _ x F' H' A' => ?_, fun C c => by rw [he] at c; cases c⟩
  rw [hq, hr] at A'
  have A2 := back A'
  have e2 : Same F F' := by rw [← e]; exact A'.bs
  exact k x F' H' (A2.slots (A.sl.mono e2)) e2
theorem cl1 {p : Pl K G} {ss : List SD} {ds : List PyData} {O O' : Own} (i : Nat) (g : G) (hi : Os[i]? = some O) (hp : p.pre g) (he : p.err g = none) (ha : p.args g = ss) (ho : p.own g = [O]) (hq : p.out g = [O']) (hr : p.res g = ds) : CaL K Os p.sp ss ds (Os.set i O') := fun X B F Γ σ H xs A r Q k => by
  obtain ⟨B', e, A0, back⟩ := (A.slots r).call1 hi
  refine ⟨g, B', F, hp, by rw [ha, ho]; exact A0, e, fun _ x F' H' A' => ?_, fun C c => by rw [he] at c; cases c⟩
  rw [hq, hr] at A'
  have A2 := back A'
  have e2 : Same F F' := by rw [← e]; exact A'.bs
  exact k x F' H' (A2.slots (A.sl.mono e2)) e2
end

/-! ### statements -/
def N (K : Fr) (B : Hp × Hp) (Γ : List SD) (Os : List Own) (P : St → Hp → Prop) : Prop := ∀ F σ H, At K B F Γ Os σ H → P σ H
section
variable {K : Fr} {B : Hp × Hp} {Γ Γ' : List SD} {Os Os1 Os2 Os' Oo : List Own} {nx bk ct : L2.St → Hp → Prop} {rt : VK} {t u : TS} {te ta : TE} {tt : TT} {s : SD} {ds : List PyData} {d : PyData} {Q : VK} {P : St → Hp → Prop}
theorem n_seq (h : N K B Γ Os (t ⟨u ⟨nx, rt, bk, ct⟩, rt, bk, ct⟩)) : N K B Γ Os (tSeq t u ⟨nx, rt, bk, ct⟩) := h
theorem n_weak (w : Wk Γ Γ') (h : N K B Γ' Os P) : N K B Γ Os P := fun F σ H A => h F σ H (A.weak w)
theorem n_asg {i : Nat} (h : E K Γ Os te s Os1) (k : N K B (Γ.set i s) Os1 nx) : N K B Γ Os (tAsg te (gName i) ⟨nx, rt, bk, ct⟩) := fun F σ H A => h B F σ H A _ fun x F1 H1 A1 _ q1 => k F1 _ H1 (A1.set q1)
theorem n_asgL {i : Nat} (h : EL K Γ Os te ds Os1) (k : ∀ p, N K B (Γ.set i (.v (.ref p))) (Os1 ++ [lst K p ds]) nx) : N K B Γ Os (tAsg te (gName i) ⟨nx, rt, bk, ct⟩) := fun F σ H A => h B F σ H A _ fun p F1 H1 A1 _ => k p F1 _ H1 (A1.set (s := .v (.ref p)) rfl)
theorem n_if {b : Bool} (h : ET K Γ Os tt b Os1) (h1 : b = true → N K B Γ Os1 (t ⟨nx, rt, bk, ct⟩)) (h2 : b = false → N K B Γ Os1 (u ⟨nx, rt, bk, ct⟩)) : N K B Γ Os (tIfS tt t u ⟨nx, rt, bk, ct⟩) := fun F σ H A => h B F σ H A _ fun F1 H1 A1 _ => by
  cases b with
  | true => exact iteT (h1 rfl F1 σ H1 A1)
  | false => exact iteF (h2 rfl F1 σ H1 A1)
theorem n_next (k : N K B Γ Os nx) : N K B Γ Os (tNext ⟨nx, rt, bk, ct⟩) := k
theorem n_ifAsg {i : Nat} {b : Bool} {d1 d2 : PyData} (hi : Γ[i]? = some (.d d2)) (h : ET K Γ Os tt b Os1) (h1 : b = true → E K Γ Os1 te (.d d1) Os1) (k : N K B (Γ.set i (.d (if b = true then d1 else d2))) Os1 nx) : N K B Γ Os (tIfS tt (tAsg te (gName i)) tNext ⟨nx, rt, bk, ct⟩) := fun F σ H A => h B F σ H A _ fun F1 H1 A1 _ => by
  cases b with
  | true =>
    refine iteT (h1 rfl B F1 σ H1 A1 _ fun x F2 H2 A2 _ q2 => k F2 _ H2 (A2.set ?_))
    exact q2
  | false =>
    refine iteF (k F1 σ H1 ?_)
    have z : Γ.set i (.d (if false = true then d1 else d2)) = Γ := by
      have lt := (List.getElem?_eq_some_iff.mp hi)
      obtain ⟨l, e⟩ := lt
      show Γ.set i (.d d2) = Γ
      rw [← e]; exact List.set_getElem_self l
    rw [z]; exact A1
theorem n_drop (h : E K Γ Os te s Os1) (k : N K B Γ Os1 nx) : N K B Γ Os (tDrop te ⟨nx, rt, bk, ct⟩) := fun F σ H A => h B F σ H A _ fun x F1 H1 A1 _ _ => k F1 σ H1 A1
theorem n_dropL (h : EL K Γ Os te ds Os1) (k : ∀ p, N K B Γ (Os1 ++ [lst K p ds]) nx) : N K B Γ Os (tDrop te ⟨nx, rt, bk, ct⟩) := fun F σ H A => h B F σ H A _ fun p F1 H1 A1 _ => k p F1 σ H1 A1
/-! the ends -/
theorem n_ret {R : SD} (h : E K Γ Os te s Os1) (k : ∀ x F H, At K B F [] Oo [] H → Rp K F x R → rt x H) (e1 : s = R) (e2 : Os1.take Oo.length = Oo) : N K B Γ Os (tRet te ⟨nx, rt, bk, ct⟩) := fun F σ H A => h B F σ H A _ fun x F1 H1 A1 _ q1 => by
  subst e1
  have A2 := (A1.take Oo.length).slots (Γ' := []) (σ' := []) trivial
  rw [e2] at A2
  exact k x F1 H1 A2 q1
theorem n_end {R : SD} (k : ∀ x F H, At K B F [] Oo [] H → Rp K F x R → Q x H) (e1 : R = .d .none) (e2 : Os.take Oo.length = Oo) : N K B Γ Os (fun _ H => Q .non H) := fun F σ H A => by
  subst e1
  have A2 := (A.take Oo.length).slots (Γ' := []) (σ' := []) trivial
  rw [e2] at A2
  exact k .non F H A2 .non
theorem n_retL {es : List PyData} (h : EL K Γ Os te ds Os1) (k : ∀ a F H, At K B F [] (Oo ++ [lst K a es]) [] H → rt (.ref a) H) (e1 : ds = es) (e2 : Os1.take Oo.length = Oo) : N K B Γ Os (tRet te ⟨nx, rt, bk, ct⟩) := fun F σ H A => h B F σ H A _ fun a F1 H1 A1 _ => by
  subst e1
  refine k a F1 H1 ((A1.slots (Γ' := []) (σ' := []) trivial).re (fun i => if i < Oo.length then i else Os1.length) (fun i j h1 h2 q => ?_) fun i O q => ?_)
  · have le : Oo.length ≤ Os1.length := by
      have := congrArg List.length e2
      rw [List.length_take] at this; omega
    rw [List.length_append, List.length_singleton] at h1 h2
    split at q <;> split at q <;> omega
  · have le : Oo.length ≤ Os1.length := by
      have := congrArg List.length e2
      rw [List.length_take] at this; omega
    by_cases z : i < Oo.length
    · rw [List.getElem?_append_left z, ← e2, List.getElem?_take_of_lt z] at q
      simp only [if_pos z]
      rw [List.getElem?_append_left (by omega)]
      exact q
    · have lt := (List.getElem?_eq_some_iff.mp q).1
      rw [List.length_append, List.length_singleton] at lt
      have ei : i = Oo.length := by omega
      subst ei
      simp only [if_neg z]
      simpa using q
/-- the list that is handed back is one of ours -/
theorem n_retO {p : Addr} (j : Nat) (h : E K Γ Os te (.v (.ref p)) Os1) (hj : Os1[j]? = some (lst K p ds)) (k : ∀ a F H, At K B F [] (Oo ++ [lst K a ds]) [] H → rt (.ref a) H) (e2 : Os1.take Oo.length = Oo) (hl : Oo.length ≤ j) : N K B Γ Os (tRet te ⟨nx, rt, bk, ct⟩) := fun F σ H A => h B F σ H A _ fun x F1 H1 A1 _ r => by
  rw [show x = _ from r]
  refine k p F1 H1 ((A1.slots (Γ' := []) (σ' := []) trivial).re (fun i => if i < Oo.length then i else j) (fun i l h1 h2 q => ?_) fun i O q => ?_)
  · rw [List.length_append, List.length_singleton] at h1 h2
    split at q <;> split at q <;> omega
  · by_cases z : i < Oo.length
    · rw [List.getElem?_append_left z, ← e2, List.getElem?_take_of_lt z] at q
      simp only [if_pos z]
      exact q
    · have lt := (List.getElem?_eq_some_iff.mp q).1
      rw [List.length_append, List.length_singleton] at lt
      have ei : i = Oo.length := by omega
      subst ei
      simp only [if_neg z]
      rw [List.getElem?_append_right (by omega)] at q
      simp at q
      rw [hj, q]
/-! lists changed -/
theorem n_app {p : Addr} (i : Nat) (ha : E K Γ Os ta (.v (.ref p)) Os1) (h : E K Γ Os1 te (.d d) Os2) (hi : Os2[i]? = some (lst K p ds)) (hi1 : Os1[i]? = some (lst K p ds)) (hl : ds.length < 1000000) (k : N K B Γ (Os2.set i (lst K p (ds ++ [d]))) nx) :
    N K B Γ Os (tDrop (tBM K "list" rAppend ta (tCons te tNil)) ⟨nx, rt, bk, ct⟩) := fun F σ H A => ha B F σ H A _ fun x F1 H1 A1 _ q1 => by
  obtain ⟨ys, b1, _⟩ := A1.getL hi1
  rw [show x = _ from q1]
  refine ⟨Or.inl ⟨rfl, _, .inl (.inl b1)⟩, h B F1 σ H1 A1 _ fun y F2 H2 A2 _ q2 => ?_⟩
  obtain ⟨xs, a1, a2, m⟩ := A2.getM hi
  exact ⟨p, xs, y, rfl, rfl, a1, szl_lt (by rw [dps_len a2]; exact hl), k F2 σ _ (m (dps_app a2 (.cons q2 .nil)))⟩
theorem At.getV {F H : Hp} {σ : St} {i : Nat} {p : Addr} {xs : List V} (A : At K B F Γ Os σ H) (h : Os[i]? = some (lstV p xs)) : H p = some (.lst xs) ∧ ∀ ys : List V, At K B F Γ (Os.set i (lstV p ys)) σ (upd H p (.lst ys)) := by
  obtain ⟨h', h1, s, d, k⟩ := A.touch h
  have h1 : h' p = some (.lst xs) := h1
  have nf : F p = none := d.none h1
  refine ⟨s _ _ h1, fun ys => k (h' := one p (.lst ys)) (Same.refl _) (fun a o e => ?_) one_same (fun a o e => ?_) (.of fun a o e => ?_) (fun a o e z => ?_) (fun a o e z => ?_) fun a o e z => by rw [e] at z; cases z⟩
  · rw [upd_ne (fun q => by subst q; rw [nf] at e; cases e)]; exact A.fr a o e
  · obtain ⟨rfl, rfl⟩ := one_of e; exact upd_same
  · obtain ⟨rfl, rfl⟩ := one_of e; exact nf
  · rw [upd_ne (fun q => by subst q; rw [h1] at z; cases z)]; exact e
  · obtain ⟨rfl, rfl⟩ := one_of e; rw [h1] at z; cases z
theorem n_appV {p : Addr} {xs : List V} {y : V} (i : Nat) (ha : E K Γ Os ta (.v (.ref p)) Os1) (h : E K Γ Os1 te (.v y) Os2) (hi : Os2[i]? = some (lstV p xs)) (hi1 : Os1[i]? = some (lstV p xs)) (hl : xs.length < 1000000) (k : N K B Γ (Os2.set i (lstV p (xs ++ [y]))) nx) :
    N K B Γ Os (tDrop (tBM K "list" rAppend ta (tCons te tNil)) ⟨nx, rt, bk, ct⟩) := fun F σ H A => ha B F σ H A _ fun x F1 H1 A1 _ q1 => by
  obtain ⟨b1, _⟩ := A1.getV hi1
  rw [show x = _ from q1]
  refine ⟨Or.inl ⟨rfl, _, .inl (.inl b1)⟩, h B F1 σ H1 A1 _ fun z F2 H2 A2 _ q2 => ?_⟩
  obtain ⟨a1, m⟩ := A2.getV hi
  rw [show z = y from q2]
  exact ⟨p, xs, y, rfl, rfl, a1, szl_lt hl, k F2 σ _ (m _)⟩
theorem n_ext {p : Addr} {es : List PyData} (i : Nat) (ha : E K Γ Os ta (.v (.ref p)) Os1) (h : EL K Γ Os1 te es Os2) (hi : Os2[i]? = some (lst K p ds)) (hi1 : Os1[i]? = some (lst K p ds)) (hl : ds.length + es.length ≤ 1000000) (k : N K B Γ (Os2.set i (lst K p (ds ++ es))) nx) :
    N K B Γ Os (tDrop (tBM K "list" rExtend ta (tCons te tNil)) ⟨nx, rt, bk, ct⟩) := fun F σ H A => ha B F σ H A _ fun x F1 H1 A1 _ q1 => by
  obtain ⟨ys, b1, _⟩ := A1.getL hi1
  rw [show x = _ from q1]
  refine ⟨Or.inl ⟨rfl, _, .inl (.inl b1)⟩, h B F1 σ H1 A1 _ fun q F2 H2 A2 _ => ?_⟩
  have hi' : (Os2 ++ [lst K q es])[i]? = some (lst K p ds) := by
    rw [List.getElem?_append_left (List.getElem?_eq_some_iff.mp hi).1]; exact hi
  obtain ⟨xs, a1, a2, m⟩ := A2.getM hi'
  obtain ⟨zs, c1, c2⟩ := A2.getL (i := Os2.length) (p := q) (ds := es) (by simp)
  refine ⟨p, q, xs, zs, rfl, rfl, a1, c1, szl (by rw [dps_len a2, dps_len c2]; exact hl), k F2 σ _ ?_⟩
  have m2 := (m (dps_app a2 c2)).take Os2.length
  rw [List.set_append_left _ _ (List.getElem?_eq_some_iff.mp hi).1, List.take_append_of_le_length (by simp)] at m2
  rw [List.take_of_length_le (by simp)] at m2
  exact m2
theorem n_setL {p : Addr} {i : Int} {ti : TE} {j : Nat} (n : Nat) (h : E K Γ Os te (.d d) Os1) (ha : E K Γ Os1 ta (.v (.ref p)) Os1) (hb : E K Γ Os1 ti (.d (.int i)) Os1) (hn : Os1[n]? = some (lst K p ds)) (hj : ixN ds.length i = some j) (k : N K B Γ (Os1.set n (lst K p (ds.set j d))) nx) :
    N K B Γ Os (tAsg te (gSub ta ti rSetL) ⟨nx, rt, bk, ct⟩) := fun F σ H A => h B F σ H A _ fun y F1 H1 A1 _ q1 => ha B F1 σ H1 A1 _ fun x F2 H2 A2 e2 q2 => hb B F2 σ H2 A2 _ fun z F3 H3 A3 e3 q3 => by
  obtain ⟨xs, a1, a2, m⟩ := A3.getM hn
  cases (show Dp K F3 z (.int i) from q3)
  exact ⟨p, xs, i, j, q2, rfl, a1, by rw [dps_len a2]; exact hj, k F3 σ _ (m (dps_set j a2 ((q1.mono e2).mono e3)))⟩
/-! targets -/
def setL : St → List Nat → List V → St
  | σ, i :: is, x :: xs => setL (σ.set i (some x)) is xs
  | σ, _, _ => σ
def setG : List SD → List Nat → List SD → List SD
  | Γ, i :: is, s :: ss => setG (Γ.set i s) is ss
  | Γ, _, _ => Γ
/-- the target g, at an item s, sets the slots is to ss -/
def TgD (K : Fr) (g : TG) (s : SD) (is : List Nat) (ss : List SD) : Prop := ∀ (B : Hp × Hp) (F : Hp) (Γ : List SD) (Os : List Own) (σ : St) (H : Hp) (x : V), At K B F Γ Os σ H → Rp K F x s →
  ∀ P : St → Hp → Prop, (∀ xs, xs.length = is.length → At K B F (setG Γ is ss) Os (setL σ is xs) H → P (setL σ is xs) H) → g x σ H P
theorem tg_name {i : Nat} : TgD K (gName i) s [i] [s] := fun B F Γ Os σ H x A r P k => k [x] rfl (A.set r)
def TgsD (K : Fr) (g : TGs) (ds : List PyData) (is : List Nat) (ss : List SD) : Prop := ∀ (B : Hp × Hp) (F : Hp) (Γ : List SD) (Os : List Own) (σ : St) (H : Hp) (xs : List V), At K B F Γ Os σ H → DpAll K F xs ds →
  ∀ P : St → Hp → Prop, (∀ xs, xs.length = is.length → At K B F (setG Γ is ss) Os (setL σ is xs) H → P (setL σ is xs) H) → g xs σ H P
theorem tgs_nil : TgsD K gNil [] [] [] := fun B F Γ Os σ H xs A r P k => by
  cases r
  exact ⟨rfl, k [] rfl A⟩
theorem setL_app : ∀ (is js : List Nat) (xs ys : List V) (σ : St), xs.length = is.length → setL (setL σ is xs) js ys = setL σ (is ++ js) (xs ++ ys)
  | [], js, [], ys, σ, _ => by cases js <;> cases ys <;> rfl
  | i :: is, js, x :: xs, ys, σ, h => setL_app is js xs ys _ (by simpa using h)
  | [], _, _ :: _, _, _, h => by simp at h
  | _ :: _, _, [], _, _, h => by simp at h
theorem setG_app : ∀ (is js : List Nat) (xs ys : List SD) (σ : List SD), xs.length = is.length → setG (setG σ is xs) js ys = setG σ (is ++ js) (xs ++ ys)
  | [], js, [], ys, σ, _ => by cases js <;> cases ys <;> rfl
  | i :: is, js, x :: xs, ys, σ, h => setG_app is js xs ys _ (by simpa using h)
  | [], _, _ :: _, _, _, h => by simp at h
  | _ :: _, _, [], _, _, h => by simp at h
theorem tgs_cons {g : TG} {gs : TGs} {es : List PyData} {is js : List Nat} {ss rs : List SD} (h1 : TgD K g (.d d) is ss) (h2 : TgsD K gs es js rs) (hl : ss.length = is.length := by rfl) : TgsD K (gCons g gs) (d :: es) (is ++ js) (ss ++ rs) := fun B F Γ Os σ H xs A r P k => by
  cases r with
  | cons r1 r2 =>
    refine ⟨_, _, rfl, h1 B F Γ Os σ H _ A r1 _ fun xs hx A1 => h2 B F _ Os _ H _ A1 r2 _ fun ys hy A2 => ?_⟩
    rw [setL_app _ _ _ _ _ hx, setG_app _ _ _ _ _ hl] at A2
    rw [setL_app _ _ _ _ _ hx]
    exact k (xs ++ ys) (by simp [hx, hy]) A2
theorem tg_tup {n : Nat} {gs : TGs} {is : List Nat} {ss : List SD} (h : TgsD K gs ds is ss) (hn : ds.length = n) : TgD K (gTup K n gs) (.d (.tuple ds)) is ss := fun B F Γ Os σ H x A r P k => by
  obtain ⟨p, xs, rfl, hq, ha⟩ := (Vw.dat (K := K) (Os := Os)).tup A r
  exact ⟨p, xs, rfl, hq, by rw [dps_len ha]; exact hn, h B F Γ Os σ H xs A ha P k⟩
theorem n_asgT {g : TG} {is : List Nat} {ss : List SD} (h : E K Γ Os te s Os1) (hg : TgD K g s is ss) (k : N K B (setG Γ is ss) Os1 nx) : N K B Γ Os (tAsg te g ⟨nx, rt, bk, ct⟩) := fun F σ H A => h B F σ H A _ fun x F1 H1 A1 _ q1 => hg B F1 Γ Os1 σ H1 x A1 q1 _ fun xs _ A2 => k F1 _ H1 A2
/-! ### what a loop walks -/
def ItOk (K : Fr) (F : Hp) (J : It) (n : Nat) (item : Nat → SD) (C : List Own → Prop) : Prop := ∀ (B : Hp × Hp) (Γ : List SD) (Os : List Own) (σ : St) (F' H : Hp), Same F F' → At K B F' Γ Os σ H → C Os →
  (∀ i, i < n → J.go i H) ∧ J.stop n H ∧ ∀ i, i < n → ∀ x H', J.yld i H x H' → ∃ F'', Same F' F'' ∧ At K B F'' Γ Os σ H' ∧ Rp K F'' x (item i)
def IT (K : Fr) (Γ : List SD) (Os : List Own) (wi : TI) (n : Nat) (item : Nat → SD) (C : List Own → Prop) (Os1 : List Own) : Prop := ∀ (B : Hp × Hp) (F : Hp) (σ : St) (H : Hp), At K B F Γ Os σ H → ∀ R : It → Hp → Prop,
  (∀ J F' H', At K B F' Γ Os1 σ H' → Same F F' → ItOk K F' J n item C → R J H') → wi σ H R
def getD (ds : List PyData) (i : Nat) : SD := .d (ds[i]?.getD .none)
theorem itok_list {F : Hp} {a : Addr} {xs : List V} (hq : SqL K F a xs) (ha : DpAll K F xs ds) : ItOk K F (Itl K a) ds.length (getD ds) (fun _ => True) := fun B Γ Os σ F' H e A _ => by
  have hq' : SqL K H a xs := A.fr.seq (e.seq hq)
  have l := dps_len ha
  refine ⟨fun i hi => ⟨xs, xs[i]'(by omega), hq', by simp⟩, ⟨xs, hq', by omega⟩, fun i hi x H' y => ?_⟩
  obtain ⟨rfl, y⟩ := y
  obtain ⟨d, h1, h2⟩ := dps_at2 ha (y xs hq')
  exact ⟨F', Same.refl _, A, by show Dp K F' x (ds[i]?.getD .none); rw [h1]; exact dp_mono e _ _ h2⟩
theorem it_list (h : E K Γ Os te (.d (.list ds)) Os1) : IT K Γ Os (iList K te) ds.length (getD ds) (fun _ => True) Os1 := fun B F σ H A R k => h B F σ H A _ fun x F1 H1 A1 e1 q1 => by
  cases (show Dp K F1 x (.list ds) from q1) with
  | lst hq ha => exact ⟨_, rfl, ⟨_, A1.fr.seq hq⟩, k _ F1 H1 A1 e1 (itok_list hq ha)⟩
theorem it_own {p : Addr} (j : Nat) (h : E K Γ Os te (.v (.ref p)) Os1) (hj : Os1[j]? = some (lst K p ds)) : IT K Γ Os (iList K te) ds.length (getD ds) (fun O => O[j]? = some (lst K p ds)) Os1 := fun B F σ H A R k => h B F σ H A _ fun x F1 H1 A1 e1 q1 => by
  obtain ⟨xs, a1, a2⟩ := A1.getL hj
  refine ⟨p, q1, ⟨xs, .inl (.inl a1)⟩, k _ F1 H1 A1 e1 fun B Γ Os σ F' H e A c => ?_⟩
  obtain ⟨ys, b1, b2⟩ := A.getL c
  have l := dps_len b2
  refine ⟨fun i hi => ⟨ys, ys[i]'(by omega), .inl (.inl b1), by simp⟩, ⟨ys, .inl (.inl b1), by omega⟩, fun i hi x H' y => ?_⟩
  obtain ⟨rfl, y⟩ := y
  obtain ⟨d, h1, h2⟩ := dps_at2 b2 (y ys (.inl (.inl b1)))
  exact ⟨F', Same.refl _, A, by show Dp K F' x (ds[i]?.getD .none); rw [h1]; exact h2⟩
/-- a list of our own things -/
theorem it_ownV {p : Addr} {xs : List V} (j : Nat) (h : E K Γ Os te (.v (.ref p)) Os1) (hj : Os1[j]? = some (lstV p xs)) : IT K Γ Os (iList K te) xs.length (fun i => .v (xs[i]?.getD .non)) (fun O => O[j]? = some (lstV p xs)) Os1 := fun B F σ H A R k => h B F σ H A _ fun x F1 H1 A1 e1 q1 => by
  obtain ⟨a1, _⟩ := A1.getV hj
  refine ⟨p, q1, ⟨xs, .inl (.inl a1)⟩, k _ F1 H1 A1 e1 fun B Γ Os σ F' H e A c => ?_⟩
  obtain ⟨b1, _⟩ := A.getV c
  refine ⟨fun i hi => ⟨xs, xs[i], .inl (.inl b1), by simp⟩, ⟨xs, .inl (.inl b1), Nat.le_refl _⟩, fun i hi x H' y => ?_⟩
  obtain ⟨rfl, y⟩ := y
  have z := y xs (.inl (.inl b1))
  exact ⟨F', Same.refl _, A, by show x = xs[i]?.getD .non; rw [z]; rfl⟩
theorem it_tup (h : E K Γ Os te (.d (.tuple ds)) Os1) : IT K Γ Os (iTup K te) ds.length (getD ds) (fun _ => True) Os1 := fun B F σ H A R k => h B F σ H A _ fun x F1 H1 A1 e1 q1 => by
  cases (show Dp K F1 x (.tuple ds) from q1) with
  | @tup a xs _ hq ha =>
    refine ⟨_, rfl, ⟨_, seqT A1.fr hq⟩, k _ F1 H1 A1 e1 fun B Γ Os σ F' H e A _ => ?_⟩
    have hq' : SqT K H a xs := seqT A.fr (seqT e hq)
    have l := dps_len ha
    refine ⟨fun i hi => ⟨xs, xs[i]'(by omega), hq', by simp⟩, ⟨xs, hq', by omega⟩, fun i hi x H' y => ?_⟩
    obtain ⟨rfl, y⟩ := y
    obtain ⟨d, h1, h2⟩ := dps_at2 ha (y xs hq')
    exact ⟨F', Same.refl _, A, by show Dp K F' x (ds[i]?.getD .none); rw [h1]; exact dp_mono e _ _ h2⟩
theorem it_range {tr : TA} {n : Int} (h : EA K Γ Os tr [.d (.int n)] Os1) (h1 : n ≤ 1000000) (h0 : -1000000 ≤ n) : IT K Γ Os (iRng1 tr) n.toNat (fun i => .d (.int (i : Int))) (fun _ => True) Os1 := fun B F σ H A R k => h B F σ H A _ fun xs F1 H1 A1 e1 q1 => by
  obtain ⟨x, rfl, q⟩ := sl1 rfl q1
  cases (show Dp K F1 x (.int n) from q)
  refine ⟨n, rfl, by omega, by omega, k _ F1 H1 A1 e1 fun B Γ Os σ F' H e A _ => ⟨fun i hi => hi, Nat.le_refl _, fun i hi x H' y => ?_⟩⟩
  obtain ⟨rfl, rfl⟩ := y
  refine ⟨F', Same.refl _, A, ?_⟩
  show Dp K F' (.int (0 + (i : Int))) (.int (i : Int))
  rw [Int.zero_add]
  exact .int _
/-- enumerate of a list -/
theorem it_enum {tr : TA} {ss : List SD} (h : EA K Γ Os tr [.d (.list ds)] Os1) : IT K Γ Os (iEnum K tr) ds.length (fun i => .d (.tuple [.int (i : Int), ds[i]?.getD .none])) (fun _ => True) Os1 := fun B F σ H A R k => h B F σ H A _ fun xs F1 H1 A1 e1 q1 => by
  obtain ⟨x, rfl, q⟩ := sl1 rfl q1
  cases (show Dp K F1 x (.list ds) from q) with
  | @lst a xs _ hq ha =>
    refine ⟨_, _, rfl, A1.fr.seq hq, k _ F1 H1 A1 e1 fun B Γ Os σ F' H e A _ => ?_⟩
    have hq' : SqL K H a xs := A.fr.seq (e.seq hq)
    have l := dps_len ha
    refine ⟨fun i hi => ⟨xs, xs[i]'(by omega), hq', by simp⟩, ⟨xs, hq', by omega⟩, fun i hi x H' y => ?_⟩
    obtain ⟨T, z, rfl, hT, rfl, y⟩ := y
    obtain ⟨d, h1, h2⟩ := dps_at2 ha (y xs hq')
    have nf : F' T = none := A.fr.free hT
    refine ⟨_, same_upd nf, A.newF hT, ?_⟩
    show Dp K _ (.ref T) (.tuple [.int (i : Int), ds[i]?.getD .none])
    rw [h1]
    exact .tup (.inl (.inl upd_same)) (.cons (.int _) (.cons (dp_mono (e.trans (same_upd nf)) _ _ h2) .nil))
/-! ### loops -/
def NI (K : Fr) (B : Hp × Hp) (I : List SD → List Own → Prop) : St → Hp → Prop := fun σ H => ∃ Γ Os F, I Γ Os ∧ At K B F Γ Os σ H
theorem n_inv {I : List SD → List Own → Prop} (Γ' : List SD) (Os' : List Own) (h : I Γ' Os') (w : Wk Γ Γ') (e : Os.take Os'.length = Os') : N K B Γ Os (NI K B I) := fun F σ H A => by
  have A2 := (A.weak w).take Os'.length
  rw [e] at A2
  exact ⟨Γ', Os', F, h, A2⟩
theorem n_for {wi : TI} {g : TG} {body : TS} {n : Nat} {item : Nat → SD} {C : List Own → Prop} {is : List Nat} {ss : Nat → List SD} (hI : IT K Γ Os wi n item C Os1) (hg : ∀ i, TgD K g (item i) is (ss i)) (I : Nat → List SD → List Own → Prop) (h0 : I 0 Γ Os1) (hC : ∀ i Γ Os, I i Γ Os → C Os)
    (hs : ∀ B', Bl B B' → ∀ i Γ Os, i < n → I i Γ Os → N K B' (setG Γ is (ss i)) Os (body ⟨NI K B' (I (i + 1)), rt, nx, NI K B' (I (i + 1))⟩))
    (hd : ∀ Γ Os, I n Γ Os → N K B Γ Os nx) : N K B Γ Os (tFor wi g body ⟨nx, rt, bk, ct⟩) := fun F σ H A => hI B F σ H A _ fun J F1 H1 A1 e1 ok => by
  have hb : Bl B (F1, B.2) := ⟨A1.bs, rfl⟩
  refine ⟨fun i m σ H => i + m = n ∧ NI K (F1, B.2) (I i) σ H, ⟨n, by omega, Γ, Os1, F1, h0, A1.upbase (Same.refl _)⟩, ?_⟩
  rintro i m σ2 H2 ⟨hm, Γ2, O2, F2, hI2, A2⟩
  obtain ⟨o1, o2, o3⟩ := ok _ _ _ _ F2 H2 A2.bs A2 (hC _ _ _ hI2)
  by_cases hi : i < n
  · refine .inr ⟨o1 i hi, NI K (F1, B.2) (I (i + 1)), fun σ' H' q => ⟨n - (i + 1), by omega, by omega, q⟩, fun x H' y => ?_⟩
    obtain ⟨F3, e3, A3, r3⟩ := o3 i hi x H' y
    exact hg i _ F3 Γ2 O2 σ2 H' x A3 r3 _ fun xs _ A4 => hs _ hb i Γ2 O2 hi hI2 F3 _ H' A4
  · have ei : i = n := by omega
    subst ei
    exact .inl ⟨o2, hd Γ2 O2 hI2 F2 σ2 H2 (A2.rebase hb)⟩
theorem n_while {body : TS} (I : Nat → List SD → List Own → Prop) (m0 : Nat) (h0 : I m0 Γ Os)
    (hs : ∀ m Γ Os, I m Γ Os → ∃ b Os1, ET K Γ Os tt b Os1 ∧ (b = true → N K B Γ Os1 (body ⟨NI K B (fun Γ Os => ∃ m', m' < m ∧ I m' Γ Os), rt, nx, NI K B (fun Γ Os => ∃ m', m' < m ∧ I m' Γ Os)⟩)) ∧ (b = false → N K B Γ Os1 nx)) : N K B Γ Os (tWhile tt body ⟨nx, rt, bk, ct⟩) := fun F σ H A => by
  refine ⟨fun m σ H => NI K B (I m) σ H, ⟨m0, Γ, Os, F, h0, A⟩, ?_⟩
  rintro m σ2 H2 ⟨Γ2, O2, F2, hI2, A2⟩
  obtain ⟨b, O3, ht, h1, h2⟩ := hs m Γ2 O2 hI2
  refine ht B F2 σ2 H2 A2 _ fun F3 H3 A3 e3 => ?_
  cases b with
  | true =>
    refine iteT ⟨_, fun σ' H' q => ?_, h1 rfl F3 σ2 H3 A3⟩
    obtain ⟨Γ4, O4, F4, ⟨m', lt, hI4⟩, A4⟩ := q
    exact ⟨m', lt, Γ4, O4, F4, hI4, A4⟩
  | false => exact iteF (h2 rfl F3 σ2 H3 A3)
/-! ### comprehensions -/
theorem wipe_get (σ : St) (k : Nat) : ∀ vs : List Nat, (wipe σ vs)[k]? = if k ∈ vs then (σ[k]?).map (fun _ => none) else σ[k]?
  | [] => by simp [wipe]
  | v :: vs => by
    show ((wipe σ vs).set v none)[k]? = _
    rw [List.getElem?_set, wipe_get σ k vs, wipe_length]
    by_cases h : v = k
    · subst h
      rw [if_pos rfl]
      by_cases lt : v < σ.length
      · simp [lt]
      · simp [lt]
    · rw [if_neg h]
      have e : (k ∈ v :: vs) ↔ k ∈ vs := by simp [Ne.symm h, fun q : k = v => h q.symm]
      simp only [e]
theorem wipe_len (σ : St) (vs : List Nat) : (wipe σ vs).length = σ.length := wipe_length σ vs
theorem setL_get : ∀ (is : List Nat) (xs : List V) (σ : St) (k : Nat), k ∉ is → (setL σ is xs)[k]? = σ[k]?
  | [], _, _, _, _ => by unfold setL; rfl
  | i :: is, [], _, _, _ => by unfold setL; rfl
  | i :: is, x :: xs, σ, k, h => by
    show (setL (σ.set i (some x)) is xs)[k]? = _
    rw [setL_get is xs _ k (fun q => h (List.mem_cons_of_mem _ q)), List.getElem?_set_ne (fun q => h (by rw [q]; exact List.mem_cons_self))]
theorem setL_len : ∀ (is : List Nat) (xs : List V) (σ : St), (setL σ is xs).length = σ.length
  | [], _, _ => by unfold setL; rfl
  | i :: is, [], _ => by unfold setL; rfl
  | i :: is, x :: xs, σ => by
    show (setL (σ.set i (some x)) is xs).length = _
    rw [setL_len is xs]; simp
theorem wipe_setL {σ : St} {vs is : List Nat} {xs : List V} (h : ∀ i ∈ is, i ∈ vs) : wipe (setL (wipe σ vs) is xs) vs = wipe σ vs := by
  refine List.ext_getElem? fun k => ?_
  rw [wipe_get, wipe_get]
  by_cases q : k ∈ vs
  · rw [if_pos q, if_pos q]
    have l : (setL (wipe σ vs) is xs).length = σ.length := by rw [setL_len, wipe_len]
    by_cases lt : k < σ.length
    · rw [List.getElem?_eq_getElem (by omega), List.getElem?_eq_getElem lt]; rfl
    · rw [List.getElem?_eq_none (by omega), List.getElem?_eq_none (by omega)]
  · rw [if_neg q, if_neg q, setL_get _ _ _ _ (fun z => q (h k z)), wipe_get, if_neg q]
def wipeG : List SD → List Nat → List SD
  | Γ, [] => Γ
  | Γ, v :: vs => (wipeG Γ vs).set v .un
theorem At.wipe {F H : Hp} {σ : St} (A : At K B F Γ Os σ H) : ∀ vs : List Nat, At K B F (wipeG Γ vs) Os (L2.wipe σ vs) H
  | [] => A
  | v :: vs => (A.wipe vs).slots ((A.wipe vs).sl.unset v)
/-- what one turn gives: J, the list so far, what is owned -/
theorem el_lc {wi : TI} {g : TG} {n : Nat} {item : Nat → SD} {C : List Own → Prop} {is vs : List Nat} {ss : Nat → List SD} (hI : IT K Γ Os wi n item C Os1) (hn : n ≤ 1000000) (hg : ∀ i, TgD K g (item i) is (ss i)) (hv : ∀ i ∈ is, i ∈ vs)
    (J : Nat → List PyData → List Own → Prop) (h0 : J 0 [] Os1) (hC : ∀ i acc Os, J i acc Os → C Os)
    (hs : ∀ i acc Os, i < n → J i acc Os → ∃ b Os2, ET K (setG (wipeG Γ vs) is (ss i)) Os tt b Os2 ∧ (b = true → ∃ d Os3, E K (setG (wipeG Γ vs) is (ss i)) Os2 te (.d d) Os3 ∧ J (i + 1) (acc ++ [d]) Os3) ∧ (b = false → J (i + 1) acc Os2))
    (hd : ∀ acc Os, J n acc Os → acc = ds ∧ Os = Os2) : EL K Γ Os (tLc wi g tt te vs) ds Os2 := fun B F σ H A Q k => hI B F σ H A _ fun It F1 H1 A1 e1 ok D hD => by
  -- the list so far is the frame's
  have nB : B.2 D = none := A1.rs.free hD
  have nF : F1 D = none := A1.fr.free hD
  -- a change of the list at D
  have chg : ∀ {F2 H2 : Hp} {xs ys : List V} {Γ : List SD} {Os : List Own} {σ : St}, At K (F1, fun a => if a = D then some (.lst xs) else B.2 a) F2 Γ Os σ H2 → At K (F1, fun a => if a = D then some (.lst ys) else B.2 a) F2 Γ Os σ (upd H2 D (.lst ys)) := fun {F2 H2 xs ys Γ Os σ} A2 => by
    have hDD : H2 D = some (.lst xs) := A2.rs D _ (by dsimp only; rw [if_pos rfl])
    have nF2 : F2 D = none := A2.rf.none (by dsimp only; rw [if_pos rfl])
    obtain ⟨hs, h1, h2, h3, h4, h5⟩ := A2.ow
    have nh : ∀ i, hs i D = none := fun i => (h5 i).symm.none (by dsimp only; rw [if_pos rfl])
    refine ⟨A2.sl, A2.bs, fun a o e => ?_, fun a o e => ?_, .of fun a o e => ?_, hs, h1, fun i a o e => ?_, h3, h4, fun i => .of fun a o e => ?_⟩
    · rw [upd_ne (fun q => by subst q; rw [nF2] at e; cases e)]; exact A2.fr a o e
    · dsimp only at e
      by_cases q : a = D
      · subst q; rw [if_pos rfl] at e; cases e; exact upd_same
      · rw [if_neg q] at e; rw [upd_ne q]; exact A2.rs a o (by dsimp only; rw [if_neg q]; exact e)
    · dsimp only at e
      by_cases q : a = D
      · subst q; exact nF2
      · rw [if_neg q] at e; exact A2.rf.none (show (if a = D then some (HO.lst xs) else B.2 a) = some o by rw [if_neg q]; exact e)
    · rw [upd_ne (fun q => by subst q; rw [nh] at e; cases e)]; exact h2 i a o e
    · have z := (h5 i).none e
      dsimp only at z ⊢
      by_cases q : a = D
      · subst q; rw [if_pos rfl] at z; cases z
      · rw [if_neg q] at z ⊢; exact z
  have Aw : At K (F1, fun a => if a = D then some (.lst []) else B.2 a) F1 (wipeG Γ vs) Os1 (L2.wipe σ vs) (upd H1 D (.lst [])) := by
    have A2 := (A1.upbase (Same.refl _)).wipe vs
    obtain ⟨hs, h1, h2, h3, h4, h5⟩ := A2.ow
    have nh : ∀ i, hs i D = none := fun i => (h2 i).free hD
    refine ⟨A2.sl, A2.bs, fun a o e => ?_, fun a o e => ?_, .of fun a o e => ?_, hs, h1, fun i a o e => ?_, h3, h4, fun i => .of fun a o e => ?_⟩
    · rw [upd_ne (fun q => by subst q; rw [nF] at e; cases e)]; exact A2.fr a o e
    · dsimp only at e
      by_cases q : a = D
      · subst q; rw [if_pos rfl] at e; cases e; exact upd_same
      · rw [if_neg q] at e; rw [upd_ne q]; exact A2.rs a o e
    · dsimp only at e
      by_cases q : a = D
      · subst q; exact nF
      · rw [if_neg q] at e; exact A2.rf.none e
    · rw [upd_ne (fun q => by subst q; rw [nh] at e; cases e)]; exact h2 i a o e
    · dsimp only
      by_cases q : a = D
      · subst q; rw [nh] at e; cases e
      · rw [if_neg q]; exact (h5 i).none e
  refine ⟨fun i m H => i + m = n ∧ ∃ F xs acc Os, At K (F1, fun a => if a = D then some (.lst xs) else B.2 a) F (wipeG Γ vs) Os (L2.wipe σ vs) H ∧ DpAll K F xs acc ∧ acc.length ≤ i ∧ J i acc Os, ⟨n, by omega, F1, [], [], Os1, Aw, .nil, Nat.le_refl _, h0⟩, ?_⟩
  rintro i m H2 ⟨hm, F2, xs, acc, O2, A2, dxs, hl, hJ⟩
  obtain ⟨o1, o2, o3⟩ := ok _ _ _ _ F2 H2 A2.bs A2 (hC _ _ _ hJ)
  by_cases hi : i < n
  · refine .inr ⟨o1 i hi, _, fun H' q => ⟨n - (i + 1), by omega, by omega, q⟩, fun x H' y => ?_⟩
    obtain ⟨F3, e3, A3, r3⟩ := o3 i hi x H' y
    refine hg i _ F3 _ O2 _ H' x A3 r3 _ fun zs _ A4 => ⟨wipe_setL hv, ?_⟩
    obtain ⟨b, O4, ht, h1, h2⟩ := hs i acc O2 hi hJ
    refine ht _ F3 _ H' A4 _ fun F4 H4 A5 e4 => ?_
    cases b with
    | true =>
      refine iteT ?_
      obtain ⟨d, O5, he, hJ2⟩ := h1 rfl
      refine he _ F4 _ H4 A5 _ fun v F5 H5 A6 e5 q5 => ?_
      have hDD : H5 D = some (.lst xs) := A6.rs D _ (by dsimp only; rw [if_pos rfl])
      have lx := dps_len dxs
      refine ⟨xs, hDD, szl_lt (by omega), F5, xs ++ [v], acc ++ [d], O5, ?_, dps_app (dps_mono ((e3.trans e4).trans e5) _ _ dxs) (.cons q5 .nil), by simp; omega, hJ2⟩
      exact (chg A6).slots (A2.sl.mono ((e3.trans e4).trans e5))
    | false =>
      refine iteF ⟨F4, xs, acc, O4, A5.slots (A2.sl.mono (e3.trans e4)), dps_mono (e3.trans e4) _ _ dxs, by omega, h2 rfl⟩
  · have ei : i = n := by omega
    subst ei
    obtain ⟨rfl, rfl⟩ := hd acc O2 hJ
    refine .inl ⟨o2, ?_⟩
    -- the list becomes ours
    have hDD : H2 D = some (.lst xs) := A2.rs D _ (by dsimp only; rw [if_pos rfl])
    have nF2 : F2 D = none := A2.rf.none (by dsimp only; rw [if_pos rfl])
    obtain ⟨hs', g1, g2, g3, g4, g5⟩ := A2.ow
    refine k D F2 H2 ?_ (e1.trans A2.bs)
    refine ⟨A.sl.mono (e1.trans A2.bs), A.bs.trans (e1.trans A2.bs), A2.fr, fun a o e => ?_, .of fun a o e => ?_, fun j => if j = O2.length then one D (.lst xs) else hs' j, fun j O q => ?_, fun j => ?_, fun j => ?_, fun j l ne => ?_, fun j => ?_⟩
    · exact A2.rs a o (by dsimp only; rw [if_neg (fun q => by subst q; rw [nB] at e; cases e)]; exact e)
    · exact A2.rf.none (show (if a = D then some (HO.lst xs) else B.2 a) = some o by rw [if_neg (fun q => by subst q; rw [nB] at e; cases e)]; exact e)
    · by_cases z : j = O2.length
      · subst z
        simp at q; subst q
        simp only [if_pos]
        exact ⟨xs, one_same, dxs⟩
      · simp only [if_neg z]
        have lt : j < O2.length := by
          have := (List.getElem?_eq_some_iff.mp q).1
          simp at this; omega
        rw [List.getElem?_append_left lt] at q
        exact g1 j O q
    · by_cases z : j = O2.length
      · simp only [if_pos z]; intro a o e; obtain ⟨rfl, rfl⟩ := one_of e; exact hDD
      · simp only [if_neg z]; exact g2 j
    · by_cases z : j = O2.length
      · simp only [if_pos z]; exact .of fun a o e => by obtain ⟨rfl, rfl⟩ := one_of e; exact nF2
      · simp only [if_neg z]; exact g3 j
    · have nd : ∀ i, Dis (one D (.lst xs)) (hs' i) := fun i => .of fun a o e => by
        obtain ⟨rfl, rfl⟩ := one_of e
        exact (g5 i).symm.none (by dsimp only; rw [if_pos rfl])
      by_cases z : j = O2.length
      · by_cases z2 : l = O2.length
        · exact absurd (z.trans z2.symm) ne
        · simp only [if_pos z, if_neg z2]; exact nd l
      · by_cases z2 : l = O2.length
        · simp only [if_pos z2, if_neg z]; exact (nd j).symm
        · simp only [if_neg z, if_neg z2]; exact g4 j l ne
    · by_cases z : j = O2.length
      · simp only [if_pos z]; exact .of fun a o e => by obtain ⟨rfl, rfl⟩ := one_of e; exact nB
      · simp only [if_neg z]
        refine .of fun a o e => ?_
        have q := (g5 j).none e
        dsimp only at q
        by_cases w : a = D
        · subst w; exact nB
        · rw [if_neg w] at q; exact q
end
end Cw

namespace PySem
/-! tuple * k for k = 1 or less, or of the empty one -/
theorem cw_tmul1 (l : Addr) (items : Array Value) (n : Nat) (dd : Option Addr) (sl : Array (Option Value)) (x : Int) (u : Tok) (c0 : (decide (x < -(2 ^ 63)) || decide (x ≥ 2 ^ 63)) = false) (c1 : (items.isEmpty || x == 1) = true) :
    Meets (Builtin.«tuple.__mul__» ⟨[.ref l, .int x u], []⟩) (fun _ R s => s.heap.get? l = some { cls := .type "tuple", dict := dd, data := .seq items n, slots := sl } ∧ R (.ok (.ret (Value.ref l))) s) :=
  .of_wp fun prog w A R s h => by
    obtain ⟨hp, g, d, tk, os⟩ := s
    obtain ⟨hl, h⟩ := h
    have f1 := AutoSeq1.idx_int
    wp_walk using wpAny_loadPart' hl
    repeat (first
      | (refine wpAny_ite_false (decide_eq_false (by rw [c0]; exact Bool.false_ne_true)) ?_; wp_walk using wpAny_loadPart' hl)
      | (refine wpAny_ite_true (decide_eq_true c1) ?_; wp_walk using wpAny_loadPart' hl))
    exact ⟨_, rfl, h⟩
theorem cw_tmul0 (l : Addr) (items : Array Value) (n : Nat) (dd : Option Addr) (sl : Array (Option Value)) (x : Int) (u : Tok) (c0 : (decide (x < -(2 ^ 63)) || decide (x ≥ 2 ^ 63)) = false) (c1 : (items.isEmpty || x == 1) = false) (c2 : (decide (x ≤ 0) || items.isEmpty) = true) :
    Meets (Builtin.«tuple.__mul__» ⟨[.ref l, .int x u], []⟩) (fun _ R s => s.heap.get? l = some { cls := .type "tuple", dict := dd, data := .seq items n, slots := sl } ∧
      R (.ok (.ret (Value.ref s.heap.objs.size))) { s with heap := s.heap.push { cls := Value.type "tuple", data := Data.seq #[] }, toks := s.toks }) :=
  .of_wp fun prog w A R s h => by
    obtain ⟨hp, g, d, tk, os⟩ := s
    obtain ⟨hl, h⟩ := h
    have f1 := AutoSeq1.idx_int
    wp_walk using wpAny_loadPart' hl
    repeat (first
      | (refine wpAny_ite_false (decide_eq_false (by rw [c0]; exact Bool.false_ne_true)) ?_; wp_walk using wpAny_loadPart' hl)
      | (refine wpAny_ite_false (decide_eq_false (by rw [c1]; exact Bool.false_ne_true)) ?_; wp_walk using wpAny_loadPart' hl)
      | (refine wpAny_ite_true (decide_eq_true c2) ?_; wp_walk using wpAny_loadPart' hl)
      | (refine wpAny_ite_false (decide_eq_false (by decide)) ?_; wp_walk using wpAny_loadPart' hl))
    exact ⟨_, rfl, h⟩
end PySem
namespace Cw
open PySem L2 PyProof.Rows
/-- t * k -/
def rRepA (K : Fr) : R2 := fun x y H Q => ∃ l k xs, x = .ref l ∧ y = .int k ∧ SqT K H l xs ∧ k ≤ 1000 ∧ -1000 ≤ k ∧ xs.length ≤ 1000 ∧ (xs = [] ∨ k = 1 → Q (.ref l) H) ∧ (¬ (xs = [] ∨ k = 1) → ∀ p, H p = none → Q (.ref p) (upd H p (.tup (List.replicate k.toNat xs).flatten)))
theorem op_repA {X : Cx} : OpR X (binaryOp .Mult) (rRepA X.K) := by
  intro pins s σ H x y v u Q I rx ry h
  obtain ⟨l, k, xs, rfl, rfl, hT, h2, h3, hz, q1, q2⟩ := h
  by_cases c : xs = [] ∨ k = 1
  · cases rx
    obtain ⟨t, rfl⟩ := ry
    obtain ⟨its, r, ⟨⟨cls, dd, data, sl⟩, ho, hc, n, hd⟩, hs⟩ := I.tuple hT
    simp only at hc hd
    subst hc hd
    have hle : its.length = xs.length := r.length.symm
    have c0 : (decide (k < -(2 ^ 63)) || decide (k ≥ 2 ^ 63)) = false := by
      rw [decide_eq_false (by omega), decide_eq_false (by omega)] <;> rfl
    have c1 : (its.toArray.isEmpty || k == 1) = true := by
      rcases c with z | z
      · rw [z] at hle
        rw [List.eq_nil_of_length_eq_zero hle]; rfl
      · rw [z]; simp
    exact wpAny_binaryOp_repeat_ref (T := "tuple") (U := "int") (by decide) ⟨_, ho, rfl⟩ (fun s' => typeIs_int s' k t) noFill_tuple_mul F.fills_int_mul F.slot_int_rmul repeat_tuple F.slot_int_index.lookup
      (call_meets F.slot_int_rmul (typeIs_int s k t) F.entry_int_rmul (F.args_int_rmul_2 _ _) (int_rmul_tuple k t l its.toArray n dd sl)
        ⟨ho, rfl, ⟨_, ho, rfl⟩, call_meets F.slot_tuple_mul ⟨_, ho, rfl⟩ F.entry_tuple_mul (F.args_tuple_mul_2 _ _) (cw_tmul1 l its.toArray n dd sl k t c0 c1) ⟨ho, ⟨.ref l, H, I, rfl, q1 c⟩⟩⟩)
  · have hx : xs ≠ [] := fun z => c (.inl z)
    have hk : k ≠ 1 := fun z => c (.inr z)
    by_cases hk0 : k ≤ 0
    · cases rx
      obtain ⟨t, rfl⟩ := ry
      obtain ⟨its, r, ⟨⟨cls, dd, data, sl⟩, ho, hc, n, hd⟩, hs⟩ := I.tuple hT
      simp only at hc hd
      subst hc hd
      have hle : its.length = xs.length := r.length.symm
      have c0 : (decide (k < -(2 ^ 63)) || decide (k ≥ 2 ^ 63)) = false := by
        rw [decide_eq_false (by omega), decide_eq_false (by omega)] <;> rfl
      have c1 : (its.toArray.isEmpty || k == 1) = false := by
        have : its ≠ [] := fun z => hx (List.eq_nil_of_length_eq_zero (by rw [← hle, z]; rfl))
        cases its with
        | nil => exact absurd rfl this
        | cons a b =>
          show (false || k == 1) = false
          simpa using hk
      have c2 : (decide (k ≤ 0) || its.toArray.isEmpty) = true := by rw [decide_eq_true hk0]; rfl
      refine wpAny_binaryOp_repeat_ref (T := "tuple") (U := "int") (by decide) ⟨_, ho, rfl⟩ (fun s' => typeIs_int s' k t) noFill_tuple_mul F.fills_int_mul F.slot_int_rmul repeat_tuple F.slot_int_index.lookup
        (call_meets F.slot_int_rmul (typeIs_int s k t) F.entry_int_rmul (F.args_int_rmul_2 _ _) (int_rmul_tuple k t l its.toArray n dd sl)
          ⟨ho, rfl, ⟨_, ho, rfl⟩, call_meets F.slot_tuple_mul ⟨_, ho, rfl⟩ F.entry_tuple_mul (F.args_tuple_mul_2 _ _) (cw_tmul0 l its.toArray n dd sl k t c0 c1 c2) ⟨ho, ?_⟩⟩)
      have e : (List.replicate k.toNat xs).flatten = [] := by
        have : k.toNat = 0 := by omega
        rw [this]; rfl
      have q := q2 c _ (I.hok.fresh (Nat.le_refl _))
      rw [e] at q
      exact ⟨.ref s.heap.objs.size, _, I.laid (t' := s.toks) (o := .tup []) (fun b ob z => Heap.get?_push_of_some _ z) (Nat.le_refl _) ⟨Nat.zero_le _, [], .nil, IsTup.new _ _⟩, rfl, q⟩
    · exact op_repT pins s σ H _ _ v u Q I rx ry ⟨l, k, xs, rfl, rfl, hT, hx, by omega, h2, hz, q2 c⟩
def mulU (K : Fr) : R2 := rOr (rI CMul fun i j => .int (i * j)) (rOr rRep (rRepA K))
theorem op_mulU {X : Cx} : OpR X (binaryOp .Mult) (mulU X.K) := op_or op_mul (op_or op_rep op_repA)
theorem _root_.L2.Room.units1 {k : Nat} {A : Around} (r : Room k A) : A.units + 65 < cLine := by have := r.un; omega
/-! in, not in: lists of data; flat things in a list or tuple -/
def inU (K : Fr) : R2 := rOr (rInD K) (rIn K false)
def ninU (K : Fr) : R2 := rOr (rNotInD K) (rIn K true)
theorem op_inU {X : Cx} (hu : X.A.units + 65 < cLine) : OpR X (compareOp .In) (inU X.K) := op_or (op_inD hu) op_in_seq
theorem op_ninU {X : Cx} (hu : X.A.units + 65 < cLine) : OpR X (compareOp .NotIn) (ninU X.K) := op_or (op_notInD hu) op_notIn_seq
/-! slices: lists, tuples -/
def rSlU (K : Fr) : V → Option Int → Option Int → Hp → VK → Prop := fun x lo hi H Q => rSlL K x lo hi H Q ∨ rSlA K x lo hi H Q
theorem sl_U {X : Cx} : SlR X (rSlU X.K) := by
  intro pins s σ H x v lo hi vl vu sl Q I rx hs pl pu h
  rcases h with h | h
  · exact sl_list pins s σ H x v lo hi vl vu sl Q I rx hs pl pu h
  · exact sl_tupA pins s σ H x v lo hi vl vu sl Q I rx hs pl pu h
/-! sorted of data -/
theorem each_dps {X : Cx} {pins : List (Addr × Obj)} {σ : L2.St} {H : Hp} {s : Shared} (I : Inv X pins σ H s) : ∀ {F : Hp} (e : Same F H) {xs : List V} {ds : List PyData} {us : List Value}, DpAll X.K F xs ds → Vals xs us →
    PySem.W.EachIs (fun u d => ∃ y, RelV y u ∧ Dp X.K F y d) us ds ∧ PySem.W.EachIs (fun u d => ∃ as, Reads s.heap u (id d) as) us ds
  | _, _, _, _, _, .nil, .nil => ⟨.nil, .nil⟩
  | _, e, _, _, _, .cons h t, .cons r q => by
    obtain ⟨e1, e2⟩ := each_dps I e t q
    exact ⟨.cons ⟨_, r, h⟩ e1, .cons (Dp.reads I _ _ _ (dp_mono e _ _ h) r) e2⟩
theorem dps_each {K : Fr} {H : Hp} : ∀ {us : List Value} {ds : List PyData}, PySem.W.EachIs (fun u d => ∃ y, RelV y u ∧ Dp K H y d) us ds → ∃ ys, Vals ys us ∧ DpAll K H ys ds
  | _, _, .nil => ⟨[], .nil, .nil⟩
  | _, _, .cons ⟨y, r, h⟩ t => by
    obtain ⟨ys, q, w⟩ := dps_each t
    exact ⟨y :: ys, .cons r q, .cons h w⟩
def rSortD (K : Fr) : List V → Hp → VK → Prop := fun vs H Q => ∃ (a : Addr) (xs : List V) (ds : List PyData) (F : Hp), vs = [V.ref a] ∧ SqL K H a xs ∧ Same F H ∧ DpAll K F xs ds ∧ PySem.W.AllAlike ds ∧ PySem.W.Sortable ds ∧ (∀ d, d ∈ ds → d.depth ≤ 60) ∧
  ∀ (ys : List V) (p : Addr), DpAll K F ys (ds.mergeSort (PySem.W.dataLe false id)) → H p = none → Q (.ref p) (upd H p (.lst ys))
theorem cr_sortD {X : Cx} (hu : X.A.units + 64 < cLine) : CallR X (.builtin "sorted") (rSortD X.K) := by
  intro pins s σ H vs us Q I r h
  obtain ⟨a, xs, ds, F, rfl, hs, hF, ha, h1, h2, h3, q⟩ := h
  obtain ⟨its, rv, hl, hsz⟩ := I.list hs
  rw [Vals.ref1 r]
  obtain ⟨e1, e2⟩ := each_dps I hF ha rv
  have lds : ds.length = xs.length := (dps_len ha).symm
  refine PySem.W.sorted_data (enc := id) (bs := ds) hl.isList e1 e2 (by rw [List.map_id]; exact h1) (by rw [List.map_id]; exact h2) (by rw [lds]; exact hsz) (fun b hb => by have := h3 b hb; show X.A.units + 2 + b.depth < cLine; omega) fun out ho he => ?_
  obtain ⟨ep, he'⟩ := PyProof.Rows.sortedAll_at s.heap its out.toArray
  obtain ⟨ys, ry, dy⟩ := dps_each he
  have hly : ys.length ≤ sizeLine := by rw [ry.length, ho, lds]; exact hsz
  exact ⟨.ref _, upd H (s.heap.objs.size + 1) (.lst ys), I.laid (t' := s.toks) (fun _ _ => PyProof.Rows.sortedAll_old) (Nat.le_succ _) ⟨hly, out, ep, ry, he'⟩, rfl, q ys _ dy (I.hok.fresh (Nat.le_succ _))⟩
section
variable {K : Fr} {B : Hp × Hp} {Γ : List SD} {Os Os1 Os2 Os3 : List Own} {D : Ends} {ta tb te : TE} {tt : TT} {sx sy s : SD} {ds es : List PyData} {d e : PyData}
theorem od_mul {i j : Int} (hc : CMul i j) : OpD K Os (mulU K) (.d (.int i)) (.d (.int j)) (.d (.int (i * j))) := od_l (od_I (f := fun i j => .int (i * j)) (fun _ _ _ => .int _) hc)
theorem dps_rep {F : Hp} {xs : List V} (h : DpAll K F xs ds) : ∀ n : Nat, DpAll K F (List.replicate n xs).flatten (List.replicate n ds).flatten
  | 0 => .nil
  | n + 1 => by
    rw [List.replicate_succ, List.replicate_succ, List.flatten_cons, List.flatten_cons]
    exact dps_app h (dps_rep h n)
theorem od_repT {k : Int} (h1 : k ≤ 1000) (h2 : -1000 ≤ k) (h3 : ds.length ≤ 1000) : OpD K Os (mulU K) (.d (.tuple ds)) (.d (.int k)) (.d (.tuple (List.replicate k.toNat ds).flatten)) := od_r (od_r fun B F Γ σ H x y A hx hy Q q => by
  cases (show Dp K F y (.int k) from hy)
  cases (show Dp K F x (.tuple ds) from hx) with
  | @tup a xs _ hs ha =>
    have l := dps_len ha
    refine ⟨a, k, xs, rfl, rfl, seqT A.fr hs, h1, h2, by omega, fun c => ?_, fun c p hp => ?_⟩
    · have e : (List.replicate k.toNat ds).flatten = ds := by
        rcases c with z | z
        · subst z
          have : ds = [] := List.eq_nil_of_length_eq_zero (by rw [← l]; rfl)
          subst this; simp
        · subst z; simp
      rw [e] at q
      exact q _ F H A (Same.refl _) (.tup hs ha)
    · have nf : F p = none := A.fr.free hp
      exact q _ _ _ (A.newF hp) (same_upd nf) (.tup (.inl (.inl upd_same)) (dps_mono (same_upd nf) _ _ (dps_rep ha _))))
theorem ol_rep {p : Addr} {k : Int} (i : Nat) (h : Os[i]? = some (lst K p ds)) (h1 : k ≤ 1000) (h2 : -1000 ≤ k) (h3 : ds.length ≤ 1000) : OpL K Os (mulU K) (.v (.ref p)) (.d (.int k)) (List.replicate k.toNat ds).flatten := ol_r (ol_l fun B F Γ σ H x y A hx hy Q q => by
  cases (show Dp K F y (.int k) from hy)
  obtain ⟨xs, a1, a2⟩ := A.getL h
  have l := dps_len a2
  refine ⟨p, k, xs, hx, rfl, a1, by omega, by omega, ?_, fun r hr => q r F _ (A.newO hr ⟨_, one_same, dps_rep a2 _⟩) (Same.refl _)⟩
  have a3 : xs.length * k.toNat ≤ 1000 * 1000 := Nat.mul_le_mul (by omega) (by omega)
  exact szl (by omega))
/-! in -/
def inD (d : PyData) (ds : List PyData) : Bool := ds.any fun z => PyData.eqv z d
theorem od_in (hx : Vw K Os sx d) (hy : Vw K Os sy (.list ds)) (h1 : SeqAt.shaped d = true) (h2 : SeqAt.shaped (.list ds) = true) : OpD K Os (inU K) sx sy (.d (.bool (inD d ds))) := od_l fun B F Γ σ H x y A rx ry Q k =>
  ⟨d, ds, hx.dp A rx, hy.dp A ry, h1, h2, k _ F H A (Same.refl _) (.bl _)⟩
theorem od_nin (hx : Vw K Os sx d) (hy : Vw K Os sy (.list ds)) (h1 : SeqAt.shaped d = true) (h2 : SeqAt.shaped (.list ds) = true) : OpD K Os (ninU K) sx sy (.d (.bool (!inD d ds))) := od_l fun B F Γ σ H x y A rx ry Q k =>
  ⟨d, ds, hx.dp A rx, hy.dp A ry, h1, h2, k _ F H A (Same.refl _) (.bl _)⟩
/-! slices -/
theorem eo_none : EO K Γ Os tNoPart none Os := fun B F σ H A Q k => k F H A (Same.refl _)
theorem eo_some {i : Int} (h : E K Γ Os te (.d (.int i)) Os1) : EO K Γ Os (tPart te) (some i) Os1 := fun B F σ H A Q k => h B F σ H A _ fun x F1 H1 A1 e1 r => by
  cases (show Dp K F1 x (.int i) from r)
  exact ⟨i, rfl, k F1 H1 A1 e1⟩
def cutD (ds : List PyData) (lo hi : Option Int) : List PyData := (ds.drop (HT.sIx ds.length 0 lo)).take (HT.sIx ds.length ds.length hi - HT.sIx ds.length 0 lo)
theorem dps_cut {F : Hp} {xs : List V} {lo hi : Option Int} (h : DpAll K F xs ds) : DpAll K F (cutV xs lo hi) (cutD ds lo hi) := by
  unfold cutV cutD
  rw [dps_len h]
  exact dps_take _ (dps_drop _ h)
theorem e_slT {tl th : TO} {lo hi : Option Int} (h : E K Γ Os te (.d (.tuple ds)) Os1) (hl : EO K Γ Os1 tl lo Os2) (hh : EO K Γ Os2 th hi Os3) : E K Γ Os (tSl (rSlU K) te tl th) (.d (.tuple (cutD ds lo hi))) Os3 := fun B F σ H A Q k =>
  h B F σ H A _ fun x F1 H1 A1 e1 r1 => hl B F1 σ H1 A1 _ fun F2 H2 A2 e2 => hh B F2 σ H2 A2 _ fun F3 H3 A3 e3 => by
    cases (show Dp K F1 x (.tuple ds) from r1) with
    | @tup a xs _ hs ha =>
      have l := dps_len ha
      have e13 := e2.trans e3
      refine .inr ⟨a, xs, rfl, seqT A3.fr (seqT e13 hs), fun c => ?_, fun c p hp => ?_⟩
      · have z : cutD ds lo hi = ds := by
          unfold cutD
          rw [← l, c.1, c.2]
          simp [l]
        rw [z] at k
        exact k _ F3 H3 A3 (e1.trans e13) (.tup (seqT e13 hs) (dps_mono e13 _ _ ha))
      · have nf : F3 p = none := A3.fr.free hp
        exact k _ _ _ (A3.newF hp) ((e1.trans e13).trans (same_upd nf)) (.tup (.inl (.inl upd_same)) (dps_mono (e13.trans (same_upd nf)) _ _ (dps_cut ha)))
theorem el_slL {tl th : TO} {lo hi : Option Int} (h : E K Γ Os te sx Os1) (hl : EO K Γ Os1 tl lo Os2) (hh : EO K Γ Os2 th hi Os3) (w : Vw K Os3 sx (.list ds)) : EL K Γ Os (tSl (rSlU K) te tl th) (cutD ds lo hi) Os3 := fun B F σ H A Q k =>
  h B F σ H A _ fun x F1 H1 A1 e1 r1 => hl B F1 σ H1 A1 _ fun F2 H2 A2 e2 => hh B F2 σ H2 A2 _ fun F3 H3 A3 e3 => by
    obtain ⟨a, xs, rfl, hs, ha⟩ := w.list A3 ((r1.mono e2).mono e3)
    exact .inl ⟨a, xs, rfl, hs, fun p hp => k p F3 _ (A3.newO hp ⟨_, one_same, dps_cut ha⟩) ((e1.trans e2).trans e3)⟩
/-! built-ins over lists -/
theorem cd_all {bs : List Bool} (h : Vw K Os s (.list (bs.map .bool))) : CbD K Os (rAll K) [s] (.d (.bool (bs.all id))) Os := fun B F Γ σ H xs A r Q k => by
  obtain ⟨x, rfl, q⟩ := sl1 h.ok r
  obtain ⟨p, ys, rfl, hq, ha⟩ := h.list A q
  rw [dps_bools_of bs ha] at hq
  exact ⟨p, bs, rfl, hq, k _ F H A (Same.refl _) (.bl _)⟩
theorem cd_any {bs : List Bool} (h : Vw K Os s (.list (bs.map .bool))) : CbD K Os (rAny K) [s] (.d (.bool (bs.any id))) Os := fun B F Γ σ H xs A r Q k => by
  obtain ⟨x, rfl, q⟩ := sl1 h.ok r
  obtain ⟨p, ys, rfl, hq, ha⟩ := h.list A q
  rw [dps_bools_of bs ha] at hq
  exact ⟨p, bs, rfl, hq, k _ F H A (Same.refl _) (.bl _)⟩
theorem cd_sum {ns : List Int} (h : Vw K Os s (.list (ns.map .int))) : CbD K Os (rSum K) [s] (.d (.int ns.sum)) Os := fun B F Γ σ H xs A r Q k => by
  obtain ⟨x, rfl, q⟩ := sl1 h.ok r
  obtain ⟨p, ys, rfl, hq, ha⟩ := h.list A q
  rw [dps_ints_of ns ha] at hq
  exact ⟨p, ns, rfl, hq, k _ F H A (Same.refl _) (.int _)⟩
theorem cd_max {ns : List Int} {m : Int} (h : Vw K Os s (.list (ns.map .int))) (h0 : 0 < ns.length) (hm : ∀ m', m' ∈ ns → (∀ y, y ∈ ns → y ≤ m') → m' = m) : CbD K Os (rMax K) [s] (.d (.int m)) Os := fun B F Γ σ H xs A r Q k => by
  obtain ⟨x, rfl, q⟩ := sl1 h.ok r
  obtain ⟨p, ys, rfl, hq, ha⟩ := h.list A q
  rw [dps_ints_of ns ha] at hq
  exact ⟨p, ns, rfl, hq, h0, fun m' h1 h2 => by rw [hm m' h1 h2]; exact k _ F H A (Same.refl _) (.int _)⟩
theorem cl_sort (h : Vw K Os s (.list ds)) (h1 : PySem.W.AllAlike ds) (h2 : PySem.W.Sortable ds) (h3 : ∀ d, d ∈ ds → d.depth ≤ 60) : CbL K Os (rSortD K) [s] (ds.mergeSort (PySem.W.dataLe false id)) Os := fun B F Γ σ H xs A r Q k => by
  obtain ⟨x, rfl, q⟩ := sl1 h.ok r
  obtain ⟨p, ys, rfl, hq, ha⟩ := h.list A q
  exact ⟨p, ys, ds, F, rfl, hq, A.fr, ha, h1, h2, h3, fun zs r hz hr => k r F _ (A.newO hr ⟨zs, one_same, hz⟩) (Same.refl _)⟩
def rListOf (K : Fr) : List V → Hp → VK → Prop := fun xs H Q => ∃ p ys, xs = [.ref p] ∧ (SqL K H p ys ∨ SqT K H p ys) ∧ ∀ l, H l = none → Q (.ref l) (upd H l (.lst ys))
theorem cr_list {X : Cx} : CallR X (.type "list") (rListOf X.K) := call_list_of
theorem cl_listL (h : Vw K Os s (.list ds)) : CbL K Os (rListOf K) [s] ds Os := fun B F Γ σ H xs A r Q k => by
  obtain ⟨x, rfl, q⟩ := sl1 h.ok r
  obtain ⟨p, ys, rfl, hq, ha⟩ := h.list A q
  exact ⟨p, ys, rfl, .inl hq, fun l hl => k l F _ (A.newO hl ⟨ys, one_same, ha⟩) (Same.refl _)⟩
def rTupOf (K : Fr) : List V → Hp → VK → Prop := fun xs H Q => ∃ p ys, xs = [.ref p] ∧ ((SqL K H p ys ∧ ∀ l, H l = none → Q (.ref l) (upd H l (.tup ys))) ∨ (SqT K H p ys ∧ Q (.ref p) H))
theorem cr_tuple {X : Cx} : CallR X (.type "tuple") (rTupOf X.K) := call_tuple_of
theorem cd_tupL (h : Vw K Os s (.list ds)) : CbD K Os (rTupOf K) [s] (.d (.tuple ds)) Os := fun B F Γ σ H xs A r Q k => by
  obtain ⟨x, rfl, q⟩ := sl1 h.ok r
  obtain ⟨p, ys, rfl, hq, ha⟩ := h.list A q
  refine ⟨p, ys, rfl, .inl ⟨hq, fun l hl => ?_⟩⟩
  have nf : F l = none := A.fr.free hl
  exact k _ _ _ (A.newF hl) (same_upd nf) (.tup (.inl (.inl upd_same)) (dps_mono (same_upd nf) _ _ ha))
def rInt1 : List V → Hp → VK → Prop := fun xs H Q => (∃ i, xs = [.int i] ∧ Q (.int i) H) ∨ ∃ k, xs = [.bl k] ∧ Q (.int (if k then 1 else 0)) H
theorem cr_int {X : Cx} : CallR X (.type "int") rInt1 := call_int1
theorem cd_intB {b : Bool} : CbD K Os rInt1 [.d (.bool b)] (.d (.int (if b then 1 else 0))) Os := fun B F Γ σ H xs A r Q k => by
  obtain ⟨x, rfl, q⟩ := sl1 rfl r
  cases (show Dp K F x (.bool b) from q)
  exact .inr ⟨b, rfl, k _ F H A (Same.refl _) (.int _)⟩
def rMax2 : List V → Hp → VK → Prop := fun xs H Q => ∃ i j, xs = [.int i, .int j] ∧ Q (.int (if j > i then j else i)) H
theorem cr_max2 {X : Cx} (hc : X.calm = true) : CallR X (.builtin "max") rMax2 := call_max2 hc
theorem cd_max2 {i j : Int} : CbD K Os rMax2 [.d (.int i), .d (.int j)] (.d (.int (if j > i then j else i))) Os := fun B F Γ σ H xs A r Q k => by
  obtain ⟨x, y, rfl, q1, q2⟩ := sl2 rfl rfl r
  cases (show Dp K F x (.int i) from q1)
  cases (show Dp K F y (.int j) from q2)
  exact ⟨i, j, rfl, k _ F H A (Same.refl _) (.int _)⟩
def rMin2 : List V → Hp → VK → Prop := fun xs H Q => ∃ i j, xs = [.int i, .int j] ∧ Q (.int (if j < i then j else i)) H
theorem cr_min2 {X : Cx} (hc : X.calm = true) : CallR X (.builtin "min") rMin2 := call_min2 hc
theorem cd_min2 {i j : Int} : CbD K Os rMin2 [.d (.int i), .d (.int j)] (.d (.int (if j < i then j else i))) Os := fun B F Γ σ H xs A r Q k => by
  obtain ⟨x, y, rfl, q1, q2⟩ := sl2 rfl rfl r
  cases (show Dp K F x (.int i) from q1)
  cases (show Dp K F y (.int j) from q2)
  exact ⟨i, j, rfl, k _ F H A (Same.refl _) (.int _)⟩
/-! isinstance of data -/
def tyName : PyData → String
  | .none => "NoneType"
  | .bool _ => "bool"
  | .int _ => "int"
  | .str _ => "str"
  | .list _ => "list"
  | .tuple _ => "tuple"
  | .dict _ => "dict"
theorem dp_ty {H : Hp} {x : V} (h : Dp K H x d) : TyX K H x (.type (tyName d)) := by
  cases h with
  | non => exact .base .non
  | bl b => exact .base (.bl b)
  | int i => exact .base (.int i)
  | str z => exact .base (.str z)
  | lst hs _ =>
    rcases hs with (z | ⟨o, z⟩) | ⟨o, its, n, z, c, _⟩
    · exact .base (.lst z)
    · exact .base (.frz z)
    · exact .kList z c
  | tup hs _ =>
    rcases hs with (z | ⟨o, z⟩) | ⟨o, its, n, z, c, _⟩
    · exact .base (.tup z)
    · exact .fTuple z
    · exact .kTuple z c
def isTy (T : String) (d : PyData) : Bool := (kitB (tyName d) T).getD false
theorem cd_isi {T : String} (h : Vw K Os s d) (hT : (kitB (tyName d) T).isSome = true) : CbD K Os (rIsi K) [s, .v (.ty T)] (.d (.bool (isTy T d))) Os := fun B F Γ σ H xs A r Q k => by
  obtain ⟨x, y, rfl, q1, q2⟩ := sl2 h.ok rfl r
  have q2 : y = .ty T := q2
  subst q2
  have dp := h.dp A q1
  refine ⟨x, .ty T, .type (tyName d), .type T, isTy T d, rfl, .ty T, dp_ty dp, ?_, k _ F H A (Same.refl _) (.bl _)⟩
  unfold isTy
  cases e : kitB (tyName d) T with
  | none => rw [e] at hT; cases hT
  | some b => exact kit_ty e
theorem isi_int (d : PyData) : (kitB (tyName d) "int").isSome = true := by cases d <;> (dsimp only [tyName]; decide +kernel)
theorem isi_bool (d : PyData) : (kitB (tyName d) "bool").isSome = true := by cases d <;> (dsimp only [tyName]; decide +kernel)
theorem isi_tuple (d : PyData) : (kitB (tyName d) "tuple").isSome = true := by cases d <;> (dsimp only [tyName]; decide +kernel)
theorem isi_list (d : PyData) : (kitB (tyName d) "list").isSome = true := by cases d <;> (dsimp only [tyName]; decide +kernel)
theorem isi_str (d : PyData) : (kitB (tyName d) "str").isSome = true := by cases d <;> (dsimp only [tyName]; decide +kernel)
def isIntD : PyData → Bool
  | .int _ => true
  | .bool _ => true
  | _ => false
def isBoolD : PyData → Bool
  | .bool _ => true
  | _ => false
def isTupD : PyData → Bool
  | .tuple _ => true
  | _ => false
def isLstD : PyData → Bool
  | .list _ => true
  | _ => false
def isStrD : PyData → Bool
  | .str _ => true
  | _ => false
theorem isTy_int (d : PyData) : isTy "int" d = isIntD d := by cases d <;> (dsimp only [isTy, tyName, isIntD]; decide +kernel)
theorem isTy_bool (d : PyData) : isTy "bool" d = isBoolD d := by cases d <;> (dsimp only [isTy, tyName, isBoolD]; decide +kernel)
theorem isTy_tuple (d : PyData) : isTy "tuple" d = isTupD d := by cases d <;> (dsimp only [isTy, tyName, isTupD]; decide +kernel)
theorem isTy_list (d : PyData) : isTy "list" d = isLstD d := by cases d <;> (dsimp only [isTy, tyName, isLstD]; decide +kernel)
theorem isTy_str (d : PyData) : isTy "str" d = isStrD d := by cases d <;> (dsimp only [isTy, tyName, isStrD]; decide +kernel)
theorem cd_isInt (h : Vw K Os s d) : CbD K Os (rIsi K) [s, .v (.ty "int")] (.d (.bool (isIntD d))) Os := by rw [← isTy_int]; exact cd_isi h (isi_int d)
theorem cd_isBool (h : Vw K Os s d) : CbD K Os (rIsi K) [s, .v (.ty "bool")] (.d (.bool (isBoolD d))) Os := by rw [← isTy_bool]; exact cd_isi h (isi_bool d)
theorem cd_isTup (h : Vw K Os s d) : CbD K Os (rIsi K) [s, .v (.ty "tuple")] (.d (.bool (isTupD d))) Os := by rw [← isTy_tuple]; exact cd_isi h (isi_tuple d)
theorem cd_isLst (h : Vw K Os s d) : CbD K Os (rIsi K) [s, .v (.ty "list")] (.d (.bool (isLstD d))) Os := by rw [← isTy_list]; exact cd_isi h (isi_list d)
theorem cd_isStr (h : Vw K Os s d) : CbD K Os (rIsi K) [s, .v (.ty "str")] (.d (.bool (isStrD d))) Os := by rw [← isTy_str]; exact cd_isi h (isi_str d)
/-! a comprehension that changes nothing -/
def gvn (n : Nat) (f : Nat → Bool) (v : Nat → PyData) : List PyData := ((List.range n).filter f).map v
theorem gvn_succ (n : Nat) (f : Nat → Bool) (v : Nat → PyData) : gvn (n + 1) f v = gvn n f v ++ (if f n = true then [v n] else []) := by
  unfold gvn
  rw [List.range_succ, List.filter_append, List.map_append]
  by_cases h : f n = true
  · simp [h]
  · simp [h]
theorem el_lcP {wi : TI} {g : TG} {n : Nat} {item : Nat → SD} {C : List Own → Prop} {is vs : List Nat} {ss : Nat → List SD} (hI : IT K Γ Os wi n item C Os1) (hn : n ≤ 1000000) (hg : ∀ i, TgD K g (item i) is (ss i)) (hv : ∀ i ∈ is, i ∈ vs) (hC : C Os1) (f : Nat → Bool) (v : Nat → PyData)
    (ht : ∀ i, i < n → ET K (setG (wipeG Γ vs) is (ss i)) Os1 tt (f i) Os1) (he : ∀ i, i < n → f i = true → E K (setG (wipeG Γ vs) is (ss i)) Os1 te (.d (v i)) Os1) : EL K Γ Os (tLc wi g tt te vs) (gvn n f v) Os1 :=
  el_lc hI hn hg hv (fun i acc O => acc = gvn i f v ∧ O = Os1) ⟨rfl, rfl⟩ (fun i acc O ⟨_, h⟩ => by rw [h]; exact hC) (fun i acc O hi ⟨h1, h2⟩ => by
    subst h1 h2
    exact ⟨f i, O, ht i hi, fun hf => ⟨v i, O, he i hi hf, by rw [gvn_succ, if_pos hf], rfl⟩, fun hf => ⟨by rw [gvn_succ, if_neg (by rw [hf]; exact Bool.false_ne_true), List.append_nil], rfl⟩⟩) fun acc O h => h
theorem el_is (h : EL K Γ Os te ds Os1) (e : ds = es) : EL K Γ Os te es Os1 := by rw [← e]; exact h
theorem gvn_all (n : Nat) (v : Nat → PyData) : gvn n (fun _ => true) v = (List.range n).map v := by
  unfold gvn
  rw [List.filter_eq_self.mpr (fun _ _ => rfl)]
/-! instances -/
def ixS : List Str → Str → Option Nat
  | [], _ => none
  | k :: ks, f => if k = f then some 0 else (ixS ks f).map (· + 1)
theorem zip_look : ∀ (ks : List Str) (vs : List V) (f : Str), ks.length = vs.length → (ks.zip vs).lookup f = (ixS ks f).bind fun i => vs[i]?
  | [], [], f, _ => rfl
  | k :: ks, v :: vs, f, h => by
    show List.lookup f ((k, v) :: ks.zip vs) = (if k = f then some 0 else (ixS ks f).map (· + 1)).bind fun i => (v :: vs)[i]?
    by_cases e : k = f
    · subst e
      simp [List.lookup]
    · rw [if_neg e]
      have e2 : (f == k) = false := by simpa using fun z => e z.symm
      have ih := zip_look ks vs f (by simpa using h)
      simp only [List.lookup, e2]
      rw [ih]
      cases ixS ks f <;> rfl
  | [], _ :: _, _, h => by simp at h
  | _ :: _, [], _, h => by simp at h
theorem zip_put : ∀ (ks : List Str) (vs : List V) (f : Str) (i : Nat) (w : V), ks.length = vs.length → ixS ks f = some i → putF f w (ks.zip vs) = ks.zip (vs.set i w)
  | [], [], f, i, w, _, h => by cases h
  | k :: ks, v :: vs, f, i, w, hl, h => by
    show (if k = f then (k, w) :: ks.zip vs else (k, v) :: putF f w (ks.zip vs)) = _
    have h' : (if k = f then some 0 else (ixS ks f).map (· + 1)) = some i := h
    by_cases e : k = f
    · rw [if_pos e] at h' ⊢; cases h'; rfl
    · rw [if_neg e] at h' ⊢
      cases q : ixS ks f with
      | none => rw [q] at h'; cases h'
      | some j =>
        rw [q] at h'
        have : i = j + 1 := (Option.some.inj h').symm
        subst this
        rw [zip_put ks vs f j w (by simpa using hl) q]; rfl
  | [], _ :: _, _, _, _, h, _ => by simp at h
  | _ :: _, [], _, _, _, h, _ => by simp at h
theorem zip_new : ∀ (ks : List Str) (vs : List V) (f : Str) (w : V), ks.length = vs.length → ixS ks f = none → putF f w (ks.zip vs) = (ks ++ [f]).zip (vs ++ [w])
  | [], [], f, w, _, h => rfl
  | k :: ks, v :: vs, f, w, hl, h => by
    show (if k = f then (k, w) :: ks.zip vs else (k, v) :: putF f w (ks.zip vs)) = _
    have h' : (if k = f then some 0 else (ixS ks f).map (· + 1)) = none := h
    by_cases e : k = f
    · rw [if_pos e] at h'; cases h'
    · rw [if_neg e] at h' ⊢
      cases q : ixS ks f with
      | none => rw [zip_new ks vs f w (by simpa using hl) q]; rfl
      | some j => rw [q] at h'; cases h'
  | [], _ :: _, _, _, h, _ => by simp at h
  | _ :: _, [], _, _, h, _ => by simp at h
/-- an instance of C at a that is ours: its attributes ks, what is said of each -/
def inst (K : Fr) (C a : Addr) (ks : List Str) (ss : List SD) : Own := ⟨fun F h => ∃ dx vs, h a = some (.ins C dx (ks.zip vs)) ∧ ks.length = vs.length ∧ Sl K F ss (vs.map some),
  fun e e2 ⟨dx, vs, h1, h2, h3⟩ => ⟨dx, vs, e2 _ _ h1, h2, h3.mono e⟩⟩
theorem At.getI {F H : Hp} {σ : L2.St} {i : Nat} {C a : Addr} {ks : List Str} {ss : List SD} (A : At K B F Γ Os σ H) (h : Os[i]? = some (inst K C a ks ss)) : ∃ dx vs, H a = some (.ins C dx (ks.zip vs)) ∧ ks.length = vs.length ∧ Sl K F ss (vs.map some) ∧
    ∀ {ks' : List Str} {ss' : List SD} {ws : List V}, ks'.length = ws.length → Sl K F ss' (ws.map some) → At K B F Γ (Os.set i (inst K C a ks' ss')) σ (upd H a (.ins C dx (ks'.zip ws))) := by
  obtain ⟨h', ⟨dx, vs, h1, h2, h3⟩, s, d, k⟩ := A.touch h
  have nf : F a = none := d.none h1
  refine ⟨dx, vs, s _ _ h1, h2, h3, fun {ks' ss' ws} q1 q2 => k (h' := one a (.ins C dx (ks'.zip ws))) (Same.refl _) (fun b o e => ?_) ⟨dx, ws, one_same, q1, q2⟩ (fun b o e => ?_) (.of fun b o e => ?_) (fun b o e z => ?_) (fun b o e z => ?_) fun b o e z => by rw [e] at z; cases z⟩
  · rw [upd_ne (fun q => by subst q; rw [nf] at e; cases e)]; exact A.fr b o e
  · obtain ⟨rfl, rfl⟩ := one_of e; exact upd_same
  · obtain ⟨rfl, rfl⟩ := one_of e; exact nf
  · rw [upd_ne (fun q => by subst q; rw [h1] at z; cases z)]; exact e
  · obtain ⟨rfl, rfl⟩ := one_of e; rw [h1] at z; cases z
theorem sl_at {F : Hp} : ∀ {ss : List SD} {vs : List V} {i : Nat} {s : SD}, Sl K F ss (vs.map some) → ss[i]? = some s → ∃ v, vs[i]? = some v ∧ Sl1 K F s (some v)
  | [], [], _, _, _, e => by simp at e
  | s :: ss, v :: vs, 0, t, h, e => by simp at e; subst e; exact ⟨v, rfl, h.1⟩
  | s :: ss, v :: vs, i + 1, t, h, e => by
    obtain ⟨w, h1, h2⟩ := sl_at (i := i) h.2 (by simpa using e)
    exact ⟨w, by simpa using h1, h2⟩
  | [], _ :: _, _, _, h, _ => h.elim
  | _ :: _, [], _, _, h, _ => h.elim
theorem sl_set {F : Hp} {s : SD} {w : V} (r : Sl1 K F s (some w)) : ∀ {ss : List SD} {vs : List V} (i : Nat), Sl K F ss (vs.map some) → Sl K F (ss.set i s) ((vs.set i w).map some)
  | [], [], _, h => h
  | t :: ss, v :: vs, 0, h => ⟨r, h.2⟩
  | t :: ss, v :: vs, i + 1, h => ⟨h.1, sl_set r i h.2⟩
  | [], _ :: _, _, h => h.elim
  | _ :: _, [], _, h => h.elim
theorem sl_push {F : Hp} {s : SD} {w : V} (r : Sl1 K F s (some w)) : ∀ {ss : List SD} {vs : List V}, Sl K F ss (vs.map some) → Sl K F (ss ++ [s]) ((vs ++ [w]).map some)
  | [], [], h => ⟨r, h⟩
  | t :: ss, v :: vs, h => ⟨h.1, sl_push r h.2⟩
  | [], _ :: _, h => h.elim
  | _ :: _, [], h => h.elim
theorem sl1_rp {F : Hp} {v : V} (n : s.ok = true) (h : Sl1 K F s (some v)) : Rp K F v s := by cases s <;> first | (cases n; done) | exact h
theorem fld_inst {C a : Addr} {ks : List Str} {ss : List SD} {f : Str} {j : Nat} (i : Nat) (h : Os[i]? = some (inst K C a ks ss)) (c : Cls K C) (na : NoAttr K C f) (hj : ixS ks f = some j) (hs : ss[j]? = some s) (n : s.ok = true) : FldD K Os a f s := fun B F Γ σ H A => by
  obtain ⟨dx, vs, h1, h2, h3, _⟩ := A.getI h
  obtain ⟨v, h4, h5⟩ := sl_at h3 hs
  refine ⟨C, dx, _, v, h1, c, na, ?_, sl1_rp n h5⟩
  rw [zip_look ks vs f h2, hj]
  exact h4
theorem ins_inst {C a : Addr} {ks : List Str} {ss : List SD} {m : Str} (i : Nat) (h : Os[i]? = some (inst K C a ks ss)) (hj : ixS ks m = none) : InsD K Os C a m := fun B F Γ σ H A => by
  obtain ⟨dx, vs, h1, h2, h3, _⟩ := A.getI h
  refine ⟨dx, _, h1, ?_⟩
  rw [zip_look ks vs m h2, hj]; rfl
theorem n_fld {C a : Addr} {ks : List Str} {ss : List SD} {f : Str} {j : Nat} (i : Nat) (hv : E K Γ Os te s Os1) (ho : E K Γ Os1 ta (.v (.ref a)) Os2) (h : Os2[i]? = some (inst K C a ks ss)) (c : Cls K C) (na : NoAttr K C f) (hj : ixS ks f = some j) (hk : ks.length < 1000)
    (k : N K B Γ (Os2.set i (inst K C a ks (ss.set j s))) D.nx) : N K B Γ Os (sFld K ta te f D) := fun F σ H A => hv B F σ H A _ fun y F1 H1 A1 _ r1 => ho B F1 σ H1 A1 _ fun x F2 H2 A2 e2 r2 => by
  obtain ⟨dx, vs, h1, h2, h3, m⟩ := A2.getI h
  refine ⟨a, C, dx, _, r2, h1, c, na, by rw [List.length_zip, ← h2]; omega, ?_⟩
  rw [zip_put ks vs f j y h2 hj]
  exact k F2 σ _ (m (by rw [List.length_set]; exact h2) (sl_set ((r1.mono e2).sl1) j h3))
theorem n_fldN {C a : Addr} {ks : List Str} {ss : List SD} {f : Str} (i : Nat) (hv : E K Γ Os te s Os1) (ho : E K Γ Os1 ta (.v (.ref a)) Os2) (h : Os2[i]? = some (inst K C a ks ss)) (c : Cls K C) (na : NoAttr K C f) (hj : ixS ks f = none) (hk : ks.length < 1000)
    (k : N K B Γ (Os2.set i (inst K C a (ks ++ [f]) (ss ++ [s]))) D.nx) : N K B Γ Os (sFld K ta te f D) := fun F σ H A => hv B F σ H A _ fun y F1 H1 A1 _ r1 => ho B F1 σ H1 A1 _ fun x F2 H2 A2 e2 r2 => by
  obtain ⟨dx, vs, h1, h2, h3, m⟩ := A2.getI h
  refine ⟨a, C, dx, _, r2, h1, c, na, by rw [List.length_zip, ← h2]; omega, ?_⟩
  rw [zip_new ks vs f y h2 hj]
  exact k F2 σ _ (m (by simp [h2]) (sl_push ((r1.mono e2).sl1) h3))
end
end Cw

namespace PySem.SeqAt
open AutoSeq1 (wpAny_loadPart')
open MeetsSeq MeetsSeq2 MeetsSeq3 SeqRoads2
theorem cw_listNe (l b : Addr) (items items2 : Array Value) (n n2 : Nat) (dd dd2 : Option Addr) (sl sl2 : Array (Option Value)) (hsz : items.size ≠ items2.size) :
    Meets (Builtin.«list.__ne__» ⟨[.ref l, .ref b], []⟩)
      (fun _ R s => s.heap.get? l = some { cls := .type "list", dict := dd, data := .seq items n, slots := sl } ∧ s.heap.get? b = some { cls := .type "list", dict := dd2, data := .seq items2 n2, slots := sl2 } ∧ R (.ok (.ret (.bool true))) s) :=
  .of_wp fun prog w A R s h => by
    obtain ⟨hp, g, d, tk, os⟩ := s
    obtain ⟨hl, hb, h⟩ := h
    have f3 := AutoSeq1.sub_list_list
    have hne : (items.size != items2.size) = true := by simpa using hsz
    wp_walk using wpAny_loadPart' hl, wpAny_loadPart' hb
    exact ⟨_, rfl, h⟩
end PySem.SeqAt
namespace Cw
open PySem L2 PyProof.Rows
/-- xs != [] for any list -/
def rNeV (K : Fr) : R2 := fun x y H Q => ∃ a b xs, x = .ref a ∧ y = .ref b ∧ H a = some (.lst xs) ∧ H b = some (.lst []) ∧ Q (.bl (!xs.isEmpty)) H
theorem op_neV {X : Cx} (hu : X.A.units + 64 < cLine) : OpR X (compareOp .NotEq) (rNeV X.K) := by
  intro pins s σ H x y v u Q I rx ry h
  obtain ⟨a, b, xs, rfl, rfl, ha, hb, q⟩ := h
  cases xs with
  | nil => exact op_neD hu pins s σ H _ _ v u Q I rx ry ⟨.list [], .list [], .lst (.inl (.inl ha)) .nil, .lst (.inl (.inl hb)) .nil, rfl, rfl, q⟩
  | cons z zs =>
    cases rx
    cases ry
    obtain ⟨its, rv, hl, _⟩ := I.list (.inl (.inl ha))
    obtain ⟨its2, rv2, hl2, _⟩ := I.list (.inl (.inl hb))
    cases rv2
    have le : its.length = (z :: zs).length := rv.length.symm
    obtain ⟨⟨cls, dd, data, sl⟩, ho, hc, n, hd⟩ := hl.isList
    obtain ⟨⟨cls2, dd2, data2, sl2⟩, ho2, hc2, n2, hd2⟩ := hl2.isList
    simp only at hc hd hc2 hd2
    subst hc hd hc2 hd2
    have ta : s.TypeIs (.ref a) "list" := ⟨_, ho, rfl⟩
    have tb : s.TypeIs (.ref b) "list" := ⟨_, ho2, rfl⟩
    exact wpAny_richCompare_same_room (op := .NotEq) ta tb F.slot_list_ne (call_meets F.slot_list_ne ta F.entry_list_ne (F.args_list_ne_2 _ _) (SeqAt.cw_listNe a b its.toArray [].toArray n n2 dd dd2 sl sl2 (by simp [le]))
      ⟨ho, ho2, show Value.bool true ≠ Value.notImplemented ∧ EP X pins σ Q (.bool true) s from ⟨(fun z => nomatch z), ⟨.bl true, H, I, rfl, q⟩⟩⟩) (by omega)
def neU (K : Fr) : R2 := rOr (rNeD K) (rNeV K)
theorem op_neU {X : Cx} (hu : X.A.units + 64 < cLine) : OpR X (compareOp .NotEq) (neU X.K) := op_or (op_neD hu) (op_neV hu)
section
variable {K : Fr} {B : Hp × Hp} {Γ : List SD} {Os Os1 Os2 Os3 Oo : List Own} {nx bk ct : L2.St → Hp → Prop} {rt : VK} {ta tb te : TE} {tt : TT} {sx sy s : SD} {ds es : List PyData} {d e : PyData} {ys : List V}
/-- a new list of these very values -/
def EV (K : Fr) (Γ : List SD) (Os : List Own) (te : TE) (xs : List V) (Os' : List Own) : Prop := ∀ (B : Hp × Hp) (F : Hp) (σ : L2.St) (H : Hp), At K B F Γ Os σ H → ∀ Q : VK,
  (∀ p F' H', At K B F' Γ (Os' ++ [lstV p xs]) σ H' → Same F F' → Q (.ref p) H') → te σ H Q
theorem ev_lc {wi : TI} {g : TG} {n : Nat} {item : Nat → SD} {C : List Own → Prop} {is vs : List Nat} {ss : Nat → List SD} (hI : IT K Γ Os wi n item C Os1) (hn : n ≤ 1000000) (hg : ∀ i, TgD K g (item i) is (ss i)) (hv : ∀ i ∈ is, i ∈ vs)
    (J : Nat → List V → List Own → Prop) (h0 : J 0 [] Os1) (hC : ∀ i acc Os, J i acc Os → C Os)
    (hs : ∀ i acc Os, i < n → J i acc Os → ∃ b Os2, ET K (setG (wipeG Γ vs) is (ss i)) Os tt b Os2 ∧ (b = true → ∃ y Os3, E K (setG (wipeG Γ vs) is (ss i)) Os2 te (.v y) Os3 ∧ J (i + 1) (acc ++ [y]) Os3) ∧ (b = false → J (i + 1) acc Os2))
    (hd : ∀ acc Os, J n acc Os → acc = ys ∧ Os = Os2) : EV K Γ Os (tLc wi g tt te vs) ys Os2 := fun B F σ H A Q k => hI B F σ H A _ fun It F1 H1 A1 e1 ok D hD => by
  -- the list so far is the frame's
  have nB : B.2 D = none := A1.rs.free hD
  have nF : F1 D = none := A1.fr.free hD
  -- a change of the list at D
  have chg : ∀ {F2 H2 : Hp} {xs ys : List V} {Γ : List SD} {Os : List Own} {σ : L2.St}, At K (F1, fun a => if a = D then some (.lst xs) else B.2 a) F2 Γ Os σ H2 → At K (F1, fun a => if a = D then some (.lst ys) else B.2 a) F2 Γ Os σ (upd H2 D (.lst ys)) := fun {F2 H2 xs ys Γ Os σ} A2 => by
    have hDD : H2 D = some (.lst xs) := A2.rs D _ (by dsimp only; rw [if_pos rfl])
    have nF2 : F2 D = none := A2.rf.none (by dsimp only; rw [if_pos rfl])
    obtain ⟨hs, h1, h2, h3, h4, h5⟩ := A2.ow
    have nh : ∀ i, hs i D = none := fun i => (h5 i).symm.none (by dsimp only; rw [if_pos rfl])
    refine ⟨A2.sl, A2.bs, fun a o e => ?_, fun a o e => ?_, .of fun a o e => ?_, hs, h1, fun i a o e => ?_, h3, h4, fun i => .of fun a o e => ?_⟩
    · rw [upd_ne (fun q => by subst q; rw [nF2] at e; cases e)]; exact A2.fr a o e
    · dsimp only at e
      by_cases q : a = D
      · subst q; rw [if_pos rfl] at e; cases e; exact upd_same
      · rw [if_neg q] at e; rw [upd_ne q]; exact A2.rs a o (by dsimp only; rw [if_neg q]; exact e)
    · dsimp only at e
      by_cases q : a = D
      · subst q; exact nF2
      · rw [if_neg q] at e; exact A2.rf.none (show (if a = D then some (HO.lst xs) else B.2 a) = some o by rw [if_neg q]; exact e)
    · rw [upd_ne (fun q => by subst q; rw [nh] at e; cases e)]; exact h2 i a o e
    · have z := (h5 i).none e
      dsimp only at z ⊢
      by_cases q : a = D
      · subst q; rw [if_pos rfl] at z; cases z
      · rw [if_neg q] at z ⊢; exact z
  have Aw : At K (F1, fun a => if a = D then some (.lst []) else B.2 a) F1 (wipeG Γ vs) Os1 (L2.wipe σ vs) (upd H1 D (.lst [])) := by
    have A2 := (A1.upbase (Same.refl _)).wipe vs
    obtain ⟨hs, h1, h2, h3, h4, h5⟩ := A2.ow
    have nh : ∀ i, hs i D = none := fun i => (h2 i).free hD
    refine ⟨A2.sl, A2.bs, fun a o e => ?_, fun a o e => ?_, .of fun a o e => ?_, hs, h1, fun i a o e => ?_, h3, h4, fun i => .of fun a o e => ?_⟩
    · rw [upd_ne (fun q => by subst q; rw [nF] at e; cases e)]; exact A2.fr a o e
    · dsimp only at e
      by_cases q : a = D
      · subst q; rw [if_pos rfl] at e; cases e; exact upd_same
      · rw [if_neg q] at e; rw [upd_ne q]; exact A2.rs a o e
    · dsimp only at e
      by_cases q : a = D
      · subst q; exact nF
      · rw [if_neg q] at e; exact A2.rf.none e
    · rw [upd_ne (fun q => by subst q; rw [nh] at e; cases e)]; exact h2 i a o e
    · dsimp only
      by_cases q : a = D
      · subst q; rw [nh] at e; cases e
      · rw [if_neg q]; exact (h5 i).none e
  refine ⟨fun i m H => i + m = n ∧ ∃ F xs acc Os, At K (F1, fun a => if a = D then some (.lst xs) else B.2 a) F (wipeG Γ vs) Os (L2.wipe σ vs) H ∧ xs = acc ∧ acc.length ≤ i ∧ J i acc Os, ⟨n, by omega, F1, [], [], Os1, Aw, rfl, Nat.le_refl _, h0⟩, ?_⟩
  rintro i m H2 ⟨hm, F2, xs, acc, O2, A2, dxs, hl, hJ⟩
  obtain ⟨o1, o2, o3⟩ := ok _ _ _ _ F2 H2 A2.bs A2 (hC _ _ _ hJ)
  by_cases hi : i < n
  · refine .inr ⟨o1 i hi, _, fun H' q => ⟨n - (i + 1), by omega, by omega, q⟩, fun x H' y => ?_⟩
    obtain ⟨F3, e3, A3, r3⟩ := o3 i hi x H' y
    refine hg i _ F3 _ O2 _ H' x A3 r3 _ fun zs _ A4 => ⟨wipe_setL hv, ?_⟩
    obtain ⟨b, O4, ht, h1, h2⟩ := hs i acc O2 hi hJ
    refine ht _ F3 _ H' A4 _ fun F4 H4 A5 e4 => ?_
    cases b with
    | true =>
      refine iteT ?_
      obtain ⟨y', O5, he, hJ2⟩ := h1 rfl
      refine he _ F4 _ H4 A5 _ fun v F5 H5 A6 e5 q5 => ?_
      have hDD : H5 D = some (.lst xs) := A6.rs D _ (by dsimp only; rw [if_pos rfl])
      subst dxs
      refine ⟨xs, hDD, szl_lt (by omega), F5, xs ++ [v], xs ++ [y'], O5, ?_, by rw [show v = y' from q5], by simp; omega, hJ2⟩
      exact (chg A6).slots (A2.sl.mono ((e3.trans e4).trans e5))
    | false =>
      refine iteF ⟨F4, xs, acc, O4, A5.slots (A2.sl.mono (e3.trans e4)), dxs, by omega, h2 rfl⟩
  · have ei : i = n := by omega
    subst ei
    obtain ⟨rfl, rfl⟩ := hd acc O2 hJ
    refine .inl ⟨o2, ?_⟩
    -- the list becomes ours
    have hDD : H2 D = some (.lst xs) := A2.rs D _ (by dsimp only; rw [if_pos rfl])
    have nF2 : F2 D = none := A2.rf.none (by dsimp only; rw [if_pos rfl])
    obtain ⟨hs', g1, g2, g3, g4, g5⟩ := A2.ow
    refine k D F2 H2 ?_ (e1.trans A2.bs)
    refine ⟨A.sl.mono (e1.trans A2.bs), A.bs.trans (e1.trans A2.bs), A2.fr, fun a o e => ?_, .of fun a o e => ?_, fun j => if j = O2.length then one D (.lst xs) else hs' j, fun j O q => ?_, fun j => ?_, fun j => ?_, fun j l ne => ?_, fun j => ?_⟩
    · exact A2.rs a o (by dsimp only; rw [if_neg (fun q => by subst q; rw [nB] at e; cases e)]; exact e)
    · exact A2.rf.none (show (if a = D then some (HO.lst xs) else B.2 a) = some o by rw [if_neg (fun q => by subst q; rw [nB] at e; cases e)]; exact e)
    · by_cases z : j = O2.length
      · subst z
        simp at q; subst q
        simp only [if_pos]
        subst dxs; exact one_same
      · simp only [if_neg z]
        have lt : j < O2.length := by
          have := (List.getElem?_eq_some_iff.mp q).1
          simp at this; omega
        rw [List.getElem?_append_left lt] at q
        exact g1 j O q
    · by_cases z : j = O2.length
      · simp only [if_pos z]; intro a o e; obtain ⟨rfl, rfl⟩ := one_of e; exact hDD
      · simp only [if_neg z]; exact g2 j
    · by_cases z : j = O2.length
      · simp only [if_pos z]; exact .of fun a o e => by obtain ⟨rfl, rfl⟩ := one_of e; exact nF2
      · simp only [if_neg z]; exact g3 j
    · have nd : ∀ i, Dis (one D (.lst xs)) (hs' i) := fun i => .of fun a o e => by
        obtain ⟨rfl, rfl⟩ := one_of e
        exact (g5 i).symm.none (by dsimp only; rw [if_pos rfl])
      by_cases z : j = O2.length
      · by_cases z2 : l = O2.length
        · exact absurd (z.trans z2.symm) ne
        · simp only [if_pos z, if_neg z2]; exact nd l
      · by_cases z2 : l = O2.length
        · simp only [if_pos z2, if_neg z]; exact (nd j).symm
        · simp only [if_neg z, if_neg z2]; exact g4 j l ne
    · by_cases z : j = O2.length
      · simp only [if_pos z]; exact .of fun a o e => by obtain ⟨rfl, rfl⟩ := one_of e; exact nB
      · simp only [if_neg z]
        refine .of fun a o e => ?_
        have q := (g5 j).none e
        dsimp only at q
        by_cases w : a = D
        · subst w; exact nB
        · rw [if_neg w] at q; exact q

theorem ev_lcP {wi : TI} {g : TG} {n : Nat} {item : Nat → SD} {C : List Own → Prop} {is vs : List Nat} {ss : Nat → List SD} (hI : IT K Γ Os wi n item C Os1) (hn : n ≤ 1000000) (hg : ∀ i, TgD K g (item i) is (ss i)) (hv : ∀ i ∈ is, i ∈ vs) (hC : C Os1) (f : Nat → Bool) (v : Nat → V)
    (ht : ∀ i, i < n → ET K (setG (wipeG Γ vs) is (ss i)) Os1 tt (f i) Os1) (he : ∀ i, i < n → f i = true → E K (setG (wipeG Γ vs) is (ss i)) Os1 te (.v (v i)) Os1) : EV K Γ Os (tLc wi g tt te vs) (((List.range n).filter f).map v) Os1 :=
  ev_lc hI hn hg hv (fun i acc O => acc = ((List.range i).filter f).map v ∧ O = Os1) ⟨rfl, rfl⟩ (fun i acc O ⟨_, h⟩ => by rw [h]; exact hC) (fun i acc O hi ⟨h1, h2⟩ => by
    subst h1 h2
    exact ⟨f i, O, ht i hi, fun hf => ⟨v i, O, he i hi hf, by rw [List.range_succ, List.filter_append, List.map_append]; simp [hf], rfl⟩, fun hf => ⟨by rw [List.range_succ, List.filter_append, List.map_append]; simp [hf], rfl⟩⟩) fun acc O h => h
theorem n_asgV {i : Nat} (h : EV K Γ Os te ys Os1) (k : ∀ p, N K B (Γ.set i (.v (.ref p))) (Os1 ++ [lstV p ys]) nx) : N K B Γ Os (tAsg te (gName i) ⟨nx, rt, bk, ct⟩) := fun F σ H A => h B F σ H A _ fun p F1 H1 A1 _ => k p F1 _ H1 (A1.set (s := .v (.ref p)) rfl)
theorem ev_is {zs : List V} (h : EV K Γ Os te ys Os1) (e : ys = zs) : EV K Γ Os te zs Os1 := by rw [← e]; exact h
/-- how a body begins -/
theorem run {F : Hp} {ss : List SD} {Oi : List Own} {N' : List Str} {vs : List V} {H : Hp} {P : L2.St → Hp → Prop} (A : At K B F ss Oi (vs.map some) H) (e : ss ++ List.replicate (N'.length - ss.length) .un = Γ) (h : N K B Γ Oi P) : P (L2.start N' vs) H := by
  subst e
  exact h F _ H (A.slots (Sl.start A.sl))
def pureP {G : Type} (pre : G → Prop) (args : G → List SD) (res : G → SD) : Pm K G := ⟨pre, args, fun _ => [], res, fun _ => [], fun _ => none, fun _ => []⟩
end
end Cw

namespace Cw
open PySem L2
/-! ### boards -/
structure Jb where
  rank : Int
  term : Option Int
  start : Int
  after : List Nat
  parts : List Int
  at_ : Nat
  idle : Int
  fin : Option Int
  gone : Bool
structure Bd where
  budget : Int
  patience : Int
  jobs : List Jb
  frames : Int
  spent : List Int
structure BA where
  b : Addr
  l : Addr
  sp : Addr
  js : List Addr
def oD : Option Int → PyData
  | none => .none
  | some i => .int i
def tupI (ns : List Int) : PyData := .tuple (ns.map .int)
def tupN (ns : List Nat) : PyData := .tuple (ns.map fun (n : Nat) => .int (n : Int))
def lstI (ns : List Int) : PyData := .list (ns.map .int)
def jobKs : List Str := ["number", "rank", "term", "start", "after", "parts", "at", "idle", "end", "gone"]
def boardKs : List Str := ["budget", "patience", "jobs", "frames", "spent"]
def jobSD (k : Nat) (J : Jb) : List SD := [.d (.int (k : Int)), .d (.int J.rank), .d (oD J.term), .d (.int J.start), .d (tupN J.after), .d (tupI J.parts), .d (.int (J.at_ : Int)), .d (.int J.idle), .d (oD J.fin), .d (.bool J.gone)]
def boardSD (a : BA) (S : Bd) : List SD := [.d (.int S.budget), .d (.int S.patience), .v (.ref a.l), .d (.int S.frames), .v (.ref a.sp)]
structure BdIn (K : Fr) (CB CJ : Addr) (a : BA) (S : Bd) (F h : Hp) : Prop where
  b : ∃ dx vs, h a.b = some (.ins CB dx (boardKs.zip vs)) ∧ boardKs.length = vs.length ∧ Sl K F (boardSD a S) (vs.map some)
  l : h a.l = some (.lst (a.js.map V.ref))
  sp : h a.sp = some (.lst (S.spent.map V.int))
  len : a.js.length = S.jobs.length
  nd : a.js.Nodup
  nl : a.l ≠ a.sp
  nb : a.b ∉ a.js
  job : ∀ (k : Nat) (j : Addr) (J : Jb), a.js[k]? = some j → S.jobs[k]? = some J → ∃ dx vs, h j = some (.ins CJ dx (jobKs.zip vs)) ∧ jobKs.length = vs.length ∧ Sl K F (jobSD k J) (vs.map some)
def bd (K : Fr) (CB CJ : Addr) (a : BA) (S : Bd) : Own := ⟨BdIn K CB CJ a S, fun {F F' h h'} e e2 x => by
  obtain ⟨⟨dx, vs, h1, h2, h3⟩, l, sp, len, nd, nl, nb, job⟩ := x
  refine ⟨⟨dx, vs, e2 _ _ h1, h2, h3.mono e⟩, e2 _ _ l, e2 _ _ sp, len, nd, nl, nb, fun k j J q1 q2 => ?_⟩
  obtain ⟨dx, vs, g1, g2, g3⟩ := job k j J q1 q2
  exact ⟨dx, vs, e2 _ _ g1, g2, g3.mono e⟩⟩
section
variable {K : Fr} {CB CJ : Addr} {a : BA} {S : Bd} {B : Hp × Hp} {F H : Hp} {Γ : List SD} {Os Os1 Os2 Oo : List Own} {σ : L2.St} {nx bk ct : L2.St → Hp → Prop} {rt : VK} {ta te : TE} {s : SD} {i k : Nat} {j : Addr} {J : Jb}
theorem At.bdIn (A : At K B F Γ Os σ H) (h : Os[i]? = some (bd K CB CJ a S)) : BdIn K CB CJ a S F H := by
  obtain ⟨h', x, s, _⟩ := A.touch h
  exact (bd K CB CJ a S).mono (Same.refl F) s x
/-- one cell of the board's changes -/
theorem At.bdSet {S' : Bd} {c : Addr} {o : HO} (A : At K B F Γ Os σ H) (h : Os[i]? = some (bd K CB CJ a S)) (hc : c = a.b ∨ c = a.l ∨ c = a.sp ∨ c ∈ a.js)
    (q : ∀ h, BdIn K CB CJ a S F h → BdIn K CB CJ a S' F (upd h c o)) : At K B F Γ (Os.set i (bd K CB CJ a S')) σ (upd H c o) := by
  obtain ⟨h', x, s, d, kk⟩ := A.touch h
  have hx : ∃ u, h' c = some u := by
    rcases hc with rfl | rfl | rfl | hm
    · obtain ⟨dx, vs, h1, _⟩ := x.b; exact ⟨_, h1⟩
    · exact ⟨_, x.l⟩
    · exact ⟨_, x.sp⟩
    · obtain ⟨k, hk⟩ := List.mem_iff_getElem?.mp hm
      have lt : k < S.jobs.length := by rw [← x.len]; exact (List.getElem?_eq_some_iff.mp hk).1
      obtain ⟨dx, vs, h1, _⟩ := x.job k c _ hk (List.getElem?_eq_getElem lt)
      exact ⟨_, h1⟩
  obtain ⟨u, hu⟩ := hx
  have nf : F c = none := d.none hu
  refine kk (h' := upd h' c o) (Same.refl _) (fun b o' e => ?_) (q h' x) (fun b o' e => ?_) (.of fun b o' e => ?_) (fun b o' e z => ?_) (fun b o' e z => ?_) fun b o e z => by rw [e] at z; cases z
  · rw [upd_ne (fun q => by subst q; rw [nf] at e; cases e)]; exact A.fr b o' e
  · by_cases w : b = c
    · subst w; rw [upd_same] at e ⊢; exact e
    · rw [upd_ne w] at e ⊢; exact s b o' e
  · by_cases w : b = c
    · subst w; exact nf
    · rw [upd_ne w] at e; exact d.none e
  · rw [upd_ne (fun q => by subst q; rw [hu] at z; cases z)]; exact e
  · by_cases w : b = c
    · subst w; rw [hu] at z; cases z
    · rw [upd_ne w, z] at e; cases e
theorem ne_ins {h : Hp} {p q : Addr} {C dx : Addr} {fs : List (Str × V)} {xs : List V} (h1 : h p = some (.ins C dx fs)) (h2 : h q = some (.lst xs)) : p ≠ q := ne_of h1 h2 (by intro z; cases z)
/-- reading -/
theorem fld_bd {f : Str} {n : Nat} (i : Nat) (h : Os[i]? = some (bd K CB CJ a S)) (c : Cls K CB) (na : NoAttr K CB f) (hn : ixS boardKs f = some n) (hs : (boardSD a S)[n]? = some s) (ok : s.ok = true) : FldD K Os a.b f s := fun B F Γ σ H A => by
  obtain ⟨dx, vs, h1, h2, h3⟩ := (A.bdIn h).b
  obtain ⟨v, h4, h5⟩ := sl_at h3 hs
  refine ⟨CB, dx, _, v, h1, c, na, ?_, sl1_rp ok h5⟩
  rw [zip_look boardKs vs f h2, hn]
  exact h4
theorem fld_job {f : Str} {n : Nat} (i : Nat) (h : Os[i]? = some (bd K CB CJ a S)) (hj : a.js[k]? = some j) (hJ : S.jobs[k]? = some J) (c : Cls K CJ) (na : NoAttr K CJ f) (hn : ixS jobKs f = some n) (hs : (jobSD k J)[n]? = some s) (ok : s.ok = true) : FldD K Os j f s := fun B F Γ σ H A => by
  obtain ⟨dx, vs, h1, h2, h3⟩ := (A.bdIn h).job k j J hj hJ
  obtain ⟨v, h4, h5⟩ := sl_at h3 hs
  refine ⟨CJ, dx, _, v, h1, c, na, ?_, sl1_rp ok h5⟩
  rw [zip_look jobKs vs f h2, hn]
  exact h4
theorem ins_bd {m : Str} (i : Nat) (h : Os[i]? = some (bd K CB CJ a S)) (hm : ixS boardKs m = none) : InsD K Os CB a.b m := fun B F Γ σ H A => by
  obtain ⟨dx, vs, h1, h2, h3⟩ := (A.bdIn h).b
  refine ⟨dx, _, h1, ?_⟩
  rw [zip_look boardKs vs m h2, hm]; rfl
theorem ins_job {m : Str} (i : Nat) (h : Os[i]? = some (bd K CB CJ a S)) (hj : a.js[k]? = some j) (hJ : S.jobs[k]? = some J) (hm : ixS jobKs m = none) : InsD K Os CJ j m := fun B F Γ σ H A => by
  obtain ⟨dx, vs, h1, h2, h3⟩ := (A.bdIn h).job k j J hj hJ
  refine ⟨dx, _, h1, ?_⟩
  rw [zip_look jobKs vs m h2, hm]; rfl
/-- self.jobs[k] -/
theorem od_jobs {n : Int} (i : Nat) (h : Os[i]? = some (bd K CB CJ a S)) (hj : atI a.js n = some j) : OpD K Os (rIx K) (.v (.ref a.l)) (.d (.int n)) (.v (.ref j)) := fun B F Γ σ H x y A rx ry Q kk => by
  cases (show Dp K F y (.int n) from ry)
  have X := A.bdIn h
  refine .inl ⟨a.l, a.js.map V.ref, n, .ref j, rx, rfl, .inl (.inl X.l), ?_, kk _ F H A (Same.refl _) rfl⟩
  have h' : (ixN a.js.length n).bind (fun j => a.js[j]?) = some j := hj
  show (ixN (a.js.map V.ref).length n).bind (fun j => (a.js.map V.ref)[j]?) = some (V.ref j)
  rw [List.length_map]
  cases q : ixN a.js.length n with
  | none => rw [q] at h'; cases h'
  | some m =>
    rw [q] at h'
    show (a.js.map V.ref)[m]? = some (V.ref j)
    rw [List.getElem?_map, show a.js[m]? = some j from h']; rfl
theorem cd_lenJ (i : Nat) (h : Os[i]? = some (bd K CB CJ a S)) : CbD K Os (rLen K) [.v (.ref a.l)] (.d (.int S.jobs.length)) Os := fun B F Γ σ H xs A r Q kk => by
  obtain ⟨x, rfl, q⟩ := sl1 rfl r
  have X := A.bdIn h
  refine ⟨a.l, _, by rw [show x = _ from q], .inl (.inl (.inl X.l)), ?_⟩
  rw [List.length_map, X.len]
  exact kk _ F H A (Same.refl _) (.int _)
theorem cl_spent (i : Nat) (h : Os[i]? = some (bd K CB CJ a S)) : CbL K Os (rListOf K) [.v (.ref a.sp)] (S.spent.map .int) Os := fun B F Γ σ H xs A r Q kk => by
  obtain ⟨x, rfl, q⟩ := sl1 rfl r
  have X := A.bdIn h
  refine ⟨a.sp, _, by rw [show x = _ from q], .inl (.inl (.inl X.sp)), fun l hl => kk l F _ (A.newO hl ⟨_, one_same, dps_ints _⟩) (Same.refl _)⟩
theorem cd_spentT (i : Nat) (h : Os[i]? = some (bd K CB CJ a S)) : CbD K Os (rTupOf K) [.v (.ref a.sp)] (.d (tupI S.spent)) Os := fun B F Γ σ H xs A r Q kk => by
  obtain ⟨x, rfl, q⟩ := sl1 rfl r
  have X := A.bdIn h
  refine ⟨a.sp, _, by rw [show x = _ from q], .inl ⟨.inl (.inl X.sp), fun l hl => ?_⟩⟩
  have nf : F l = none := A.fr.free hl
  exact kk _ _ _ (A.newF hl) (same_upd nf) (.tup (.inl (.inl upd_same)) (dps_ints _))
/-- for job in self.jobs -/
theorem it_jobs (i : Nat) (h : E K Γ Os te (.v (.ref a.l)) Os1) (hi : Os1[i]? = some (bd K CB CJ a S)) : IT K Γ Os (iList K te) a.js.length (fun k => .v (.ref (a.js[k]?.getD 0))) (fun O => ∃ S', O[i]? = some (bd K CB CJ a S')) Os1 := fun B F σ H A R kk => h B F σ H A _ fun x F1 H1 A1 e1 q1 => by
  have X := A1.bdIn hi
  refine ⟨a.l, q1, ⟨_, .inl (.inl X.l)⟩, kk _ F1 H1 A1 e1 fun B Γ Os σ F' H e A ⟨S', c⟩ => ?_⟩
  have Y := A.bdIn c
  refine ⟨fun k hk => ⟨_, .ref (a.js[k]), .inl (.inl Y.l), by simp [hk]⟩, ⟨_, .inl (.inl Y.l), by simp⟩, fun k hk x H' y => ?_⟩
  obtain ⟨rfl, y⟩ := y
  have z := y _ (.inl (.inl Y.l))
  refine ⟨F', Same.refl _, A, ?_⟩
  show x = V.ref (a.js[k]?.getD 0)
  rw [List.getElem?_map, List.getElem?_eq_getElem hk] at z
  rw [List.getElem?_eq_getElem hk]
  exact (Option.some.inj z).symm
/-- storing -/
theorem n_fldJob {f : Str} {n : Nat} {J' : Jb} (i : Nat) (hv : E K Γ Os te s Os1) (ho : E K Γ Os1 ta (.v (.ref j)) Os2) (h : Os2[i]? = some (bd K CB CJ a S)) (hj : a.js[k]? = some j) (hJ : S.jobs[k]? = some J) (c : Cls K CJ) (na : NoAttr K CJ f) (hn : ixS jobKs f = some n) (hs : jobSD k J' = (jobSD k J).set n s)
    (kk : N K B Γ (Os2.set i (bd K CB CJ a { S with jobs := S.jobs.set k J' })) nx) : N K B Γ Os (sFld K ta te f ⟨nx, rt, bk, ct⟩) := fun F σ H A => hv B F σ H A _ fun y F1 H1 A1 _ r1 => ho B F1 σ H1 A1 _ fun x F2 H2 A2 ee2 r2 => by
  obtain ⟨dx, vs, h1, h2, h3⟩ := (A2.bdIn h).job k j J hj hJ
  refine ⟨j, CJ, dx, _, r2, h1, c, na, by rw [List.length_zip, ← h2]; exact (by decide : min jobKs.length jobKs.length < 1000), ?_⟩
  rw [zip_put jobKs vs f n y h2 hn]
  refine kk F2 σ _ (A2.bdSet h (.inr (.inr (.inr (List.mem_of_getElem? hj)))) fun h x => ?_)
  obtain ⟨⟨dxb, wb, g1, g2, g3⟩, l, sp, len, nd, nl, nb, job⟩ := x
  obtain ⟨dj, wj, q1, q2, q3⟩ := job k j J hj hJ
  have njb : a.b ≠ j := fun z => nb (by rw [z]; exact List.mem_of_getElem? hj)
  refine ⟨⟨dxb, wb, by rw [upd_ne njb]; exact g1, g2, g3⟩, by rw [upd_ne (ne_ins q1 l).symm]; exact l, by rw [upd_ne (ne_ins q1 sp).symm]; exact sp, by rw [List.length_set]; exact len, nd, nl, nb, fun k' j' J2 e1 e2 => ?_⟩
  by_cases z : k' = k
  · subst z
    rw [hj] at e1; cases e1
    have lt : k' < S.jobs.length := (List.getElem?_eq_some_iff.mp hJ).1
    rw [List.getElem?_set_self lt] at e2; cases e2
    exact ⟨dx, vs.set n y, upd_same, by rw [List.length_set]; exact h2, by rw [hs]; exact sl_set ((r1.mono ee2).sl1) n h3⟩
  · rw [List.getElem?_set_ne (Ne.symm z)] at e2
    obtain ⟨d2, w2, p1, p2, p3⟩ := job k' j' J2 e1 e2
    have njj : j' ≠ j := fun w => z (nd_ix nd e1 (by rw [w]; exact hj))
    exact ⟨d2, w2, by rw [upd_ne njj]; exact p1, p2, p3⟩
theorem n_fldBd {f : Str} {n : Nat} {S' : Bd} (i : Nat) (hv : E K Γ Os te s Os1) (ho : E K Γ Os1 ta (.v (.ref a.b)) Os2) (h : Os2[i]? = some (bd K CB CJ a S)) (c : Cls K CB) (na : NoAttr K CB f) (hn : ixS boardKs f = some n) (hs : boardSD a S' = (boardSD a S).set n s) (hj : S'.jobs = S.jobs) (hp : S'.spent = S.spent)
    (kk : N K B Γ (Os2.set i (bd K CB CJ a S')) nx) : N K B Γ Os (sFld K ta te f ⟨nx, rt, bk, ct⟩) := fun F σ H A => hv B F σ H A _ fun y F1 H1 A1 _ r1 => ho B F1 σ H1 A1 _ fun x F2 H2 A2 e2 r2 => by
  obtain ⟨dx, vs, h1, h2, h3⟩ := (A2.bdIn h).b
  refine ⟨a.b, CB, dx, _, r2, h1, c, na, by rw [List.length_zip, ← h2]; exact (by decide : min boardKs.length boardKs.length < 1000), ?_⟩
  rw [zip_put boardKs vs f n y h2 hn]
  refine kk F2 σ _ (A2.bdSet h (.inl rfl) fun h x => ?_)
  obtain ⟨⟨dxb, wb, g1, g2, g3⟩, l, sp, len, nd, nl, nb, job⟩ := x
  refine ⟨⟨dx, vs.set n y, upd_same, by rw [List.length_set]; exact h2, by rw [hs]; exact sl_set ((r1.mono e2).sl1) n h3⟩, by rw [upd_ne (ne_ins g1 l).symm]; exact l, by rw [upd_ne (ne_ins g1 sp).symm, hp]; exact sp, by rw [hj]; exact len, nd, nl, nb, fun k' j' J2 e1 e2 => ?_⟩
  rw [hj] at e2
  obtain ⟨d2, w2, p1, p2, p3⟩ := job k' j' J2 e1 e2
  exact ⟨d2, w2, by rw [upd_ne (fun w => nb (by rw [← w]; exact List.mem_of_getElem? e1))]; exact p1, p2, p3⟩
/-- self.spent.append(e) -/
theorem n_appSp {n : Int} (i : Nat) (ha : E K Γ Os ta (.v (.ref a.sp)) Os1) (h : E K Γ Os1 te (.d (.int n)) Os2) (hi1 : Os1[i]? = some (bd K CB CJ a S)) (hi : Os2[i]? = some (bd K CB CJ a S)) (hl : S.spent.length < 1000000)
    (kk : N K B Γ (Os2.set i (bd K CB CJ a { S with spent := S.spent ++ [n] })) nx) : N K B Γ Os (tDrop (tBM K "list" rAppend ta (tCons te tNil)) ⟨nx, rt, bk, ct⟩) := fun F σ H A => ha B F σ H A _ fun x F1 H1 A1 _ q1 => by
  have X1 := A1.bdIn hi1
  rw [show x = _ from q1]
  refine ⟨Or.inl ⟨rfl, _, .inl (.inl X1.sp)⟩, h B F1 σ H1 A1 _ fun y F2 H2 A2 _ q2 => ?_⟩
  cases (show Dp K F2 y (.int n) from q2)
  have X2 := A2.bdIn hi
  refine ⟨a.sp, _, _, rfl, rfl, X2.sp, szl_lt (by rw [List.length_map]; exact hl), kk F2 σ _ (A2.bdSet hi (.inr (.inr (.inl rfl))) fun h x => ?_)⟩
  obtain ⟨⟨dxb, wb, g1, g2, g3⟩, l, sp, len, nd, nl, nb, job⟩ := x
  refine ⟨⟨dxb, wb, by rw [upd_ne (ne_ins g1 sp)]; exact g1, g2, g3⟩, by rw [upd_ne nl]; exact l, by rw [upd_same, List.map_append]; rfl, len, nd, nl, nb, fun k' j' J2 e1 e2 => ?_⟩
  obtain ⟨d2, w2, p1, p2, p3⟩ := job k' j' J2 e1 e2
  exact ⟨d2, w2, by rw [upd_ne (ne_ins p1 sp)]; exact p1, p2, p3⟩
end
end Cw

namespace Cw
open PySem L2
def exO {α : Type} (f : α → Own) : Own := ⟨fun F h => ∃ x, (f x).P F h, fun e e2 ⟨x, q⟩ => ⟨x, (f x).mono e e2 q⟩⟩
def Oimp (O O' : Own) : Prop := ∀ F h, O.P F h → O'.P F h
theorem Oimp.refl (O : Own) : Oimp O O := fun _ _ h => h
theorem Oimp.ex {α : Type} {f : α → Own} (x : α) : Oimp (f x) (exO f) := fun _ _ h => ⟨x, h⟩
/-- the first of these give those -/
inductive Ole : List Own → List Own → Prop
  | nil {Os : List Own} : Ole Os []
  | cons {O O' : Own} {Os Os' : List Own} : Oimp O O' → Ole Os Os' → Ole (O :: Os) (O' :: Os')
theorem Ole.refl : ∀ Os : List Own, Ole Os Os
  | [] => .nil
  | O :: Os => .cons (Oimp.refl O) (Ole.refl Os)
theorem Ole.at : ∀ {Os Os' : List Own} {i : Nat} {O' : Own}, Ole Os Os' → Os'[i]? = some O' → ∃ O, Os[i]? = some O ∧ Oimp O O'
  | _, _, i, _, .nil, e => by simp at e
  | _, _, 0, _, .cons h _, e => by simp at e; subst e; exact ⟨_, rfl, h⟩
  | _, _, i + 1, _, .cons _ t, e => by
    obtain ⟨O, h1, h2⟩ := Ole.at (i := i) t (by simpa using e)
    exact ⟨O, by simpa using h1, h2⟩
section
variable {K : Fr} {CB CJ : Addr} {a : BA} {S : Bd} {B : Hp × Hp} {F H : Hp} {Γ : List SD} {Os Os' Os1 Os2 Oo : List Own} {σ : L2.St} {nx bk ct : L2.St → Hp → Prop} {rt : VK} {ta te : TE} {s : SD} {i k : Nat} {j : Addr} {J : Jb} {ds : List PyData} {Q : VK} {P : L2.St → Hp → Prop}
theorem At.ole (A : At K B F Γ Os σ H) (e : Ole Os Oo) : At K B F Γ Oo σ H := by
  obtain ⟨hs, h1, h2, h3, h4, h5⟩ := A.ow
  refine ⟨A.sl, A.bs, A.fr, A.rs, A.rf, hs, fun i O' q => ?_, h2, h3, h4, h5⟩
  obtain ⟨O, q1, q2⟩ := e.at q
  exact q2 _ _ (h1 i O q1)
theorem At.ex {α : Type} {f : α → Own} (A : At K B F Γ Os σ H) (h : Os[i]? = some (exO f)) : ∃ x, At K B F Γ (Os.set i (f x)) σ H := by
  obtain ⟨h', ⟨x, q⟩, s, d, kk⟩ := A.touch h
  exact ⟨x, kk (Same.refl _) A.fr q s d (fun b o e _ => e) (fun b o e z => by rw [e] at z; cases z) fun b o e z => by rw [e] at z; cases z⟩
theorem n_ex {α : Type} {f : α → Own} (i : Nat) (h : Os[i]? = some (exO f)) (kk : ∀ x, N K B Γ (Os.set i (f x)) P) : N K B Γ Os P := fun F σ H A => by
  obtain ⟨x, A'⟩ := A.ex h
  exact kk x F σ H A'
theorem n_ole (e : Ole Os Os') (kk : N K B Γ Os' P) : N K B Γ Os P := fun F σ H A => kk F σ H (A.ole e)
/-! the ends -/
theorem r_ret {R : SD} {B0 : Hp × Hp} (h : E K Γ Os te s Os1) (kk : ∀ x F H, At K B0 F [] Oo [] H → Rp K F x R → rt x H) (e1 : s = R) (e2 : Ole Os1 Oo) (hb : Bl B0 B) : N K B Γ Os (tRet te ⟨nx, rt, bk, ct⟩) := fun F σ H A => h B F σ H A _ fun x F1 H1 A1 _ q1 => by
  subst e1
  exact kk x F1 H1 (((A1.slots (Γ' := []) (σ' := []) trivial).ole e2).rebase hb) q1
theorem r_end {R : SD} (kk : ∀ x F H, At K B F [] Oo [] H → Rp K F x R → Q x H) (e1 : R = .d .none) (e2 : Ole Os Oo) : N K B Γ Os (fun _ H => Q .non H) := fun F σ H A => by
  subst e1
  exact kk .non F H ((A.slots (Γ' := []) (σ' := []) trivial).ole e2) .non
theorem ole_len : ∀ {Os Oo : List Own}, Ole Os Oo → Oo.length ≤ Os.length
  | _, _, .nil => Nat.zero_le _
  | _, _, .cons _ t => by simpa using ole_len t
theorem At.oleL {p : Addr} {j : Nat} (A : At K B F Γ Os σ H) (e : Ole Os Oo) (hj : Os[j]? = some (lst K p ds)) (hl : Oo.length ≤ j) : At K B F Γ (Oo ++ [lst K p ds]) σ H := by
  obtain ⟨hs, h1, h2, h3, h4, h5⟩ := A.ow
  refine ⟨A.sl, A.bs, A.fr, A.rs, A.rf, fun i => if i < Oo.length then hs i else if i = Oo.length then hs j else hp0, fun i O' q => ?_, fun i => ?_, fun i => ?_, fun i l ne => ?_, fun i => ?_⟩
  · by_cases z : i < Oo.length
    · rw [List.getElem?_append_left z] at q
      obtain ⟨O, q1, q2⟩ := e.at q
      simp only [if_pos z]
      exact q2 _ _ (h1 i O q1)
    · have lt := (List.getElem?_eq_some_iff.mp q).1
      rw [List.length_append, List.length_singleton] at lt
      have ei : i = Oo.length := by omega
      subst ei
      simp at q; subst q
      simp only [if_neg z, if_pos]
      exact h1 j _ hj
  · dsimp only
    split
    · exact h2 _
    · split
      · exact h2 _
      · exact same0 _
  · dsimp only
    split
    · exact h3 _
    · split
      · exact h3 _
      · exact dis0 _
  · dsimp only
    split
    · split
      · exact h4 _ _ ne
      · split
        · exact h4 _ _ (by omega)
        · exact (dis0 _).symm
    · split
      · split
        · exact h4 _ _ (by omega)
        · split
          · omega
          · exact (dis0 _).symm
      · exact dis0 _
  · dsimp only
    split
    · exact h5 _
    · split
      · exact h5 _
      · exact dis0 _
theorem r_retL {es : List PyData} {B0 : Hp × Hp} (h : EL K Γ Os te ds Os1) (kk : ∀ a F H, At K B0 F [] (Oo ++ [lst K a es]) [] H → rt (.ref a) H) (e1 : ds = es) (e2 : Ole Os1 Oo) (hb : Bl B0 B) : N K B Γ Os (tRet te ⟨nx, rt, bk, ct⟩) := fun F σ H A => h B F σ H A _ fun a F1 H1 A1 _ => by
  subst e1
  have e3 : Ole (Os1 ++ [lst K a ds]) Oo := by
    clear A1 h kk hb A
    induction e2 with
    | nil => exact .nil
    | cons q _ ih => exact .cons q ih
  exact kk a F1 H1 (((A1.slots (Γ' := []) (σ' := []) trivial).oleL (j := Os1.length) e3 (by simp) (ole_len e2)).rebase hb)
theorem r_retO {p : Addr} {es : List PyData} {B0 : Hp × Hp} (j : Nat) (h : E K Γ Os te (.v (.ref p)) Os1) (hj : Os1[j]? = some (lst K p ds)) (kk : ∀ a F H, At K B0 F [] (Oo ++ [lst K a es]) [] H → rt (.ref a) H) (e1 : ds = es) (e2 : Ole Os1 Oo) (hl : Oo.length ≤ j) (hb : Bl B0 B) : N K B Γ Os (tRet te ⟨nx, rt, bk, ct⟩) := fun F σ H A => h B F σ H A _ fun x F1 H1 A1 _ r => by
  subst e1
  rw [show x = _ from r]
  exact kk p F1 H1 (((A1.slots (Γ' := []) (σ' := []) trivial).oleL e2 hj hl).rebase hb)
/-- raise -/
theorem r_raise {C : Addr} {B0 : Hp × Hp} {X : XK} {W : L2.St → Hp → Prop} (hW : ∀ σ H, X (.ref C) none H → W σ H) (kx : ∀ C', (some C : Option Addr) = some C' → ∀ F H, At K B0 F [] Oo [] H → X (.ref C') none H) (e2 : Ole Os Oo) (hb : Bl B0 B) : N K B Γ Os W := fun F σ H A =>
  hW σ H (kx C rfl F H (((A.slots (Γ' := []) (σ' := []) trivial).ole e2).rebase hb))
theorem r_inv {I : List SD → List Own → Prop} (Γ' : List SD) (Os' : List Own) (h : I Γ' Os') (w : Wk Γ Γ') (e : Ole Os Os') : N K B Γ Os (NI K B I) := fun F σ H A => ⟨Γ', Os', F, h, (A.weak w).ole e⟩
/-! made instances -/
def EM (K : Fr) (Γ : List SD) (Os : List Own) (te : TE) (O : Addr → Own) (Os' : List Own) : Prop := ∀ (B : Hp × Hp) (F : Hp) (σ : L2.St) (H : Hp), At K B F Γ Os σ H → ∀ Q : VK,
  (∀ x F' H', At K B F' Γ (Os' ++ [O x]) σ H' → Same F F' → Q (.ref x) H') → te σ H Q
theorem e_make {C : Addr} {sp : Sp} {X : XK} {t : TA} {ss : List SD} {O : Addr → Own} (h : EA K Γ Os t ss Os1) (hr : ∀ x, CaD K (Os1 ++ [inst K C x [] []]) sp (.v (.ref x) :: ss) (.d .none) (Os1 ++ [O x])) : EM K Γ Os (tMake C sp [] X t) O Os1 := fun B F σ H A Q kk =>
  h B F σ H A _ fun vs F1 H1 A1 e1 q1 x dx hx hdx hne => by
    have A2 : At K B F1 Γ (Os1 ++ [inst K C x [] []]) σ (upd (upd H1 dx (.own x)) x (.ins C dx [])) := by
      have A3 : At K B F1 Γ Os1 σ (upd H1 dx (.own x)) := A1.same (same_upd hdx)
      exact A3.newO (by rw [upd_ne (Ne.symm hne)]; exact hx) ⟨dx, [], one_same, rfl, trivial⟩
    rw [List.append_nil]
    exact hr x X B F1 Γ σ _ (.ref x :: vs) A2 ⟨(rfl : V.ref x = V.ref x), q1⟩ _ fun z F2 H2 A4 e2 q2 => by
      cases (show Dp K F2 z .none from q2)
      exact ⟨rfl, kk x F2 H2 A4 (e1.trans e2)⟩
theorem n_asgM {O : Addr → Own} {i : Nat} (h : EM K Γ Os te O Os1) (kk : ∀ x, N K B (Γ.set i (.v (.ref x))) (Os1 ++ [O x]) nx) : N K B Γ Os (tAsg te (gName i) ⟨nx, rt, bk, ct⟩) := fun F σ H A => h B F σ H A _ fun x F1 H1 A1 _ => kk x F1 _ H1 (A1.set (s := .v (.ref x)) rfl)
theorem At.merge {O1 O2 : Own} {n : Nat} (A : At K B F Γ Os σ H) (h1 : Os[i]? = some O1) (h2 : Os[n]? = some O2) (ne : i ≠ n) : At K B F Γ (Os.set i (star O1 O2) |>.set n emp) σ H := by
  obtain ⟨hs, g1, g2, g3, g4, g5⟩ := A.ow
  refine ⟨A.sl, A.bs, A.fr, A.rs, A.rf, fun m => if m = i then (fun c => if (hs i c).isSome then hs i c else hs n c) else if m = n then hp0 else hs m, fun m O q => ?_, fun m => ?_, fun m => ?_, fun m l nm => ?_, fun m => ?_⟩
  · have li := (List.getElem?_eq_some_iff.mp h1).1
    have ln := (List.getElem?_eq_some_iff.mp h2).1
    by_cases z : m = i
    · subst z
      rw [List.getElem?_set_ne (Ne.symm ne), List.getElem?_set_self li] at q
      cases q
      simp only [if_pos]
      refine ⟨hs m, hs n, g4 m n ne, fun c o e => ?_, fun c o e => ?_, g1 m _ h1, g1 n _ h2⟩
      · show (if (hs m c).isSome then hs m c else hs n c) = some o
        rw [if_pos (by rw [e]; rfl)]; exact e
      · show (if (hs m c).isSome then hs m c else hs n c) = some o
        rw [if_neg (by rw [(g4 m n ne).symm.none e]; simp)]; exact e
    · simp only [if_neg z]
      by_cases z2 : m = n
      · subst z2
        rw [List.getElem?_set_self (by simpa using ln)] at q
        cases q
        simp only [if_pos]; trivial
      · simp only [if_neg z2]
        rw [List.getElem?_set_ne (Ne.symm z2), List.getElem?_set_ne (Ne.symm z)] at q
        exact g1 m _ q
  · by_cases z : m = i
    · simp only [if_pos z]
      intro c o e
      dsimp only at e
      split at e
      · exact g2 i c o e
      · exact g2 n c o e
    · simp only [if_neg z]
      split
      · exact same0 _
      · exact g2 m
  · by_cases z : m = i
    · simp only [if_pos z]
      refine .of fun c o e => ?_
      split at e
      · exact (g3 i).none e
      · exact (g3 n).none e
    · simp only [if_neg z]
      split
      · exact dis0 _
      · exact g3 m
  · have un : ∀ {g : Hp}, Dis (hs i) g → Dis (hs n) g → Dis (fun c => if (hs i c).isSome then hs i c else hs n c) g := fun {g} d1 d2 => .of fun c o e => by
      split at e
      · exact d1.none e
      · exact d2.none e
    by_cases z : m = i
    · by_cases y : l = i
      · exact absurd (z.trans y.symm) nm
      · simp only [if_pos z, if_neg y]
        by_cases y2 : l = n
        · simp only [if_pos y2]; exact (dis0 _).symm
        · simp only [if_neg y2]; exact un (g4 i l (Ne.symm y)) (g4 n l (Ne.symm y2))
    · simp only [if_neg z]
      by_cases z2 : m = n
      · simp only [if_pos z2]; exact dis0 _
      · simp only [if_neg z2]
        by_cases y : l = i
        · simp only [if_pos y]; exact (un (g4 i m (Ne.symm z)) (g4 n m (Ne.symm z2))).symm
        · simp only [if_neg y]
          by_cases y2 : l = n
          · simp only [if_pos y2]; exact (dis0 _).symm
          · simp only [if_neg y2]; exact g4 m l nm
  · by_cases z : m = i
    · simp only [if_pos z]
      refine .of fun c o e => ?_
      split at e
      · exact (g5 i).none e
      · exact (g5 n).none e
    · simp only [if_neg z]
      split
      · exact dis0 _
      · exact g5 m
/-- self.jobs.append(Job(..)) -/
theorem At.appJ {x : Addr} {n : Nat} (A : At K B F Γ Os σ H) (h : Os[i]? = some (bd K CB CJ a S)) (h2 : Os[n]? = some (inst K CJ x jobKs (jobSD S.jobs.length J))) (ne : i ≠ n) :
    H a.l = some (.lst (a.js.map V.ref)) ∧ At K B F Γ (Os.set i (bd K CB CJ { a with js := a.js ++ [x] } { S with jobs := S.jobs ++ [J] }) |>.set n emp) σ (upd H a.l (.lst (a.js.map V.ref ++ [.ref x]))) := by
  have M := A.merge h h2 ne
  have li := (List.getElem?_eq_some_iff.mp h).1
  have hM : ((Os.set i (star (bd K CB CJ a S) (inst K CJ x jobKs (jobSD S.jobs.length J)))).set n emp)[i]? = some (star (bd K CB CJ a S) (inst K CJ x jobKs (jobSD S.jobs.length J))) := by
    rw [List.getElem?_set_ne (Ne.symm ne), List.getElem?_set_self li]
  obtain ⟨hh, ⟨g1, g2, dd, s1, s2, p1, p2⟩, s, d, kk⟩ := M.touch hM
  have p1 : BdIn K CB CJ a S F g1 := p1
  obtain ⟨dxj, wj, q1, q2, q3⟩ := p2
  have q1 := q1
  refine ⟨s _ _ (s1 _ _ p1.l), ?_⟩
  have nf : F a.l = none := d.none (s1 _ _ p1.l)
  obtain ⟨⟨dxb, wb, b1, b2, b3⟩, l, sp, len, nd, nl, nb, job⟩ := p1
  have nx1 : g1 x = none := dd.symm.none q1
  have nxl : x ≠ a.l := fun z => by rw [z, l] at nx1; cases nx1
  have nxb : a.b ≠ x := fun z => by rw [← z, b1] at nx1; cases nx1
  have nxj : ∀ y ∈ a.js, y ≠ x := fun y hy z => by
    obtain ⟨k, hk⟩ := List.mem_iff_getElem?.mp hy
    have lt : k < S.jobs.length := by rw [← len]; exact (List.getElem?_eq_some_iff.mp hk).1
    obtain ⟨d2, w2, e1, _⟩ := job k y _ hk (List.getElem?_eq_getElem lt)
    rw [z, nx1] at e1; cases e1
  have fin := kk (h' := upd hh a.l (.lst (a.js.map V.ref ++ [.ref x]))) (O' := bd K CB CJ { a with js := a.js ++ [x] } { S with jobs := S.jobs ++ [J] }) (H' := upd H a.l (.lst (a.js.map V.ref ++ [.ref x]))) (Same.refl F) (fun c o e => by rw [upd_ne (fun q => by subst q; rw [nf] at e; cases e)]; exact A.fr c o e) ?_ (fun c o e => ?_) (.of fun c o e => ?_) (fun c o e z => ?_) (fun c o e z => ?_) (fun c o e z => by rw [e] at z; cases z)
  · have e : ((Os.set i (star (bd K CB CJ a S) (inst K CJ x jobKs (jobSD S.jobs.length J)))).set n emp).set i (bd K CB CJ { a with js := a.js ++ [x] } { S with jobs := S.jobs ++ [J] }) = (Os.set i (bd K CB CJ { a with js := a.js ++ [x] } { S with jobs := S.jobs ++ [J] })).set n emp := by
      rw [List.set_comm _ _ (Ne.symm ne), List.set_set]
    rw [e] at fin
    exact fin
  · refine ⟨⟨dxb, wb, by rw [upd_ne (ne_ins b1 l)]; exact s1 _ _ b1, b2, b3⟩, by rw [upd_same, List.map_append]; rfl, by rw [upd_ne (Ne.symm nl)]; exact s1 _ _ sp, by simp [len], ?_, nl, ?_, fun k' j' J2 e1 e2 => ?_⟩
    · exact List.nodup_append.mpr ⟨nd, by simp, fun y hy z hz => by simp at hz; subst hz; exact nxj y hy⟩
    · intro hm
      rcases List.mem_append.mp hm with hm | hm
      · exact nb hm
      · simp at hm; exact nxb hm
    · by_cases z : k' < a.js.length
      · rw [List.getElem?_append_left z] at e1
        rw [List.getElem?_append_left (by omega)] at e2
        obtain ⟨d2, w2, e3, e4, e5⟩ := job k' j' J2 e1 e2
        exact ⟨d2, w2, by rw [upd_ne (ne_ins e3 l)]; exact s1 _ _ e3, e4, e5⟩
      · have lt := (List.getElem?_eq_some_iff.mp e1).1
        rw [List.length_append, List.length_singleton] at lt
        have ek : k' = a.js.length := by omega
        subst ek
        simp at e1
        subst e1
        rw [len] at e2
        simp at e2
        subst e2
        rw [len]
        exact ⟨dxj, wj, by rw [upd_ne nxl]; exact s2 _ _ q1, q2, q3⟩
  · by_cases w : c = a.l
    · subst w; rw [upd_same] at e ⊢; exact e
    · rw [upd_ne w] at e ⊢; exact s c o e
  · by_cases w : c = a.l
    · subst w; exact nf
    · rw [upd_ne w] at e; exact d.none e
  · rw [upd_ne (fun q => by subst q; rw [s1 _ _ l] at z; cases z)]; exact e
  · by_cases w : c = a.l
    · subst w; rw [s1 _ _ l] at z; cases z
    · rw [upd_ne w, z] at e; cases e
theorem n_appJ (i : Nat) (ha : E K Γ Os ta (.v (.ref a.l)) Os1) (h : EM K Γ Os1 te (fun x => inst K CJ x jobKs (jobSD S.jobs.length J)) Os2) (hi1 : Os1[i]? = some (bd K CB CJ a S)) (hi : Os2[i]? = some (bd K CB CJ a S)) (hl : S.jobs.length < 1000000)
    (kk : ∀ x, N K B Γ (Os2.set i (bd K CB CJ { a with js := a.js ++ [x] } { S with jobs := S.jobs ++ [J] })) nx) : N K B Γ Os (tDrop (tBM K "list" rAppend ta (tCons te tNil)) ⟨nx, rt, bk, ct⟩) := fun F σ H A => ha B F σ H A _ fun x F1 H1 A1 _ q1 => by
  have X1 := A1.bdIn hi1
  rw [show x = _ from q1]
  refine ⟨Or.inl ⟨rfl, _, .inl (.inl X1.l)⟩, h B F1 σ H1 A1 _ fun y F2 H2 A2 _ => ?_⟩
  have lt := (List.getElem?_eq_some_iff.mp hi).1
  have hi' : (Os2 ++ [inst K CJ y jobKs (jobSD S.jobs.length J)])[i]? = some (bd K CB CJ a S) := by rw [List.getElem?_append_left lt]; exact hi
  obtain ⟨h1, A3⟩ := A2.appJ (x := y) (J := J) (n := Os2.length) hi' (by simp) (by omega)
  have X2 := A2.bdIn hi'
  refine ⟨a.l, _, _, rfl, rfl, h1, szl_lt (by rw [List.length_map, X2.len]; exact hl), kk y F2 σ _ ?_⟩
  have A4 := A3.take Os2.length
  rw [List.set_append_left _ _ lt, List.take_set, List.take_append_of_le_length (by simp), List.take_of_length_le (by simp), List.set_eq_of_length_le (by simp)] at A4
  exact A4
/-- a board as the law holds it -/
def bdx (K : Fr) (CB CJ b : Addr) (S : Bd) : Own := exO (fun x : Addr × Addr × List Addr => bd K CB CJ ⟨b, x.1, x.2.1, x.2.2⟩ S)
theorem bd_bdx : Oimp (bd K CB CJ a S) (bdx K CB CJ a.b S) := fun _ _ h => ⟨(a.l, a.sp, a.js), h⟩
theorem At.bdx {b : Addr} (A : At K B F Γ Os σ H) (h : Os[i]? = some (bdx K CB CJ b S)) : ∃ a : BA, a.b = b ∧ At K B F Γ (Os.set i (bd K CB CJ a S)) σ H := by
  obtain ⟨x, A'⟩ := A.ex h
  exact ⟨⟨b, x.1, x.2.1, x.2.2⟩, rfl, A'⟩
theorem set_self {α : Type} : ∀ {l : List α} {i : Nat} {x : α}, l[i]? = some x → l.set i x = l
  | [], _, _, h => by simp at h
  | y :: l, 0, x, h => by simp at h; subst h; rfl
  | y :: l, i + 1, x, h => by
    show y :: l.set i x = y :: l
    rw [set_self (by simpa using h)]
/-- a rule for boards by address is a rule for boards -/
theorem ole_set {O O' : Own} (h : Oimp O O') : ∀ (Os : List Own) (i : Nat), Ole (Os.set i O) (Os.set i O')
  | [], _ => .nil
  | P :: Os, 0 => .cons h (Ole.refl Os)
  | P :: Os, i + 1 => .cons (Oimp.refl P) (ole_set h Os i)
theorem ca_bdx {b : Addr} {S' : Bd} {sp : Sp} {ss : List SD} (i : Nat) (h : Os[i]? = some (bdx K CB CJ b S)) (c : ∀ a : BA, a.b = b → CaD K (Os.set i (bd K CB CJ a S)) sp ss s (Os.set i (bd K CB CJ a S'))) : CaD K Os sp ss s (Os.set i (bdx K CB CJ b S')) := fun X B F Γ σ H xs A r Q kk => by
  obtain ⟨a, rfl, A'⟩ := A.bdx h
  exact c a rfl X B F Γ σ H xs A' r Q fun z F2 H2 A2 e2 q2 => kk z F2 H2 (A2.ole (ole_set bd_bdx Os i)) e2 q2
theorem ole_setA {O O' R : Own} (h : Oimp O O') : ∀ (Os : List Own) (i : Nat), Ole (Os.set i O ++ [R]) (Os.set i O' ++ [R])
  | [], _ => Ole.refl _
  | P :: Os, 0 => .cons h (Ole.refl _)
  | P :: Os, i + 1 => .cons (Oimp.refl P) (ole_setA h Os i)
theorem cl_bdx {b : Addr} {S' : Bd} {sp : Sp} {ss : List SD} (i : Nat) (h : Os[i]? = some (bdx K CB CJ b S)) (c : ∀ a : BA, a.b = b → CaL K (Os.set i (bd K CB CJ a S)) sp ss ds (Os.set i (bd K CB CJ a S'))) : CaL K Os sp ss ds (Os.set i (bdx K CB CJ b S')) := fun X B F Γ σ H xs A r Q kk => by
  obtain ⟨a, rfl, A'⟩ := A.bdx h
  exact c a rfl X B F Γ σ H xs A' r Q fun p F2 H2 A2 e2 => kk p F2 H2 (A2.ole (ole_setA bd_bdx Os i)) e2
theorem ins_bdx {b : Addr} {m : Str} (i : Nat) (h : Os[i]? = some (bdx K CB CJ b S)) (hm : ixS boardKs m = none) : InsD K Os CB b m := fun B F Γ σ H A => by
  obtain ⟨a, rfl, A'⟩ := A.bdx h
  exact ins_bd i (List.getElem?_set_self (List.getElem?_eq_some_iff.mp h).1) hm B F Γ σ H A'
/-- x != [] -/
theorem e_neV {tb : TE} {p : Addr} {xs : List V} {i : Nat} (ha : E K Γ Os ta (.v (.ref p)) Os1) (hi : Os1[i]? = some (lstV p xs)) (hb : EL K Γ Os1 tb [] Os1) : E K Γ Os (tOp (neU K) ta tb) (.d (.bool (!xs.isEmpty))) Os1 := fun B F σ H A Q kk => ha B F σ H A _ fun x F1 H1 A1 e1 q1 => hb B F1 σ H1 A1 _ fun q F2 H2 A2 e2 => by
  obtain ⟨ys, b1, b2⟩ := A2.getL (i := Os1.length) (p := q) (ds := []) (by simp)
  cases b2
  obtain ⟨c1, _⟩ := A2.getV (i := i) (p := p) (xs := xs) (by rw [List.getElem?_append_left (List.getElem?_eq_some_iff.mp hi).1]; exact hi)
  have A3 := A2.take Os1.length
  rw [List.take_append_of_le_length (Nat.le_refl _), List.take_length] at A3
  exact .inr ⟨p, q, xs, q1, rfl, c1, b1, kk _ F2 H2 A3 (e1.trans e2) (.bl _)⟩
/-- an item of a list of our own things -/
theorem od_ixV {p : Addr} {xs : List V} {n : Int} {y : V} (i : Nat) (h : Os[i]? = some (lstV p xs)) (hy : atI xs n = some y) : OpD K Os (rIx K) (.v (.ref p)) (.d (.int n)) (.v y) := fun B F Γ σ H x z A rx rz Q kk => by
  cases (show Dp K F z (.int n) from rz)
  obtain ⟨c1, _⟩ := A.getV h
  exact .inl ⟨p, xs, n, y, rx, rfl, .inl (.inl c1), hy, kk _ F H A (Same.refl _) rfl⟩
end
end Cw

namespace Cw
open PySem L2
/-- a call that may raise -/
def CaX (K : Fr) (Os : List Own) (sp : Sp) (ss : List SD) (X : XK) (err : Option Addr) (s : SD) (Os' OsE : List Own) : Prop := ∀ (B : Hp × Hp) (F : Hp) (Γ : List SD) (σ : St) (H : Hp) (xs : List V), At K B F Γ Os σ H → Sl K F ss (xs.map some) → ∀ Q : VK,
  (err = none → ∀ z F' H', At K B F' Γ Os' σ H' → Same F F' → Rp K F' z s → Q z H') → (∀ C, err = some C → ∀ F' H', At K B F' Γ OsE σ H' → X (.ref C) none H') → sp xs H Q X
section
variable {K : Fr} {B : Hp × Hp} {Γ : List SD} {Os Os1 Os2 Os3 OsE Oo : List Own} {nx bk ct : L2.St → Hp → Prop} {rt : VK} {ta te : TE} {s : SD} {ss : List SD} {G : Type} {X : XK} {err : Option Addr} {t : TA}
theorem cx0 {p : Pm K G} (g : G) (hp : p.pre g) (ha : p.args g = ss) (ho : p.own g = []) (hq : p.out g = []) (hqe : p.outE g = []) (hr : p.res g = s) (he : p.err g = err) : CaX K Os p.sp ss X err s Os Os := fun B F Γ σ H xs A r Q k kx => by
  obtain ⟨B', e, A0, back⟩ := (A.slots r).call0
  refine ⟨g, B', F, hp, by rw [ha, ho]; exact A0, e, fun hn x F' H' A' q => ?_, fun C c F' H' A' => ?_⟩
  · rw [hq] at A'
    have A2 := back A'
    rw [List.append_nil] at A2
    have e2 : Same F F' := by rw [← e]; exact A'.bs
    exact k (by rw [← he]; exact hn) x F' H' (A2.slots (A.sl.mono e2)) e2 (by rw [← hr]; exact q)
  · rw [hqe] at A'
    have A2 := back A'
    rw [List.append_nil] at A2
    have e2 : Same F F' := by rw [← e]; exact A'.bs
    exact kx C (by rw [← he]; exact c) F' H' (A2.slots (A.sl.mono e2))
theorem cx1 {p : Pm K G} {O O' OE : Own} (i : Nat) (g : G) (hi : Os[i]? = some O) (hp : p.pre g) (ha : p.args g = ss) (ho : p.own g = [O]) (hq : p.out g = [O']) (hqe : p.outE g = [OE]) (hr : p.res g = s) (he : p.err g = err) : CaX K Os p.sp ss X err s (Os.set i O') (Os.set i OE) := fun B F Γ σ H xs A r Q k kx => by
  obtain ⟨B', e, A0, back⟩ := (A.slots r).call1 hi
  refine ⟨g, B', F, hp, by rw [ha, ho]; exact A0, e, fun hn x F' H' A' q => ?_, fun C c F' H' A' => ?_⟩
  · rw [hq] at A'
    have A2 := back A'
    rw [List.append_nil] at A2
    have e2 : Same F F' := by rw [← e]; exact A'.bs
    exact k (by rw [← he]; exact hn) x F' H' (A2.slots (A.sl.mono e2)) e2 (by rw [← hr]; exact q)
  · rw [hqe] at A'
    have A2 := back A'
    rw [List.append_nil] at A2
    have e2 : Same F F' := by rw [← e]; exact A'.bs
    exact kx C (by rw [← he]; exact c) F' H' (A2.slots (A.sl.mono e2))
theorem n_dropX {sp : Sp} (h : EA K Γ Os t ss Os1) (c : CaX K Os1 sp ss X err s Os2 OsE) (k1 : err = none → N K B Γ Os2 nx) (k2 : ∀ C, err = some C → N K B Γ OsE (fun _ H => X (.ref C) none H)) : N K B Γ Os (tDrop (tCall sp [] X t) ⟨nx, rt, bk, ct⟩) := fun F σ H A =>
  h B F σ H A _ fun xs F1 H1 A1 _ q1 => by
    show sp (xs ++ []) H1 _ X
    rw [List.append_nil]
    exact c B F1 Γ σ H1 xs A1 q1 _ (fun hn z F2 H2 A2 _ _ => k1 hn F2 σ H2 A2) fun C hC F2 H2 A2 => k2 C hC F2 σ H2 A2
theorem n_dropMX {sp : Sp} {C a : Addr} {m : Str} (ho : E K Γ Os ta (.v (.ref a)) Os1) (hi : InsD K Os1 C a m) (h : EA K Γ Os1 t ss Os2) (c : CaX K Os2 sp (.v (.ref a) :: ss) X err s Os3 OsE) (k1 : err = none → N K B Γ Os3 nx) (k2 : ∀ C, err = some C → N K B Γ OsE (fun _ H => X (.ref C) none H)) :
    N K B Γ Os (tDrop (tMeth C m sp [] X ta t) ⟨nx, rt, bk, ct⟩) := fun F σ H A => ho B F σ H A _ fun x F1 H1 A1 _ q1 => by
  obtain ⟨dx, fs, h1, h2⟩ := hi B F1 Γ σ H1 A1
  refine ⟨a, dx, fs, q1, h1, h2, h B F1 σ H1 A1 _ fun xs F2 H2 A2 e2 q2 => ?_⟩
  try rw [List.append_nil]
  exact c B F2 Γ σ H2 (x :: xs) A2 ⟨(q1.mono e2 : Rp K F2 x (.v (.ref a))), q2⟩ _ (fun hn z F3 H3 A3 _ _ => k1 hn F3 σ H3 A3) fun C hC F3 H3 A3 => k2 C hC F3 σ H3 A3
/-- an error goes on as ours -/
theorem n_err {B0 : Hp × Hp} {errG : Option Addr} {C : Addr} (kx : ∀ C', errG = some C' → ∀ F H, At K B0 F [] Oo [] H → X (.ref C') none H) (e : errG = some C) (o : Ole Os Oo) (hb : Bl B0 B) : N K B Γ Os (fun _ H => X (.ref C) none H) := fun F σ H A =>
  kx C e F H (((A.slots (Γ' := []) (σ' := []) trivial).ole o).rebase hb)
end
theorem isInt_of {d : PyData} (h : isIntD d = true) (h2 : (!isBoolD d) = true) : ∃ i, d = .int i := by
  cases d <;> simp [isIntD, isBoolD] at h h2
  exact ⟨_, rfl⟩
theorem isTup_of {d : PyData} (h : isTupD d = true) : ∃ ds, d = .tuple ds := by
  cases d <;> simp [isTupD] at h
  exact ⟨_, rfl⟩
theorem isLst_of {d : PyData} (h : isLstD d = true) : ∃ ds, d = .list ds := by
  cases d <;> simp [isLstD] at h
  exact ⟨_, rfl⟩
end Cw

namespace Cw
open PySem L2
/-! a promise that answers a list of its own, of these values -/
structure Pv (K : Fr) (G : Type) where
  pre : G → Prop
  args : G → List SD
  own : G → List Own
  res : G → List V
def Pv.sp {K : Fr} {G : Type} (p : Pv K G) : Sp := fun vs H Q X => ∃ (g : G) (B : Hp × Hp) (F : Hp), p.pre g ∧ At K B F (p.args g) (p.own g) (vs.map some) H ∧ B.1 = F ∧
  ((none : Option Addr) = none → ∀ a F' H', At K B F' [] (p.own g ++ [lstV a (p.res g)]) [] H' → Q (.ref a) H') ∧ True
theorem Pv.len {K : Fr} {G : Type} (p : Pv K G) {n : Nat} (h : ∀ g, (p.args g).length = n) : ∀ vs H Q X, p.sp vs H Q X → vs.length = n := fun vs H Q X ⟨g, B, F, _, A, _⟩ => by
  have := Sl.len A.sl
  rw [h, List.length_map] at this
  exact this.symm
def CaV (K : Fr) (Os : List Own) (sp : Sp) (ss : List SD) (ys : List V) (Os' : List Own) : Prop := ∀ (X : XK) (B : Hp × Hp) (F : Hp) (Γ : List SD) (σ : St) (H : Hp) (xs : List V), At K B F Γ Os σ H → Sl K F ss (xs.map some) → ∀ Q : VK,
  (∀ p F' H', At K B F' Γ (Os' ++ [lstV p ys]) σ H' → Same F F' → Q (.ref p) H') → sp xs H Q X
section
variable {K : Fr} {B : Hp × Hp} {Γ Γ' : List SD} {Os Os1 Os2 Os3 OsE Oo : List Own} {nx bk ct : L2.St → Hp → Prop} {rt : VK} {ta te : TE} {s : SD} {ss : List SD} {G : Type} {X : XK} {ys : List V} {t : TA} {P : St → Hp → Prop}
theorem cv1 {p : Pv K G} {O : Own} (i : Nat) (g : G) (hi : Os[i]? = some O) (hp : p.pre g) (ha : p.args g = ss) (ho : p.own g = [O]) (hr : p.res g = ys) : CaV K Os p.sp ss ys Os := fun X B F Γ σ H xs A r Q k => by
  obtain ⟨B', e, A0, back⟩ := (A.slots r).call1 hi
  refine ⟨g, B', F, hp, by rw [ha, ho]; exact A0, e, fun _ x F' H' A' => ?_, trivial⟩
  rw [ho, hr] at A'
  have A2 := back A'
  rw [set_self hi] at A2
  have e2 : Same F F' := by rw [← e]; exact A'.bs
  exact k x F' H' (A2.slots (A.sl.mono e2)) e2
theorem ev_meth {C a : Addr} {m : Str} {sp : Sp} (ho : E K Γ Os ta (.v (.ref a)) Os1) (hi : InsD K Os1 C a m) (h : EA K Γ Os1 t ss Os2) (hr : CaV K Os2 sp (.v (.ref a) :: ss) ys Os3) : EV K Γ Os (tMeth C m sp [] X ta t) ys Os3 := fun B F σ H A Q k =>
  ho B F σ H A _ fun x F1 H1 A1 e1 q1 => by
    obtain ⟨dx, fs, h1, h2⟩ := hi B F1 Γ σ H1 A1
    refine ⟨a, dx, fs, q1, h1, h2, h B F1 σ H1 A1 _ fun xs F2 H2 A2 e2 q2 => ?_⟩
    try rw [List.append_nil]
    exact hr X B F2 Γ σ H2 (x :: xs) A2 ⟨(q1.mono e2 : Rp K F2 x (.v (.ref a))), q2⟩ Q fun p F3 H3 A3 e3 => k p F3 H3 A3 ((e1.trans e2).trans e3)
/-- a new list of values stands still from now on -/
theorem At.freezeV {F H : Hp} {σ : St} {i : Nat} {p : Addr} {xs : List V} (A : At K B F Γ Os σ H) (hi : Os[i]? = some (lstV p xs)) : ∃ F', Same F F' ∧ At K B F' Γ (Os.set i emp) σ H ∧ F' p = some (.lst xs) := by
  obtain ⟨h, hp, s, d, k⟩ := A.touch hi
  have hp : h p = some (.lst xs) := hp
  have nf : F p = none := d.none hp
  refine ⟨upd F p (.lst xs), same_upd nf, k (h' := hp0) (same_upd nf) (fun a o e => ?_) trivial (same0 _) (dis0 _) (fun a o e _ => e) (fun a o e => nomatch e) (fun a o e z z2 => ?_), upd_same⟩
  · by_cases q : a = p
    · subst q; rw [upd_same] at e; cases e; exact s _ _ hp
    · rw [upd_ne q] at e; exact A.fr a o e
  · by_cases q : a = p
    · subst q; rw [hp] at z2; cases z2
    · rw [upd_ne q, z] at e; cases e
theorem At.lastV {F H : Hp} {σ : St} {p : Addr} {xs : List V} (A : At K B F Γ (Os ++ [lstV p xs]) σ H) : ∃ F', Same F F' ∧ At K B F' Γ Os σ H ∧ F' p = some (.lst xs) := by
  obtain ⟨F2, e2, A2, q⟩ := A.freezeV (i := Os.length) (p := p) (xs := xs) (by simp)
  have A3 := A2.take Os.length
  rw [take_set_app] at A3
  exact ⟨F2, e2, A3, q⟩
theorem it_newV {xs : List V} (h : EV K Γ Os te xs Os1) : IT K Γ Os (iList K te) xs.length (fun i => .v (xs[i]?.getD .non)) (fun _ => True) Os1 := fun B F σ H A R kk => h B F σ H A _ fun p F1 H1 A1 e1 => by
  obtain ⟨F2, e2, A2, q⟩ := A1.lastV
  refine ⟨p, rfl, ⟨xs, .inl (.inl (A2.fr _ _ q))⟩, kk _ F2 H1 A2 (e1.trans e2) fun B Γ Os σ F' H e A _ => ?_⟩
  have b1 : H p = some (.lst xs) := A.fr _ _ (e _ _ q)
  refine ⟨fun i hi => ⟨xs, xs[i], .inl (.inl b1), by simp⟩, ⟨xs, .inl (.inl b1), Nat.le_refl _⟩, fun i hi x H' y => ?_⟩
  obtain ⟨rfl, y⟩ := y
  have z := y xs (.inl (.inl b1))
  exact ⟨F', Same.refl _, A, by show x = xs[i]?.getD .non; rw [z]; rfl⟩
theorem e_lenV {xs : List V} (h : EV K Γ Os te xs Os1) : E K Γ Os (tCB (rLen K) (tCons te tNil)) (.d (.int xs.length)) Os1 := fun B F σ H A Q kk => h B F σ H A _ fun p F1 H1 A1 e1 => by
  obtain ⟨F2, e2, A2, q⟩ := A1.lastV
  exact ⟨p, xs, rfl, .inl (.inl (.inl (A2.fr _ _ q))), kk _ F2 H1 A2 (e1.trans e2) (.int _)⟩
theorem r_retV {xs : List V} {B0 : Hp × Hp} (h : EV K Γ Os te ys Os1) (kk : ∀ a F H, At K B0 F [] (Oo ++ [lstV a xs]) [] H → rt (.ref a) H) (e1 : ys = xs) (e2 : Os1 = Oo) (hb : Bl B0 B) : N K B Γ Os (tRet te ⟨nx, rt, bk, ct⟩) := fun F σ H A => h B F σ H A _ fun a F1 H1 A1 _ => by
  subst e1 e2
  exact kk a F1 H1 ((A1.slots (Γ' := []) (σ' := []) trivial).rebase hb)
theorem n_gam (e : Γ = Γ') (h : N K B Γ' Os P) : N K B Γ Os P := by rw [e]; exact h
theorem n_own (e : Os = Os1) (h : N K B Γ Os1 P) : N K B Γ Os P := by rw [e]; exact h
theorem n_fldNL {C a : Addr} {ks : List Str} {f : Str} {ds : List PyData} (i : Nat) (hv : EL K Γ Os te ds Os1) (ho : ∀ p, E K Γ (Os1 ++ [lst K p ds]) ta (.v (.ref a)) (Os1 ++ [lst K p ds])) (h : Os1[i]? = some (inst K C a ks ss)) (c : Cls K C) (na : NoAttr K C f) (hj : ixS ks f = none) (hk : ks.length < 1000)
    (k : ∀ p, N K B Γ ((Os1 ++ [lst K p ds]).set i (inst K C a (ks ++ [f]) (ss ++ [.v (.ref p)]))) nx) : N K B Γ Os (sFld K ta te f ⟨nx, rt, bk, ct⟩) := fun F σ H A => hv B F σ H A _ fun p F1 H1 A1 _ => ho p B F1 σ H1 A1 _ fun x F2 H2 A2 e2 r2 => by
  have h' : (Os1 ++ [lst K p ds])[i]? = some (inst K C a ks ss) := by rw [List.getElem?_append_left (List.getElem?_eq_some_iff.mp h).1]; exact h
  obtain ⟨dx, vs, h1, h2, h3, m⟩ := A2.getI h'
  refine ⟨a, C, dx, _, r2, h1, c, na, by rw [List.length_zip, ← h2]; omega, ?_⟩
  rw [zip_new ks vs f (.ref p) h2 hj]
  exact k p F2 σ _ (m (by simp [h2]) (sl_push (s := .v (.ref p)) rfl h3))
/-- a board is put together -/
theorem At.newBd {F H : Hp} {σ : St} {CB CJ b l sp : Addr} {bu pa : Int} (A : At K B F Γ [inst K CB b boardKs [.d (.int bu), .d (.int pa), .v (.ref l), .d (.int 0), .v (.ref sp)], lst K l [], lst K sp []] σ H) :
    At K B F Γ [Cw.bdx K CB CJ b ⟨bu, pa, [], 0, []⟩] σ H := by
  have M := (A.merge (i := 1) (n := 2) rfl rfl (by decide)).merge (i := 0) (n := 1) rfl rfl (by decide)
  have M1 := M.take 1
  refine M1.ole (.cons (fun F h q => ?_) .nil)
  obtain ⟨h1, h2, d, s1, s2, ⟨dx, vs, q1, q2, q3⟩, ⟨g1, g2, dd, t1, t2, ⟨xs, p1, p2⟩, ⟨ys, p3, p4⟩⟩⟩ := q
  cases p2
  cases p4
  refine ⟨(l, sp, []), ⟨dx, vs, s1 _ _ q1, q2, q3⟩, s2 _ _ (t1 _ _ p1), s2 _ _ (t2 _ _ p3), rfl, List.nodup_nil, fun z => ?_, (fun z => nomatch z), fun k j J e => by simp at e⟩
  have z : l = sp := z
  have := dd.none p1
  rw [z, p3] at this
  cases this
end
end Cw

/-! the board in plain Lean -/
namespace Cw
open PySem L2
def Jb.isOpen (J : Jb) : Bool := isNone (oD J.fin) && !J.gone
def lateB (t : Option Int) (now : Int) : Bool := match t with
  | none => false
  | some t => decide (t < now)
def raisedI (J : Jb) (now pat : Int) : Int := J.rank - J.idle / pat - 2 * (if lateB J.term now then 1 else 0)
def termK (t : Option Int) : Int := t.getD 10001
def jb0 : Jb := ⟨0, none, 0, [], [], 0, 0, none, true⟩
def Bd.jb (S : Bd) (k : Nat) : Jb := S.jobs[k]?.getD jb0
def Bd.rdy (S : Bd) (J : Jb) : Bool := J.isOpen && !decide (S.frames < J.start) && J.after.all fun o => !isNone (oD (S.jb o).fin)
def Bd.keyD (S : Bd) (k : Nat) : PyData := .tuple [.int (raisedI (S.jb k) S.frames S.patience), .int (termK (S.jb k).term), .int (k : Int)]
def Bd.leK (S : Bd) (k l : Nat) : Bool := PySem.W.dataLe false id (S.keyD k) (S.keyD l)
def Bd.ready (S : Bd) : List Nat := (List.range S.jobs.length).filter fun k => S.rdy (S.jb k)
def Bd.order (S : Bd) : List Nat := S.ready.mergeSort S.leK
def Jb.left (J : Jb) : Nat := J.parts.length - J.at_
def Bd.left (S : Bd) : Nat := (S.jobs.map Jb.left).sum
def Jb.part (J : Jb) : Int := J.parts[J.at_]?.getD 0
def Jb.go (J : Jb) (now : Int) : Jb := { J with at_ := J.at_ + 1, fin := if ((J.at_ + 1 : Nat) : Int) = (J.parts.length : Int) then some now else J.fin }
def Bd.set (S : Bd) (k : Nat) (J : Jb) : Bd := { S with jobs := S.jobs.set k J }
def Bd.step (S : Bd) (k : Nat) : Bd := S.set k ((S.jb k).go S.frames)
def Bd.fits (S : Bd) (r : Int) : List Nat := S.order.filter fun k => decide ((S.jb k).part ≤ r)
def runM : Nat → Bd → Int → List (Nat × Nat) → List Nat → Bd × Int × List (Nat × Nat)
  | 0, S, r, m, _ => (S, r, m)
  | _ + 1, S, r, m, [] => (S, r, m)
  | n + 1, S, r, m, k :: _ => runM n (S.step k) (r - (S.jb k).part) (m ++ [(k, (S.jb k).at_)]) ((S.step k).fits (r - (S.jb k).part))
def idleM (ran beg : List Nat) (k : Nat) (J : Jb) : Jb := if k ∈ ran then { J with idle := 0 } else if k ∈ beg then { J with idle := J.idle + 1 } else J
def Bd.run (S : Bd) : Bd × Int × List (Nat × Nat) := runM S.left S S.budget [] S.order
def Bd.frameS (S : Bd) : Bd := { S with jobs := S.run.1.jobs.mapIdx fun k J => idleM (S.run.2.2.map (·.1)) S.order k J, frames := S.frames + 1, spent := S.spent ++ [S.budget - S.run.2.1] }
def Bd.frameR (S : Bd) : List (Nat × Nat) := S.run.2.2
def partD (p : Nat × Nat) : PyData := .tuple [.int (p.1 : Int), .int (p.2 : Int)]

structure JbOk (bu : Int) (k : Nat) (J : Jb) : Prop where
  aft : ∀ o ∈ J.after, o < k
  len : 1 ≤ J.parts.length ∧ J.parts.length ≤ 8
  parts : ∀ p ∈ J.parts, 1 ≤ p ∧ p ≤ bu
  at_ : J.at_ ≤ J.parts.length
  fin : J.fin = none ↔ J.at_ < J.parts.length
  idle : 0 ≤ J.idle
  aftn : J.after.length ≤ 20
structure Bd.Ok (S : Bd) : Prop where
  bu : 1 ≤ S.budget ∧ S.budget ≤ 50
  pa : 1 ≤ S.patience ∧ S.patience ≤ 20
  job : ∀ (k : Nat) (J : Jb), S.jobs[k]? = some J → JbOk S.budget k J
  n : S.jobs.length ≤ 10000
  fr : 0 ≤ S.frames
  sp : S.spent.length ≤ 100000

theorem Bd.jb_of {S : Bd} {k : Nat} {J : Jb} (h : S.jobs[k]? = some J) : S.jb k = J := by unfold Bd.jb; rw [h]; rfl
theorem Bd.jb_get {S : Bd} {k : Nat} (h : k < S.jobs.length) : S.jobs[k]? = some (S.jb k) := by unfold Bd.jb; rw [List.getElem?_eq_getElem h]; rfl
theorem leK_eq (S : Bd) (k l : Nat) : S.leK k l = decide (raisedI (S.jb k) S.frames S.patience < raisedI (S.jb l) S.frames S.patience ∨
    (raisedI (S.jb k) S.frames S.patience = raisedI (S.jb l) S.frames S.patience ∧ (termK (S.jb k).term < termK (S.jb l).term ∨ (termK (S.jb k).term = termK (S.jb l).term ∧ k ≤ l)))) := by
  have e3 : ∀ (a b c a' b' c' : Int), PySem.W.dataLt (.tuple [.int a, .int b, .int c]) (.tuple [.int a', .int b', .int c']) = decide (a < a' ∨ (a = a' ∧ (b < b' ∨ (b = b' ∧ c < c')))) := by
    intro a b c a' b' c'
    rw [PySem.W.dataLt_tuple, PySem.W.dataLt_cons (by simp [PySem.W.alike]), PySem.W.dataLt_cons (by simp [PySem.W.alike]), PySem.W.dataLt_cons (by simp [PySem.W.alike])]
    have e : PyProof.Rows.lexLt PyProof.Rows.itemOrd (PySem.W.keyToksAll []) (PySem.W.keyToksAll []) = false := PyProof.Rows.lex_irrefl _
    rw [e, PySem.W.dataLt_int, PySem.W.dataLt_int, PySem.W.dataLt_int]
    simp only [PyData.eqv, beq_iff_eq]
    by_cases h1 : a = a' <;> by_cases h2 : b = b' <;> by_cases h3 : c = c' <;> simp [h1, h2, h3]
  show (!PySem.W.dataLt (S.keyD l) (S.keyD k)) = _
  unfold Bd.keyD
  rw [e3]
  generalize raisedI (S.jb k) S.frames S.patience = x
  generalize raisedI (S.jb l) S.frames S.patience = y
  generalize termK (S.jb k).term = u
  generalize termK (S.jb l).term = v
  by_cases h : x < y ∨ (x = y ∧ (u < v ∨ (u = v ∧ k ≤ l)))
  · rw [decide_eq_true h, decide_eq_false (by omega)]; rfl
  · rw [decide_eq_false h, decide_eq_true (by omega)]; rfl
theorem leK_trans (S : Bd) (a b c : Nat) : S.leK a b = true → S.leK b c = true → S.leK a c = true := by
  rw [leK_eq, leK_eq, leK_eq]
  simp only [decide_eq_true_eq]
  omega
theorem leK_total (S : Bd) (a b : Nat) : (S.leK a b || S.leK b a) = true := by
  rw [leK_eq, leK_eq, Bool.or_eq_true, decide_eq_true_eq, decide_eq_true_eq]
  omega
theorem mem_order {S : Bd} {k : Nat} : k ∈ S.order ↔ k < S.jobs.length ∧ S.rdy (S.jb k) = true := by
  unfold Bd.order Bd.ready
  rw [List.mem_mergeSort, List.mem_filter, List.mem_range]
theorem order_len (S : Bd) : S.order.length ≤ S.jobs.length := by
  unfold Bd.order Bd.ready
  rw [List.length_mergeSort]
  exact Nat.le_trans (List.length_filter_le _ _) (by simp)
theorem order_nodup (S : Bd) : S.order.Nodup := (List.mergeSort_perm _ _).nodup_iff.mpr (List.nodup_range.filter _)
theorem order_sorted (S : Bd) : S.order.Pairwise fun a b => S.leK a b = true := List.pairwise_mergeSort (leK_trans S) (leK_total S) _
theorem keys_sorted (S : Bd) (l : List Nat) : (l.map S.keyD).mergeSort (PySem.W.dataLe false id) = (l.mergeSort S.leK).map S.keyD :=
  (List.map_mergeSort (f := S.keyD) (r := S.leK) (s := PySem.W.dataLe false id) (fun a _ b _ => rfl)).symm
theorem rdy_open {S : Bd} {J : Jb} (h : S.rdy J = true) : J.fin = none ∧ J.gone = false := by
  unfold Bd.rdy Jb.isOpen at h
  simp only [Bool.and_eq_true] at h
  obtain ⟨⟨⟨h1, h2⟩, _⟩, _⟩ := h
  constructor
  · cases e : J.fin with
    | none => rfl
    | some x => rw [e] at h1; cases h1
  · simpa using h2
theorem set_ok {S : Bd} {k : Nat} {J : Jb} (h : S.Ok) (j : JbOk S.budget k J) : (S.set k J).Ok := ⟨h.bu, h.pa, fun l J' e => by
    unfold Bd.set at e
    dsimp only at e
    by_cases z : k = l
    · subst z
      by_cases lt : k < S.jobs.length
      · rw [List.getElem?_set_self lt] at e; cases e; exact j
      · rw [List.set_eq_of_length_le (by omega)] at e; exact h.job _ _ e
    · rw [List.getElem?_set_ne z] at e; exact h.job _ _ e, by unfold Bd.set; simpa using h.n, h.fr, h.sp⟩
theorem go_ok {bu : Int} {k : Nat} {J : Jb} (now : Int) (h : JbOk bu k J) (hf : J.fin = none) : JbOk bu k (J.go now) := by
  have lt := h.fin.mp hf
  refine ⟨h.aft, h.len, h.parts, by show J.at_ + 1 ≤ J.parts.length; omega, ?_, h.idle, h.aftn⟩
  show (if ((J.at_ + 1 : Nat) : Int) = (J.parts.length : Int) then some now else J.fin) = none ↔ J.at_ + 1 < J.parts.length
  by_cases z : ((J.at_ + 1 : Nat) : Int) = (J.parts.length : Int)
  · rw [if_pos z]
    constructor
    · intro q; cases q
    · intro q; omega
  · rw [if_neg z]
    constructor
    · intro _; omega
    · intro _; exact hf
theorem step_ok {S : Bd} {k : Nat} (h : S.Ok) (hk : k ∈ S.order) : (S.step k).Ok := by
  obtain ⟨lt, r⟩ := mem_order.mp hk
  exact set_ok h (go_ok _ (h.job k _ (Bd.jb_get lt)) (rdy_open r).1)
theorem sum_set_lt : ∀ {l : List Nat} {k a b : Nat}, l[k]? = some a → b < a → (l.set k b).sum < l.sum
  | [], _, _, _, e, _ => by simp at e
  | x :: l, 0, a, b, e, h => by simp at e; subst e; simp; omega
  | x :: l, k + 1, a, b, e, h => by
    have := sum_set_lt (l := l) (k := k) (by simpa using e) h
    simp; omega
theorem step_left {S : Bd} {k : Nat} (h : S.Ok) (hk : k ∈ S.order) : (S.step k).left < S.left := by
  obtain ⟨lt, r⟩ := mem_order.mp hk
  have j := h.job k _ (Bd.jb_get lt)
  have l1 := j.fin.mp (rdy_open r).1
  unfold Bd.left Bd.step Bd.set
  dsimp only
  rw [List.map_set]
  refine sum_set_lt (a := (S.jb k).left) (by rw [List.getElem?_map, Bd.jb_get lt]; rfl) ?_
  unfold Jb.left Jb.go
  dsimp only
  omega
end Cw

namespace Cw
open PySem L2
section
variable {K : Fr} {B : Hp × Hp} {Γ : List SD} {Os Os1 Os2 Os3 OsE Oo : List Own} {nx bk ct : L2.St → Hp → Prop} {rt : VK} {ta te : TE} {s : SD} {ss : List SD} {G : Type} {X : XK} {ys : List V} {t : TA} {ds : List PyData}
/-- reads one owned thing -/
def roP (pre : G → Prop) (args : G → List SD) (O : G → Own) (res : G → SD) : Pm K G := ⟨pre, args, fun g => [O g], res, fun g => [O g], fun _ => none, fun _ => []⟩
theorem ca1s {p : Pm K G} {O : Own} (i : Nat) (g : G) (hi : Os[i]? = some O) (hp : p.pre g) (he : p.err g = none) (ha : p.args g = ss) (ho : p.own g = [O]) (hq : p.out g = [O]) (hr : p.res g = s) : CaD K Os p.sp ss s Os := by
  have := ca1 (s := s) (ss := ss) (O' := O) i g hi hp he ha ho hq hr
  rw [set_self hi] at this
  exact this
def roL (pre : G → Prop) (args : G → List SD) (O : G → Own) (res : G → List PyData) : Pl K G := ⟨pre, args, fun g => [O g], res, fun g => [O g], fun _ => none, fun _ => []⟩
theorem cl1s {p : Pl K G} {O : Own} (i : Nat) (g : G) (hi : Os[i]? = some O) (hp : p.pre g) (he : p.err g = none) (ha : p.args g = ss) (ho : p.own g = [O]) (hq : p.out g = [O]) (hr : p.res g = ds) : CaL K Os p.sp ss ds Os := by
  have := cl1 (ds := ds) (ss := ss) (O' := O) i g hi hp he ha ho hq hr
  rw [set_self hi] at this
  exact this
theorem cx1s {p : Pm K G} {O : Own} {err : Option Addr} (i : Nat) (g : G) (hi : Os[i]? = some O) (hp : p.pre g) (ha : p.args g = ss) (ho : p.own g = [O]) (hq : p.out g = [O]) (hqe : p.outE g = [O]) (hr : p.res g = s) (he : p.err g = err) : CaX K Os p.sp ss X err s Os Os := by
  have := cx1 (X := X) (s := s) (ss := ss) (O' := O) (OE := O) i g hi hp ha ho hq hqe hr he
  rw [set_self hi] at this
  exact this
theorem caX_D {sp : Sp} {err : Option Addr} (h : ∀ X, CaX K Os sp ss X err s Os1 OsE) (e : err = none) : CaD K Os sp ss s Os1 := fun X B F Γ σ H xs A r Q k => h X B F Γ σ H xs A r Q (fun _ => k) fun C hC => by rw [e] at hC; cases hC
end
theorem n_when {K : Fr} {B : Hp × Hp} {Γ : List SD} {Os Os1 : List Own} {nx bk ct : L2.St → Hp → Prop} {rt : VK} {tt : TT} {t : TS} {b : Bool} (h : ET K Γ Os tt b Os1) (h1 : b = true → N K B Γ Os1 (t ⟨nx, rt, bk, ct⟩)) (h2 : b = false → N K B Γ Os1 nx) : N K B Γ Os (tIfS tt t tNext ⟨nx, rt, bk, ct⟩) := n_if h h1 h2
theorem n_fldN2 {K : Fr} {B : Hp × Hp} {Γ : List SD} {Os Os1 Os2 : List Own} {nx bk ct : L2.St → Hp → Prop} {rt : VK} {ta te : TE} {s : SD} {C a : Addr} {ks : List Str} {ss : List SD} {f : Str} (ks' : List Str) (ss' : List SD) (i : Nat) (hv : E K Γ Os te s Os1) (ho : E K Γ Os1 ta (.v (.ref a)) Os2) (h : Os2[i]? = some (inst K C a ks ss)) (c : Cls K C) (na : NoAttr K C f) (hj : ixS ks f = none) (hk : ks.length < 1000) (e1 : ks ++ [f] = ks') (e2 : ss ++ [s] = ss')
    (k : N K B Γ (Os2.set i (inst K C a ks' ss')) nx) : N K B Γ Os (sFld K ta te f ⟨nx, rt, bk, ct⟩) := n_fldN i hv ho h c na hj hk (by rw [e1, e2]; exact k)
theorem js_get {K : Fr} {CB CJ : Addr} {a : BA} {S : Bd} {B : Hp × Hp} {F H : Hp} {Γ : List SD} {Os : List Own} {σ : L2.St} {i k : Nat} (A : At K B F Γ Os σ H) (h : Os[i]? = some (bd K CB CJ a S)) (hk : k < S.jobs.length) : a.js[k]? = some (a.js[k]?.getD 0) := by
  have l := (A.bdIn h).len
  rw [List.getElem?_eq_getElem (by omega)]; rfl
theorem dep_keys (S : Bd) (l : List Nat) : ∀ d, d ∈ l.map S.keyD → d.depth ≤ 60 := fun d hd => by
  obtain ⟨k, _, rfl⟩ := List.mem_map.mp hd
  show PyData.depth (.tuple _) ≤ 60
  simp [PyData.depth, PyData.depthAll]
end Cw

namespace Cw
open PySem L2
theorem map_getD {α β : Type} {l : List α} {f : α → β} {d : β} {i : Nat} (h : i < l.length) : (l.map f)[i]?.getD d = f l[i] := by simp [h]
theorem range_get {α β : Type} (l : List α) (g : α → β) (d : α) : (List.range l.length).map (fun i => g (l[i]?.getD d)) = l.map g := by
  refine List.ext_getElem? fun i => ?_
  by_cases h : i < l.length
  · simp [h]
  · simp [h]
theorem filt_true {α : Type} (l : List α) : l.filter (fun _ => true) = l := List.filter_eq_self.mpr fun _ _ => rfl
abbrev jr (a : BA) (k : Nat) : V := .ref (a.js[k]?.getD 0)
theorem js_of {a : BA} {S : Bd} (hl : a.js.length = S.jobs.length) {k : Nat} (h : k < S.jobs.length) : a.js[k]? = some (a.js[k]?.getD 0) ∧ S.jobs[k]? = some (S.jb k) := by
  refine ⟨?_, Bd.jb_get h⟩
  rw [List.getElem?_eq_getElem (by omega)]; rfl
def intD : PyData → Int
  | .int i => i
  | _ => 0
section
variable {K : Fr} {B : Hp × Hp} {Γ : List SD} {Os Os1 : List Own} {te : TE} {P : L2.St → Hp → Prop} {CB CJ b l sp : Addr} {bu pa : Int}
theorem n_newBd (h : N K B Γ [bdx K CB CJ b ⟨bu, pa, [], 0, []⟩] P) : N K B Γ [inst K CB b boardKs [.d (.int bu), .d (.int pa), .v (.ref l), .d (.int 0), .v (.ref sp)], lst K l [], lst K sp []] P := fun F σ H A => h F σ H A.newBd
theorem keys_alike (S : Bd) (ls : List Nat) : PySem.W.AllAlike (ls.map S.keyD) := PySem.W.AllAlike.of fun a b => by simp [Bd.keyD, PySem.W.alike, PySem.W.alikeAll]
theorem keys_sortable (S : Bd) (ls : List Nat) : PySem.W.Sortable (ls.map S.keyD) := PySem.W.Sortable.tuples fun b => ⟨_, _, rfl⟩
end
end Cw

namespace Cw
open PySem L2
section
variable {X : Cx} {K : Fr}
theorem ixK (h : X.K = K) : IxR X (rIx K) := h ▸ ix_seq
theorem addK (h : X.K = K) : OpR X (binaryOp .Add) (addU K) := h ▸ op_addU
theorem mulK (h : X.K = K) : OpR X (binaryOp .Mult) (mulU K) := h ▸ op_mulU
theorem eqK (h : X.K = K) (hu : X.A.units + 64 < cLine) : OpR X (compareOp .Eq) (rEqD K) := h ▸ op_eqD hu
theorem neK (h : X.K = K) (hu : X.A.units + 64 < cLine) : OpR X (compareOp .NotEq) (neU K) := h ▸ op_neU hu
theorem inK (h : X.K = K) (hu : X.A.units + 65 < cLine) : OpR X (compareOp .In) (inU K) := h ▸ op_inU hu
theorem ninK (h : X.K = K) (hu : X.A.units + 65 < cLine) : OpR X (compareOp .NotIn) (ninU K) := h ▸ op_ninU hu
theorem lenK (h : X.K = K) : CallR X (.builtin "len") (rLen K) := h ▸ cr_len
theorem allK (h : X.K = K) (hc : X.calm = true) : CallR X (.builtin "all") (rAll K) := h ▸ cr_all hc
theorem anyK (h : X.K = K) (hc : X.calm = true) : CallR X (.builtin "any") (rAny K) := h ▸ cr_any hc
theorem sumK (h : X.K = K) (hc : X.calm = true) : CallR X (.builtin "sum") (rSum K) := h ▸ cr_sum hc
theorem maxK (h : X.K = K) (hc : X.calm = true) : CallR X (.builtin "max") (rMax K) := h ▸ cr_max hc
theorem minK (h : X.K = K) (hc : X.calm = true) : CallR X (.builtin "min") (rMin K) := h ▸ cr_min hc
theorem sortK (h : X.K = K) (hu : X.A.units + 64 < cLine) : CallR X (.builtin "sorted") (rSortD K) := h ▸ cr_sortD hu
theorem listK (h : X.K = K) : CallR X (.type "list") (rListOf K) := h ▸ cr_list
theorem tupleK (h : X.K = K) : CallR X (.type "tuple") (rTupOf K) := h ▸ cr_tuple
theorem isiK (h : X.K = K) : CallR X (.builtin "isinstance") (rIsi K) := h ▸ call_isi
theorem slK (h : X.K = K) : SlR X (rSlU K) := h ▸ sl_U
theorem fldK {e : Expr} {f : Str} {pos : Pos} {ta : TE} (h : X.K = K) (he : PE X e ta) (hb : attributeBase e f X.env (eval e X.env) = eval e X.env) : PE X (.Attribute e f pos) (tFld K ta f) := h ▸ pe_fld he hb
end
end Cw

namespace Cw
open PySem L2
section
variable {K : Fr} {CB CJ : Addr} {a : BA} {S : Bd} {B : Hp × Hp} {F H : Hp} {Γ Γ' : List SD} {Os Os' Os1 Os2 Oo : List Own} {σ : L2.St} {nx bk ct : L2.St → Hp → Prop} {rt : VK} {ta te : TE} {s : SD} {i k : Nat} {j : Addr} {J : Jb} {ds : List PyData} {Q : VK} {P : L2.St → Hp → Prop} {tt : TT} {t : TS}
theorem At.mv {O1 : Own} {j : Nat} (A : At K B F Γ Os σ H) (e : Ole Os Oo) (hj : Os[j]? = some (O1)) (hl : Oo.length ≤ j) : At K B F Γ (Oo ++ [O1]) σ H := by
  obtain ⟨hs, h1, h2, h3, h4, h5⟩ := A.ow
  refine ⟨A.sl, A.bs, A.fr, A.rs, A.rf, fun i => if i < Oo.length then hs i else if i = Oo.length then hs j else hp0, fun i O' q => ?_, fun i => ?_, fun i => ?_, fun i l ne => ?_, fun i => ?_⟩
  · by_cases z : i < Oo.length
    · rw [List.getElem?_append_left z] at q
      obtain ⟨O, q1, q2⟩ := e.at q
      simp only [if_pos z]
      exact q2 _ _ (h1 i O q1)
    · have lt := (List.getElem?_eq_some_iff.mp q).1
      rw [List.length_append, List.length_singleton] at lt
      have ei : i = Oo.length := by omega
      subst ei
      simp at q; subst q
      simp only [if_neg z, if_pos]
      exact h1 j _ hj
  · dsimp only
    split
    · exact h2 _
    · split
      · exact h2 _
      · exact same0 _
  · dsimp only
    split
    · exact h3 _
    · split
      · exact h3 _
      · exact dis0 _
  · dsimp only
    split
    · split
      · exact h4 _ _ ne
      · split
        · exact h4 _ _ (by omega)
        · exact (dis0 _).symm
    · split
      · split
        · exact h4 _ _ (by omega)
        · split
          · omega
          · exact (dis0 _).symm
      · exact dis0 _
  · dsimp only
    split
    · exact h5 _
    · split
      · exact h5 _
      · exact dis0 _

theorem n_mv {O1 : Own} (j : Nat) (Oo : List Own) (e : Ole Os Oo) (hj : Os[j]? = some O1) (hl : Oo.length ≤ j) (h : N K B Γ (Oo ++ [O1]) P) : N K B Γ Os P := fun F σ H A => h F σ H (A.mv e hj hl)
/-- both ways lead to one place -/
theorem n_whenJ {b : Bool} (h : ET K Γ Os tt b Os1) (k : N K B Γ' Os' nx) (h1 : b = true → N K B Γ' Os' nx → N K B Γ Os1 (t ⟨nx, rt, bk, ct⟩)) (h2 : b = false → N K B Γ' Os' nx → N K B Γ Os1 nx) : N K B Γ Os (tIfS tt t tNext ⟨nx, rt, bk, ct⟩) := n_when h (fun hb => h1 hb k) (fun hb => h2 hb k)
end
theorem tgK {X : Cx} {K : Fr} {es : List Expr} {k : Nat} {t : TGs} (n : Nat) {pos : Pos} (hK : X.K = K) (hc : X.calm = true) (h : PGs X es t)
    (hn : (assignEach es X.env).length = n := by rfl) (hst : (assignEach es X.env).findIdx? (·.1) = none := by rfl) : PG X (.Tuple es k pos) (gTup K n t) := hK ▸ pg_tup hc h hn hst
theorem it_item {K : Fr} {Γ : List SD} {Os Os1 : List Own} {wi : TI} {n : Nat} {item item' : Nat → SD} {C : List Own → Prop} (h : IT K Γ Os wi n item C Os1) (e : ∀ i, i < n → item i = item' i) : IT K Γ Os wi n item' C Os1 := fun B F σ H A R k =>
  h B F σ H A R fun J F' H' A' e' ok => k J F' H' A' e' fun B Γ Os σ F2 H2 z A2 c => by
    obtain ⟨o1, o2, o3⟩ := ok B Γ Os σ F2 H2 z A2 c
    exact ⟨o1, o2, fun i hi x H3 y => by rw [← e i hi]; exact o3 i hi x H3 y⟩
theorem at0 {α : Type} {x : α} {xs : List α} : atI (x :: xs) 0 = some x := atI_nat (j := 0) rfl
theorem upto0 {α : Type} (l : List α) (f : Nat → α → α) : (l.mapIdx fun k x => if k < 0 then f k x else x) = l := by
  refine List.ext_getElem? fun i => ?_
  rw [List.getElem?_mapIdx]
  cases l[i]? <;> simp
theorem upto_at {α : Type} (l : List α) (f : Nat → α → α) (i : Nat) : (l.mapIdx fun k x => if k < i then f k x else x)[i]? = l[i]? := by
  rw [List.getElem?_mapIdx]
  cases l[i]? <;> simp
theorem upto_set {α : Type} (l : List α) (f : Nat → α → α) (i : Nat) (x : α) (h : l[i]? = some x) : (l.mapIdx fun k x => if k < i then f k x else x).set i (f i x) = l.mapIdx fun k x => if k < i + 1 then f k x else x := by
  refine List.ext_getElem? fun j => ?_
  have li := (List.getElem?_eq_some_iff.mp h).1
  by_cases z : i = j
  · subst z
    rw [List.getElem?_set_self (by simpa using li), List.getElem?_mapIdx, h]
    simp
  · rw [List.getElem?_set_ne z, List.getElem?_mapIdx, List.getElem?_mapIdx]
    cases l[j]? with
    | none => rfl
    | some y =>
      show some (if j < i then f j y else y) = some (if j < i + 1 then f j y else y)
      by_cases q : j < i
      · rw [if_pos q, if_pos (by omega)]
      · rw [if_neg q, if_neg (by omega)]
theorem upto_end {α : Type} (l : List α) (f : Nat → α → α) (i : Nat) (h : l.length ≤ i) : (l.mapIdx fun k x => if k < i then f k x else x) = l.mapIdx f := by
  refine List.ext_getElem? fun j => ?_
  rw [List.getElem?_mapIdx, List.getElem?_mapIdx]
  cases q : l[j]? with
  | none => rfl
  | some y =>
    have lj := (List.getElem?_eq_some_iff.mp q).1
    show some (if j < i then f j y else y) = some (f j y)
    rw [if_pos (by omega)]
theorem cx_bdx {K : Fr} {CB CJ b : Addr} {S S' : Bd} {Os : List Own} {sp : Sp} {ss : List SD} {X : XK} {err : Option Addr} {s : SD} (i : Nat) (h : Os[i]? = some (bdx K CB CJ b S)) (c : ∀ a : BA, a.b = b → CaX K (Os.set i (bd K CB CJ a S)) sp ss X err s (Os.set i (bdx K CB CJ b S')) (Os.set i (bdx K CB CJ b S))) :
    CaX K Os sp ss X err s (Os.set i (bdx K CB CJ b S')) Os := fun B F Γ σ H xs A r Q k1 k2 => by
  obtain ⟨a, e, A'⟩ := A.bdx h
  refine c a e B F Γ σ H xs A' r Q k1 fun C hC F2 H2 A2 => k2 C hC F2 H2 ?_
  rw [set_self h] at A2
  exact A2
theorem ca_bdxR {K : Fr} {CB CJ b : Addr} {S : Bd} {Os : List Own} {sp : Sp} {ss : List SD} {s : SD} (i : Nat) (h : Os[i]? = some (bdx K CB CJ b S)) (c : ∀ a : BA, a.b = b → CaD K (Os.set i (bd K CB CJ a S)) sp ss s (Os.set i (bd K CB CJ a S))) : CaD K Os sp ss s Os := by
  have := ca_bdx i h c
  rw [set_self h] at this
  exact this
theorem cl_bdxR {K : Fr} {CB CJ b : Addr} {S : Bd} {Os : List Own} {sp : Sp} {ss : List SD} {ds : List PyData} (i : Nat) (h : Os[i]? = some (bdx K CB CJ b S)) (c : ∀ a : BA, a.b = b → CaL K (Os.set i (bd K CB CJ a S)) sp ss ds (Os.set i (bd K CB CJ a S))) : CaL K Os sp ss ds Os := by
  have := cl_bdx i h c
  rw [set_self h] at this
  exact this
theorem cx_bdxR {K : Fr} {CB CJ b : Addr} {S : Bd} {Os : List Own} {sp : Sp} {ss : List SD} {X : XK} {err : Option Addr} {s : SD} (i : Nat) (h : Os[i]? = some (bdx K CB CJ b S)) (c : ∀ a : BA, a.b = b → CaX K (Os.set i (bd K CB CJ a S)) sp ss X err s (Os.set i (bd K CB CJ a S)) (Os.set i (bd K CB CJ a S))) : CaX K Os sp ss X err s Os Os := fun B F Γ σ H xs A r Q k1 k2 => by
  obtain ⟨a, rfl, A'⟩ := A.bdx h
  have e : Ole (Os.set i (bd K CB CJ a S)) Os := by
    have := ole_set (bd_bdx (K := K) (CB := CB) (CJ := CJ) (a := a) (S := S)) Os i
    rw [set_self h] at this
    exact this
  exact c a rfl B F Γ σ H xs A' r Q (fun n z F2 H2 A2 e2 q2 => k1 n z F2 H2 (A2.ole e) e2 q2) fun C hC F2 H2 A2 => k2 C hC F2 H2 (A2.ole e)
/-! a job comes -/
inductive Ek | noJob | noNum | over | full | noCount
def natD : PyData → Nat
  | .int i => i.toNat
  | _ => 0
def optD : PyData → Option Int
  | .int i => some i
  | _ => none
def tupL : PyData → List PyData
  | .tuple ds => ds
  | _ => []
def Bd.addS (S : Bd) (J : Jb) : Bd := { S with jobs := S.jobs ++ [J] }
theorem range_getF {α β : Type} (l : List α) (p : α → Bool) (g : α → β) (d : α) : ((List.range l.length).filter (fun i => p (l[i]?.getD d))).map (fun i => g (l[i]?.getD d)) = (l.filter p).map g := by
  have e : (List.range l.length).map (fun i => l[i]?.getD d) = l := by
    have := range_get l (fun x => x) d
    rw [List.map_id'] at this
    exact this
  conv => rhs; rw [← e]
  rw [List.filter_map, List.map_map]
  rfl
/-! the run of a frame -/
theorem runM_ind (P : Bd → Prop) (hs : ∀ S k, P S → k ∈ S.order → P (S.step k)) : ∀ (n : Nat) (S : Bd) (r : Int) (m : List (Nat × Nat)) (o : List Nat), P S → (∀ k ∈ o, k ∈ S.order) → P (runM n S r m o).1
  | 0, S, r, m, o, h, _ => h
  | _ + 1, S, r, m, [], h, _ => h
  | n + 1, S, r, m, k :: o, h, ho => runM_ind P hs n _ _ _ _ (hs S k h (ho k (by simp))) fun l hl => (List.mem_filter.mp hl).1
structure Bd.Alike (S S' : Bd) : Prop where
  bu : S'.budget = S.budget
  pa : S'.patience = S.patience
  fr : S'.frames = S.frames
  sp : S'.spent = S.spent
  n : S'.jobs.length = S.jobs.length
theorem Bd.Alike.refl (S : Bd) : S.Alike S := ⟨rfl, rfl, rfl, rfl, rfl⟩
theorem Bd.Alike.step {S S' : Bd} (h : S.Alike S') (k : Nat) : S.Alike (S'.step k) := ⟨h.bu, h.pa, h.fr, h.sp, by
  have := h.n
  unfold Bd.step Bd.set
  simpa using this⟩
theorem run_ok {S : Bd} (h : S.Ok) : S.run.1.Ok ∧ S.Alike S.run.1 := runM_ind (fun S' => S'.Ok ∧ S.Alike S') (fun S' k h hk => ⟨step_ok h.1 hk, h.2.step k⟩) _ _ _ _ _ ⟨h, .refl S⟩ fun _ h => h
theorem idle_ok {bu : Int} {k : Nat} {J : Jb} (ran beg : List Nat) (h : JbOk bu k J) : JbOk bu k (idleM ran beg k J) := by
  unfold idleM
  split
  · exact ⟨h.aft, h.len, h.parts, h.at_, h.fin, Int.le_refl _, h.aftn⟩
  · split
    · exact ⟨h.aft, h.len, h.parts, h.at_, h.fin, by have := h.idle; show 0 ≤ J.idle + 1; omega, h.aftn⟩
    · exact h
theorem frame_ok {S : Bd} (h : S.Ok) (hs : S.spent.length < 100000) : S.frameS.Ok := by
  obtain ⟨ok, al⟩ := run_ok h
  refine ⟨h.bu, h.pa, fun k J e => ?_, ?_, ?_, ?_⟩
  · unfold Bd.frameS at e
    dsimp only at e
    rw [List.getElem?_mapIdx] at e
    cases q : S.run.1.jobs[k]? with
    | none => rw [q] at e; cases e
    | some J0 =>
      rw [q] at e
      cases e
      have := ok.job k J0 q
      rw [al.bu] at this
      exact idle_ok _ _ this
  · unfold Bd.frameS
    dsimp only
    rw [List.length_mapIdx, al.n]
    exact h.n
  · have := h.fr
    show 0 ≤ S.frames + 1
    omega
  · show (S.spent ++ [_]).length ≤ 100000
    rw [List.length_append, List.length_singleton]
    omega
theorem left_le {S : Bd} (h : S.Ok) : S.left ≤ 8 * S.jobs.length := by
  have : ∀ l : List Jb, (∀ J ∈ l, J.parts.length ≤ 8) → (l.map Jb.left).sum ≤ 8 * l.length := by
    intro l
    induction l with
    | nil => intro _; simp
    | cons J l ih =>
      intro hl
      have h1 := hl J (by simp)
      have h2 := ih fun J hJ => hl J (by simp [hJ])
      simp only [List.map_cons, List.sum_cons, List.length_cons]
      unfold Jb.left at *
      omega
  refine this _ fun J hJ => ?_
  obtain ⟨k, hk⟩ := List.mem_iff_getElem?.mp hJ
  exact (h.job k J hk).len.2
theorem inD_ints (l : List Nat) (k : Nat) : inD (.int (k : Int)) (l.map fun (n : Nat) => .int (n : Int)) = decide (k ∈ l) := by
  unfold inD
  rw [List.any_map]
  induction l with
  | nil => simp
  | cons x l ih =>
    rw [List.any_cons, ih]
    simp only [Function.comp, PyData.eqv]
    by_cases z : k = x
    · subst z; simp
    · have : ¬ ((x : Int) = (k : Int)) := by omega
      simp [z, this]
theorem shaped_ints (l : List Nat) : SeqAt.shaped (.list (l.map fun (n : Nat) => .int (n : Int))) = true := by
  unfold SeqAt.shaped
  simp only [Bool.and_eq_true, decide_eq_true_eq]
  have hd : PyData.depthAll (l.map fun (n : Nat) => PyData.int (n : Int)) ≤ 1 := by
    induction l with
    | nil => simp [PyData.depthAll]
    | cons x l ih => simp [PyData.depthAll, PyData.depth] at *; try omega
  have hc : PyData.canLayAll0 (l.map fun (n : Nat) => PyData.int (n : Int)) = true := by
    clear hd
    induction l with
    | nil => simp [PyData.canLayAll0]
    | cons x l ih => simp [PyData.canLayAll0, PyData.canLay0, ih]
  constructor
  · simp [PyData.canLay0, hc]
  · simp [PyData.depth]; omega
end Cw

namespace Cw
open PySem L2
/-! the law's end -/
def spL (K : Fr) : Pm K (List Int) := pureP (fun ns => ns.length ≤ 63) (fun ns => [.d (lstI ns)]) (fun _ => .d (.bool true))
theorem spL_in {K : Fr} {H : Hp} {a : Addr} {ns : List Int} (hl : ns.length ≤ 63) (hS : SqL K H a (ns.map V.int)) : (spL K).sp [.ref a] H (fun v _ => v = .bl true) fun _ _ _ => False := by
  refine ⟨ns, (H, hp0), H, hl, ⟨⟨.lst hS (dps_ints ns), trivial⟩, Same.refl H, Same.refl H, same0 H, dis0 H, fun _ => hp0, fun i O h => ?_, fun _ => same0 H, fun _ => dis0 H, fun _ _ _ => dis0 _, fun _ => dis0 _⟩, rfl, fun _ x F' H' _ q => ?_, fun C c => ?_⟩
  · cases i <;> cases h
  · cases (show Dp K F' x (.bool true) from q); rfl
  · cases c
theorem walkL {k : Nat} {l : PySem.W.OpenLaw} {q : Program} {loose : List Str} {XP : (Str → Option Value) → Heap → Prop} {YP : World → Heap → Prop} {d : DefRec} {K : Params → PySem.W.Frag} (hk : k ≤ 60) (hn : l.most = some 63) (hdf : d.params.defaults = [])
    (hY : ∀ (w : World) (h : Heap), YP w h → (K w.params).In h)
    (F : ∀ (w : World) (mg : Str → Option Value) (fa : Addr) (h : Heap), (K w.params).In h → h.Ns mainGlobals mg → mg d.name = some (.ref fa) →
      ∃ fd : FuncData, (∀ (s : Shared) (u : Value), BindsTo s fd ⟨[u], []⟩ [("_law_script", u)]) ∧ ∀ base : Heap, (K w.params).In base → base.Ns mainGlobals mg → FnOk l.prog w (K w.params) mg base (L2.CX l.prog w) k fa fd ["_law_script"] (spL (K w.params)).sp) :
    PySem.W.WalkO q loose XP YP l.row.toRowW d [] (fun f vs => PySem.call f vs) :=
  L2.walk_of (n := 63) (k := k) (x := "_law_script") (CX := fun w => L2.CX l.prog w) (sp := fun w => (spL (K w.params)).sp) hn (by decide) hdf (Room.mono (k := 60) ⟨rfl, by decide, by decide⟩ hk) hY F (fun _ _ a ns hl _ hS => spL_in hl hS) fun _ _ _ _ _ z => by
    obtain ⟨_, _, _, _, _, _, _, _, _, _, _, _, hE⟩ := z
    exact hE
/-! drawing -/
def cellAt (ns : List Int) (k : Nat) : Int := if k < ns.length then ns[k]?.getD 0 else if ns.length = 0 then 0 else (ns[k % ns.length]?.getD 0) * 31 + k
def mixD (ns : List Int) (k : Nat) : Int := (cellAt ns k + 7919 * (k : Int) + 1) * 48271 % 2147483647
def mixI (ns : List Int) (k : Nat) (m : Int) : Int := (mixD ns k * mixD ns k + 7 * mixD ns k + (k : Int)) % 2147483629 % m
theorem mixD_b (ns : List Int) (k : Nat) : 0 ≤ mixD ns k ∧ mixD ns k < 2147483647 := by unfold mixD; omega
theorem mixI_b (ns : List Int) (k : Nat) {m : Int} (h : 0 < m) : 0 ≤ mixI ns k m ∧ mixI ns k m < m := ⟨Int.emod_nonneg _ (by omega), Int.emod_lt_of_pos _ h⟩
abbrev town (K : Fr) (p : Addr) (n : Nat) : Own := lst K p (List.replicate n (.int 0))
theorem shaped_intsI (l : List Int) : SeqAt.shaped (.list (l.map PyData.int)) = true := by
  unfold SeqAt.shaped
  simp only [Bool.and_eq_true, decide_eq_true_eq]
  have hd : PyData.depthAll (l.map PyData.int) ≤ 1 := by
    induction l with
    | nil => simp [PyData.depthAll]
    | cons x l ih => simp [PyData.depthAll, PyData.depth] at *; try omega
  have hc : PyData.canLayAll0 (l.map PyData.int) = true := by
    clear hd
    induction l with
    | nil => simp [PyData.canLayAll0]
    | cons x l ih => simp [PyData.canLayAll0, PyData.canLay0, ih]
  constructor
  · simp [PyData.canLay0, hc]
  · simp [PyData.depth]; omega
theorem eqv_ints : ∀ (l m : List Int), PyData.eqvAll (l.map PyData.int) (m.map PyData.int) = decide (l = m)
  | [], [] => by simp [PyData.eqvAll]
  | [], _ :: _ => by simp [PyData.eqvAll]
  | _ :: _, [] => by simp [PyData.eqvAll]
  | x :: l, y :: m => by
    simp only [List.map_cons, PyData.eqvAll, eqv_ints l m, PyData.eqv]
    by_cases h : x = y <;> by_cases g : l = m <;> simp [h, g]
theorem eqv_intsL (l m : List Int) : PyData.eqv (.list (l.map PyData.int)) (.list (m.map PyData.int)) = decide (l = m) := by
  simp only [PyData.eqv, eqv_ints]
theorem e_lenSet {K : Fr} {Γ : List SD} {Os Os1 : List Own} {te : TE} {s : SD} {ns : List Int} (h : E K Γ Os te s Os1) (w : Vw K Os1 s (.list (ns.map .int))) (nd : ns.Nodup) (hl : ns.length ≤ 4000) : E K Γ Os (RZ.tLenSetI K te) (.d (.int ns.length)) Os1 := fun B F σ H A Q k => h B F σ H A _ fun x F1 H1 A1 e1 r => by
  obtain ⟨p, xs, rfl, hq, ha⟩ := w.list A1 r
  rw [dps_ints_of ns ha] at hq
  exact ⟨p, ns, rfl, hq, nd, hl, k _ F1 H1 A1 e1 (.int _)⟩
theorem At.pick {K : Fr} {B : Hp × Hp} {F H : Hp} {Γ : List SD} {Os Oo : List Own} {σ : L2.St} (A : At K B F Γ Os σ H) (is : List Nat) (nd : is.Nodup) (e : is.map (fun i => Os[i]?) = Oo.map some) : At K B F Γ Oo σ H := by
  obtain ⟨hs, h1, h2, h3, h4, h5⟩ := A.ow
  have hlen : is.length = Oo.length := by have := congrArg List.length e; simpa using this
  refine ⟨A.sl, A.bs, A.fr, A.rs, A.rf, fun i => match is[i]? with | some j => hs j | none => hp0, fun i O q => ?_, fun i => ?_, fun i => ?_, fun i l ne => ?_, fun i => ?_⟩
  · have lt := (List.getElem?_eq_some_iff.mp q).1
    have e2 := congrArg (fun l => l[i]?) e
    simp only [List.getElem?_map, q] at e2
    have lt2 : i < is.length := by omega
    rw [List.getElem?_eq_getElem lt2] at e2
    dsimp only
    rw [List.getElem?_eq_getElem lt2]
    exact h1 _ _ (Option.some.inj e2)
  · dsimp only; split
    · exact h2 _
    · exact same0 _
  · dsimp only; split
    · exact h3 _
    · exact dis0 _
  · dsimp only
    split
    · rename_i j q
      split
      · rename_i m q2
        refine h4 _ _ fun z => ne ?_
        subst z
        exact (List.getElem?_inj (List.getElem?_eq_some_iff.mp q).1 nd).mp (q.trans q2.symm)
      · exact (dis0 _).symm
    · exact dis0 _
  · dsimp only; split
    · exact h5 _
    · exact dis0 _
theorem n_pick {K : Fr} {B : Hp × Hp} {Γ : List SD} {Os Oo : List Own} {P : L2.St → Hp → Prop} (is : List Nat) (nd : is.Nodup) (e : is.map (fun i => Os[i]?) = Oo.map some) (h : N K B Γ Oo P) : N K B Γ Os P := fun F σ H A => h F σ H (A.pick is nd e)
/-- [..] * k -/
theorem el_repN {K : Fr} {Γ : List SD} {Os Os1 : List Own} {ta tb : TE} {ds : List PyData} {n : Int} (h : EL K Γ Os ta ds Os1) (hb : ∀ p, E K Γ (Os1 ++ [lst K p ds]) tb (.d (.int n)) (Os1 ++ [lst K p ds])) (h1 : n ≤ 1000) (h2 : -1000 ≤ n) (h3 : ds.length ≤ 1000) : EL K Γ Os (tOp (mulU K) ta tb) (List.replicate n.toNat ds).flatten Os1 := fun B F σ H A Q k =>
  h B F σ H A _ fun p F1 H1 A1 e1 => hb p B F1 σ H1 A1 _ fun y F2 H2 A2 e2 r2 => ol_rep (p := p) Os1.length (by simp) h1 h2 h3 B F2 Γ σ H2 (.ref p) y A2 rfl r2 Q fun z F3 H3 A3 e3 => k z F3 H3 (A3.mv (j := Os1.length + 1) (by
    clear k A3 A2 A1 hb
    have : ∀ (l m : List Own), Ole (l ++ m) l := by
      intro l m
      induction l with
      | nil => exact .nil
      | cons x l ih => exact .cons (Oimp.refl _) ih
    rw [List.append_assoc]
    exact this _ _) (by simp) (by omega)) ((e1.trans e2).trans e3)
theorem cut_neg {α : Type} (l : List α) (m : Nat) (h0 : 0 < m) (h : m ≤ l.length) : (l.drop (HT.sIx l.length 0 (some (-(m : Int))))).take (HT.sIx l.length l.length none - HT.sIx l.length 0 (some (-(m : Int)))) = l.drop (l.length - m) := by
  have e : HT.sIx l.length 0 (some (-(m : Int))) = l.length - m := by
    show (if -(m : Int) < 0 then (-(m : Int) + (l.length : Int)).toNat else _) = _
    rw [if_pos (by omega)]; omega
  rw [e]
  show (l.drop (l.length - m)).take (l.length - (l.length - m)) = _
  rw [List.take_of_length_le (by simp)]
/-! a sort that computes -/
def ins1 {α : Type} (le : α → α → Bool) (x : α) : List α → List α
  | [] => [x]
  | y :: l => if le x y = true then x :: y :: l else y :: ins1 le x l
def isort {α : Type} (le : α → α → Bool) : List α → List α
  | [] => []
  | x :: l => ins1 le x (isort le l)
theorem ins1_perm {α : Type} (le : α → α → Bool) (x : α) : ∀ l, (ins1 le x l).Perm (x :: l)
  | [] => .refl _
  | y :: l => by
    unfold ins1
    split
    · exact .refl _
    · exact ((ins1_perm le x l).cons y).trans (.swap x y l)
theorem isort_perm {α : Type} (le : α → α → Bool) : ∀ l, (isort le l).Perm l
  | [] => .refl _
  | x :: l => (ins1_perm le x _).trans ((isort_perm le l).cons x)
theorem ins1_sorted {α : Type} {le : α → α → Bool} (tr : ∀ a b c, le a b = true → le b c = true → le a c = true) (to : ∀ a b, (le a b || le b a) = true) (x : α) : ∀ l, l.Pairwise (fun a b => le a b = true) → (ins1 le x l).Pairwise fun a b => le a b = true
  | [], _ => by unfold ins1; simp
  | y :: l, h => by
    unfold ins1
    have h' := List.pairwise_cons.mp h
    split
    · rename_i z
      refine List.pairwise_cons.mpr ⟨fun b hb => ?_, h⟩
      rcases List.mem_cons.mp hb with rfl | hb
      · exact z
      · exact tr _ _ _ z (h'.1 b hb)
    · rename_i z
      refine List.pairwise_cons.mpr ⟨fun b hb => ?_, ins1_sorted tr to x l h'.2⟩
      rcases List.mem_cons.mp ((ins1_perm le x l).subset hb) with rfl | hb
      · have := to b y
        simp only [Bool.or_eq_true] at this
        exact this.resolve_left z
      · exact h'.1 b hb
theorem isort_sorted {α : Type} {le : α → α → Bool} (tr : ∀ a b c, le a b = true → le b c = true → le a c = true) (to : ∀ a b, (le a b || le b a) = true) : ∀ l, (isort le l).Pairwise fun a b => le a b = true
  | [] => .nil
  | x :: l => ins1_sorted tr to x _ (isort_sorted tr to l)
theorem sort_is {α : Type} {le : α → α → Bool} (tr : ∀ a b c, le a b = true → le b c = true → le a c = true) (to : ∀ a b, (le a b || le b a) = true) (as : ∀ a b, le a b = true → le b a = true → a = b) (l : List α) : l.mergeSort le = isort le l :=
  List.Perm.eq_of_pairwise (fun a b _ _ h1 h2 => as a b h1 h2) (List.pairwise_mergeSort tr to l) (isort_sorted tr to l) ((List.mergeSort_perm l le).trans (isort_perm le l).symm)
theorem lt2 (a b c d : Int) : PySem.W.dataLe false id (.tuple [.int a, .int b]) (.tuple [.int c, .int d]) = decide (a < c ∨ (a = c ∧ b ≤ d)) := by
  have e : PyProof.Rows.lexLt PyProof.Rows.itemOrd (PySem.W.keyToksAll []) (PySem.W.keyToksAll []) = false := PyProof.Rows.lex_irrefl _
  show (!PySem.W.dataLt (.tuple [.int c, .int d]) (.tuple [.int a, .int b])) = _
  rw [PySem.W.dataLt_tuple, PySem.W.dataLt_cons (by simp [PySem.W.alike]), PySem.W.dataLt_cons (by simp [PySem.W.alike]), e, PySem.W.dataLt_int, PySem.W.dataLt_int]
  simp only [PyData.eqv, beq_iff_eq]
  by_cases h1 : c = a
  · subst h1
    by_cases h2 : d = b
    · subst h2; simp
    · by_cases h3 : d < b
      · simp [h2, h3]; try omega
      · simp [h2, h3]; try omega
  · by_cases h3 : c < a
    · simp [h1, h3]; try omega
    · simp [h1, h3]; try omega
/-! the board, computing -/
def Bd.leC (S : Bd) (k l : Nat) : Bool := decide (raisedI (S.jb k) S.frames S.patience < raisedI (S.jb l) S.frames S.patience ∨
    (raisedI (S.jb k) S.frames S.patience = raisedI (S.jb l) S.frames S.patience ∧ (termK (S.jb k).term < termK (S.jb l).term ∨ (termK (S.jb k).term = termK (S.jb l).term ∧ k ≤ l))))
theorem leC_eq (S : Bd) : S.leK = S.leC := by funext k l; exact leK_eq S k l
def Bd.orderC (S : Bd) : List Nat := isort S.leC S.ready
theorem order_c (S : Bd) : S.order = S.orderC := by
  unfold Bd.order Bd.orderC
  rw [sort_is (leK_trans S) (leK_total S) (fun a b h1 h2 => by
    rw [leK_eq, decide_eq_true_eq] at h1 h2; omega), leC_eq]
def Bd.fitsC (S : Bd) (r : Int) : List Nat := S.orderC.filter fun k => decide ((S.jb k).part ≤ r)
theorem fits_c (S : Bd) (r : Int) : S.fits r = S.fitsC r := by unfold Bd.fits Bd.fitsC; rw [order_c]
def runC : Nat → Bd → Int → List (Nat × Nat) → List Nat → Bd × Int × List (Nat × Nat)
  | 0, S, r, m, _ => (S, r, m)
  | _ + 1, S, r, m, [] => (S, r, m)
  | n + 1, S, r, m, k :: _ => runC n (S.step k) (r - (S.jb k).part) (m ++ [(k, (S.jb k).at_)]) ((S.step k).fitsC (r - (S.jb k).part))
theorem runM_c : ∀ (n : Nat) (S : Bd) (r : Int) (m : List (Nat × Nat)) (o : List Nat), runM n S r m o = runC n S r m o
  | 0, _, _, _, _ => rfl
  | _ + 1, _, _, _, [] => rfl
  | n + 1, S, r, m, k :: o => by
    unfold runM runC
    rw [fits_c]
    exact runM_c n _ _ _ _
def Bd.runF (S : Bd) : Bd × Int × List (Nat × Nat) := runC S.left S S.budget [] S.orderC
theorem run_c (S : Bd) : S.run = S.runF := by unfold Bd.run Bd.runF; rw [runM_c, order_c]
def idleC (ran beg : List Nat) (k : Nat) (J : Jb) : Jb := if ran.elem k = true then { J with idle := 0 } else if beg.elem k = true then { J with idle := J.idle + 1 } else J
theorem idle_c (ran beg : List Nat) (k : Nat) (J : Jb) : idleM ran beg k J = idleC ran beg k J := by
  unfold idleM idleC
  simp only [List.elem_eq_mem, decide_eq_true_eq]
def Bd.frameC (S : Bd) : Bd × List (Nat × Nat) := ({ S with jobs := S.runF.1.jobs.mapIdx fun k J => idleC (S.runF.2.2.map (·.1)) S.orderC k J, frames := S.frames + 1, spent := S.spent ++ [S.budget - S.runF.2.1] }, S.runF.2.2)
theorem frame_c (S : Bd) : (S.frameS, S.frameR) = S.frameC := by
  unfold Bd.frameS Bd.frameR Bd.frameC
  rw [run_c, order_c]
  have : (fun k J => idleM (S.runF.2.2.map (·.1)) S.orderC k J) = fun k J => idleC (S.runF.2.2.map (·.1)) S.orderC k J := by
    funext k J; exact idle_c _ _ _ _
  rw [this]
theorem frameS_c (S : Bd) : S.frameS = S.frameC.1 := by rw [← frame_c]
theorem frameR_c (S : Bd) : S.frameR = S.frameC.2 := by rw [← frame_c]
end Cw

namespace PySem.SeqAt
open AutoSeq1 (wpAny_loadPart' idx_int sub_tuple_tuple sub_list_list sub_tuple_list sub_list_tuple)
open MeetsSeq MeetsSeq2 MeetsSeq3 SeqRoads2
theorem cw_extT (l : Addr) (items : Array Value) (n : Nat) (b : Addr) (items2 : Array Value) (n2 : Nat) (dd : Option Addr) (sl : Array (Option Value)) (hs0 : ¬(!items.isEmpty && Builtin.List.listTooLong (items.size + items2.size)) = true) (hs1 : items.size ≤ sizeLine) (hs2 : items.size + items2.size ≤ sizeLine + 1) :
    Meets (Builtin.«list.extend» ⟨[.ref l, .ref b], []⟩)
      (fun _ R s => s.heap.get? l = some { cls := .type "list", dict := none, data := .seq items n, slots := #[] } ∧ s.heap.get? b = some { cls := .type "tuple", dict := dd, data := .seq items2 n2, slots := sl } ∧ R (.ok (.ret Value.none)) { s with heap := s.heap.update l (Obj.mapSeq fun x => x ++ items2), toks := s.toks }) :=
  .of_wp fun prog w A R s h => by
    obtain ⟨hp, g, d, tk, os⟩ := s
    obtain ⟨hl, hb, h⟩ := h
    have f1 := idx_int
    have f2 := sub_tuple_tuple
    have f3 := sub_list_list
    have f4 := sub_tuple_list
    have f5 := sub_list_tuple
    have hz' : (items ++ items2).size ≤ sizeLine + 1 := by rw [Array.size_append]; exact hs2
    wp_walk using (wpAny_updateSeq hl rfl (hz := hs1) (_hz' := hz')), wpAny_loadPart' hl, wpAny_loadPart' hb
    exact ⟨_, rfl, h⟩
end PySem.SeqAt
namespace Cw
open PySem L2
def rExtT (K : Fr) : V → List V → Hp → VK → Prop := fun x vs H Q => ∃ l b xs zs, x = .ref l ∧ vs = [.ref b] ∧ H l = some (.lst xs) ∧ SqT K H b zs ∧ xs.length + zs.length ≤ sizeLine ∧ Q .non (upd H l (.lst (xs ++ zs)))
theorem mt_extT {X : Cx} : MtM X "list.extend" (rExtT X.K) := by
  intro pins s σ H x vs v us Q I rx rv h
  obtain ⟨l, b, xs, zs, rfl, rfl, hH, hB, hz, q⟩ := h
  cases rx
  obtain ⟨u, rfl, ru⟩ := rv.one
  cases ru
  obtain ⟨z, its, n, r, hl, e⟩ := I.lstM hH
  obtain ⟨its2, r2, ⟨⟨cls, dd, data, sl⟩, ho, hc, n2, hd⟩, hs⟩ := I.tuple hB
  simp only at hc hd
  subst hc hd
  have hl2 : its2.length = zs.length := r2.length.symm
  have hsz : its.toArray.size + its2.toArray.size ≤ sizeLine := by rw [List.size_toArray, List.size_toArray]; omega
  have hlong : ¬ (!its.toArray.isEmpty && Builtin.List.listTooLong (its.toArray.size + its2.toArray.size)) = true := by
    rw [notLongL hsz, Bool.and_false]; simp
  refine call_meets F.slot_list_extend ⟨_, e, rfl⟩ F.entry_list_extend (F.args_list_extend_2 _ _)
    (SeqAt.cw_extT l its.toArray n b its2.toArray n2 dd sl hlong (by rw [List.size_toArray]; omega) (by omega)) ⟨e, ho, ?_⟩
  refine ⟨.non, _, I.lset (its' := its ++ its2) hH e (by simp) (r.append r2) ?_, rfl, q⟩
  rw [List.length_append]; omega
theorem n_extT {K : Fr} {B : Hp × Hp} {Γ : List SD} {Os Os1 Os2 : List Own} {nx bk ct : L2.St → Hp → Prop} {rt : VK} {ta te : TE} {ds es : List PyData} {p : Addr} (i : Nat) (ha : E K Γ Os ta (.v (.ref p)) Os1) (h : E K Γ Os1 te (.d (.tuple es)) Os2) (hi : Os2[i]? = some (lst K p ds)) (hi1 : Os1[i]? = some (lst K p ds)) (hl : ds.length + es.length ≤ 1000000) (k : N K B Γ (Os2.set i (lst K p (ds ++ es))) nx) :
    N K B Γ Os (tDrop (tBM K "list" (rExtT K) ta (tCons te tNil)) ⟨nx, rt, bk, ct⟩) := fun F σ H A => ha B F σ H A _ fun x F1 H1 A1 _ q1 => by
  obtain ⟨ys, b1, _⟩ := A1.getL hi1
  rw [show x = _ from q1]
  refine ⟨Or.inl ⟨rfl, _, .inl (.inl b1)⟩, h B F1 σ H1 A1 _ fun y F2 H2 A2 _ q2 => ?_⟩
  obtain ⟨xs, a1, a2, m⟩ := A2.getM hi
  obtain ⟨q, zs, rfl, c1, c2⟩ := (Vw.dat (K := K) (Os := Os2)).tup A2 q2
  exact ⟨p, q, xs, zs, rfl, rfl, a1, c1, szl (by rw [dps_len a2, dps_len c2]; exact hl), k F2 σ _ (m (dps_app a2 c2))⟩
/-! what a frame does -/
def Jb.rest (J : Jb) : Int := (J.parts.drop J.at_).sum
def Bd.rest (S : Bd) : Int := (S.jobs.map Jb.rest).sum
theorem isum_set : ∀ {l : List Int} {k : Nat} {a : Int} (b : Int), l[k]? = some a → (l.set k b).sum + a = l.sum + b
  | [], _, _, _, e => by simp at e
  | x :: l, 0, a, b, e => by simp at e; subst e; simp; omega
  | x :: l, k + 1, a, b, e => by
    have := isum_set (l := l) (k := k) b (by simpa using e)
    simp; omega
theorem nsum_set : ∀ {l : List Nat} {k a : Nat} (b : Nat), l[k]? = some a → (l.set k b).sum + a = l.sum + b
  | [], _, _, _, e => by simp at e
  | x :: l, 0, a, b, e => by simp at e; subst e; simp; omega
  | x :: l, k + 1, a, b, e => by
    have := nsum_set (l := l) (k := k) b (by simpa using e)
    simp; omega
theorem jb_step (S : Bd) (k l : Nat) (h : k < S.jobs.length) : (S.step k).jb l = if k = l then (S.jb k).go S.frames else S.jb l := by
  unfold Bd.step Bd.set Bd.jb
  dsimp only
  by_cases z : k = l
  · subst z; rw [if_pos rfl, List.getElem?_set_self h]; rfl
  · rw [if_neg z, List.getElem?_set_ne z]
theorem step_rest {S : Bd} {k : Nat} (h : S.Ok) (hk : k ∈ S.order) : (S.step k).rest + (S.jb k).part = S.rest := by
  obtain ⟨lt, r⟩ := mem_order.mp hk
  have j := h.job k _ (Bd.jb_get lt)
  have l1 := j.fin.mp (rdy_open r).1
  unfold Bd.rest Bd.step Bd.set
  dsimp only
  rw [List.map_set]
  have := isum_set (l := S.jobs.map Jb.rest) (k := k) (a := (S.jb k).rest) ((S.jb k).go S.frames).rest (by rw [List.getElem?_map, Bd.jb_get lt]; rfl)
  have e : ((S.jb k).go S.frames).rest + (S.jb k).part = (S.jb k).rest := by
    unfold Jb.rest Jb.go Jb.part
    dsimp only
    rw [List.drop_eq_getElem_cons l1, List.getElem?_eq_getElem l1, List.sum_cons]
    simp; omega
  omega
theorem step_left1 {S : Bd} {k : Nat} (h : S.Ok) (hk : k ∈ S.order) : (S.step k).left + 1 = S.left := by
  obtain ⟨lt, r⟩ := mem_order.mp hk
  have j := h.job k _ (Bd.jb_get lt)
  have l1 := j.fin.mp (rdy_open r).1
  unfold Bd.left Bd.step Bd.set
  dsimp only
  rw [List.map_set]
  have := nsum_set (l := S.jobs.map Jb.left) (k := k) (a := (S.jb k).left) ((S.jb k).go S.frames).left (by rw [List.getElem?_map, Bd.jb_get lt]; rfl)
  have e : ((S.jb k).go S.frames).left + 1 = (S.jb k).left := by
    unfold Jb.left Jb.go
    dsimp only
    omega
  omega
/-- an induction along a frame's parts -/
theorem runM_ind3 (P : Bd → Int → List (Nat × Nat) → Prop) (hs : ∀ S r m k, P S r m → k ∈ S.order → (S.jb k).part ≤ r → P (S.step k) (r - (S.jb k).part) (m ++ [(k, (S.jb k).at_)])) : ∀ (n : Nat) (S : Bd) (r : Int) (m : List (Nat × Nat)) (o : List Nat), P S r m → (∀ k ∈ o, k ∈ S.order ∧ (S.jb k).part ≤ r) → P (runM n S r m o).1 (runM n S r m o).2.1 (runM n S r m o).2.2
  | 0, S, r, m, o, h, _ => h
  | _ + 1, S, r, m, [], h, _ => h
  | n + 1, S, r, m, k :: o, h, ho => runM_ind3 P hs n _ _ _ _ (hs S r m k h (ho k (by simp)).1 (ho k (by simp)).2) fun l hl => ⟨(List.mem_filter.mp hl).1, of_decide_eq_true (List.mem_filter.mp hl).2⟩
theorem part_le {S : Bd} {k : Nat} (h : S.Ok) (hk : k ∈ S.order) : 1 ≤ (S.jb k).part ∧ (S.jb k).part ≤ S.budget := by
  obtain ⟨lt, r⟩ := mem_order.mp hk
  have j := h.job k _ (Bd.jb_get lt)
  have l1 := j.fin.mp (rdy_open r).1
  unfold Jb.part
  rw [List.getElem?_eq_getElem l1]
  exact j.parts _ (List.getElem_mem l1)
structure Ran (S S' : Bd) (r : Int) (m : List (Nat × Nat)) : Prop where
  ok : S'.Ok
  al : S.Alike S'
  job : ∀ k, ∃ a f, S'.jb k = { S.jb k with at_ := a, fin := f } ∧ (f = (S.jb k).fin ∨ f = some S.frames) ∧ (S.jb k).at_ ≤ a
  rest : S'.rest + (S.budget - r) = S.rest
  left : S'.left + m.length = S.left
  r0 : 0 ≤ r
theorem run_facts {S : Bd} (h : S.Ok) : Ran S S.run.1 S.run.2.1 S.run.2.2 := by
  refine runM_ind3 (fun S' r m => Ran S S' r m) (fun S' r m k hP hk hr => ?_) _ _ _ _ _ ⟨h, .refl S, fun k => ⟨_, _, rfl, .inl rfl, Nat.le_refl _⟩, by omega, by simp, by have := h.bu.1; omega⟩ fun k hk => ⟨hk, (part_le h hk).2⟩
  obtain ⟨lt, rd⟩ := mem_order.mp hk
  refine ⟨step_ok hP.ok hk, hP.al.step k, fun l => ?_, ?_, ?_, by omega⟩
  · rw [jb_step S' k l lt]
    by_cases z : k = l
    · subst z
      rw [if_pos rfl]
      obtain ⟨a, f, e, hf, ha⟩ := hP.job k
      refine ⟨a + 1, ((S'.jb k).go S'.frames).fin, ?_, ?_, by omega⟩
      · rw [e]; rfl
      · show (if _ then some S'.frames else (S'.jb k).fin) = _ ∨ (if _ then some S'.frames else (S'.jb k).fin) = _
        split
        · exact .inr (by rw [hP.al.fr])
        · rw [e]; exact hf
    · rw [if_neg z]; exact hP.job l
  · have e1 := step_rest hP.ok hk
    have e2 := hP.rest
    omega
  · have e1 := step_left1 hP.ok hk
    have e2 := hP.left
    rw [List.length_append, List.length_singleton]
    omega
theorem runM_mono (n : Nat) : ∀ (S : Bd) (r : Int) (m : List (Nat × Nat)) (o : List Nat), m.length ≤ (runM n S r m o).2.2.length := by
  induction n with
  | zero => intro S r m o; exact Nat.le_refl _
  | succ n ih =>
    intro S r m o
    cases o with
    | nil => exact Nat.le_refl _
    | cons k o =>
      have := ih (S.step k) (r - (S.jb k).part) (m ++ [(k, (S.jb k).at_)]) ((S.step k).fits (r - (S.jb k).part))
      rw [List.length_append, List.length_singleton] at this
      exact Nat.le_trans (Nat.le_succ _) this
theorem run_ne {S : Bd} (h : S.Ok) (ho : S.order ≠ []) : S.frameR ≠ [] := by
  cases q : S.order with
  | nil => exact absurd q ho
  | cons k o =>
    have hk : k ∈ S.order := by rw [q]; simp
    have l1 := step_left1 h hk
    unfold Bd.frameR Bd.run
    rw [q]
    cases hn : S.left with
    | zero => omega
    | succ n =>
      intro z
      have := runM_mono n (S.step k) (S.budget - (S.jb k).part) ([] ++ [(k, (S.jb k).at_)]) ((S.step k).fits (S.budget - (S.jb k).part))
      have z2 : (runM n (S.step k) (S.budget - (S.jb k).part) ([] ++ [(k, (S.jb k).at_)]) ((S.step k).fits (S.budget - (S.jb k).part))).2.2 = [] := z
      rw [z2] at this
      simp at this
/-- a frame, job by job -/
theorem frame_jb (S : Bd) (k : Nat) (h : k < S.run.1.jobs.length) : S.frameS.jb k = idleM (S.run.2.2.map (·.1)) S.order k (S.run.1.jb k) := by
  unfold Bd.frameS Bd.jb
  dsimp only
  rw [List.getElem?_mapIdx, List.getElem?_eq_getElem h]; rfl
theorem idle_is (ran beg : List Nat) (k : Nat) (J : Jb) : ∃ i, idleM ran beg k J = { J with idle := i } := by
  unfold idleM
  split
  · exact ⟨_, rfl⟩
  · split
    · exact ⟨_, rfl⟩
    · exact ⟨_, rfl⟩
theorem idle_rest (ran beg : List Nat) (k : Nat) (J : Jb) : (idleM ran beg k J).rest = J.rest ∧ (idleM ran beg k J).left = J.left := by
  obtain ⟨i, e⟩ := idle_is ran beg k J
  rw [e]; exact ⟨rfl, rfl⟩
structure Framed (S : Bd) : Prop where
  ok : S.spent.length < 100000 → S.frameS.Ok
  bu : S.frameS.budget = S.budget
  pa : S.frameS.patience = S.patience
  fr : S.frameS.frames = S.frames + 1
  n : S.frameS.jobs.length = S.jobs.length
  sp : S.frameS.spent = S.spent ++ [S.budget - S.run.2.1]
  r0 : 0 ≤ S.run.2.1 ∧ S.run.2.1 ≤ S.budget
  rest : S.frameS.rest + (S.budget - S.run.2.1) = S.rest
  left : S.frameS.left + S.frameR.length = S.left
  job : ∀ k, k < S.jobs.length → ∃ a f i, S.frameS.jb k = { S.jb k with at_ := a, fin := f, idle := i } ∧ (f = (S.jb k).fin ∨ f = some S.frames) ∧ (S.jb k).at_ ≤ a
theorem sum_mapIdx {f : Nat → Jb → Jb} {g : Jb → Int} (h : ∀ k J, g (f k J) = g J) (l : List Jb) : ((l.mapIdx f).map g) = l.map g := by
  refine List.ext_getElem? fun i => ?_
  rw [List.getElem?_map, List.getElem?_mapIdx, List.getElem?_map]
  cases l[i]? with
  | none => rfl
  | some J => exact congrArg some (h i J)
theorem sum_mapIdxN {f : Nat → Jb → Jb} {g : Jb → Nat} (h : ∀ k J, g (f k J) = g J) (l : List Jb) : ((l.mapIdx f).map g) = l.map g := by
  refine List.ext_getElem? fun i => ?_
  rw [List.getElem?_map, List.getElem?_mapIdx, List.getElem?_map]
  cases l[i]? with
  | none => rfl
  | some J => exact congrArg some (h i J)
theorem rest_nn {bu : Int} {k : Nat} {J : Jb} (h : JbOk bu k J) : 0 ≤ J.rest := by
  have : ∀ l : List Int, (∀ p ∈ l, 0 ≤ p) → 0 ≤ l.sum := by
    intro l
    induction l with
    | nil => intro _; simp
    | cons x l ih => intro hl; have a := hl x (by simp); have b := ih fun p hp => hl p (by simp [hp]); simp; omega
  exact this _ fun p hp => by have := (h.parts p (List.mem_of_mem_drop hp)).1; omega
theorem runM_r (n : Nat) : ∀ (S : Bd) (r : Int) (m : List (Nat × Nat)) (o : List Nat), S.Ok → (∀ k ∈ o, k ∈ S.order) → (runM n S r m o).2.1 ≤ r := by
  induction n with
  | zero => intro S r m o _ _; exact Int.le_refl _
  | succ n ih =>
    intro S r m o h ho
    cases o with
    | nil => exact Int.le_refl _
    | cons k o =>
      have hk := ho k (by simp)
      have p1 := (part_le h hk).1
      have := ih (S.step k) (r - (S.jb k).part) (m ++ [(k, (S.jb k).at_)]) ((S.step k).fits (r - (S.jb k).part)) (step_ok h hk) (fun l hl => (List.mem_filter.mp hl).1)
      exact Int.le_trans this (by omega)
theorem framed {S : Bd} (h : S.Ok) : Framed S := by
  have R := run_facts h
  refine ⟨frame_ok h, rfl, rfl, rfl, ?_, rfl, ⟨R.r0, runM_r _ _ _ _ _ h fun _ z => z⟩, ?_, ?_, fun k hk => ?_⟩
  · unfold Bd.frameS; dsimp only; rw [List.length_mapIdx, R.al.n]
  · have : S.frameS.rest = S.run.1.rest := by
      unfold Bd.rest Bd.frameS; dsimp only
      rw [sum_mapIdx fun k J => (idle_rest _ _ k J).1]
    rw [this]; exact R.rest
  · have : S.frameS.left = S.run.1.left := by
      unfold Bd.left Bd.frameS; dsimp only
      rw [sum_mapIdxN fun k J => (idle_rest _ _ k J).2]
    rw [this]; exact R.left
  · rw [frame_jb S k (by rw [R.al.n]; exact hk)]
    obtain ⟨a, f, e, hf, ha⟩ := R.job k
    obtain ⟨i, e2⟩ := idle_is (S.run.2.2.map (·.1)) S.order k (S.run.1.jb k)
    exact ⟨a, f, i, by rw [e2, e], hf, ha⟩
end Cw

namespace Cw
open PySem L2 PyProof.Rows
/-- how often a value stands in a list of data -/
def cntD (d : PyData) (ds : List PyData) : Nat := ds.countP fun y => PyData.eqv y d
def rCountD (K : Fr) : V → List V → Hp → VK → Prop := fun x xs H Q => ∃ (a : Addr) (y : V) (d : PyData) (ds : List PyData), x = V.ref a ∧ xs = [y] ∧ Dp K H (V.ref a) (.list ds) ∧ Dp K H y d ∧ SeqAt.shaped (.list ds) = true ∧ SeqAt.shaped d = true ∧ Q (.int (cntD d ds : Nat)) H
theorem mt_countD {X : Cx} (hu : X.A.units + 65 < cLine) : MtR X "list.count" (rCountD X.K) := by
  intro pins s σ H x xs v us Q I rx rxs h
  obtain ⟨a, y, d, ds, rfl, rfl, hl, hy, sl, sd, q⟩ := h
  cases rx
  obtain ⟨uy, rfl, ry⟩ := rxs.one
  obtain ⟨bs, r1⟩ := Dp.reads I d y uy hy ry
  have hxs : PyData.canLay0 (.list ds) = true := SeqAt.canLay_of_shaped sl
  have hroom : X.A.units + 1 + min (PyData.depthAll ds) d.depth < cLine := room_in_shaped sd hu
  cases hl with
  | lst hs ha =>
    obtain ⟨its, rv, ⟨o, n, ho, hc, hdn, hdt⟩, hlen⟩ := I.list hs
    obtain ⟨as, h4⟩ := Dp.readsAll I ds _ its ha rv
    have pl : PyData.plainAll ds = true := PyData.plainAll_of_canLay0 ds (by simpa [PyData.canLay0] using hxs)
    exact SeqAt.count_list_data (vs := its.toArray) ⟨o, ho, hc, n, hdt⟩ (show ReadsAll s.heap its.toArray.toList ds as from h4) r1 pl (PyData.plain_of_canLay0 d (SeqAt.canLay_of_shaped sd)) hroom ⟨.int (cntD d ds : Nat), H, I.tok _, ⟨_, rfl⟩, q⟩
theorem countK {X : Cx} {K : Fr} (h : X.K = K) (hu : X.A.units + 65 < cLine) : MtR X "list.count" (rCountD K) := h ▸ mt_countD hu
theorem e_countD {K : Fr} {Γ : List SD} {Os Os1 Os2 : List Own} {ta te : TE} {sx : SD} {d : PyData} {ds : List PyData} (ha : E K Γ Os ta sx Os1) (hx : ∀ B F H σ, At K B F Γ Os1 σ H → ∀ x, Rp K F x sx → ∃ p xs, x = V.ref p ∧ (SqL K H p xs)) (h : E K Γ Os1 te (.d d) Os2) (w : Vw K Os2 sx (.list ds)) (h1 : SeqAt.shaped (.list ds) = true) (h2 : SeqAt.shaped d = true) :
    E K Γ Os (tBM K "list" (rCountD K) ta (tCons te tNil)) (.d (.int (cntD d ds : Nat))) Os2 := fun B F σ H A Q k => ha B F σ H A _ fun x F1 H1 A1 e1 r1 => by
  obtain ⟨p, xs, rfl, hq⟩ := hx _ _ _ _ A1 x r1
  refine ⟨Or.inl ⟨rfl, _, hq⟩, h B F1 σ H1 A1 _ fun y F2 H2 A2 e2 r2 => ?_⟩
  exact ⟨p, y, d, ds, rfl, rfl, w.dp A2 (r1.mono e2), dp_mono A2.fr _ _ r2, h1, h2, k _ F2 H2 A2 (e1.trans e2) (.int _)⟩
theorem lst_at {K : Fr} {Γ : List SD} {Os : List Own} {sx : SD} {ds : List PyData} (w : Vw K Os sx (.list ds)) : ∀ B F H σ, At K B F Γ Os σ H → ∀ x, Rp K F x sx → ∃ p xs, x = V.ref p ∧ (SqL K H p xs) := fun B F H σ A x r => by
  obtain ⟨p, xs, e, hq, _⟩ := w.list A r
  exact ⟨p, xs, e, hq⟩
end Cw

namespace Cw
open PySem L2
section
variable {K : Fr} {B : Hp × Hp} {Γ : List SD} {Os Os1 Oo : List Own} {P : L2.St → Hp → Prop} {ds : List PyData}
/-- a list of ours in a slot stands still from now on -/
theorem n_fz {p : Addr} (i j : Nat) (hi : Os[i]? = some (lst K p ds)) (hj : Γ[j]? = some (.v (.ref p))) (h : N K B (Γ.set j (.d (.list ds))) (Os.eraseIdx i) P) : N K B Γ Os P := fun F σ H A => by
  obtain ⟨x, h1, h2⟩ := A.get hj (by intro z; cases z)
  have e : x = .ref p := h2
  subst e
  obtain ⟨F', e', A', q⟩ := A.freeze hi
  have A2 := A'.set (i := j) (x := .ref p) (s := .d (.list ds)) q
  rw [set_self h1] at A2
  refine h F' σ H (A2.re (fun m => if m < i then m else m + 1) (fun a b h1 h2 q => ?_) fun m O q => ?_)
  · split at q <;> split at q <;> omega
  · rw [List.getElem?_eraseIdx] at q
    split at q
    · rename_i lt
      rw [if_pos lt, List.getElem?_set_ne (by omega)]; exact q
    · rename_i lt
      rw [if_neg lt, List.getElem?_set_ne (by omega)]; exact q
end
/-! boards -/
theorem jb_add (S : Bd) (J : Jb) (k : Nat) : (S.addS J).jb k = if k < S.jobs.length then S.jb k else if k = S.jobs.length then J else jb0 := by
  unfold Bd.addS Bd.jb
  dsimp only
  by_cases z : k < S.jobs.length
  · rw [if_pos z, List.getElem?_append_left z]
  · rw [if_neg z]
    by_cases y : k = S.jobs.length
    · subst y; rw [if_pos rfl, List.getElem?_append_right (Nat.le_refl _), Nat.sub_self]; rfl
    · rw [if_neg y, List.getElem?_eq_none (by rw [List.length_append, List.length_singleton]; omega)]; rfl
theorem add_n (S : Bd) (J : Jb) : (S.addS J).jobs.length = S.jobs.length + 1 := by unfold Bd.addS; simp
theorem leK_step (S : Bd) (k : Nat) : (S.step k).leK = S.leK := by
  have hk : ∀ l, (S.step k).keyD l = S.keyD l := fun l => by
    by_cases lt : k < S.jobs.length
    · unfold Bd.keyD
      rw [jb_step S k l lt]
      by_cases z : k = l
      · subst z; rw [if_pos rfl]; rfl
      · rw [if_neg z]; rfl
    · have e : S.step k = S := by unfold Bd.step Bd.set; rw [List.set_eq_of_length_le (by omega)]
      rw [e]
  funext a b
  unfold Bd.leK
  rw [hk, hk]
theorem fits_all {S : Bd} (h : S.Ok) : S.fits S.budget = S.order := by
  unfold Bd.fits
  exact List.filter_eq_self.mpr fun k hk => decide_eq_true (part_le h hk).2
theorem fits_mem {S : Bd} {r : Int} {k : Nat} : k ∈ S.fits r ↔ k ∈ S.order ∧ (S.jb k).part ≤ r := by
  unfold Bd.fits; rw [List.mem_filter]; simp
/-- a frame, part by part; behind it nothing fits -/
theorem runM_full (P : Bd → Int → List (Nat × Nat) → Prop) (hs : ∀ S r m k o, S.Ok → P S r m → S.fits r = k :: o → P (S.step k) (r - (S.jb k).part) (m ++ [(k, (S.jb k).at_)])) : ∀ (n : Nat) (S : Bd) (r : Int) (m : List (Nat × Nat)), S.Ok → S.left ≤ n → P S r m →
    P (runM n S r m (S.fits r)).1 (runM n S r m (S.fits r)).2.1 (runM n S r m (S.fits r)).2.2 ∧ (runM n S r m (S.fits r)).1.fits (runM n S r m (S.fits r)).2.1 = [] ∧ (runM n S r m (S.fits r)).1.Ok
  | 0, S, r, m, ok, hn, h => by
    refine ⟨h, ?_, ok⟩
    show S.fits r = []
    cases q : S.fits r with
    | nil => rfl
    | cons k o =>
      have := step_left1 ok (fits_mem.mp (by rw [q]; simp : k ∈ S.fits r)).1
      omega
  | n + 1, S, r, m, ok, hn, h => by
    cases q : S.fits r with
    | nil => exact ⟨h, q, ok⟩
    | cons k o =>
      have hk := fits_mem.mp (by rw [q]; simp : k ∈ S.fits r)
      have l1 := step_left1 ok hk.1
      exact runM_full P hs n (S.step k) (r - (S.jb k).part) (m ++ [(k, (S.jb k).at_)]) (step_ok ok hk.1) (by omega) (hs S r m k o ok h q)
theorem run_full {S : Bd} (ok : S.Ok) (P : Bd → Int → List (Nat × Nat) → Prop) (h0 : P S S.budget []) (hs : ∀ S' r m k o, S'.Ok → P S' r m → S'.fits r = k :: o → P (S'.step k) (r - (S'.jb k).part) (m ++ [(k, (S'.jb k).at_)])) :
    P S.run.1 S.run.2.1 S.run.2.2 ∧ S.run.1.fits S.run.2.1 = [] ∧ S.run.1.Ok := by
  have := runM_full P hs S.left S S.budget [] ok (Nat.le_refl _) h0
  rw [fits_all ok] at this
  exact this
theorem runM_pre : ∀ (n : Nat) (S : Bd) (r : Int) (m : List (Nat × Nat)) (o : List Nat), ∃ l, (runM n S r m o).2.2 = m ++ l
  | 0, S, r, m, o => ⟨[], by simp [runM]⟩
  | n + 1, S, r, m, [] => ⟨[], by simp [runM]⟩
  | n + 1, S, r, m, k :: o => by
    obtain ⟨l, e⟩ := runM_pre n (S.step k) (r - (S.jb k).part) (m ++ [(k, (S.jb k).at_)]) ((S.step k).fits (r - (S.jb k).part))
    exact ⟨(k, (S.jb k).at_) :: l, by show (runM n _ _ _ _).2.2 = _; rw [e]; simp⟩
/-- the first part that a frame does is that of the first of the order -/
theorem run_head {S : Bd} {k : Nat} {o : List Nat} (h : S.Ok) (q : S.order = k :: o) : ∃ l, S.frameR = (k, (S.jb k).at_) :: l := by
  have hk : k ∈ S.order := by rw [q]; simp
  have l1 := step_left1 h hk
  unfold Bd.frameR Bd.run
  rw [q]
  cases hn : S.left with
  | zero => omega
  | succ n =>
    obtain ⟨l, e⟩ := runM_pre n (S.step k) (S.budget - (S.jb k).part) ([] ++ [(k, (S.jb k).at_)]) ((S.step k).fits (S.budget - (S.jb k).part))
    exact ⟨l, by show (runM n _ _ _ _).2.2 = _; rw [e]; simp⟩
theorem run_nil {S : Bd} (q : S.order = []) : S.run = (S, S.budget, []) := by
  unfold Bd.run; rw [q]; cases S.left <;> rfl
theorem frame_idle {S : Bd} (h : S.Ok) {k : Nat} (hk : k < S.jobs.length) : (S.frameS.jb k).idle = if k ∈ S.frameR.map (·.1) then 0 else if k ∈ S.order then (S.jb k).idle + 1 else (S.jb k).idle := by
  have R := run_facts h
  rw [frame_jb S k (by rw [R.al.n]; exact hk)]
  obtain ⟨a, f, e, _⟩ := R.job k
  rw [e]
  unfold idleM Bd.frameR
  split
  · rfl
  · split <;> rfl
/-- what is left nowhere -/
theorem left0 {S : Bd} (h : ∀ k, k < S.jobs.length → (S.jb k).at_ = (S.jb k).parts.length) : S.left = 0 := by
  have : ∀ l : List Nat, (∀ x ∈ l, x = 0) → l.sum = 0 := by
    intro l
    induction l with
    | nil => intro _; rfl
    | cons x l ih => intro hl; rw [List.sum_cons, hl x (by simp), ih fun y hy => hl y (by simp [hy])]
  refine this _ fun x hx => ?_
  obtain ⟨J, hJ, rfl⟩ := List.mem_map.mp hx
  obtain ⟨k, hk⟩ := List.mem_iff_getElem?.mp hJ
  have lt := (List.getElem?_eq_some_iff.mp hk).1
  have := h k lt
  rw [Bd.jb_of hk] at this
  unfold Jb.left; omega
theorem done_at {S : Bd} (h : S.Ok) {k : Nat} (hk : k < S.jobs.length) (hf : (S.jb k).fin ≠ none) : (S.jb k).at_ = (S.jb k).parts.length := by
  have j := h.job k _ (Bd.jb_get hk)
  have := j.at_
  by_cases z : (S.jb k).at_ < (S.jb k).parts.length
  · exact absurd (j.fin.mpr z) hf
  · omega
/-- ready, where nothing keeps it -/
theorem rdy_free {S : Bd} {k : Nat} (hk : k < S.jobs.length) (hf : (S.jb k).fin = none) (hg : (S.jb k).gone = false) (hs : (S.jb k).start ≤ S.frames) (ha : ∀ o ∈ (S.jb k).after, (S.jb o).fin ≠ none) : k ∈ S.order := by
  refine mem_order.mpr ⟨hk, ?_⟩
  unfold Bd.rdy Jb.isOpen
  rw [hf, hg, decide_eq_false (by omega)]
  simp only [oD, isNone, Bool.not_false, Bool.and_self, Bool.true_and, List.all_eq_true]
  intro o ho
  cases q : (S.jb o).fin with
  | none => exact absurd q (ha o ho)
  | some x => rfl
theorem order_head_le {S : Bd} {k l : Nat} {o : List Nat} (q : S.order = k :: o) (hl : l ∈ S.order) : S.leK k l = true := by
  have s := order_sorted S
  rw [q] at s hl
  rcases List.mem_cons.mp hl with e | e
  · subst e; rw [leK_eq]; simp
  · exact (List.pairwise_cons.mp s).1 l e
/-! what comes -/
def Bd.frN : Nat → Bd → Bd
  | 0, S => S
  | n + 1, S => (Bd.frN n S).frameS
def Bd.aheadL : Bd → Nat → List (List (Nat × Nat))
  | _, 0 => []
  | S, n + 1 => S.aheadL n ++ [(Bd.frN n S).frameR]
theorem frN_succ (S : Bd) (n : Nat) : Bd.frN (n + 1) S = (Bd.frN n S).frameS := rfl
theorem aheadL_succ (S : Bd) (n : Nat) : S.aheadL (n + 1) = S.aheadL n ++ [(Bd.frN n S).frameR] := rfl
theorem frN_ok {S : Bd} (h : S.Ok) : ∀ n : Nat, S.spent.length + n ≤ 99999 → (Bd.frN n S).Ok ∧ (Bd.frN n S).spent.length = S.spent.length + n
  | 0, _ => ⟨h, rfl⟩
  | n + 1, hn => by
    obtain ⟨a, b⟩ := frN_ok h n (by omega)
    exact ⟨frame_ok a (by omega), by rw [frN_succ, (framed a).sp, List.length_append, b]; rfl⟩
theorem aheadL_len (S : Bd) : ∀ n, (S.aheadL n).length = n
  | 0 => rfl
  | n + 1 => by rw [aheadL_succ, List.length_append, aheadL_len S n]; rfl
def partsD (l : List (Nat × Nat)) : PyData := .list (l.map partD)
/-! shapes and likeness of data -/
theorem depthAll_le {n : Nat} : ∀ {ds : List PyData}, (∀ d ∈ ds, d.depth ≤ n) → PyData.depthAll ds ≤ n
  | [], _ => by simp [PyData.depthAll]
  | d :: ds, h => by
    have a := h d (by simp)
    have b := depthAll_le (ds := ds) fun x hx => h x (by simp [hx])
    simp [PyData.depthAll] at *; omega
theorem canLayAll_of : ∀ {ds : List PyData}, (∀ d ∈ ds, d.canLay0 = true) → PyData.canLayAll0 ds = true
  | [], _ => by simp [PyData.canLayAll0]
  | d :: ds, h => by
    simp [PyData.canLayAll0, h d (by simp), canLayAll_of (ds := ds) fun x hx => h x (by simp [hx])]
theorem shaped_L {n : Nat} {ds : List PyData} (h : ∀ d ∈ ds, d.canLay0 = true ∧ d.depth ≤ n) (hn : n ≤ 60 := by decide) : SeqAt.shaped (.list ds) = true := by
  unfold SeqAt.shaped
  simp only [Bool.and_eq_true, decide_eq_true_eq]
  have a := canLayAll_of fun d hd => (h d hd).1
  have b := depthAll_le fun d hd => (h d hd).2
  constructor
  · simp [PyData.canLay0, a]
  · simp [PyData.depth]; omega
theorem shaped_T {n : Nat} {ds : List PyData} (h : ∀ d ∈ ds, d.canLay0 = true ∧ d.depth ≤ n) (hn : n ≤ 60 := by decide) : SeqAt.shaped (.tuple ds) = true := by
  unfold SeqAt.shaped
  simp only [Bool.and_eq_true, decide_eq_true_eq]
  have a := canLayAll_of fun d hd => (h d hd).1
  have b := depthAll_le fun d hd => (h d hd).2
  constructor
  · simp [PyData.canLay0, a]
  · simp [PyData.depth]; omega
theorem lay_L {n : Nat} {ds : List PyData} (h : ∀ d ∈ ds, d.canLay0 = true ∧ d.depth ≤ n) : (PyData.list ds).canLay0 = true ∧ (PyData.list ds).depth ≤ n + 1 := by
  have a := canLayAll_of fun d hd => (h d hd).1
  have b := depthAll_le fun d hd => (h d hd).2
  constructor
  · simp [PyData.canLay0, a]
  · simp [PyData.depth]; omega
theorem lay_T {n : Nat} {ds : List PyData} (h : ∀ d ∈ ds, d.canLay0 = true ∧ d.depth ≤ n) : (PyData.tuple ds).canLay0 = true ∧ (PyData.tuple ds).depth ≤ n + 1 := by
  have a := canLayAll_of fun d hd => (h d hd).1
  have b := depthAll_le fun d hd => (h d hd).2
  constructor
  · simp [PyData.canLay0, a]
  · simp [PyData.depth]; omega
theorem lay_int (i : Int) : (PyData.int i).canLay0 = true ∧ (PyData.int i).depth ≤ 0 := ⟨by simp [PyData.canLay0], by simp [PyData.depth]⟩
theorem lay_oD (t : Option Int) : (oD t).canLay0 = true ∧ (oD t).depth ≤ 0 := by
  cases t
  · exact ⟨by simp [oD, PyData.canLay0], by simp [oD, PyData.depth]⟩
  · exact ⟨by simp [oD, PyData.canLay0], by simp [oD, PyData.depth]⟩
theorem lay_part (p : Nat × Nat) : (partD p).canLay0 = true ∧ (partD p).depth ≤ 1 := lay_T fun d hd => by
  simp at hd
  rcases hd with rfl | rfl <;> exact lay_int _
theorem lay_map {α : Type} {n : Nat} {f : α → PyData} (h : ∀ a, (f a).canLay0 = true ∧ (f a).depth ≤ n) (l : List α) : ∀ d ∈ l.map f, d.canLay0 = true ∧ d.depth ≤ n := fun d hd => by
  obtain ⟨a, _, rfl⟩ := List.mem_map.mp hd
  exact h a
theorem lay_parts (l : List (Nat × Nat)) : (partsD l).canLay0 = true ∧ (partsD l).depth ≤ 2 := lay_L (lay_map lay_part l)
theorem shaped_partss (l : List (List (Nat × Nat))) : SeqAt.shaped (.list (l.map partsD)) = true := shaped_L (lay_map lay_parts l)
theorem shaped_parts (l : List (Nat × Nat)) : SeqAt.shaped (.list (l.map partD)) = true := shaped_L (lay_map lay_part l)
theorem shaped_oDs (l : List (Option Int)) : SeqAt.shaped (.list (l.map oD)) = true := shaped_L (lay_map lay_oD l)
theorem eqv_nil (ds : List PyData) : PyData.eqv (.list ds) (.list []) = ds.isEmpty := by cases ds <;> simp [PyData.eqv, PyData.eqvAll]
theorem eqv_map {α : Type} [DecidableEq α] {f : α → PyData} (h : ∀ a b, PyData.eqv (f a) (f b) = decide (a = b)) : ∀ l m : List α, PyData.eqvAll (l.map f) (m.map f) = decide (l = m)
  | [], [] => by simp [PyData.eqvAll]
  | [], _ :: _ => by simp [PyData.eqvAll]
  | _ :: _, [] => by simp [PyData.eqvAll]
  | x :: l, y :: m => by
    simp only [List.map_cons, PyData.eqvAll, eqv_map h l m, h]
    by_cases a : x = y <;> by_cases b : l = m <;> simp [a, b]
theorem eqv_mapL {α : Type} [DecidableEq α] {f : α → PyData} (h : ∀ a b, PyData.eqv (f a) (f b) = decide (a = b)) (l m : List α) : PyData.eqv (.list (l.map f)) (.list (m.map f)) = decide (l = m) := by
  simp only [PyData.eqv, eqv_map h]
theorem eqv_mapT {α : Type} [DecidableEq α] {f : α → PyData} (h : ∀ a b, PyData.eqv (f a) (f b) = decide (a = b)) (l m : List α) : PyData.eqv (.tuple (l.map f)) (.tuple (m.map f)) = decide (l = m) := by
  simp only [PyData.eqv, eqv_map h]
theorem eqv_int (a b : Int) : PyData.eqv (.int a) (.int b) = decide (a = b) := by
  by_cases h : a = b <;> simp [PyData.eqv, h]
theorem eqv_nat (a b : Nat) : PyData.eqv (.int (a : Int)) (.int (b : Int)) = decide (a = b) := by
  rw [eqv_int]
  by_cases h : a = b
  · simp [h]
  · have : ¬ (a : Int) = (b : Int) := by omega
    simp [h, this]
theorem eqv_part (a b : Nat × Nat) : PyData.eqv (partD a) (partD b) = decide (a = b) := by
  obtain ⟨a1, a2⟩ := a
  obtain ⟨b1, b2⟩ := b
  show PyData.eqv (.tuple [.int (a1 : Int), .int (a2 : Int)]) (.tuple [.int (b1 : Int), .int (b2 : Int)]) = _
  simp only [PyData.eqv, PyData.eqvAll, Bool.and_true]
  have h1 := eqv_nat a1 b1
  have h2 := eqv_nat a2 b2
  simp only [PyData.eqv] at h1 h2
  rw [h1, h2]
  by_cases h : a1 = b1 <;> by_cases g : a2 = b2 <;> simp [h, g]
theorem eqv_parts (a b : List (Nat × Nat)) : PyData.eqv (partsD a) (partsD b) = decide (a = b) := eqv_mapL eqv_part a b
theorem eqv_oD (a b : Option Int) : PyData.eqv (oD a) (oD b) = decide (a = b) := by
  cases a with
  | none => cases b <;> simp [oD, PyData.eqv]
  | some x => cases b with
    | none => simp [oD, PyData.eqv]
    | some y =>
      show PyData.eqv (.int x) (.int y) = _
      rw [eqv_int]
      by_cases h : x = y <;> simp [h]
theorem cnt_all {d : PyData} {ds : List PyData} (h : ∀ y ∈ ds, PyData.eqv y d = true) : cntD d ds = ds.length := by
  unfold cntD
  exact List.countP_eq_length.mpr h
end Cw

namespace PySem
open Sem (wp)
/-- enumerate(v): its two new cells -/
theorem cw_enumNew {v : Value} {o : Obj} {HH : Heap → Prop} (Bg : Begins v o HH) :
    Meets (Builtin.«enumerate.__new__» ⟨[.type "enumerate", v], []⟩) (fun _ R s0 => HH s0.heap ∧
      R (.ok (.ret (.ref (s0.heap.push o).objs.size))) { s0 with heap := (s0.heap.push o).push { cls := .type "enumerate", data := .fields #[.none, .bool false, .ref s0.heap.objs.size, rawInt 0, .none, .none] } }) :=
  .of_wp fun prog w A R s0 hyp => by
    obtain ⟨hp, g, d, tk, os⟩ := s0
    obtain ⟨h1, hyp⟩ := hyp
    have hsub := sub_enumerate
    have qi : ∀ {A' : Around} {E : Value → Shared → Prop} {Q : Value → Shared → Prop}, Q (.ref hp.objs.size) ⟨hp.push o, g, d, tk, os⟩ → wpAny (model prog w) A' (pyIter v) Q E ⟨hp, g, d, tk, os⟩ :=
      fun q => Bg.iter prog w _ _ ⟨hp, g, d, tk, os⟩ _ h1 q
    wp_walk using qi
    refine wpAny_stack_any fun stk => wpAny_pure ?_
    split
    · rename_i cc _ _ _ _ _
      cases (cc == Value.type "enumerate")
      · wp_walk using qi
        refine ⟨_, rfl, hyp⟩
      · wp_walk using qi
        refine ⟨_, rfl, hyp⟩
    · wp_walk using qi
      refine ⟨_, rfl, hyp⟩
theorem cw_callEnum {prog : Program} {w : World} {A : Around} {E : Value → Shared → Prop} {s0 : Shared} {v : Value} {o : Obj} {HH : Heap → Prop} {Q : Value → Shared → Prop} (Bg : Begins v o HH) (h1 : HH s0.heap)
    (hyp : ∀ hn, IsEnum hn (s0.heap.objs.size + 1) s0.heap.objs.size 0 .none → hn.get? s0.heap.objs.size = some o → hn.objs.size = s0.heap.objs.size + 2 → (∀ b ob, s0.heap.get? b = some ob → hn.get? b = some ob) → Q (.ref (s0.heap.objs.size + 1)) { s0 with heap := hn }) :
    wpAny (model prog w) A (call (.type "enumerate") [v]) Q E s0 := by
  refine callType_new F.called_enumerate (by decide) (F.typeCall_enumerate_1 _) (F.newCall_enumerate_1 _) (fun obj => F.args_object_init_2 obj _) F.entry_enumerate_new (cw_enumNew Bg) ⟨h1, ?_⟩
  have zz : (s0.heap.push o).objs.size = s0.heap.objs.size + 1 := Heap.size_push ..
  refine (show _ ∧ _ from ?_)
  rw [zz]
  have en : IsEnum ((s0.heap.push o).push { cls := .type "enumerate", data := .fields #[.none, .bool false, .ref s0.heap.objs.size, rawInt 0, .none, .none] }) (s0.heap.objs.size + 1) s0.heap.objs.size 0 .none := by
    have q0 := Heap.get?_push_size (s0.heap.push o) (o := { cls := .type "enumerate", data := .fields #[.none, .bool false, .ref s0.heap.objs.size, rawInt 0, .none, .none] }) rfl
    rw [zz] at q0
    exact q0
  exact ⟨⟨_, en, rfl⟩, hyp _ en (Heap.get?_push_of_some _ (Heap.get?_push_size _ Bg.free)) (by rw [Heap.size_push, zz]) fun b ob y => Heap.get?_push_of_some _ (Heap.get?_push_of_some _ y)⟩
end PySem
namespace Cw
open PySem L2
/-- the tuple at a, each item in a new pair -/
def IteT (K : Fr) (a : Addr) : It :=
  ⟨fun i H => ∃ (xs : List V) (x : V), SqT K H a xs ∧ xs[i]? = some x, fun i H v H' => ∃ t x, v = .ref t ∧ H t = none ∧ H' = upd H t (.tup [.int (i : Nat), x]) ∧ ∀ xs, SqT K H a xs → xs[i]? = some x, fun i H => ∃ xs : List V, SqT K H a xs ∧ xs.length ≤ i⟩
theorem cw_turnT {P : Program} {w : World} {K : Fr} {elts : List Expr} {kk : Nat} {tpos : Pos} (a e it : Addr) :
    Turn P w K (.Tuple elts kk tpos) (IteT K a) [e, it] e (fun i h => (∃ old, IsEnum h e it ((i : Nat) : Int) old) ∧ h.IsTupleIter it a i ∧ e ≠ it) where
  mem := by simp
  obj := fun i h st b hb => by
    obtain ⟨⟨old, he⟩, ⟨o, ho, hc, hd⟩, _⟩ := st
    rcases (show b = e ∨ b = it by simpa using hb) with rfl | rfl
    · exact ⟨_, he, fun v q => nomatch q⟩
    · exact ⟨o, ho, fun v q => by rw [hd] at q; cases q⟩
  keep := fun i h h' st k => ⟨⟨st.1.choose, k e (by simp) _ st.1.choose_spec⟩, st.2.1.at fun o q => k it (by simp) o q, st.2.2⟩
  item := by
    intro X hP hw hK hc i pins s σ H E I hf st hg
    subst hP hw hK
    obtain ⟨⟨old, he⟩, hit, hne⟩ := st
    obtain ⟨xs, x, hq, hx⟩ := hg
    obtain ⟨its, rv, p, hz⟩ := I.tuple hq
    have p : s.heap.IsTuple a its.toArray := p
    obtain ⟨u, hu, ru⟩ := rv.get hx
    have hel : e < s.heap.objs.size := Heap.lt_size he
    have hil : it < s.heap.objs.size := by obtain ⟨_, q, _⟩ := hit; exact Heap.lt_size q
    have ait : a ≠ it := by
      rintro rfl
      obtain ⟨o1, q1, c1, _⟩ := p
      obtain ⟨o2, q2, c2, _⟩ := hit
      rw [q1] at q2; cases q2
      rw [c1] at c2
      injection c2 with c2
      exact absurd c2 (by decide)
    have aie : e ≠ a := by
      rintro rfl
      obtain ⟨o1, q1, c1, _⟩ := p
      rw [he] at q1; cases q1
      injection c1 with c1
      exact absurd c1 (by decide)
    have D : Draws X.prog X.w X.A.in1 it [it, a] its.toArray.size (fun i v => its.toArray[i]? = some v) (fun i h => h.IsTupleIter it a i ∧ h.IsTuple a its.toArray) := Draws.tuple (A := X.A.in1) (show X.A.in1.handled = none from I.ok.hd hc) it a ait its.toArray
    have lt : i < its.toArray.size := by
      have := (List.getElem?_eq_some_iff.mp hu).1
      simpa using this
    refine wpAny_pyNext_enum_itemD D he ⟨hit, p⟩ lt hne (by simp [hne, aie]) fun y h' tk hy ho hst hT hsz hk => ?_
    have ey : y = u := by
      rw [List.getElem?_toArray, hu] at hy
      exact (Option.some.inj hy).symm
    subst ey
    refine ⟨_, rfl, wpAny_letOwnedTupleGo_enum (s := { s with heap := h', toks := tk + 1 }) ho fun h'' he' sb => ?_⟩
    have hT2 : h''.get? s.heap.objs.size = some { cls := .type "tuple", data := .seq #[.int i tk, y] } := (sb.2 _ (Nat.ne_of_gt hel)).trans hT
    have nw : ObjOk X.prog X.w (upd H s.heap.objs.size (.tup [.int (i : Nat), x])) h'' s.heap.objs.size (.tup [.int (i : Nat), x]) :=
      ⟨by show 2 ≤ sizeLine; decide, [.int i tk, y], .cons ⟨_, rfl⟩ (.cons ru .nil), ⟨_, hT2, rfl, _, rfl⟩⟩
    have I1 : Inv X pins σ (upd H s.heap.objs.size (.tup [.int (i : Nat), x])) { s with heap := h'', toks := tk + 1 } :=
      I.turnedNew (ch := [e, it]) (fun b ob hb q => (sb.2 b (fun z => hb (by simp [z]))).trans (hk b ob (fun z => hb (by simp [z])) (fun z => hb (by simp [z])) q)) hf (Nat.le_refl _) nw
    refine ⟨.ref s.heap.objs.size, _, I1, rfl, ⟨_, x, rfl, I.hok.fresh (Nat.le_refl _), rfl, fun ys hy => by rw [I.tuple_inj hy hq]; exact hx⟩, ⟨⟨y, ?_⟩, hst.1.at fun o q => (sb.2 it (Ne.symm hne)).trans q, hne⟩, fun b hb => ?_⟩
    · rw [show ((i + 1 : Nat) : Int) = (i : Int) + 1 by omega]
      exact he'
    · have lb : b < s.heap.objs.size := by
        rcases (show b = e ∨ b = it by simpa using hb) with z | z
        · rw [z]; exact hel
        · rw [z]; exact hil
      rw [upd_ne (Nat.ne_of_lt lb)]
      exact (hf b hb).1
  done := by
    intro X hP hw hK hc i pins s σ H E I hf st hg
    subst hP hw hK
    obtain ⟨⟨old, he⟩, hit, hne⟩ := st
    obtain ⟨xs, hq, hx⟩ := hg
    obtain ⟨its, rv, p, hz⟩ := I.tuple hq
    have p : s.heap.IsTuple a its.toArray := p
    have ait : a ≠ it := by
      rintro rfl
      obtain ⟨o1, q1, c1, _⟩ := p
      obtain ⟨o2, q2, c2, _⟩ := hit
      rw [q1] at q2; cases q2
      rw [c1] at c2
      injection c2 with c2
      exact absurd c2 (by decide)
    obtain ⟨f0, f1, f2, f3, f4, f5⟩ := hf it (by simp)
    have hl := rv.length
    have hT : s.TypeIs (.ref e) "enumerate" := ⟨_, he, rfl⟩
    unfold pyNext
    refine wpAny_bind (wpAny_attempt (wpAny_callSpecial?_slot (name := Str.ofString "__next__") hT F.slot_enumerate_next (wpAny_call_entry F.slot_enumerate_next hT F.entry_enumerate_next ?_ (F.args_enumerate_next_1 _))))
    refine (show wpAny _ _ (field (.ref e) 2 >>= _) _ _ _ from ?_)
    refine wpAny_bind (wpAny_field he rfl (x := .ref it) rfl ?_)
    refine wpAny_bind (wpAny_nextOf_tuple_end (show X.A.in1.in1.handled = none from I.ok.hd hc) hit p (by simp; omega) fun h' x he' hx' => ?_)
    obtain ⟨o, ho, hc'⟩ := hx'
    refine wpAny_bind (wpAny_isInstance (T := "StopIteration") (b := true) ⟨o, ho, hc'⟩ isSubtype_stop ?_)
    exact wpAny_pure ⟨rfl, I.turned (t' := s.toks) (fun b ob hb q => he' b ob hb q) f0 f1 f3 f4 f5⟩
  self := fun A i s Q E st h => wpAny_pyIter_enum st.1.choose_spec h
def iEnumT (K : Fr) (ta : TA) : TI := fun σ H R => ta σ H fun vs H1 => ∃ a xs, vs = [.ref a] ∧ SqT K H1 a xs ∧ R (IteT K a) H1
theorem pi_enumT {X : Cx} {e : Expr} {ta : TA} {p pos tpos : Pos} {elts : List Expr} {kk : Nat} (hg : Gl X "enumerate") (hm : X.mg "enumerate" = none) (ha : PA X [e] ta) (hs : starEach [e] X.env = [(false, eval e X.env)] := by rfl) :
    PI X (.Tuple elts kk tpos) (.Call (.Name "enumerate" p) [e] [] pos) (iEnumT X.K ta) := by
  refine ⟨fun pins s σ H R I h => ?_⟩
  refine PyProof.Rows.Call_ (ld_blt I hg hm PyProof.Rows.boot_enumerate (PyProof.Rows.callWith_type1 (thn (ha.run pos pins s σ H _ I h) fun us s1 ⟨vs, H1, I1, r1, q1⟩ => ?_) hs rfl))
  obtain ⟨a, xs, ex, hq, q⟩ := q1
  subst ex
  cases r1 with
  | cons r rr =>
    cases rr
    cases r
    obtain ⟨its, rv, p', hz⟩ := I1.tuple hq
    have p' : s1.heap.IsTuple a its.toArray := p'
    refine cw_callEnum (begins_tuple a its.toArray) p' fun h' he hit hsz hk => wpAny_pyIter_enum he ?_
    have I2 : Inv X pins σ H1 { s1 with heap := h' } := I1.kept (t' := s1.toks) hk
    refine ⟨s1.heap.objs.size + 1, [s1.heap.objs.size + 1, s1.heap.objs.size], _, _, H1, rfl, I2, cw_turnT a (s1.heap.objs.size + 1) s1.heap.objs.size, ⟨⟨.none, he⟩, ⟨_, hit, rfl, rfl⟩, Nat.succ_ne_self _⟩, fun b hb => ?_, q⟩
    have le : s1.heap.objs.size ≤ b := by
      rcases (show b = s1.heap.objs.size + 1 ∨ b = s1.heap.objs.size by simpa using hb) with z | z
      · rw [z]; exact Nat.le_add_right _ _
      · rw [z]; exact Nat.le_refl _
    exact I1.fpOk le (I1.hok.fresh le)
theorem enumTK {X : Cx} {K : Fr} {e : Expr} {ta : TA} {p pos tpos : Pos} {elts : List Expr} {kk : Nat} (h : X.K = K) (hg : Gl X "enumerate") (hm : X.mg "enumerate" = none) (ha : PA X [e] ta) (hs : starEach [e] X.env = [(false, eval e X.env)] := by rfl) :
    PI X (.Tuple elts kk tpos) (.Call (.Name "enumerate" p) [e] [] pos) (iEnumT K ta) := h ▸ pi_enumT hg hm ha hs
section
variable {K : Fr} {Γ : List SD} {Os Os1 : List Own} {ds : List PyData}
theorem it_enumT {tr : TA} (h : EA K Γ Os tr [.d (.tuple ds)] Os1) : IT K Γ Os (iEnumT K tr) ds.length (fun i => .d (.tuple [.int (i : Int), ds[i]?.getD .none])) (fun _ => True) Os1 := fun B F σ H A R k => h B F σ H A _ fun xs F1 H1 A1 e1 q1 => by
  obtain ⟨x, rfl, q⟩ := sl1 rfl q1
  cases (show Dp K F1 x (.tuple ds) from q) with
  | @tup a xs _ hq ha =>
    refine ⟨_, _, rfl, seqT A1.fr hq, k _ F1 H1 A1 e1 fun B Γ Os σ F' H e A _ => ?_⟩
    have hq' : SqT K H a xs := seqT A.fr (seqT e hq)
    have l := dps_len ha
    refine ⟨fun i hi => ⟨xs, xs[i]'(by omega), hq', by simp⟩, ⟨xs, hq', by omega⟩, fun i hi x H' y => ?_⟩
    obtain ⟨t, z, rfl, hT, rfl, y⟩ := y
    obtain ⟨d, h1, h2⟩ := dps_at2 ha (y xs hq')
    have nf : F' t = none := A.fr.free hT
    refine ⟨_, same_upd nf, A.newF hT, ?_⟩
    show Dp K _ (.ref t) (.tuple [.int (i : Int), ds[i]?.getD .none])
    rw [h1]
    exact .tup (.inl (.inl upd_same)) (.cons (.int _) (.cons (dp_mono (e.trans (same_upd nf)) _ _ h2) .nil))
end
end Cw

namespace Cw
open PySem L2
/-! a promise that answers a new thing of its own -/
structure Pn (K : Fr) (G : Type) where
  pre : G → Prop
  args : G → List SD
  own : G → List Own
  res : G → Addr → Own
  out : G → List Own
  err : G → Option Addr
  outE : G → List Own
def Pn.sp {K : Fr} {G : Type} (p : Pn K G) : Sp := fun vs H Q X => ∃ (g : G) (B : Hp × Hp) (F : Hp), p.pre g ∧ At K B F (p.args g) (p.own g) (vs.map some) H ∧ B.1 = F ∧
  (p.err g = none → ∀ a F' H', At K B F' [] (p.out g ++ [p.res g a]) [] H' → Q (.ref a) H') ∧
  (∀ C, p.err g = some C → ∀ F' H', At K B F' [] (p.outE g) [] H' → X (.ref C) none H')
theorem Pn.len {K : Fr} {G : Type} (p : Pn K G) {n : Nat} (h : ∀ g, (p.args g).length = n) : ∀ vs H Q X, p.sp vs H Q X → vs.length = n := fun vs H Q X ⟨g, B, F, _, A, _⟩ => by
  have := Sl.len A.sl
  rw [h, List.length_map] at this
  exact this.symm
def CaN (K : Fr) (Os : List Own) (sp : Sp) (ss : List SD) (O : Addr → Own) (Os' : List Own) : Prop := ∀ (X : XK) (B : Hp × Hp) (F : Hp) (Γ : List SD) (σ : St) (H : Hp) (xs : List V), At K B F Γ Os σ H → Sl K F ss (xs.map some) → ∀ Q : VK,
  (∀ p F' H', At K B F' Γ (Os' ++ [O p]) σ H' → Same F F' → Q (.ref p) H') → sp xs H Q X
section
variable {K : Fr} {B : Hp × Hp} {Γ Γ' : List SD} {Os Os1 Os2 Os3 OsE Oo : List Own} {nx bk ct : L2.St → Hp → Prop} {rt : VK} {ta te : TE} {s : SD} {ss : List SD} {G : Type} {X : XK} {t : TA} {P : St → Hp → Prop} {O : Addr → Own}
theorem cn0 {p : Pn K G} (g : G) (hp : p.pre g) (he : p.err g = none) (ha : p.args g = ss) (ho : p.own g = []) (hq : p.out g = []) (hr : p.res g = O) : CaN K Os p.sp ss O Os := fun X B F Γ σ H xs A r Q k => by
  obtain ⟨B', e, A0, back⟩ := (A.slots r).call0
  refine ⟨g, B', F, hp, by rw [ha, ho]; exact A0, e, fun _ x F' H' A' => ?_, fun C c => by rw [he] at c; cases c⟩
  rw [hq, hr] at A'
  have A2 := back A'
  have e2 : Same F F' := by rw [← e]; exact A'.bs
  exact k x F' H' (A2.slots (A.sl.mono e2)) e2
theorem em_call {sp : Sp} (h : EA K Γ Os t ss Os1) (hr : CaN K Os1 sp ss O Os2) : EM K Γ Os (tCall sp [] X t) O Os2 := fun B F σ H A Q k =>
  h B F σ H A _ fun xs F1 H1 A1 e1 q1 => by
    show sp (xs ++ []) H1 Q X
    rw [List.append_nil]
    exact hr X B F1 Γ σ H1 xs A1 q1 Q fun p F2 H2 A2 e2 => k p F2 H2 A2 (e1.trans e2)
/-- what is handed back is ours: a thing at p -/
theorem r_retN {p : Addr} {O' : Own} {B0 : Hp × Hp} (j : Nat) (h : E K Γ Os te (.v (.ref p)) Os1) (hj : Os1[j]? = some O') (kk : ∀ a F H, At K B0 F [] (Oo ++ [O a]) [] H → rt (.ref a) H) (e1 : Oimp O' (O p)) (e2 : Ole Os1 Oo) (hl : Oo.length ≤ j) (hb : Bl B0 B) : N K B Γ Os (tRet te ⟨nx, rt, bk, ct⟩) := fun F σ H A => h B F σ H A _ fun x F1 H1 A1 _ r => by
  rw [show x = _ from r]
  have A2 := (A1.slots (Γ' := []) (σ' := []) trivial).mv e2 hj hl
  have e3 : ∀ l : List Own, Ole (l ++ [O']) (l ++ [O p]) := fun l => by
    induction l with
    | nil => exact .cons e1 .nil
    | cons y l ih => exact .cons (Oimp.refl _) ih
  exact kk p F1 H1 ((A2.ole (e3 Oo)).rebase hb)
theorem cl_listT {ds : List PyData} : CbL K Os (rListOf K) [.d (.tuple ds)] ds Os := fun B F Γ σ H xs A r Q k => by
  obtain ⟨x, rfl, q⟩ := sl1 rfl r
  obtain ⟨p, ys, rfl, hq, ha⟩ := (Vw.dat (K := K) (Os := Os)).tup A q
  exact ⟨p, ys, rfl, .inr hq, fun l hl => k l F _ (A.newO hl ⟨ys, one_same, ha⟩) (Same.refl _)⟩
end
section
variable {K : Fr} {CB CJ : Addr} {a : BA} {S : Bd} {B : Hp × Hp} {F H : Hp} {Γ : List SD} {Os Os1 Os2 Oo : List Own} {σ : L2.St} {nx bk ct : L2.St → Hp → Prop} {rt : VK} {ta te : TE} {i : Nat} {J : Jb}
/-- self.jobs.append(job), the job made before -/
theorem n_appJ2 {x : Addr} (i n : Nat) (ne : i ≠ n) (ha : E K Γ Os ta (.v (.ref a.l)) Os1) (h : E K Γ Os1 te (.v (.ref x)) Os2) (hi1 : Os1[i]? = some (bd K CB CJ a S)) (hi : Os2[i]? = some (bd K CB CJ a S)) (hn : Os2[n]? = some (inst K CJ x jobKs (jobSD S.jobs.length J))) (hl : S.jobs.length < 1000000)
    (kk : N K B Γ ((Os2.set i (bd K CB CJ { a with js := a.js ++ [x] } { S with jobs := S.jobs ++ [J] })).set n emp) nx) : N K B Γ Os (tDrop (tBM K "list" rAppend ta (tCons te tNil)) ⟨nx, rt, bk, ct⟩) := fun F σ H A => ha B F σ H A _ fun y F1 H1 A1 _ q1 => by
  have X1 := A1.bdIn hi1
  rw [show y = _ from q1]
  refine ⟨Or.inl ⟨rfl, _, .inl (.inl X1.l)⟩, h B F1 σ H1 A1 _ fun z F2 H2 A2 _ q2 => ?_⟩
  rw [show z = _ from q2]
  obtain ⟨h1, A3⟩ := A2.appJ (x := x) (J := J) hi hn ne
  have X2 := A2.bdIn hi
  exact ⟨a.l, _, _, rfl, rfl, h1, szl_lt (by rw [List.length_map, X2.len]; exact hl), kk F2 σ _ A3⟩
/-- board.spent = a new list -/
theorem At.newSp {p : Addr} {ns : List Int} {n : Nat} {dx : Addr} {vs : List V} (A : At K B F Γ Os σ H) (h : Os[i]? = some (bd K CB CJ a S)) (h2 : Os[n]? = some (lst K p (ns.map .int))) (ne : i ≠ n) (hl : boardKs.length = vs.length) (hs : Sl K F (boardSD a S) (vs.map some)) :
    At K B F Γ ((Os.set i (bd K CB CJ { a with sp := p } { S with spent := ns })).set n emp) σ (upd H a.b (.ins CB dx (boardKs.zip (vs.set 4 (.ref p))))) := by
  have M := A.merge h h2 ne
  have li := (List.getElem?_eq_some_iff.mp h).1
  have hM : ((Os.set i (star (bd K CB CJ a S) (lst K p (ns.map .int)))).set n emp)[i]? = some (star (bd K CB CJ a S) (lst K p (ns.map .int))) := by
    rw [List.getElem?_set_ne (Ne.symm ne), List.getElem?_set_self li]
  obtain ⟨hh, ⟨g1, g2, dd, s1, s2, p1, ⟨xs, q1, q2⟩⟩, s, d, kk⟩ := M.touch hM
  have p1 : BdIn K CB CJ a S F g1 := p1
  have exs := dps_ints_of ns q2
  subst exs
  obtain ⟨⟨dxb, wb, b1, b2, b3⟩, l, sp, len, nd, nl, nb, job⟩ := p1
  have nf : F a.b = none := d.none (s1 _ _ b1)
  have nx1 : g1 p = none := dd.symm.none q1
  have npl : a.l ≠ p := fun z => by rw [← z, l] at nx1; cases nx1
  have npb : p ≠ a.b := fun z => by rw [z, b1] at nx1; cases nx1
  have fin := kk (h' := upd hh a.b (.ins CB dx (boardKs.zip (vs.set 4 (.ref p))))) (O' := bd K CB CJ { a with sp := p } { S with spent := ns }) (H' := upd H a.b (.ins CB dx (boardKs.zip (vs.set 4 (.ref p))))) (Same.refl F) (fun c o e => by rw [upd_ne (fun q => by subst q; rw [nf] at e; cases e)]; exact A.fr c o e) ?_ (fun c o e => ?_) (.of fun c o e => ?_) (fun c o e z => ?_) (fun c o e z => ?_) (fun c o e z => by rw [e] at z; cases z)
  · have e : ((Os.set i (star (bd K CB CJ a S) (lst K p (ns.map .int)))).set n emp).set i (bd K CB CJ { a with sp := p } { S with spent := ns }) = (Os.set i (bd K CB CJ { a with sp := p } { S with spent := ns })).set n emp := by
      rw [List.set_comm _ _ (Ne.symm ne), List.set_set]
    rw [e] at fin
    exact fin
  · refine ⟨⟨dx, vs.set 4 (.ref p), upd_same, by rw [List.length_set]; exact hl, sl_set (ss := boardSD a S) (s := .v (.ref p)) rfl 4 hs⟩, ?_, ?_, len, nd, npl, nb, fun k' j' J2 e1 e2 => ?_⟩
    · show upd hh a.b _ a.l = _
      rw [upd_ne (ne_ins b1 l).symm]; exact s1 _ _ l
    · show upd hh a.b _ p = _
      rw [upd_ne npb]; exact s2 _ _ q1
    · obtain ⟨d2, w2, e3, e4, e5⟩ := job k' j' J2 e1 e2
      exact ⟨d2, w2, by rw [upd_ne (fun w => nb (by rw [← w]; exact List.mem_of_getElem? e1))]; exact s1 _ _ e3, e4, e5⟩
  · by_cases w : c = a.b
    · subst w; rw [upd_same] at e ⊢; exact e
    · rw [upd_ne w] at e ⊢; exact s c o e
  · by_cases w : c = a.b
    · subst w; exact nf
    · rw [upd_ne w] at e; exact d.none e
  · rw [upd_ne (fun q => by subst q; rw [s1 _ _ b1] at z; cases z)]; exact e
  · by_cases w : c = a.b
    · subst w; rw [s1 _ _ b1] at z; cases z
    · rw [upd_ne w, z] at e; cases e
theorem n_fldSp {ns : List Int} (i : Nat) (hv : EL K Γ Os te (ns.map .int) Os1) (ho : ∀ p, E K Γ (Os1 ++ [lst K p (ns.map .int)]) ta (.v (.ref a.b)) (Os1 ++ [lst K p (ns.map .int)])) (h : Os1[i]? = some (bd K CB CJ a S)) (c : Cls K CB) (na : NoAttr K CB "spent") (hn : ixS boardKs "spent" = some 4)
    (kk : ∀ p, N K B Γ (Os1.set i (bd K CB CJ { a with sp := p } { S with spent := ns })) nx) : N K B Γ Os (sFld K ta te "spent" ⟨nx, rt, bk, ct⟩) := fun F σ H A => hv B F σ H A _ fun p F1 H1 A1 _ => ho p B F1 σ H1 A1 _ fun x F2 H2 A2 e2 r2 => by
  have li := (List.getElem?_eq_some_iff.mp h).1
  have h' : (Os1 ++ [lst K p (ns.map .int)])[i]? = some (bd K CB CJ a S) := by rw [List.getElem?_append_left li]; exact h
  obtain ⟨dx, vs, h1, h2, h3⟩ := (A2.bdIn h').b
  refine ⟨a.b, CB, dx, _, r2, h1, c, na, by rw [List.length_zip, ← h2]; exact (by decide : min boardKs.length boardKs.length < 1000), ?_⟩
  rw [zip_put boardKs vs "spent" 4 (.ref p) h2 hn]
  have A3 := (A2.newSp (dx := dx) (p := p) (ns := ns) (n := Os1.length) h' (by simp) (by omega) h2 h3).take Os1.length
  refine kk p F2 σ _ ?_
  rw [List.set_append_left _ _ li, List.take_set, List.take_append_of_le_length (by simp), List.take_of_length_le (by simp), List.set_eq_of_length_le (by simp)] at A3
  exact A3
end
end Cw

namespace Cw
open PySem L2
/-! dicts of ours: keys ints and texts -/
def keyD : Key → PyData
  | .inl i => .int i
  | .inr x => .str x
section
variable {κ : Type} [DecidableEq κ]
def lkp (kvs : List (κ × SD)) (k : κ) : Option SD := (kvs.find? fun kv => decide (kv.1 = k)).map Prod.snd
def putS (kvs : List (κ × SD)) (k : κ) (s : SD) : List (κ × SD) := if (kvs.any fun kv => decide (kv.1 = k)) = true then kvs.map (fun kv => if kv.1 = k then (kv.1, s) else kv) else kvs ++ [(k, s)]
theorem lkp_nil {k : κ} : lkp ([] : List (κ × SD)) k = none := rfl
theorem lkp_cons (p : κ × SD) (kvs : List (κ × SD)) (k : κ) : lkp (p :: kvs) k = if p.1 = k then some p.2 else lkp kvs k := by
  unfold lkp
  by_cases e : p.1 = k <;> simp [List.find?_cons, e]
theorem val_lkp {K : Fr} {F : Hp} (k : κ) : ∀ (kvs : List (κ × SD)) (vs : List V), Sl K F (kvs.map Prod.snd) (vs.map some) → (∃ v s, valV ((kvs.map Prod.fst).zip vs) k = some v ∧ lkp kvs k = some s ∧ Sl1 K F s (some v)) ∨ (valV ((kvs.map Prod.fst).zip vs) k = none ∧ lkp kvs k = none)
  | [], [], _ => .inr ⟨rfl, rfl⟩
  | p :: kvs, v :: vs, h => by
    obtain ⟨h1, h2⟩ := h
    show (∃ w s, valV ((p.1, v) :: (kvs.map Prod.fst).zip vs) k = some w ∧ _) ∨ (valV ((p.1, v) :: (kvs.map Prod.fst).zip vs) k = none ∧ _)
    rw [lkp_cons]
    by_cases e : p.1 = k
    · rw [if_pos e, valV_pos (p := (p.1, v)) e]
      exact .inl ⟨v, p.2, rfl, rfl, h1⟩
    · rw [if_neg e, valV_neg (p := (p.1, v)) e]
      exact val_lkp k kvs vs h2
  | [], _ :: _, h => h.elim
  | _ :: _, [], h => h.elim
theorem any_zip (k : κ) : ∀ (kvs : List (κ × SD)) (vs : List V), kvs.length = vs.length → (((kvs.map Prod.fst).zip vs).any fun kv => decide (kv.1 = k)) = kvs.any fun kv => decide (kv.1 = k)
  | [], [], _ => rfl
  | p :: kvs, v :: vs, h => by
    show (((p.1, v) :: (kvs.map Prod.fst).zip vs).any _) = _
    rw [List.any_cons, List.any_cons, any_zip k kvs vs (by simpa using h)]
  | [], _ :: _, h => by simp at h
  | _ :: _, [], h => by simp at h
theorem map_zip {K : Fr} {F : Hp} {s : SD} {w : V} (r : Sl1 K F s (some w)) (k : κ) : ∀ (kvs : List (κ × SD)) (vs : List V), Sl K F (kvs.map Prod.snd) (vs.map some) →
    ∃ ws, ((kvs.map Prod.fst).zip vs).map (fun kv => if kv.1 = k then (kv.1, w) else kv) = ((kvs.map fun kv => if kv.1 = k then (kv.1, s) else kv).map Prod.fst).zip ws ∧ Sl K F ((kvs.map fun kv => if kv.1 = k then (kv.1, s) else kv).map Prod.snd) (ws.map some)
  | [], [], _ => ⟨[], rfl, trivial⟩
  | p :: kvs, v :: vs, h => by
    obtain ⟨h1, h2⟩ := h
    obtain ⟨ws, e1, e2⟩ := map_zip r k kvs vs h2
    by_cases e : p.1 = k
    · refine ⟨w :: ws, ?_, ?_⟩
      · show (((p.1, v) :: (kvs.map Prod.fst).zip vs).map _) = (((if p.1 = k then (p.1, s) else p) :: kvs.map _).map Prod.fst).zip (w :: ws)
        rw [List.map_cons, e1, if_pos e, if_pos e]; rfl
      · show Sl K F ((if p.1 = k then (p.1, s) else p).2 :: _) (some w :: _)
        rw [if_pos e]; exact ⟨r, e2⟩
    · refine ⟨v :: ws, ?_, ?_⟩
      · show (((p.1, v) :: (kvs.map Prod.fst).zip vs).map _) = (((if p.1 = k then (p.1, s) else p) :: kvs.map _).map Prod.fst).zip (v :: ws)
        rw [List.map_cons, e1, if_neg e, if_neg e]; rfl
      · show Sl K F ((if p.1 = k then (p.1, s) else p).2 :: _) (some v :: _)
        rw [if_neg e]; exact ⟨h1, e2⟩
  | [], _ :: _, h => h.elim
  | _ :: _, [], h => h.elim
theorem put_zip {K : Fr} {F : Hp} {s : SD} {w : V} (r : Sl1 K F s (some w)) (k : κ) (kvs : List (κ × SD)) (vs : List V) (h : Sl K F (kvs.map Prod.snd) (vs.map some)) :
    ∃ ws, putK ((kvs.map Prod.fst).zip vs) k w = ((putS kvs k s).map Prod.fst).zip ws ∧ Sl K F ((putS kvs k s).map Prod.snd) (ws.map some) := by
  have l : kvs.length = vs.length := by have := Sl.len h; simpa using this
  unfold putK putS
  rw [any_zip k kvs vs l]
  split
  · exact map_zip r k kvs vs h
  · refine ⟨vs ++ [w], ?_, ?_⟩
    · rw [List.map_append, List.zip_append (by simpa using l)]; rfl
    · rw [List.map_append, List.map_append]
      have : ∀ {ss : List SD} {vs : List V}, Sl K F ss (vs.map some) → Sl K F (ss ++ [s]) (vs.map some ++ [some w]) := fun {ss} => by
        induction ss with
        | nil => intro vs h; cases vs with
          | nil => exact ⟨r, trivial⟩
          | cons _ _ => exact h.elim
        | cons t ss ih => intro vs h; cases vs with
          | nil => exact h.elim
          | cons v vs => exact ⟨h.1, ih h.2⟩
      exact this h
end
/-- a dict of ours: its keys in their order, what is said of each value -/
def dK (K : Fr) (p : Addr) (kvs : List (Key × SD)) : Own := ⟨fun F h => ∃ vs, h p = some (.dK ((kvs.map Prod.fst).zip vs)) ∧ Sl K F (kvs.map Prod.snd) (vs.map some), fun e e2 ⟨vs, h1, h2⟩ => ⟨vs, e2 _ _ h1, h2.mono e⟩⟩
/-- .. locked, while a loop walks it -/
def dKf (K : Fr) (p : Addr) (o : Obj) (vs : List V) (kvs : List (Key × SD)) : Own := ⟨fun F h => h p = some (.frz o (.dK ((kvs.map Prod.fst).zip vs))) ∧ Sl K F (kvs.map Prod.snd) (vs.map some), fun e e2 ⟨h1, h2⟩ => ⟨e2 _ _ h1, h2.mono e⟩⟩
section
variable {K : Fr} {B : Hp × Hp} {F H : Hp} {Γ : List SD} {Os Os1 Os2 Os3 Os' : List Own} {σ : L2.St} {nx bk ct : L2.St → Hp → Prop} {rt : VK} {ta te ty td tv : TE} {s : SD} {i : Nat} {p : Addr} {kvs : List (Key × SD)} {k : Key} {d : PyData}
theorem key_is {x : V} (r : Rp K F x (.d (keyD k))) : x = kV k := by
  cases k with
  | inl i => cases (show Dp K F x (.int i) from r); rfl
  | inr t => cases (show Dp K F x (.str t) from r); rfl
/-- one cell of ours changes -/
theorem At.cell {O O' : Own} {o : HO} (A : At K B F Γ Os σ H) (hi : Os[i]? = some O) (hc : ∀ h, O.P F h → ∃ u, h p = some u) (q : ∀ h, O.P F h → O'.P F (upd h p o)) : At K B F Γ (Os.set i O') σ (upd H p o) := by
  obtain ⟨h', x, s, d, kk⟩ := A.touch hi
  obtain ⟨u, hu⟩ := hc h' x
  have nf : F p = none := d.none hu
  refine kk (h' := upd h' p o) (Same.refl _) (fun b o' e => ?_) (q h' x) (fun b o' e => ?_) (.of fun b o' e => ?_) (fun b o' e z => ?_) (fun b o' e z => ?_) fun b o e z => by rw [e] at z; cases z
  · rw [upd_ne (fun q => by subst q; rw [nf] at e; cases e)]; exact A.fr b o' e
  · by_cases w : b = p
    · subst w; rw [upd_same] at e ⊢; exact e
    · rw [upd_ne w] at e ⊢; exact s b o' e
  · by_cases w : b = p
    · subst w; exact nf
    · rw [upd_ne w] at e; exact d.none e
  · rw [upd_ne (fun q => by subst q; rw [hu] at z; cases z)]; exact e
  · by_cases w : b = p
    · subst w; rw [hu] at z; cases z
    · rw [upd_ne w, z] at e; cases e
theorem At.getD (A : At K B F Γ Os σ H) (h : Os[i]? = some (dK K p kvs)) : ∃ vs, H p = some (.dK ((kvs.map Prod.fst).zip vs)) ∧ Sl K F (kvs.map Prod.snd) (vs.map some) := by
  obtain ⟨h', ⟨vs, h1, h2⟩, s, _⟩ := A.touch h
  exact ⟨vs, s _ _ h1, h2⟩
theorem At.getF {o : Obj} {vs : List V} (A : At K B F Γ Os σ H) (h : Os[i]? = some (dKf K p o vs kvs)) : H p = some (.frz o (.dK ((kvs.map Prod.fst).zip vs))) ∧ Sl K F (kvs.map Prod.snd) (vs.map some) := by
  obtain ⟨h', ⟨h1, h2⟩, s, _⟩ := A.touch h
  exact ⟨s _ _ h1, h2⟩
theorem dget_at (A : At K B F Γ Os σ H) (h : Os[i]? = some (dK K p kvs)) : (∃ v s, DGet H p (kV k) (some v) ∧ lkp kvs k = some s ∧ Sl1 K F s (some v)) ∨ (DGet H p (kV k) none ∧ lkp kvs k = none) := by
  obtain ⟨vs, h1, h2⟩ := A.getD h
  have g := DGet.k (k := k) h1
  rcases val_lkp k kvs vs h2 with ⟨v, s, e1, e2, e3⟩ | ⟨e1, e2⟩
  · rw [e1] at g; exact .inl ⟨v, s, g, e2, e3⟩
  · rw [e1] at g; exact .inr ⟨g, e2⟩
theorem dget_atF {o : Obj} {vs : List V} (A : At K B F Γ Os σ H) (h : Os[i]? = some (dKf K p o vs kvs)) : (∃ v s, DGet H p (kV k) (some v) ∧ lkp kvs k = some s ∧ Sl1 K F s (some v)) ∨ (DGet H p (kV k) none ∧ lkp kvs k = none) := by
  obtain ⟨h1, h2⟩ := A.getF h
  have g : DGet H p (kV k) (valV ((kvs.map Prod.fst).zip vs) k) := .inl ⟨_, k, .inr ⟨o, h1⟩, rfl, rfl⟩
  rcases val_lkp k kvs vs h2 with ⟨v, s, e1, e2, e3⟩ | ⟨e1, e2⟩
  · rw [e1] at g; exact .inl ⟨v, s, g, e2, e3⟩
  · rw [e1] at g; exact .inr ⟨g, e2⟩
/-- a dict of ours, or locked -/
def IsDk (K : Fr) (p : Addr) (kvs : List (Key × SD)) (Os : List Own) (i : Nat) : Prop := Os[i]? = some (dK K p kvs) ∨ ∃ o vs, Os[i]? = some (dKf K p o vs kvs)
theorem dget_any (A : At K B F Γ Os σ H) (h : IsDk K p kvs Os i) : (∃ v s, DGet H p (kV k) (some v) ∧ lkp kvs k = some s ∧ Sl1 K F s (some v)) ∨ (DGet H p (kV k) none ∧ lkp kvs k = none) := by
  rcases h with h | ⟨o, vs, h⟩
  · exact dget_at A h
  · exact dget_atF A h
theorem e_din (hy : E K Γ Os ty (.d (keyD k)) Os1) (hd : E K Γ Os1 td (.v (.ref p)) Os2) (h : IsDk K p kvs Os2 i) : E K Γ Os (tDIn ty td) (.d (.bool (lkp kvs k).isSome)) Os2 := fun B F σ H A Q kk =>
  hy B F σ H A _ fun y F1 H1 A1 e1 r1 => hd B F1 σ H1 A1 _ fun x F2 H2 A2 e2 r2 => by
    rw [key_is r1]
    rcases dget_any (k := k) A2 h with ⟨v, s, g, e, _⟩ | ⟨g, e⟩
    · refine ⟨p, some v, r2, g, ?_⟩
      rw [e] at kk
      exact kk _ F2 H2 A2 (e1.trans e2) (.bl true)
    · refine ⟨p, none, r2, g, ?_⟩
      rw [e] at kk
      exact kk _ F2 H2 A2 (e1.trans e2) (.bl false)
theorem e_dnin (hy : E K Γ Os ty (.d (keyD k)) Os1) (hd : E K Γ Os1 td (.v (.ref p)) Os2) (h : IsDk K p kvs Os2 i) : E K Γ Os (tDNotIn ty td) (.d (.bool (!(lkp kvs k).isSome))) Os2 := fun B F σ H A Q kk =>
  hy B F σ H A _ fun y F1 H1 A1 e1 r1 => hd B F1 σ H1 A1 _ fun x F2 H2 A2 e2 r2 => by
    rw [key_is r1]
    rcases dget_any (k := k) A2 h with ⟨v, s, g, e, _⟩ | ⟨g, e⟩
    · refine ⟨p, some v, r2, g, ?_⟩
      rw [e] at kk
      exact kk _ F2 H2 A2 (e1.trans e2) (.bl false)
    · refine ⟨p, none, r2, g, ?_⟩
      rw [e] at kk
      exact kk _ F2 H2 A2 (e1.trans e2) (.bl true)
theorem e_dget (hd : E K Γ Os td (.v (.ref p)) Os1) (hy : E K Γ Os1 ty (.d (keyD k)) Os2) (h : IsDk K p kvs Os2 i) (hk : lkp kvs k = some s) (n : s.ok = true) : E K Γ Os (tDGet td ty) s Os2 := fun B F σ H A Q kk =>
  hd B F σ H A _ fun x F1 H1 A1 e1 r1 => hy B F1 σ H1 A1 _ fun y F2 H2 A2 e2 r2 => by
    rw [key_is r2]
    rcases dget_any (k := k) A2 h with ⟨v, s', g, e, r⟩ | ⟨g, e⟩
    · rw [hk] at e; cases e
      exact ⟨p, v, r1, g, kk _ F2 H2 A2 (e1.trans e2) (sl1_rp n r)⟩
    · rw [hk] at e; cases e
theorem n_dput (i : Nat) (hv : E K Γ Os tv s Os1) (hd : E K Γ Os1 td (.v (.ref p)) Os2) (hy : E K Γ Os2 ty (.d (keyD k)) Os3) (h : Os3[i]? = some (dK K p kvs)) (hl : kvs.length < 1000000) (kk : N K B Γ (Os3.set i (dK K p (putS kvs k s))) nx) : N K B Γ Os (sDPut td ty tv ⟨nx, rt, bk, ct⟩) := fun F σ H A =>
  hv B F σ H A _ fun w F1 H1 A1 _ r1 => hd B F1 σ H1 A1 _ fun x F2 H2 A2 e2 r2 => hy B F2 σ H2 A2 _ fun y F3 H3 A3 e3 r3 => by
    rw [key_is r3]
    obtain ⟨vs, h1, h2⟩ := A3.getD h
    have l : kvs.length = vs.length := by have := Sl.len h2; simpa using this
    refine ⟨p, _, r2, DPut.k h1 (szl_lt (by rw [List.length_zip, List.length_map, ← l, Nat.min_self]; exact hl)), ?_⟩
    obtain ⟨ws, q1, q2⟩ := put_zip (((r1.mono e2).mono e3).sl1) k kvs vs h2
    rw [q1]
    exact kk F3 σ _ (A3.cell h (fun h ⟨vs, h1, _⟩ => ⟨_, h1⟩) fun h _ => ⟨ws, upd_same, q2⟩)
/-! {k: v, ..} -/
def EPs (K : Fr) (Γ : List SD) (Os : List Own) (trs : List (TE × TE)) (kvs : List (Key × SD)) (Os' : List Own) : Prop := ∀ (B : Hp × Hp) (F : Hp) (σ : St) (H : Hp), At K B F Γ Os σ H → ∀ Q : List (V × V) → Hp → Prop,
  (∀ vs F' H', At K B F' Γ Os' σ H' → Same F F' → Sl K F' (kvs.map Prod.snd) (vs.map some) → Q (((kvs.map Prod.fst).zip vs).map fun kv => (kV kv.1, kv.2)) H') → tPairs trs σ H Q
theorem eps_nil : EPs K Γ Os [] [] Os := fun B F σ H A Q kk => kk [] F H A (Same.refl _) trivial
theorem eps_cons {trs : List (TE × TE)} (hk : E K Γ Os ty (.d (keyD k)) Os1) (hv : E K Γ Os1 tv s Os2) (hr : EPs K Γ Os2 trs kvs Os3) : EPs K Γ Os ((ty, tv) :: trs) ((k, s) :: kvs) Os3 := fun B F σ H A Q kk =>
  hk B F σ H A _ fun x F1 H1 A1 e1 r1 => hv B F1 σ H1 A1 _ fun y F2 H2 A2 e2 r2 => hr B F2 σ H2 A2 _ fun vs F3 H3 A3 e3 r3 => by
    rw [key_is r1]
    exact kk (y :: vs) F3 H3 A3 ((e1.trans e2).trans e3) ⟨(r2.mono e3).sl1, r3⟩
theorem em_disp {trs : List (TE × TE)} (h : ∀ p, EPs K Γ (Os ++ [dK K p []]) trs kvs (Os ++ [dK K p []])) (hl : kvs.length ≤ 15) (hm : ∀ vs : List V, mergeK [] ((kvs.map Prod.fst).zip vs) = (kvs.map Prod.fst).zip vs) : EM K Γ Os (tDisp trs) (fun p => dK K p kvs) Os := fun B F σ H A Q kk p hp => by
  have A1 : At K B F Γ (Os ++ [dK K p []]) σ (upd H p (.dK [])) := A.newO hp ⟨[], one_same, trivial⟩
  refine h p B F σ _ A1 _ fun vs F2 H2 A2 e2 r2 => ?_
  obtain ⟨vs0, g1, g2⟩ := A2.getD (i := Os.length) (p := p) (kvs := []) (by simp)
  have l : kvs.length = vs.length := by have := Sl.len r2; simpa using this
  refine ⟨by simpa using g1, (kvs.map Prod.fst).zip vs, rfl, by rw [List.length_zip, List.length_map, ← l, Nat.min_self]; exact hl, ?_⟩
  rw [hm]
  have A3 := A2.cell (O := dK K p []) (i := Os.length) (p := p) (o := .dK ((kvs.map Prod.fst).zip vs)) (O' := dK K p kvs) (by simp) (fun h ⟨vs, h1, _⟩ => ⟨_, h1⟩) fun h _ => ⟨vs, upd_same, r2⟩
  rw [List.set_append_right _ _ (Nat.le_refl _), Nat.sub_self] at A3
  exact kk p F2 _ A3 e2
theorem cl_listD (i : Nat) (h : Os[i]? = some (dK K p kvs)) {r : List V → Hp → VK → Prop} (hr : ∀ xs H Q, (∃ (a : Addr) (kvs : List (Key × V)), xs = [V.ref a] ∧ Rd H a (.dK kvs) ∧ ∀ p, H p = none → Q (.ref p) (upd H p (.lst (kvs.map fun kv => kV kv.1)))) → r xs H Q) : CbL K Os r [.v (.ref p)] (kvs.map fun kv => keyD kv.1) Os := fun B F Γ σ H xs A rr Q kk => by
  obtain ⟨x, rfl, q⟩ := sl1 rfl rr
  obtain ⟨vs, h1, h2⟩ := A.getD h
  refine hr _ _ _ ⟨p, _, by rw [show x = V.ref p from q], .inl h1, fun l hl => kk l F _ (A.newO hl ⟨_, one_same, ?_⟩) (Same.refl _)⟩
  have l : kvs.length = vs.length := by have := Sl.len h2; simpa using this
  have : ∀ (kvs : List (Key × SD)) (vs : List V), kvs.length = vs.length → DpAll K F (((kvs.map Prod.fst).zip vs).map fun kv => kV kv.1) (kvs.map fun kv => keyD kv.1) := fun kvs => by
    induction kvs with
    | nil => intro vs _; exact .nil
    | cons a kvs ih =>
      intro vs l
      cases vs with
      | nil => simp at l
      | cons v vs =>
        refine .cons ?_ (ih vs (by simpa using l))
        obtain ⟨a1, a2⟩ := a
        cases a1 with
        | inl i => exact .int i
        | inr x => exact .str x
  exact this kvs vs l
/-! a loop over its keys -/
theorem n_lock {t : TS} (i : Nat) (h : Os[i]? = some (dK K p kvs)) (kk : ∀ o vs, N K B Γ (Os.set i (dKf K p o vs kvs)) (t ⟨fun σ' H' => H' p = some (.frz o (.dK ((kvs.map Prod.fst).zip vs))) ∧ nx σ' (upd H' p (.dK ((kvs.map Prod.fst).zip vs))), fun v H' => H' p = some (.frz o (.dK ((kvs.map Prod.fst).zip vs))) ∧ rt v (upd H' p (.dK ((kvs.map Prod.fst).zip vs))), fun σ' H' => H' p = some (.frz o (.dK ((kvs.map Prod.fst).zip vs))) ∧ bk σ' (upd H' p (.dK ((kvs.map Prod.fst).zip vs))), fun σ' H' => H' p = some (.frz o (.dK ((kvs.map Prod.fst).zip vs))) ∧ ct σ' (upd H' p (.dK ((kvs.map Prod.fst).zip vs)))⟩)) : N K B Γ Os (tLock t ⟨nx, rt, bk, ct⟩) := fun F σ H A => by
  obtain ⟨vs, h1, h2⟩ := A.getD h
  refine ⟨p, _, h1, trivial, fun o => kk o vs F σ _ (A.cell h (fun h ⟨vs, h1, _⟩ => ⟨_, h1⟩) fun h _ => ⟨upd_same, h2⟩)⟩
theorem n_unlock {o : Obj} {vs : List V} {P : L2.St → Hp → Prop} (i : Nat) (h : Os[i]? = some (dKf K p o vs kvs)) (kk : N K B Γ (Os.set i (dK K p kvs)) P) : N K B Γ Os (fun σ' H' => H' p = some (.frz o (.dK ((kvs.map Prod.fst).zip vs))) ∧ P σ' (upd H' p (.dK ((kvs.map Prod.fst).zip vs)))) := fun F σ H A => by
  obtain ⟨h1, h2⟩ := A.getF h
  exact ⟨h1, kk F σ _ (A.cell h (fun h ⟨h1, _⟩ => ⟨_, h1⟩) fun h _ => ⟨vs, upd_same, h2⟩)⟩
theorem it_keys {o : Obj} {vs : List V} (j : Nat) (h : E K Γ Os td (.v (.ref p)) Os1) (hj : Os1[j]? = some (dKf K p o vs kvs)) : IT K Γ Os (iKeys td) kvs.length (fun i => .d ((kvs.map fun kv => keyD kv.1)[i]?.getD .none)) (fun O => O[j]? = some (dKf K p o vs kvs)) Os1 := fun B F σ H A R kk => h B F σ H A _ fun x F1 H1 A1 e1 q1 => by
  obtain ⟨a1, a2⟩ := A1.getF hj
  have l : kvs.length = vs.length := by have := Sl.len a2; simpa using this
  refine ⟨p, o, q1, .inl ⟨_, a1, kk _ F1 H1 A1 e1 fun B Γ Os σ F' H e A c => ?_⟩⟩
  obtain ⟨b1, b2⟩ := A.getF c
  have lz : ((kvs.map Prod.fst).zip vs).length = kvs.length := by rw [List.length_zip, List.length_map, ← l, Nat.min_self]
  refine ⟨fun i hi => ⟨b1, by rw [lz]; exact hi⟩, ⟨b1, by rw [lz]; exact Nat.le_refl _⟩, fun i hi x H' y => ?_⟩
  obtain ⟨rfl, ky, w, e2, rfl⟩ := y
  refine ⟨F', Same.refl _, A, ?_⟩
  show Dp K F' (kV ky) ((kvs.map fun kv => keyD kv.1)[i]?.getD .none)
  have e3 : kvs[i]?.map Prod.fst = some ky := by
    have := congrArg (Option.map Prod.fst) e2
    rw [← List.getElem?_map, List.map_fst_zip (by simp [l]), List.getElem?_map] at this
    exact this
  rw [List.getElem?_map]
  cases q : kvs[i]? with
  | none => rw [q] at e3; cases e3
  | some a =>
    rw [q] at e3
    cases e3
    show Dp K F' (kV a.1) (keyD a.1)
    obtain ⟨a1, a2⟩ := a
    cases a1 with
    | inl i => exact .int i
    | inr x => exact .str x
end
end Cw

namespace Cw
open PySem L2
--import FwD
/-! what is dropped -/
def dropStep (S : Bd) (g : List Nat) (k : Nat) : List Nat := if ((S.jb k).isOpen && (S.jb k).after.any fun o => decide (o ∈ g)) = true then g ++ [k] else g
def Bd.dropG (S : Bd) (n : Nat) : Nat → List Nat
  | 0 => [n]
  | i + 1 => dropStep S (S.dropG n i) (n + i)
def Bd.dropL (S : Bd) (n : Nat) : List Nat := S.dropG n (S.jobs.length - n)
def Bd.dropS (S : Bd) (g : List Nat) : Bd := { S with jobs := S.jobs.mapIdx fun k J => if k ∈ g then { J with gone := true } else J }
theorem dropG_succ (S : Bd) (n i : Nat) : S.dropG n (i + 1) = dropStep S (S.dropG n i) (n + i) := rfl
theorem dropG_facts {S : Bd} (ok : S.Ok) (n : Nat) : ∀ i, i ≤ S.jobs.length - n → (S.dropG n i).length ≤ i + 1 ∧ (∀ x ∈ S.dropG n i, x = n ∨ (n < x ∧ x < n + i)) ∧ (S.dropG n i).Pairwise (· < ·) ∧ (i ≤ 1 → S.dropG n i = [n])
  | 0, _ => ⟨by simp [Bd.dropG], fun x hx => by simp [Bd.dropG] at hx; exact .inl hx, by simp [Bd.dropG], fun _ => rfl⟩
  | i + 1, hi => by
    obtain ⟨a, b, c, d⟩ := dropG_facts ok n i (by omega)
    rw [dropG_succ]
    unfold dropStep
    split
    · rename_i h
      obtain ⟨h1, h2⟩ := Bool.and_eq_true_iff.mp h
      obtain ⟨o, ho, hm⟩ := List.any_eq_true.mp h2
      have hm := of_decide_eq_true hm
      have lt := (ok.job (n + i) _ (Bd.jb_get (by omega))).aft o ho
      have i0 : 0 < i := by
        rcases Nat.eq_zero_or_pos i with z | z
        · subst z
          rw [d (by omega)] at hm
          simp at hm
          omega
        · exact z
      refine ⟨by rw [List.length_append, List.length_singleton]; omega, fun x hx => ?_, ?_, fun z => by omega⟩
      · rcases List.mem_append.mp hx with hx | hx
        · rcases b x hx with e | e
          · exact .inl e
          · exact .inr ⟨e.1, by omega⟩
        · simp at hx; right; omega
      · refine List.pairwise_append.mpr ⟨c, by simp, fun x hx y hy => ?_⟩
        simp at hy
        subst hy
        rcases b x hx with e | e <;> omega
    · refine ⟨by omega, fun x hx => ?_, c, fun z => by have : i = 0 := by omega
                                                       subst this; rfl⟩
      rcases b x hx with e | e
      · exact .inl e
      · exact .inr ⟨e.1, by omega⟩
theorem dropG_len {S : Bd} (ok : S.Ok) (n i : Nat) (h : i ≤ S.jobs.length - n) : (S.dropG n i).length ≤ i + 1 := (dropG_facts ok n i h).1
theorem dropG_new {S : Bd} (ok : S.Ok) {n i : Nat} (hi : n + i < S.jobs.length) (h : ((S.jb (n + i)).isOpen && (S.jb (n + i)).after.any fun o => decide (o ∈ S.dropG n i)) = true) : n + i ∉ S.dropG n i := fun hm => by
  obtain ⟨a, b, c, d⟩ := dropG_facts ok n i (by omega)
  have i0 : i = 0 := by rcases b _ hm with e | e <;> omega
  subst i0
  obtain ⟨h1, h2⟩ := Bool.and_eq_true_iff.mp h
  obtain ⟨o, ho, hm2⟩ := List.any_eq_true.mp h2
  have hm2 := of_decide_eq_true hm2
  have lt := (ok.job (n + 0) _ (Bd.jb_get (by omega))).aft o ho
  rw [d (by omega)] at hm2
  simp at hm2
  omega
theorem dropL_asc {S : Bd} (ok : S.Ok) (n : Nat) : (S.dropL n).Pairwise (· < ·) := (dropG_facts ok n _ (Nat.le_refl _)).2.2.1
theorem dropL_mem {S : Bd} (ok : S.Ok) {n : Nat} (hn : n < S.jobs.length) : ∀ x ∈ S.dropL n, x < S.jobs.length := fun x hx => by
  rcases (dropG_facts ok n _ (Nat.le_refl _)).2.1 x hx with e | e <;> omega
theorem dropS_nil (S : Bd) : S.dropS [] = S := by
  unfold Bd.dropS
  have : S.jobs.mapIdx (fun k J => if k ∈ ([] : List Nat) then { J with gone := true } else J) = S.jobs := by
    refine List.ext_getElem? fun i => ?_
    rw [List.getElem?_mapIdx]
    cases S.jobs[i]? <;> simp
  rw [this]
theorem dropS_n (S : Bd) (g : List Nat) : (S.dropS g).jobs.length = S.jobs.length := by unfold Bd.dropS; simp
theorem dropS_jb (S : Bd) (g : List Nat) {k : Nat} (hk : k < S.jobs.length) : (S.dropS g).jb k = if k ∈ g then { S.jb k with gone := true } else S.jb k := by
  unfold Bd.dropS
  show ((S.jobs.mapIdx _)[k]?).getD jb0 = _
  rw [List.getElem?_mapIdx, Bd.jb_get hk]; rfl
theorem dropS_succ (S : Bd) (g : List Nat) (i : Nat) (hi : i < g.length) {k : Nat} (hk : g[i]?.getD 0 = k) (hl : k < S.jobs.length) :
    { S.dropS (g.take i) with jobs := (S.dropS (g.take i)).jobs.set k { (S.dropS (g.take i)).jb k with gone := true } } = S.dropS (g.take (i + 1)) := by
  have hk : g[i] = k := by rw [List.getElem?_eq_getElem hi] at hk; exact hk
  have e : (S.dropS (g.take i)).jobs.set k { (S.dropS (g.take i)).jb k with gone := true } = (S.dropS (g.take (i + 1))).jobs := by
    refine List.ext_getElem? fun j => ?_
    have mem : ∀ x, x ∈ g.take (i + 1) ↔ x ∈ g.take i ∨ x = k := fun x => by
      rw [List.take_succ, List.mem_append, List.getElem?_eq_getElem hi, hk]; simp
    by_cases z : k = j
    · subst z
      rw [List.getElem?_set_self (by rw [dropS_n]; exact hl), Bd.jb_get (S := S.dropS (g.take (i + 1))) (by rw [dropS_n]; exact hl), dropS_jb S _ hl, dropS_jb S _ hl, if_pos ((mem k).mpr (.inr rfl))]
      split <;> rfl
    · rw [List.getElem?_set_ne z]
      unfold Bd.dropS
      dsimp only
      rw [List.getElem?_mapIdx, List.getElem?_mapIdx]
      cases S.jobs[j]? with
      | none => rfl
      | some J =>
        show some (if j ∈ g.take i then _ else J) = some (if j ∈ g.take (i + 1) then _ else J)
        by_cases y : j ∈ g.take i
        · rw [if_pos y, if_pos ((mem j).mpr (.inl y))]
        · rw [if_neg y, if_neg (fun w => by rcases (mem j).mp w with w | w
                                            · exact y w
                                            · exact z w.symm)]
  rw [e]; rfl
theorem drop_ok {S : Bd} (ok : S.Ok) (g : List Nat) : (S.dropS g).Ok := ⟨ok.bu, ok.pa, fun k J e => by
  unfold Bd.dropS at e
  dsimp only at e
  rw [List.getElem?_mapIdx] at e
  cases q : S.jobs[k]? with
  | none => rw [q] at e; cases e
  | some J0 =>
    rw [q] at e
    cases e
    have j := ok.job k J0 q
    show JbOk S.budget k (if k ∈ g then _ else J0)
    split
    · exact ⟨j.aft, j.len, j.parts, j.at_, j.fin, j.idle, j.aftn⟩
    · exact j, by rw [dropS_n]; exact ok.n, ok.fr, ok.sp⟩
/-! another rank -/
def Bd.rankN (S : Bd) (n : Nat) (r : Int) : Bd := { S with jobs := S.jobs.set n { S.jb n with rank := r } }
theorem rankN_jb (S : Bd) {n : Nat} (r : Int) (k : Nat) (hn : n < S.jobs.length) : (S.rankN n r).jb k = if n = k then { S.jb n with rank := r } else S.jb k := by
  unfold Bd.rankN Bd.jb
  dsimp only
  by_cases z : n = k
  · subst z; rw [if_pos rfl, List.getElem?_set_self hn]; rfl
  · rw [if_neg z, List.getElem?_set_ne z]
theorem rankN_ok {S : Bd} (ok : S.Ok) {n : Nat} (r : Int) (hn : n < S.jobs.length) : (S.rankN n r).Ok := by
  have j := ok.job n _ (Bd.jb_get hn)
  exact set_ok ok (k := n) (J := { S.jb n with rank := r }) ⟨j.aft, j.len, j.parts, j.at_, j.fin, j.idle, j.aftn⟩
theorem rankN_back (S : Bd) {n : Nat} (r : Int) (hn : n < S.jobs.length) : (S.rankN n r).rankN n (S.jb n).rank = S := by
  have e : (S.rankN n r).jb n = { S.jb n with rank := r } := by rw [rankN_jb S r n hn, if_pos rfl]
  unfold Bd.rankN at *
  dsimp only at *
  rw [e, List.set_set]
  have : S.jobs.set n { ({ S.jb n with rank := r } : Jb) with rank := (S.jb n).rank } = S.jobs := set_self (Bd.jb_get hn)
  rw [this]
/-! the order is the one sorted list of the ready -/
theorem order_is {S : Bd} {l : List Nat} (hp : l.Perm S.ready) (hs : l.Pairwise fun a b => S.leK a b = true) : S.order = l :=
  List.Perm.eq_of_pairwise (fun a b _ _ h1 h2 => by rw [leK_eq, decide_eq_true_eq] at h1 h2; omega) (order_sorted S) hs ((List.mergeSort_perm _ _).trans hp.symm)
theorem order_perm (S : Bd) : S.order.Perm S.ready := List.mergeSort_perm _ _
/-! within a frame -/
structure Rn (S S' : Bd) (r : Int) (m : List (Nat × Nat)) : Prop where
  ok : S'.Ok
  al : S.Alike S'
  run : ∃ n, S'.left ≤ n ∧ runM n S' r m (S'.fits r) = S.run
theorem rn_0 {S : Bd} (ok : S.Ok) : Rn S S S.budget [] := ⟨ok, .refl S, S.left, Nat.le_refl _, by rw [fits_all ok]; rfl⟩
theorem rn_step {S S' : Bd} {r : Int} {m : List (Nat × Nat)} {k : Nat} {o : List Nat} (h : Rn S S' r m) (hf : S'.fits r = k :: o) : Rn S (S'.step k) (r - (S'.jb k).part) (m ++ [(k, (S'.jb k).at_)]) := by
  obtain ⟨ok, al, n, hn, e⟩ := h
  have hk := fits_mem.mp (by rw [hf]; simp : k ∈ S'.fits r)
  have l1 := step_left1 ok hk.1
  refine ⟨step_ok ok hk.1, al.step k, ?_⟩
  cases n with
  | zero => omega
  | succ n =>
    rw [hf] at e
    exact ⟨n, by omega, e⟩
theorem rn_end {S S' : Bd} {r : Int} {m : List (Nat × Nat)} (h : Rn S S' r m) (hf : S'.fits r = []) : S.run = (S', r, m) := by
  obtain ⟨ok, al, n, hn, e⟩ := h
  rw [hf] at e
  rw [← e]
  cases n <;> rfl
theorem frameR_of {S S' : Bd} {r : Int} {m : List (Nat × Nat)} (h : S.run = (S', r, m)) : S.frameR = m := by unfold Bd.frameR; rw [h]
theorem frame_jb2 {S S' : Bd} {r : Int} {m : List (Nat × Nat)} (ok : S.Ok) (h : S.run = (S', r, m)) {k : Nat} (hk : k < S.jobs.length) : S.frameS.jb k = idleM (m.map (·.1)) S.order k (S'.jb k) := by
  have R := run_facts ok
  rw [frame_jb S k (by rw [R.al.n]; exact hk), h]
theorem idle_le {ran beg : List Nat} {k : Nat} {J : Jb} {t : Int} (h0 : 0 ≤ J.idle) (h : J.idle ≤ t) : 0 ≤ (idleM ran beg k J).idle ∧ (idleM ran beg k J).idle ≤ t + 1 := by
  unfold idleM
  split
  · exact ⟨Int.le_refl _, by show (0 : Int) ≤ t + 1; omega⟩
  · split
    · exact ⟨by show 0 ≤ J.idle + 1; omega, by show J.idle + 1 ≤ t + 1; omega⟩
    · exact ⟨h0, by omega⟩
end Cw

namespace Cw
open PySem L2
/-! a dict of numbers, each True; lists of numbers, sorted -/
def gkv (g : List Nat) : List (Key × SD) := g.map fun (n : Nat) => (.inl (n : Int), .d (.bool true))
theorem gkv_lkp (g : List Nat) (o : Nat) : (lkp (gkv g) (.inl (o : Int))).isSome = decide (o ∈ g) := by
  induction g with
  | nil => rfl
  | cons x g ih =>
    show (lkp ((Sum.inl (x : Int), SD.d (.bool true)) :: gkv g) (.inl (o : Int))).isSome = _
    rw [lkp_cons]
    by_cases e : x = o
    · subst e; rw [if_pos rfl]; simp
    · rw [if_neg (fun z => e (by have := Sum.inl.inj z; omega)), ih]
      simp [Ne.symm e, fun z : o = x => e z.symm]
theorem gkv_put {g : List Nat} {k : Nat} (h : k ∉ g) : putS (gkv g) (.inl (k : Int)) (.d (.bool true)) = gkv (g ++ [k]) := by
  unfold putS
  have : ¬ ((gkv g).any fun kv => decide (kv.1 = .inl (k : Int))) = true := fun z => by
    obtain ⟨kv, h1, h2⟩ := List.any_eq_true.mp z
    obtain ⟨x, hx, rfl⟩ := List.mem_map.mp h1
    have := Sum.inl.inj (of_decide_eq_true h2)
    exact h (by rw [show k = x by omega]; exact hx)
  rw [if_neg this]
  unfold gkv
  rw [List.map_append]; rfl
theorem gkv_keys (g : List Nat) : ((gkv g).map fun kv => keyD kv.1) = g.map fun (n : Nat) => PyData.int (n : Int) := by
  unfold gkv; rw [List.map_map]; rfl
theorem nats_alike (l : List Nat) : PySem.W.AllAlike (l.map fun (n : Nat) => PyData.int (n : Int)) := PySem.W.AllAlike.of fun a b => by simp [PySem.W.alike]
theorem nats_depth (l : List Nat) : ∀ d, d ∈ (l.map fun (n : Nat) => PyData.int (n : Int)) → d.depth ≤ 60 := fun d hd => by
  obtain ⟨k, _, rfl⟩ := List.mem_map.mp hd
  simp [PyData.depth]
theorem le_ints (a b : Int) : PySem.W.dataLe false id (.int a) (.int b) = decide (a ≤ b) := by
  show (!PySem.W.dataLt (.int b) (.int a)) = _
  rw [PySem.W.dataLt_int]
  by_cases h : a ≤ b
  · rw [decide_eq_true h, decide_eq_false (by omega)]; rfl
  · rw [decide_eq_false h, decide_eq_true (by omega)]; rfl
theorem nats_sort (l : List Nat) : (l.map fun (n : Nat) => PyData.int (n : Int)).mergeSort (PySem.W.dataLe false id) = (l.mergeSort fun a b => decide (a ≤ b)).map fun (n : Nat) => PyData.int (n : Int) :=
  (List.map_mergeSort (f := fun (n : Nat) => PyData.int (n : Int)) (r := fun a b => decide (a ≤ b)) (s := PySem.W.dataLe false id) (fun a _ b _ => by
    rw [le_ints]
    by_cases h : a ≤ b
    · rw [decide_eq_true h, decide_eq_true (by omega)]
    · rw [decide_eq_false h, decide_eq_false (by omega)])).symm
theorem asc_sorted {l : List Nat} (h : l.Pairwise (· < ·)) : l.mergeSort (fun a b => decide (a ≤ b)) = l :=
  List.Perm.eq_of_pairwise (le := fun a b : Nat => decide (a ≤ b) = true) (fun a b _ _ h1 h2 => by simp at h1 h2; omega) (List.pairwise_mergeSort (fun a b c h1 h2 => by simp at *; omega) (fun a b => by simp; omega) l) (h.imp fun h => by simp; omega) (List.mergeSort_perm l _)
theorem nats_sorted {l : List Nat} (h : l.Pairwise (· < ·)) : (l.map fun (n : Nat) => PyData.int (n : Int)).mergeSort (PySem.W.dataLe false id) = l.map fun (n : Nat) => PyData.int (n : Int) := by
  rw [nats_sort, asc_sorted h]
section
variable {K : Fr} {CB CJ : Addr} {a : BA} {S : Bd} {Γ : List SD} {Os Os1 : List Own} {ta ti te : TE} {n : Nat}
/-- self.jobs[n:] -/
theorem ev_slJ (i : Nat) (ha : E K Γ Os ta (.v (.ref a.l)) Os1) (hi : EO K Γ Os1 (tPart ti) (some (n : Int)) Os1) (h : Os1[i]? = some (bd K CB CJ a S)) : EV K Γ Os (tSl (rSlU K) ta (tPart ti) tNoPart) ((a.js.map V.ref).drop n) Os1 := fun B F σ H A Q k =>
  ha B F σ H A _ fun x F1 H1 A1 e1 r1 => hi B F1 σ H1 A1 _ fun F2 H2 A2 e2 => by
    have X := A2.bdIn h
    refine .inl ⟨a.l, _, r1, .inl (.inl X.l), fun p hp => ?_⟩
    have e : cutV (a.js.map V.ref) (some (n : Int)) none = (a.js.map V.ref).drop n := by
      unfold cutV
      have h1 : HT.sIx (a.js.map V.ref).length 0 (some (n : Int)) = n ∨ ((a.js.map V.ref).length ≤ HT.sIx (a.js.map V.ref).length 0 (some (n : Int)) ∧ (a.js.map V.ref).length ≤ n) := by
        rw [HT.sIx_nat]; omega
      show ((a.js.map V.ref).drop (HT.sIx (a.js.map V.ref).length 0 (some (n : Int)))).take ((a.js.map V.ref).length - HT.sIx (a.js.map V.ref).length 0 (some (n : Int))) = _
      rcases h1 with h1 | ⟨h1, h2⟩
      · rw [h1, List.take_of_length_le (by simp)]
      · rw [List.drop_eq_nil_of_le h1, List.drop_eq_nil_of_le h2]; simp
    rw [e]
    exact k p F2 _ (A2.newO hp one_same) (e1.trans e2)
theorem nats_sortable (l : List Nat) : PySem.W.Sortable (l.map fun (n : Nat) => PyData.int (n : Int)) := PySem.W.Sortable.others fun b => ⟨(fun z => nomatch z), fun xs z => nomatch z⟩
end
section
variable {K : Fr} {Γ : List SD} {Os Os1 Os2 : List Own} {ta tb : TE} {tt tu : TT} {b : Bool}
theorem t_orF (ha : ET K Γ Os tt false Os1) (hb : ET K Γ Os1 tu b Os2) : ET K Γ Os (tOr tt tu) b Os2 := fun B F σ H A Q k => ha B F σ H A _ fun F1 H1 A1 e1 => iteF (hb B F1 σ H1 A1 _ fun F2 H2 A2 e2 => k F2 H2 A2 (e1.trans e2))
theorem t_andT (ha : ET K Γ Os tt true Os1) (hb : ET K Γ Os1 tu b Os2) : ET K Γ Os (tAnd tt tu) b Os2 := fun B F σ H A Q k => ha B F σ H A _ fun F1 H1 A1 e1 => iteT (hb B F1 σ H1 A1 _ fun F2 H2 A2 e2 => k F2 H2 A2 (e1.trans e2))
theorem e_andVT (ha : E K Γ Os ta (.d (.bool true)) Os1) (hb : E K Γ Os1 tb (.d (.bool b)) Os2) : E K Γ Os (tAndV ta tb) (.d (.bool b)) Os2 := fun B F σ H A Q k =>
  ha B F σ H A _ fun x F1 H1 A1 e1 q1 => by
    cases (show Dp K F1 x (.bool true) from q1)
    exact ⟨true, rfl, iteT (hb B F1 σ H1 A1 _ fun y F2 H2 A2 e2 q2 => k y F2 H2 A2 (e1.trans e2) q2)⟩
theorem e_orVF (ha : E K Γ Os ta (.d (.bool false)) Os1) (hb : E K Γ Os1 tb (.d (.bool b)) Os2) : E K Γ Os (tOrV ta tb) (.d (.bool b)) Os2 := fun B F σ H A Q k =>
  ha B F σ H A _ fun x F1 H1 A1 e1 q1 => by
    cases (show Dp K F1 x (.bool false) from q1)
    exact ⟨false, rfl, iteF (hb B F1 σ H1 A1 _ fun y F2 H2 A2 e2 q2 => k y F2 H2 A2 (e1.trans e2) q2)⟩
end
theorem atI_last {α : Type} (l : List α) (x : α) : atI (l ++ [x]) (-1) = some x := by
  show (ixN (l ++ [x]).length (-1)).bind (fun j => (l ++ [x])[j]?) = some x
  have e : ixN (l ++ [x]).length (-1) = some l.length := by
    unfold ixN
    rw [if_neg (by decide), if_pos (by rw [List.length_append, List.length_singleton]; omega)]
    congr 1
    rw [List.length_append, List.length_singleton]; omega
  rw [e]
  show (l ++ [x])[l.length]? = some x
  simp
/-! pairs, sorted -/
def pairD (f : Nat → Int) (k : Nat) : PyData := .tuple [.int (f k), .int (k : Int)]
theorem pairs_sort (f : Nat → Int) {l m : List Nat} (hp : l.Perm m) (h : m.Pairwise fun a b => f a < f b ∨ (f a = f b ∧ a ≤ b)) : (l.map (pairD f)).mergeSort (PySem.W.dataLe false id) = m.map (pairD f) := by
  rw [← List.map_mergeSort (f := pairD f) (r := fun a b => decide (f a < f b ∨ (f a = f b ∧ a ≤ b))) (s := PySem.W.dataLe false id) (fun a _ b _ => by
    unfold pairD
    rw [lt2]
    by_cases h1 : f a < f b <;> by_cases h2 : f a = f b <;> by_cases h3 : a ≤ b <;> simp [h1, h2, h3] <;> omega)]
  congr 1
  exact List.Perm.eq_of_pairwise (le := fun a b => decide (f a < f b ∨ (f a = f b ∧ a ≤ b)) = true) (fun a b _ _ h1 h2 => by simp at h1 h2; omega)
    (List.pairwise_mergeSort (fun a b c h1 h2 => by simp at *; omega) (fun a b => by simp; omega) l) (h.imp fun h => by simpa using h) ((List.mergeSort_perm l _).trans hp)
theorem pairs_alike (f : Nat → Int) (l : List Nat) : PySem.W.AllAlike (l.map (pairD f)) := PySem.W.AllAlike.of fun a b => by simp [pairD, PySem.W.alike, PySem.W.alikeAll]
theorem pairs_sortable (f : Nat → Int) (l : List Nat) : PySem.W.Sortable (l.map (pairD f)) := PySem.W.Sortable.tuples fun b => ⟨_, _, rfl⟩
theorem pairs_depth (f : Nat → Int) (l : List Nat) : ∀ d, d ∈ l.map (pairD f) → d.depth ≤ 60 := fun d hd => by
  obtain ⟨k, _, rfl⟩ := List.mem_map.mp hd
  show PyData.depth (.tuple _) ≤ 60
  simp [PyData.depth, PyData.depthAll]
end Cw

namespace Cw
open PySem PySem.Spec PyProof.Rows L2
/-! a def that an except suite calls: what it promises of the class of the exception that is held -/
structure FnHE (P : Program) (w : World) (K : Fr) (mg : Str → Option Value) (base : Heap) (Ct : CXT) (k : Nat) (f : Addr) (fd : FuncData) (ps : List Str) (sp : Value → Option Addr → Addr → Sp) : Prop where
  len : ∀ cls d a vs H Q E, sp cls d a vs H Q E → vs.length = ps.length
  run : ∀ (A : Around) (outer : List Env) (s : Shared) (H : Hp) (args : Args) (us : List Value) (vs : List V) (Q : VK) (E : XK) (p : Addr × Obj) (cls : Value) (d : Option Addr), L2H.RoomH k A → A.handled = some (.ref p.1) → Zc cls d p.2 → (∃ ws, p.2.data = .fields ws) → L2H.PinOk outer H s p →
    Env0 P w K mg base A outer s H → BindsTo s fd args (ps.zip us) → Vals vs us → sp cls d p.1 vs H Q E → codeAny (model P w) A (.call (.ref f) args) (CR Ct outer P w H s Q E) s
theorem _root_.L2H.RoomH.units {k : Nat} {A : Around} (r : L2H.RoomH k A) : A.units + 64 < cLine := by have := r.un; omega
theorem _root_.L2H.RoomH.units1 {k : Nat} {A : Around} (r : L2H.RoomH k A) : A.units + 65 < cLine := by have := r.un; omega
theorem _root_.L2.Fun.okHE {P : Program} {w : World} {K : Fr} {mg : Str → Option Value} {base : Heap} {x qual : Str} {st : Stmt} {f : Addr} {fd : FuncData} {N ps : List Str} {k : Nat} {sp : Value → Option Addr → Addr → Sp} (F : Fun K x qual st f fd) (S : FnScope N ps (defScope st)) (len : ∀ cls d a vs H Q E, sp cls d a vs H Q E → vs.length = ps.length)
    (body : ∀ (cdv : Value) (A : Around) (outer : List Env) (s : Shared) (H : Hp) (vs : List V) (Q : VK) (E : XK) (p : Addr × Obj) (cls : Value) (d : Option Addr), Zc cls d p.2 → (∃ ws, p.2.data = .fields ws) → L2H.RoomH k (A.deeper (envOfC qual (defScope st) s.heap.objs.size f cdv)) → sp cls d p.1 vs H Q E →
      ∃ t, PSs (L2H.cxH (L2.CX P w) P w K mg base N qual (defScope st) f cdv A outer s H E p) (defBody st) t ∧ t { nx := fun _ H' => Q .non H', rt := Q } (L2.start N vs) H) : FnHE P w K mg base (L2.CX P w) (k + 1) f fd ps sp := by
  obtain ⟨oc, od, kV, doc, pm, an, cdv, ct, osl, rfl, lk, hcd⟩ := F.ex
  refine ⟨len, fun A outer s H args us vs Q E p cls d hr hh hz hf hpin e0 hb r hsp => ?_⟩
  have hl := len _ _ _ _ _ _ _ hsp
  have KX : K.In s.heap := e0.mod.kin.keeps fun b o e => (e0.bs b o e).1
  have noL : s.heap.NoLimit := e0.mod.nolimit.keeps fun b o e => (e0.bs b o e).1
  have kinds : ∀ y ∈ ps.zip us, (defScope st).names.lookup y.1 = some .local ∨ ((defScope st).names.lookup y.1 = some .cell ∧ ((cellsFrom (s.heap.objs.size + 1) (defScope st).names []).lookup y.1).isSome = true) := fun y hy => by
    obtain ⟨n, v⟩ := y
    cases S.par n (List.of_mem_zip hy).1 with
    | inl q => exact .inl q
    | inr q => exact .inr ⟨q, PySem.W.cellsFrom_some _ _ _ (.inl q)⟩
  refine codeAny_call_function hr.depth (KX _ _ lk) rfl S.co S.gen rfl (PySem.W.codeRec_of KX hcd) (hb _ _ _ _ ?_)
  refine wpAny_newFunctionEnv_cells S.kind kinds fun env he s1 x => ?_
  subst he
  refine ⟨noL.keeps x.toInCall.keep, codeAny_func ?_⟩
  obtain ⟨t, ht, hq⟩ := body cdv A outer s H vs Q E p cls d hz hf (hr.deeper _) hsp
  have I := L2H.inv_startH (CX := L2.CX P w) (P := P) (K := K) (mg := mg) (base := base) (E := E) (qual := qual) (f := f) S hpin e0 hl r x
  refine wpAny_mono (ht.run [] s1 (L2.start N vs) H _ I hq) (fun fl s' hs => ?_) fun e s' hs => hs
  have done : ∀ {σ' : L2.St} {H' : Hp} {v : V} {u : Value}, Inv (L2H.cxH (L2.CX P w) P w K mg base N qual (defScope st) f cdv A outer s H E p) [] σ' H' s' → RelV v u → Q v H' → CE outer P w H s Q u s' :=
    fun {σ' H' v u} J rv q => ⟨v, H', J.os, J.bare, J.base, J.hok, rv, q⟩
  cases fl with
  | ret u => obtain ⟨v, σ', H', J, rv, q⟩ := hs; exact done J rv q
  | next => obtain ⟨σ', H', J, q⟩ := hs; exact done (v := V.non) (u := Value.none) J rfl q
  | brk => obtain ⟨_, _, _, q⟩ := hs; exact q.elim
  | cont => obtain ⟨_, _, _, q⟩ := hs; exact q.elim
section
variable {X : Cx} {k : Nat} {f C D a : Addr} {fd : FuncData} {ps : List Str} {x m : Str} {q pos apos : Pos} {e o : Expr} {es : List Expr} {ta : TE} {t : TA} {oe : Obj} {cls : Value} {d : Option Addr}
def tCallHE (sp : Sp) (t : TA) : TE := fun σ H Q => t σ H fun vs H1 => sp vs H1 Q fun _ _ _ => False
theorem pe_callHE {sp : Value → Option Addr → Addr → Sp} (F : FnHE X.prog X.w X.K X.mg X.base (L2.CX X.prog X.w) k f fd ps sp) (hr : L2H.RoomH k X.A) (hp : (a, oe) ∈ X.pn) (hh : X.A.handled = some (.ref a)) (hz : Zc cls d oe) (hf : ∃ ws, oe.data = .fields ws) (hg : Gl X x) (hm : X.mg x = some (.ref f)) (hk : PySem.W.keepIn X.K (.ref f) = true) (hb : Binds X.K fd ps [])
    (ha : PA X (e :: es) t) (hdb : (x == ("__debug__" : Str)) = false := by decide) (he : starEach (e :: es) X.env = (false, eval e X.env) :: starEach es X.env := by rfl) (hpl : (backTo pos (starEach es X.env)).any (·.1) = false := by rfl) :
    PE X (.Call (.Name x q) (e :: es) [] pos) (tCallHE (sp cls d a) t) := by
  refine ⟨fun pins s σ H Q I h => ?_⟩
  refine wpAny_Call_Name_kw (ld_glob I hg hm ?_ hdb)
  refine PySem.W.callWith_K (h₀ := X.base) I.ok.mod.kin hk (thn (ha.run pos pins s σ H _ I h) fun us s1 ⟨vs, H1, I1, r, hq⟩ => ⟨I1.kIn, ?_⟩) he hpl
  have hl : us.length = ps.length := by rw [← r.length]; exact F.len _ _ _ _ _ _ _ hq
  have b := hb s1 us I1.kIn (by rw [List.append_nil]; exact hl)
  rw [List.append_nil] at b
  have P1 := I1.pin (a, oe) (List.mem_append_left _ hp)
  have hpin : L2H.PinOk X.stack H1 s1 (a, oe) := ⟨P1.1, P1.2.1, fun hm => (List.mem_cons.mp (I1.stkSub _ hm)).elim P1.2.2.1 P1.2.2.2.1, P1.2.2.2.2⟩
  refine wpAny_call (codeAny_mono (F.run X.A X.stack s1 H1 ⟨us, []⟩ us vs Q (fun _ _ _ => False) (a, oe) cls d hr hh hz hf hpin I1.env0 b r hq) fun r s' w => ?_)
  cases r with
  | error u => obtain ⟨_, _, _, _, _, _, _, _, _, _, _, _, z⟩ := w; exact z.elim
  | ok fl =>
    cases fl with
    | ret u => exact I1.after w
    | next => exact w.elim
    | brk => exact w.elim
    | cont => exact w.elim
theorem isE_in (hp : (a, oe) ∈ X.pn) (Cl : ExcC X.K D) (hz : Zc (.ref D) none oe) (hf : ∃ ws, oe.data = .fields ws) : CallR X (.builtin "isinstance") (rIsE X.K D a) := by
  intro pins s σ H xs us Q I r h
  obtain ⟨c, cv, b, rfl, hcv, ek, hq⟩ := h
  cases r with
  | cons rx rr =>
    cases rr with
    | cons rt rr =>
      cases rr
      cases rx
      cases hcv _ rt
      have hget := (I.pin (a, oe) (List.mem_append_left _ hp)).1
      obtain ⟨ws, hv⟩ := hf
      have J : PySem.W.InstAt s.heap a oe D none := by
        obtain ⟨oc, od, oda, osl⟩ := oe
        obtain ⟨h1, h2⟩ := hz
        dsimp only at h1 h2 hv
        subst h1 h2 hv
        exact ⟨hget, rfl, rfl, trivial⟩
      exact PySem.W.kia_one (PySem.W.handS_kitx_exc Cl.hg Cl.hk Cl.hs Cl.hd Cl.ha Cl.hn Cl.ht Cl.hm) I.kIn J ek (fun z => nomatch z) fun tk => ⟨.bl b, H, I.kept (t' := tk) fun _ _ z => z, rfl, hq⟩
/-- a method's call in a try's body -/
def tMethS (C : Addr) (m : Str) (sp : Sp) (E : L2.St → XK) (ta : TE) (t : TA) : TE := fun σ H Q => ta σ H fun x H1 => ∃ a dx fs, x = .ref a ∧ H1 a = some (.ins C dx fs) ∧ fs.lookup m = none ∧ t σ H1 fun vs H2 => sp (x :: vs) H2 Q (E σ)
theorem pe_methSX {Ct : CXT} {sp : Sp} {E : L2.St → XK} {pl : Sem Bool} (he : PE X o ta) (c : Cls X.K C) (hm : Meth X.K C m f) (F : FnOk X.prog X.w X.K X.mg X.base Ct k f fd ps sp) (hr : Room k X.A) (hb : Binds X.K fd ps []) (hx : ∀ σ, PassesAt Ct X σ (E σ)) (ha : PA X (e :: es) t)
    (hst : starEach (e :: es) X.env = (false, eval e X.env) :: starEach es X.env := by rfl) (hpl : (backTo pos (starEach es X.env)).any (·.1) = false := by rfl)
    (ht : eval (.Call (.Attribute o m apos) (e :: es) [] pos) X.env = (do
      let ov ← eval o X.env
      standAt apos.atName
      let (f, first) ← holding [ov] (getMethod ov m pl)
      callWith pos f first (backTo pos (starEach (e :: es) X.env)) (backToKw pos (keywordEach [] X.env))) := by rfl) :
    PE X (.Call (.Attribute o m apos) (e :: es) [] pos) (tMethS C m sp E ta t) := by
  refine ⟨fun pins s σ H Q I h => ?_⟩
  refine PySem.W.methodCall_KW (pl := pl) (thn (he.run pins s σ H _ I h) fun u s1 ⟨y, H1, I1, rx, ad, dx, fs, ex, ea, l, hq⟩ => ?_) ht
  subst ex
  obtain rfl : u = Value.ref ad := rx
  refine getmeth_ok I1 ea c hm l ?_
  refine PySem.W.callWith_K (first := [.ref ad]) (h₀ := X.base) I.ok.mod.kin hm.kp (thn (ha.run pos pins s1 σ H1 _ I1 hq) fun us s2 ⟨vs, H2, I2, r, q2⟩ => ⟨I2.kIn, ?_⟩) hst hpl
  exact run_fnS (us := .ref ad :: us) (vs := .ref ad :: vs) F hr hb (hx σ) I2 (.cons rfl r) q2
theorem pe_methSX0 {Ct : CXT} {sp : Sp} {E : L2.St → XK} {pl : Sem Bool} (he : PE X o ta) (c : Cls X.K C) (hm : Meth X.K C m f) (F : FnOk X.prog X.w X.K X.mg X.base Ct k f fd ps sp) (hr : Room k X.A) (hb : Binds X.K fd ps []) (hx : ∀ σ, PassesAt Ct X σ (E σ))
    (ht : eval (.Call (.Attribute o m apos) [] [] pos) X.env = (do
      let ov ← eval o X.env
      standAt apos.atName
      let (f, first) ← holding [ov] (getMethod ov m pl)
      callWith pos f first (backTo pos (starEach [] X.env)) (backToKw pos (keywordEach [] X.env))) := by rfl) :
    PE X (.Call (.Attribute o m apos) [] [] pos) (tMethS C m sp E ta tNil) := by
  refine ⟨fun pins s σ H Q I h => ?_⟩
  refine PySem.W.methodCall_KW (pl := pl) (thn (he.run pins s σ H _ I h) fun u s1 ⟨y, H1, I1, rx, ad, dx, fs, ex, ea, l, hq⟩ => ?_) ht
  subst ex
  obtain rfl : u = Value.ref ad := rx
  refine getmeth_ok I1 ea c hm l ?_
  exact PySem.W.callWith_K0 (first := [.ref ad]) I1.kIn hm.kp (run_fnS (us := [.ref ad]) (vs := [.ref ad]) F hr hb (hx σ) I1 (.cons rfl .nil) hq)
end
theorem isEK {X : Cx} {K : Fr} {D a : Addr} {oe : Obj} (h : X.K = K) (hp : (a, oe) ∈ X.pn) (Cl : ExcC K D) (hz : Zc (.ref D) none oe) (hf : ∃ ws, oe.data = .fields ws) : CallR X (.builtin "isinstance") (rIsE K D a) := by
  subst h; exact isE_in hp Cl hz hf
theorem indexK {X : Cx} {K : Fr} (h : X.K = K) (hu : X.A.units + 65 < cLine) : MtR X "list.index" (rIndexD K) := h ▸ mt_indexD hu
/-! readings -/
section
variable {K : Fr} {B : Hp × Hp} {Γ : List SD} {Os Os1 Os2 Os3 OsE Oo : List Own} {nx bk ct : L2.St → Hp → Prop} {rt : VK} {ta te : TE} {s : SD} {ss : List SD} {t : TA} {err : Option Addr} {D a C : Addr} {T : Str}
theorem cd_isE {b : Bool} (h : PySem.W.kitOne K (.ref D) (.ref C) = some b) : CbD K Os (rIsE K D a) [.v (.ref a), .v (.ref C)] (.d (.bool b)) Os := fun B F Γ σ H xs A r Q k => by
  obtain ⟨x, y, rfl, h1, h2⟩ := sl2 rfl rfl r
  cases (show x = _ from h1)
  cases (show y = _ from h2)
  exact ⟨.ref C, .ref C, b, rfl, fun u ru => by cases ru; rfl, h, k _ F H A (Same.refl _) (.bl _)⟩
theorem cd_isET {ty : String} {b : Bool} (h : PySem.W.kitOne K (.ref D) (.type ty) = some b) : CbD K Os (rIsE K D a) [.v (.ref a), .v (.ty ty)] (.d (.bool b)) Os := fun B F Γ σ H xs A r Q k => by
  obtain ⟨x, y, rfl, h1, h2⟩ := sl2 rfl rfl r
  cases (show x = _ from h1)
  cases (show y = _ from h2)
  exact ⟨.ty ty, .type ty, b, rfl, fun u ru => by cases ru; rfl, h, k _ F H A (Same.refl _) (.bl _)⟩
theorem e_indexD {sx : SD} {d z : PyData} {ds : List PyData} {j : Nat} (ha : E K Γ Os ta sx Os1) (hx : ∀ B F H σ, At K B F Γ Os1 σ H → ∀ x, Rp K F x sx → ∃ p xs, x = V.ref p ∧ (SqL K H p xs)) (h : E K Γ Os1 te (.d d) Os2) (w : Vw K Os2 sx (.list ds)) (h1 : SeqAt.shaped (.list ds) = true) (h2 : SeqAt.shaped d = true)
    (hz : ds[j]? = some z) (he : PyData.eqv z d = true) (hn : ∀ (m : Nat) (z' : PyData), m < j → ds[m]? = some z' → PyData.eqv z' d = false) : E K Γ Os (tBM K "list" (rIndexD K) ta (tCons te tNil)) (.d (.int (j : Nat))) Os2 := fun B F σ H A Q k => ha B F σ H A _ fun x F1 H1 A1 e1 r1 => by
  obtain ⟨p, xs, rfl, hq⟩ := hx _ _ _ _ A1 x r1
  refine ⟨Or.inl ⟨rfl, _, hq⟩, h B F1 σ H1 A1 _ fun y F2 H2 A2 e2 r2 => ?_⟩
  exact ⟨p, y, d, ds, j, z, rfl, rfl, w.dp A2 (r1.mono e2), dp_mono A2.fr _ _ r2, h1, h2, hz, he, hn, k _ F2 H2 A2 (e1.trans e2) (.int _)⟩
/-- return o.m(..) in a try's body -/
theorem n_retMX {sp : Sp} {ad : Addr} {W : WX} (ho : E K Γ Os ta (.v (.ref ad)) Os1) (hi : InsD K Os1 C ad T) (h : EA K Γ Os1 t ss Os2) (c : ∀ X, CaX K Os2 sp (.v (.ref ad) :: ss) X err s Os3 OsE) (k1 : err = none → ∀ x F σ H, At K B F Γ Os3 σ H → Rp K F x s → rt x H) (k2 : ∀ Ce, err = some Ce → N K B Γ OsE (fun σ H => W (.ref Ce) none σ H)) :
    N K B Γ Os (tRet (tMethS C T sp (WE W) ta t) ⟨nx, rt, bk, ct⟩) := fun F σ H A => ho B F σ H A _ fun x F1 H1 A1 _ q1 => by
  obtain ⟨dx, fs, h1, h2⟩ := hi B F1 Γ σ H1 A1
  refine ⟨ad, dx, fs, q1, h1, h2, h B F1 σ H1 A1 _ fun xs F2 H2 A2 e2 q2 => ?_⟩
  exact c _ B F2 Γ σ H2 (x :: xs) A2 ⟨(q1.mono e2 : Rp K F2 x (.v (.ref ad))), q2⟩ _ (fun hn z F3 H3 A3 _ q3 => k1 hn z F3 σ H3 A3 q3) fun Ce hC F3 H3 A3 => k2 Ce hC F3 σ H3 A3
/-- a call that may raise, and answers a list of its own -/
def CaXL (K : Fr) (Os : List Own) (sp : Sp) (ss : List SD) (X : XK) (err : Option Addr) (ds : List PyData) (Os' OsE : List Own) : Prop := ∀ (B : Hp × Hp) (F : Hp) (Γ : List SD) (σ : L2.St) (H : Hp) (xs : List V), At K B F Γ Os σ H → Sl K F ss (xs.map some) → ∀ Q : VK,
  (err = none → ∀ p F' H', At K B F' Γ (Os' ++ [lst K p ds]) σ H' → Same F F' → Q (.ref p) H') → (∀ C, err = some C → ∀ F' H', At K B F' Γ OsE σ H' → X (.ref C) none H') → sp xs H Q X
theorem cxl1 {G : Type} {X : XK} {p : Pl K G} {O O' OE : Own} {ds : List PyData} (i : Nat) (g : G) (hi : Os[i]? = some O) (hp : p.pre g) (ha : p.args g = ss) (ho : p.own g = [O]) (hq : p.out g = [O']) (hqe : p.err g ≠ none → p.outE g = [OE]) (hr : p.res g = ds) (he : p.err g = err) : CaXL K Os p.sp ss X err ds (Os.set i O') (Os.set i OE) := fun B F Γ σ H xs A r Q k kx => by
  obtain ⟨B', e, A0, back⟩ := (A.slots r).call1 hi
  refine ⟨g, B', F, hp, by rw [ha, ho]; exact A0, e, fun hn x F' H' A' => ?_, fun C c F' H' A' => ?_⟩
  · rw [hq, hr] at A'
    have A2 := back A'
    have e2 : Same F F' := by rw [← e]; exact A'.bs
    exact k (by rw [← he]; exact hn) x F' H' (A2.slots (A.sl.mono e2)) e2
  · rw [hqe (by rw [c]; exact fun z => nomatch z)] at A'
    have A2 := back A'
    rw [List.append_nil] at A2
    have e2 : Same F F' := by rw [← e]; exact A'.bs
    exact kx C (by rw [← he]; exact c) F' H' (A2.slots (A.sl.mono e2))
theorem n_retMXL {sp : Sp} {ad : Addr} {W : WX} {ds : List PyData} (ho : E K Γ Os ta (.v (.ref ad)) Os1) (hi : InsD K Os1 C ad T) (h : EA K Γ Os1 t ss Os2) (c : ∀ X, CaXL K Os2 sp (.v (.ref ad) :: ss) X err ds Os3 OsE) (k1 : err = none → ∀ p F σ H, At K B F Γ (Os3 ++ [lst K p ds]) σ H → rt (.ref p) H) (k2 : ∀ Ce, err = some Ce → N K B Γ OsE (fun σ H => W (.ref Ce) none σ H)) :
    N K B Γ Os (tRet (tMethS C T sp (WE W) ta t) ⟨nx, rt, bk, ct⟩) := fun F σ H A => ho B F σ H A _ fun x F1 H1 A1 _ q1 => by
  obtain ⟨dx, fs, h1, h2⟩ := hi B F1 Γ σ H1 A1
  refine ⟨ad, dx, fs, q1, h1, h2, h B F1 σ H1 A1 _ fun xs F2 H2 A2 e2 q2 => ?_⟩
  exact c _ B F2 Γ σ H2 (x :: xs) A2 ⟨(q1.mono e2 : Rp K F2 x (.v (.ref ad))), q2⟩ _ (fun hn p F3 H3 A3 _ => k1 hn p F3 σ H3 A3) fun Ce hC F3 H3 A3 => k2 Ce hC F3 σ H3 A3
theorem cxl_bdx {CB CJ b : Addr} {S S' : Bd} {Os : List Own} {sp : Sp} {ss : List SD} {X : XK} {err : Option Addr} {ds : List PyData} (i : Nat) (h : Os[i]? = some (bdx K CB CJ b S)) (c : ∀ a : BA, a.b = b → CaXL K (Os.set i (bd K CB CJ a S)) sp ss X err ds (Os.set i (bd K CB CJ a S')) (Os.set i (bd K CB CJ a S))) :
    CaXL K Os sp ss X err ds (Os.set i (bdx K CB CJ b S')) Os := fun B F Γ σ H xs A r Q k1 k2 => by
  obtain ⟨a, rfl, A'⟩ := A.bdx h
  have e : Ole (Os.set i (bd K CB CJ a S)) Os := by
    have := ole_set (bd_bdx (K := K) (CB := CB) (CJ := CJ) (a := a) (S := S)) Os i
    rw [set_self h] at this
    exact this
  exact c a rfl B F Γ σ H xs A' r Q (fun n p F2 H2 A2 e2 => k1 n p F2 H2 (A2.ole (ole_setA bd_bdx Os i)) e2) fun C hC F2 H2 A2 => k2 C hC F2 H2 (A2.ole e)
/-- the exception is caught -/
theorem n_catch {W : WX} {c : Value} {i : Nat} {ts : Addr → Value → Option Addr → TS} {D : Ends} {Ce : Addr} (he : PySem.W.exmOne K (.ref Ce) c = some true) (k : ∀ a, N K B (Γ.set i (.v (.ref a))) Os (ts a (.ref Ce) none ⟨fun σ' H' => D.nx (σ'.set i none) H', D.rt, fun σ' H' => D.bk (σ'.set i none) H', fun σ' H' => D.ct (σ'.set i none) H'⟩)) :
    N K B Γ Os (fun σ H => wAs K c i ts W D (.ref Ce) none σ H) := fun F σ H A =>
  ⟨true, he, fun _ a _ => k a F _ H (A.set (x := .ref a) (s := .v (.ref a)) rfl), fun z => nomatch z⟩
theorem e_callHE {sp : Sp} (h : EA K Γ Os t ss Os1) (hr : CaD K Os1 sp ss s Os2) : E K Γ Os (tCallHE sp t) s Os2 := fun B F σ H A Q k =>
  h B F σ H A _ fun xs F1 H1 A1 e1 q1 => hr _ B F1 Γ σ H1 xs A1 q1 Q fun z F2 H2 A2 e2 q2 => k z F2 H2 A2 (e1.trans e2) q2
/-- a promise of the class that is held -/
def Pm.spE {G : Type} (p : Pm K (Addr × G)) (cl : G → Addr) : Value → Option Addr → Addr → Sp := fun cls d a vs H Q X => ∃ g : G, cls = .ref (cl g) ∧ d = none ∧ ∃ (B : Hp × Hp) (F : Hp), p.pre (a, g) ∧ At K B F (p.args (a, g)) (p.own (a, g)) (vs.map some) H ∧ B.1 = F ∧
  (∀ x F' H', At K B F' [] (p.out (a, g)) [] H' → Rp K F' x (p.res (a, g)) → Q x H')
theorem Pm.lenE {G : Type} (p : Pm K (Addr × G)) (cl : G → Addr) {n : Nat} (h : ∀ g, (p.args g).length = n) : ∀ cls d a vs H Q X, p.spE cl cls d a vs H Q X → vs.length = n := fun cls d a vs H Q X ⟨g, _, _, B, F, _, A, _⟩ => by
  have := Sl.len A.sl
  rw [h, List.length_map] at this
  exact this.symm
theorem caE {G : Type} {p : Pm K (Addr × G)} {cl : G → Addr} (g : G) (hp : p.pre (a, g)) (ha : p.args (a, g) = ss) (ho : p.own (a, g) = []) (hq : p.out (a, g) = []) (hr : p.res (a, g) = s) : CaD K Os (p.spE cl (.ref (cl g)) none a) ss s Os := fun X B F Γ σ H xs A r Q k => by
  obtain ⟨B', e, A0, back⟩ := (A.slots r).call0
  refine ⟨g, rfl, rfl, B', F, hp, by rw [ha, ho]; exact A0, e, fun x F' H' A' q => ?_⟩
  rw [hq] at A'
  have A2 := back A'
  rw [List.append_nil] at A2
  have e2 : Same F F' := by rw [← e]; exact A'.bs
  exact k x F' H' (A2.slots (A.sl.mono e2)) e2 (by rw [← hr]; exact q)
end
theorem roomHE {j k : Nat} {A : Around} {hd : Option Value} (hr : Room k A) (h : j ≤ k) : L2H.RoomH j (A.mark hd) := ⟨(hr.mono h).dp, (hr.mono h).un⟩
/-! the ten classes -/
inductive Ex | noBoard | noJob | noNum | over | full | noCount | noJobs | tooMany | noPlan | noDeed
def Ex.ix : Ex → Nat
  | .noBoard => 0
  | .noJob => 1
  | .noNum => 2
  | .over => 3
  | .full => 4
  | .noCount => 5
  | .noJobs => 6
  | .tooMany => 7
  | .noPlan => 8
  | .noDeed => 9
def kitRow (K : Fr) (D : Addr) (cs : List Addr) : List (Option Bool) := (cs.map fun C => PySem.W.kitOne K (.ref D) (.ref C)) ++ [PySem.W.kitOne K (.ref D) (.type "ValueError")]
def rowE (e : Ex) : List (Option Bool) := ((List.range 10).map fun i => some (e.ix == i)) ++ [some true]
theorem kit_at {K : Fr} {D : Addr} {cs : List Addr} {e : Ex} (h : kitRow K D cs = rowE e) (hl : cs.length = 10) {i : Nat} {C : Addr} (hC : cs[i]? = some C) : PySem.W.kitOne K (.ref D) (.ref C) = some (e.ix == i) := by
  have lt : i < 10 := by have := (List.getElem?_eq_some_iff.mp hC).1; omega
  have q := congrArg (fun l => l[i]?) h
  unfold kitRow rowE at q
  rw [List.getElem?_append_left (by simpa [hl] using lt), List.getElem?_append_left (by simpa using lt), List.getElem?_map, List.getElem?_map, hC, List.getElem?_range lt] at q
  exact Option.some.inj q
theorem kit_V {K : Fr} {D : Addr} {cs : List Addr} {e : Ex} (h : kitRow K D cs = rowE e) (hl : cs.length = 10) : PySem.W.kitOne K (.ref D) (.type "ValueError") = some true := by
  have q := congrArg (fun l => l[10]?) h
  unfold kitRow rowE at q
  rw [List.getElem?_append_right (by simp [hl]), List.getElem?_append_right (by simp)] at q
  simp [hl] at q
  exact q
def Lw (e : Ex) : List PyData := (List.range 10).map fun i => .bool (e.ix == i)
theorem lw_eq (e : Ex) : ([.bool (e.ix == 0), .bool (e.ix == 1), .bool (e.ix == 2), .bool (e.ix == 3)] ++ [.bool (e.ix == 4), .bool (e.ix == 5), .bool (e.ix == 6), .bool (e.ix == 7)] ++ [.bool (e.ix == 8), .bool (e.ix == 9)] : List PyData) = Lw e := rfl
theorem lw_shaped (e : Ex) : SeqAt.shaped (.list (Lw e)) = true := by cases e <;> decide +kernel
theorem lw_count (e : Ex) : cntD (.bool true) (Lw e) = 1 := by cases e <;> decide +kernel
theorem lw_at (e : Ex) : (Lw e)[e.ix]? = some (.bool true) := by cases e <;> rfl
theorem lw_no (e : Ex) : ∀ (m : Nat) (z' : PyData), m < e.ix → (Lw e)[m]? = some z' → PyData.eqv z' (.bool true) = false := fun m z' h q => by
  have lt : m < 10 := by cases e <;> simp [Ex.ix] at h <;> omega
  unfold Lw at q
  rw [List.getElem?_map, List.getElem?_range lt] at q
  cases q
  have : (e.ix == m) = false := by simp; omega
  show PyData.eqv (.bool (e.ix == m)) (.bool true) = false
  rw [this]; rfl
def refI (n : Nat) : PyData := .tuple [.str "refused", .int (n : Int)]
def exOf : Ek → Ex
  | .noJob => .noJob
  | .noNum => .noNum
  | .over => .over
  | .full => .full
  | .noCount => .noCount
theorem n_tryS {K : Fr} {B : Hp × Hp} {Γ : List SD} {Os : List Own} {tb : WX → TS} {c : Value} {i : Nat} {ts : Addr → Value → Option Addr → TS} {W : WX} {D : Ends} (h : N K B Γ Os (tb (wAs K c i ts W D) D)) : N K B Γ Os ((fun D σ H => tb (wAs K c i ts W D) D σ H) D) := h
theorem At.lastL {K : Fr} {B : Hp × Hp} {F H : Hp} {Γ : List SD} {Os : List Own} {σ : L2.St} {p : Addr} {ds : List PyData} (A : At K B F Γ (Os ++ [lst K p ds]) σ H) : ∃ F', Same F F' ∧ At K B F' Γ Os σ H ∧ Dp K F' (.ref p) (.list ds) := by
  obtain ⟨F2, e2, A2, q⟩ := A.freeze (i := Os.length) (p := p) (ds := ds) (by simp)
  have A3 := A2.take Os.length
  rw [take_set_app] at A3
  exact ⟨F2, e2, A3, q⟩
theorem caL_X {K : Fr} {Os Os1 : List Own} {sp : Sp} {ss : List SD} {ds : List PyData} (h : CaL K Os sp ss ds Os1) (X : XK) : CaXL K Os sp ss X none ds Os1 Os := fun B F Γ σ H xs A r Q k1 k2 => h X B F Γ σ H xs A r Q (k1 rfl)
/-! deeds -/
inductive Deed
  | add (r t s a p : PyData)
  | drop (d : PyData)
  | rank (d r : PyData)
  | frame
def deedD : Deed → PyData
  | .add r t s a p => .tuple [.str "add", r, t, s, a, p]
  | .drop d => .tuple [.str "drop", d]
  | .rank d r => .tuple [.str "rank", d, r]
  | .frame => .tuple [.str "frame"]
/-- whatever way it goes, it comes to one place -/
theorem n_join {K : Fr} {B : Hp × Hp} {Γ : List SD} {Os : List Own} {nx bk ct : L2.St → Hp → Prop} {rt : VK} {t : TS} (Γ' : List SD) (Os' : List Own) (k : N K B Γ' Os' nx) (h : N K B Γ' Os' nx → N K B Γ Os (t ⟨nx, rt, bk, ct⟩)) : N K B Γ Os (t ⟨nx, rt, bk, ct⟩) := h k
theorem t_andF {K : Fr} {Γ : List SD} {Os Os1 : List Own} {tt tu : TT} (ha : ET K Γ Os tt false Os1) : ET K Γ Os (tAnd tt tu) false Os1 := fun B F σ H A Q k => ha B F σ H A _ fun F1 H1 A1 e1 => iteF (k F1 H1 A1 e1)
end Cw

namespace Cw
open PySem PySem.Spec PyProof.Rows L2
/-! a string in a tuple of strings -/
theorem dps_strs_of {K : Fr} {H : Hp} : ∀ (ns : List Str) {vs : List V}, DpAll K H vs (ns.map PyData.str) → vs = ns.map V.str
  | [], _, h => by cases h; rfl
  | n :: ns, _, h => by
    cases h with
    | cons h1 h2 => cases h1; rw [dps_strs_of ns h2]; rfl
theorem od_inSt {K : Fr} {Os : List Own} {s : Str} {ts : List Str} : OpD K Os (inU K) (.d (.str s)) (.d (.tuple (ts.map .str))) (.d (.bool (ts.any fun t => t == s))) := od_r fun B F Γ σ H x y A hx hy Q q => by
  cases (show Dp K F x (.str s) from hx)
  cases (show Dp K F y (.tuple _) from hy) with
  | @tup a xs _ hs ha =>
    have e := dps_strs_of ts ha
    subst e
    refine ⟨a, _, rfl, .inr (seqT A.fr hs), rfl, by simp [flatV], ?_⟩
    have e : inV (.str s) (ts.map V.str) = ts.any fun t => t == s := by unfold inV; rw [List.any_map]; rfl
    show Q (.bl (inV _ _)) H
    rw [e]
    exact q _ F H A (Same.refl _) (.bl _)
end Cw

namespace Cw
open PySem PySem.Spec PyProof.Rows L2
/-! zip of two lists; tuples of numbers compared -/
section
variable {K : Fr} {Γ : List SD} {Os Os1 : List Own} {ds es : List PyData}
theorem it_zip {tr : TA} (n : Nat) (h : EA K Γ Os tr [.d (.list ds), .d (.list es)] Os1) (h1 : n ≤ ds.length) (h2 : n ≤ es.length) (h3 : n = ds.length ∨ n = es.length) : IT K Γ Os (iZip K tr) n (fun i => .d (.tuple [ds[i]?.getD .none, es[i]?.getD .none])) (fun _ => True) Os1 := fun B F σ H A R k => h B F σ H A _ fun xs F1 H1 A1 e1 q1 => by
  obtain ⟨x, y, rfl, q, r⟩ := sl2 rfl rfl q1
  cases (show Dp K F1 x (.list ds) from q) with
  | @lst a xs _ hq ha =>
    cases (show Dp K F1 y (.list es) from r) with
    | @lst b ys _ hr hb =>
      refine ⟨_, _, _, _, rfl, A1.fr.seq hq, A1.fr.seq hr, k _ F1 H1 A1 e1 fun B Γ Os σ F' H e A _ => ?_⟩
      have hq' : SqL K H a xs := A.fr.seq (e.seq hq)
      have hr' : SqL K H b ys := A.fr.seq (e.seq hr)
      have l := dps_len ha
      have l2 := dps_len hb
      refine ⟨fun i hi => ⟨xs, ys, xs[i]'(by omega), ys[i]'(by omega), hq', hr', by simp, by simp⟩, ⟨xs, ys, hq', hr', by omega⟩, fun i hi x H' y => ?_⟩
      obtain ⟨T, z, w, rfl, hT, rfl, y1, y2⟩ := y
      obtain ⟨d, g1, g2⟩ := dps_at2 ha (y1 xs hq')
      obtain ⟨d2, g3, g4⟩ := dps_at2 hb (y2 ys hr')
      have nf : F' T = none := A.fr.free hT
      refine ⟨_, same_upd nf, A.newF hT, ?_⟩
      show Dp K _ (.ref T) (.tuple [ds[i]?.getD .none, es[i]?.getD .none])
      rw [g1, g3]
      exact .tup (.inl (.inl upd_same)) (.cons (dp_mono (e.trans (same_upd nf)) _ _ g2) (.cons (dp_mono (e.trans (same_upd nf)) _ _ g4) .nil))
theorem od_ltT {ns ms : List Int} : OpD K Os (rLtT K) (.d (.tuple (ns.map .int))) (.d (.tuple (ms.map .int))) (.d (.bool (HT.lexLt ns ms))) := fun B F Γ σ H x y A hx hy Q q => by
  cases (show Dp K F x (.tuple _) from hx) with
  | @tup a xs _ hs ha =>
    cases (show Dp K F y (.tuple _) from hy) with
    | @tup b ys _ ht hb =>
      have e := dps_ints_of ns ha
      have e2 := dps_ints_of ms hb
      subst e e2
      exact ⟨a, b, ns, ms, rfl, rfl, seqT A.fr hs, seqT A.fr ht, q _ F H A (Same.refl _) (.bl _)⟩
theorem ltTK {X : Cx} (h : X.K = K) (hu : X.A.units < cLine) : OpR X (compareOp .Lt) (rLtT K) := h ▸ op_ltT hu
theorem zipK {X : Cx} {e e2 : Expr} {ta : TA} {p pos tpos : Pos} {elts : List Expr} {kk : Nat} (h : X.K = K) (hg : Gl X "zip") (hm : X.mg "zip" = none) (ha : PA X [e, e2] ta)
    (hs : starEach [e, e2] X.env = (false, eval e X.env) :: starEach [e2] X.env := by rfl) (hpl : (backTo pos (starEach [e2] X.env)).any (·.1) = false := by rfl) :
    PI X (.Tuple elts kk tpos) (.Call (.Name "zip" p) [e, e2] [] pos) (iZip K ta) := h ▸ pi_zip hg hm ha hs hpl
end
end Cw

namespace Cw
open PySem PySem.Spec PyProof.Rows L2
/-! a list's method within a comprehension -/
section
variable {X : Cx} {K : Fr} {o e : Expr} {es : List Expr} {to : TE} {t : TA} {name : Str} {apos cpos : Pos} {T id : String} {r : V → List V → Hp → VK → Prop}
theorem bmK (hK : X.K = K) (pa : PlainAttrs T) (slot : Slot T name id) (hty : typeOf (.builtin id) = pure (.type "method_descriptor")) (hm : MtR X id r) (ho : PE X o to) (ha : PA X (e :: es) t)
    (hbase : attributeBase o name X.env (eval o X.env) = eval o X.env := by rfl)
    (hfew : ((backTo cpos (starEach (e :: es) X.env)).all (fun x => !x.1) && (backToKw cpos (keywordEach [] X.env)).all (fun x => x.1.isSome)
      && decide ((e :: es).length + ([] : List Keyword).length + (if ([] : List Keyword).isEmpty then 0 else 1) < 30)) = true := by rfl)
    (hline : (apos.endLine == cpos.line) = true := by rfl) (hs : starEach (e :: es) X.env = (false, eval e X.env) :: starEach es X.env := by rfl) (hplain : (backTo cpos (starEach es X.env)).any (·.1) = false := by rfl) :
    PE X (.Call (.Attribute o name apos) (e :: es) [] cpos) (tBM K T r to t) := hK ▸ pe_bm pa slot hty hm ho ha hbase hfew hline hs hplain
end
/-! list(range(n)) -/
theorem el_listRg {K : Fr} {Γ : List SD} {Os Os1 : List Own} {te : TE} {n : Nat} (h : E K Γ Os te (.d (.int (n : Int))) Os1) (hn : n ≤ 1000000) : EL K Γ Os (tLstRg (tRg1 te)) ((List.range n).map fun (k : Nat) => PyData.int (k : Int)) Os1 := fun B F σ H A Q k =>
  h B F σ H A _ fun x F1 H1 A1 e1 r1 => by
    cases (show Dp K F1 x (.int (n : Int)) from r1)
    refine ⟨(n : Int), rfl, .of_le (Int.le_refl _) (by omega) (by decide) (by omega), fun q hq => k q F1 _ (A1.newO hq ⟨_, one_same, ?_⟩) e1⟩
    have e : rgV 0 (n : Int) = ((List.range n).map fun (k : Nat) => (k : Int)).map V.int := by
      unfold rgV
      rw [List.map_map, Int.sub_zero, Int.toNat_natCast]
      exact List.map_congr_left fun i _ => by show V.int (0 + (i : Int)) = V.int (i : Int); rw [Int.zero_add]
    have e2 : ((List.range n).map fun (k : Nat) => PyData.int (k : Int)) = ((List.range n).map fun (k : Nat) => (k : Int)).map PyData.int := by rw [List.map_map]; rfl
    rw [e, e2]
    exact dps_ints _
theorem ole_app : ∀ (L R : List Own), Ole (L ++ R) L
  | [], R => .nil
  | O :: L, R => .cons (Oimp.refl O) (ole_app L R)
/-- xs + ys of two new lists -/
theorem el_catN {K : Fr} {Γ : List SD} {Os Os1 : List Own} {ta tb : TE} {ds es : List PyData} (h : EL K Γ Os ta ds Os1) (hb : ∀ p, EL K Γ (Os1 ++ [lst K p ds]) tb es (Os1 ++ [lst K p ds])) (hl : ds.length + es.length ≤ 1000000) : EL K Γ Os (tOp (addU K) ta tb) (ds ++ es) Os1 := fun B F σ H A Q k =>
  h B F σ H A _ fun p F1 H1 A1 e1 => hb p B F1 σ H1 A1 _ fun q F2 H2 A2 e2 => by
    have hp : (Os1 ++ [lst K p ds] ++ [lst K q es])[Os1.length]? = some (lst K p ds) := by rw [List.append_assoc]; simp
    have hq : (Os1 ++ [lst K p ds] ++ [lst K q es])[Os1.length + 1]? = some (lst K q es) := by rw [List.append_assoc]; simp
    refine ol_cat hp hq hl B F2 Γ σ H2 (.ref p) (.ref q) A2 rfl rfl Q fun r F3 H3 A3 e3 => k r F3 H3 ?_ ((e1.trans e2).trans e3)
    have A4 := A3.mv (Oo := Os1) (j := Os1.length + 2) (O1 := lst K r (ds ++ es)) (by rw [List.append_assoc, List.append_assoc]; exact ole_app Os1 _) (by simp) (by omega)
    exact A4
/-- what a comprehension within a comprehension walks -/
theorem piListK {X : Cx} {K : Fr} {tg e : Expr} {te : TE} (h : X.K = K) (he : PE X e te) : PI X tg e (iList K te) := h ▸ pi_list he
theorem piTupK {X : Cx} {K : Fr} {tg e : Expr} {te : TE} (h : X.K = K) (he : PE X e te) : PI X tg e (iTup K te) := h ▸ pi_tup he
end Cw

namespace Cw
open PySem PySem.Spec PyProof.Rows L2
/-! things of ours kept in a list of ours: a list of values, the things behind it -/
section
variable {K : Fr} {B : Hp × Hp} {F H : Hp} {Γ : List SD} {Os Os1 Os2 : List Own} {σ : L2.St} {nx bk ct : L2.St → Hp → Prop} {rt : VK} {ta te : TE}
theorem n_appM {p : Addr} {xs : List V} {O : Addr → Own} (i : Nat) (ha : E K Γ Os ta (.v (.ref p)) Os1) (h : EM K Γ Os1 te O Os2) (hi1 : Os1[i]? = some (lstV p xs)) (hi : Os2[i]? = some (lstV p xs)) (hl : xs.length < 1000000) (kk : ∀ x, N K B Γ ((Os2.set i (lstV p (xs ++ [.ref x]))) ++ [O x]) nx) :
    N K B Γ Os (tDrop (tBM K "list" rAppend ta (tCons te tNil)) ⟨nx, rt, bk, ct⟩) := fun F σ H A => ha B F σ H A _ fun x F1 H1 A1 _ q1 => by
  obtain ⟨b1, _⟩ := A1.getV hi1
  rw [show x = _ from q1]
  refine ⟨Or.inl ⟨rfl, _, .inl (.inl b1)⟩, h B F1 σ H1 A1 _ fun z F2 H2 A2 _ => ?_⟩
  have lt := (List.getElem?_eq_some_iff.mp hi).1
  have hi' : (Os2 ++ [O z])[i]? = some (lstV p xs) := by rw [List.getElem?_append_left lt]; exact hi
  obtain ⟨a1, m⟩ := A2.getV hi'
  have m2 := m (xs ++ [.ref z])
  rw [List.set_append_left _ _ lt] at m2
  exact ⟨p, xs, .ref z, rfl, rfl, a1, szl_lt hl, kk z F2 σ _ m2⟩
/-- a new list of data as a thing -/
theorem em_lst {ds : List PyData} (h : EL K Γ Os te ds Os1) : EM K Γ Os te (fun p => lst K p ds) Os1 := fun B F σ H A Q k => h B F σ H A Q k
/-- a loop over enumerate of a list of ours: the number, the thing -/
theorem n_forE {body : TS} {a b : Nat} {p : Addr} {xs : List V} {tr : TA} (j : Nat) (h : EA K Γ Os tr [.v (.ref p)] Os1) (hj : Os1[j]? = some (lstV p xs)) (I : Nat → List SD → List Own → Prop) (h0 : I 0 Γ Os1) (hC : ∀ i Γ Os, I i Γ Os → Os[j]? = some (lstV p xs))
    (hs : ∀ B', Bl B B' → ∀ i Γ Os, i < xs.length → I i Γ Os → N K B' ((Γ.set a (.d (.int (i : Int)))).set b (.v (xs[i]?.getD .non))) Os (body ⟨NI K B' (I (i + 1)), rt, nx, NI K B' (I (i + 1))⟩))
    (hd : ∀ Γ Os, I xs.length Γ Os → N K B Γ Os nx) : N K B Γ Os (tFor (iEnum K tr) (gTup K 2 (gCons (gName a) (gCons (gName b) gNil))) body ⟨nx, rt, bk, ct⟩) := fun F σ H A => h B F σ H A _ fun vs F1 H1 A1 e1 q1 => by
  obtain ⟨x, rfl, q⟩ := sl1 rfl q1
  obtain ⟨c1, _⟩ := A1.getV hj
  have hb : Bl B (F1, B.2) := ⟨A1.bs, rfl⟩
  refine ⟨p, xs, by rw [show x = V.ref p from q], .inl (.inl c1), fun i m σ H => i + m = xs.length ∧ NI K (F1, B.2) (I i) σ H, ⟨xs.length, by omega, Γ, Os1, F1, h0, A1.upbase (Same.refl _)⟩, ?_⟩
  rintro i m σ2 H2 ⟨hm, Γ2, O2, F2, hI2, A2⟩
  obtain ⟨c2, _⟩ := A2.getV (hC _ _ _ hI2)
  have hq : SqL K H2 p xs := .inl (.inl c2)
  by_cases hi : i < xs.length
  · refine .inr ⟨⟨xs, xs[i], hq, by simp⟩, NI K (F1, B.2) (I (i + 1)), fun σ' H' q => ⟨xs.length - (i + 1), by omega, by omega, q⟩, fun x H' y => ?_⟩
    obtain ⟨t, z, rfl, hT, rfl, y⟩ := y
    have hz := y xs hq
    rw [List.getElem?_eq_getElem hi] at hz
    have nf : F2 t = none := A2.fr.free hT
    have A3 := A2.newF (o := .tup [.int (i : Nat), z]) hT
    refine ⟨t, _, rfl, .inl (.inl upd_same), rfl, ?_⟩
    refine ⟨_, _, rfl, ⟨_, _, rfl, ⟨rfl, ?_⟩⟩⟩
    exact hs _ hb i Γ2 O2 hi hI2 _ _ _ ((A3.set (i := a) (s := .d (.int (i : Int))) (.int _)).set (i := b) (s := .v (xs[i]?.getD .non)) (by show z = _; rw [List.getElem?_eq_getElem hi]; exact (Option.some.inj hz).symm))
  · have ei : i = xs.length := by omega
    subst ei
    exact .inl ⟨⟨xs, hq, Nat.le_refl _⟩, hd Γ2 O2 hI2 F2 σ2 H2 (A2.rebase hb)⟩
end
/-- dicts of ours, one behind the other -/
def dks (K : Fr) (as : List Addr) (rows : List (List (Key × SD))) : List Own := (as.zip rows).map fun x => dK K x.1 x.2
section
variable {K : Fr} {as : List Addr} {rows : List (List (Key × SD))}
theorem zip_at {α β : Type} {l : List α} {m : List β} {k : Nat} {x : α} {y : β} (h1 : l[k]? = some x) (h2 : m[k]? = some y) : (l.zip m)[k]? = some (x, y) := (List.getElem?_zip_eq_some (z := (x, y))).mpr ⟨h1, h2⟩
theorem dks_at (h : as.length = rows.length) {k : Nat} (hk : k < rows.length) : (dks K as rows)[k]? = some (dK K (as[k]?.getD 0) (rows[k]?.getD [])) := by
  have ha : as[k]? = some (as[k]'(by omega)) := List.getElem?_eq_getElem (by omega)
  have hr : rows[k]? = some rows[k] := List.getElem?_eq_getElem hk
  unfold dks
  rw [List.getElem?_map, zip_at ha hr, ha, hr]; rfl
theorem dks_set (h : as.length = rows.length) {k : Nat} (hk : k < rows.length) (r : List (Key × SD)) : (dks K as rows).set k (dK K (as[k]?.getD 0) r) = dks K as (rows.set k r) := by
  unfold dks
  refine List.ext_getElem? fun i => ?_
  by_cases e : k = i
  · subst e
    have ha : as[k]? = some (as[k]'(by omega)) := List.getElem?_eq_getElem (by omega)
    rw [List.getElem?_set_self (by simp; omega), List.getElem?_map, zip_at ha (List.getElem?_set_self hk), ha]; rfl
  · rw [List.getElem?_set_ne e, List.getElem?_map, List.getElem?_map]
    by_cases hi : i < rows.length
    · have ha : as[i]? = some (as[i]'(by omega)) := List.getElem?_eq_getElem (by omega)
      have hr : rows[i]? = some rows[i] := List.getElem?_eq_getElem hi
      rw [zip_at ha hr, zip_at ha (by rw [List.getElem?_set_ne e]; exact hr)]
    · rw [List.getElem?_eq_none (by simp; omega), List.getElem?_eq_none (by simp; omega)]
theorem dks_app (h : as.length = rows.length) (a : Addr) (r : List (Key × SD)) : dks K as rows ++ [dK K a r] = dks K (as ++ [a]) (rows ++ [r]) := by
  unfold dks
  rw [List.zip_append h, List.map_append]; rfl
end
end Cw

namespace Cw
open PySem PySem.Spec PyProof.Rows L2
/-! calls that own many things: the last ones of ours -/
section
variable {K : Fr} {B : Hp × Hp} {F H : Hp} {Γ : List SD} {Os Os1 Os2 L R : List Own} {σ : L2.St} {nx bk ct : L2.St → Hp → Prop} {rt : VK} {ta te : TE}
theorem At.callR (A : At K B F Γ (L ++ R) σ H) : ∃ B', B'.1 = F ∧ At K B' F Γ R σ H ∧ ∀ {F' H' : Hp} {R' : List Own} {σ' : L2.St}, At K B' F' [] R' σ' H' → At K B F' Γ (L ++ R') σ H' := by
  obtain ⟨hs, h1, h2, h3, h4, h5⟩ := id A.ow
  let fr : Hp := fun a => if (∃ j, j < R.length ∧ (hs (L.length + j) a).isSome = true) ∨ (F a).isSome = true then none else H a
  have frn : ∀ {j : Nat} {a : Addr} {o : HO}, j < R.length → hs (L.length + j) a = some o → fr a = none := fun {j a o} hj e => by
    show (if _ then none else H a) = none
    rw [if_pos (.inl ⟨j, hj, by rw [e]; rfl⟩)]
  have inR : ∀ {h : Hp}, Same h H → Dis h F → (∀ j, j < R.length → Dis h (hs (L.length + j))) → Same h fr := fun {h} s d d2 a o q => by
    show (if _ then none else H a) = some o
    rw [if_neg (by
      rintro (⟨j, hj, z⟩ | z)
      · rw [(d2 j hj).none q] at z; cases z
      · rw [d.none q] at z; cases z)]
    exact s a o q
  have frF : Dis fr F := .of fun a o e => by
    have e : (if (∃ j, j < R.length ∧ (hs (L.length + j) a).isSome = true) ∨ (F a).isSome = true then none else H a) = some o := e
    split at e
    · cases e
    · rename_i z
      cases q : F a with
      | none => rfl
      | some u => exact absurd (.inr (by rw [q]; rfl)) z
  have frH : Same fr H := fun a o e => by
    have e : (if (∃ j, j < R.length ∧ (hs (L.length + j) a).isSome = true) ∨ (F a).isSome = true then none else H a) = some o := e
    split at e
    · cases e
    · exact e
  refine ⟨(F, fr), rfl, ⟨A.sl, Same.refl _, A.fr, frH, frF, fun j => if j < R.length then hs (L.length + j) else hp0, fun j O q => ?_, fun j => ?_, fun j => ?_, fun j l ne => ?_, fun j => ?_⟩, fun {F' H' R' σ'} A' => ?_⟩
  · have lt := (List.getElem?_eq_some_iff.mp q).1
    simp only [if_pos lt]
    exact h1 _ _ (by rw [List.getElem?_append_right (by omega), Nat.add_sub_cancel_left]; exact q)
  · by_cases z : j < R.length
    · simp only [if_pos z]; exact h2 _
    · simp only [if_neg z]; exact same0 _
  · by_cases z : j < R.length
    · simp only [if_pos z]; exact h3 _
    · simp only [if_neg z]; exact dis0 _
  · by_cases z : j < R.length
    · by_cases z2 : l < R.length
      · simp only [if_pos z, if_pos z2]; exact h4 _ _ (by omega)
      · simp only [if_neg z2]; exact (dis0 _).symm
    · simp only [if_neg z]; exact dis0 _
  · by_cases z : j < R.length
    · simp only [if_pos z]
      exact .of fun a o e => frn z e
    · simp only [if_neg z]; exact dis0 _
  · obtain ⟨gs, g1, g2, g3, g4, g5⟩ := A'.ow
    have e : Same F F' := A'.bs
    have rR : Same B.2 fr := inR A.rs A.rf fun j _ => (h5 _).symm
    have hR : ∀ j, j < L.length → Same (hs j) fr := fun j hj => inR (h2 j) (h3 j) fun i _ => h4 _ _ (by omega)
    refine ⟨A.sl.mono e, A.bs.trans e, A'.fr, rR.trans A'.rs, A'.rf.sub rR (Same.refl _), fun j => if j < L.length then hs j else gs (j - L.length), fun j O2 q => ?_, fun j => ?_, fun j => ?_, fun j l ne => ?_, fun j => ?_⟩
    · by_cases z : j < L.length
      · simp only [if_pos z]
        rw [List.getElem?_append_left z] at q
        exact O2.mono e (Same.refl _) (h1 j _ (by rw [List.getElem?_append_left z]; exact q))
      · simp only [if_neg z]
        rw [List.getElem?_append_right (by omega)] at q
        exact g1 _ _ q
    · by_cases z : j < L.length
      · simp only [if_pos z]; exact (hR j z).trans A'.rs
      · simp only [if_neg z]; exact g2 _
    · by_cases z : j < L.length
      · simp only [if_pos z]; exact A'.rf.sub (hR j z) (Same.refl _)
      · simp only [if_neg z]; exact g3 _
    · by_cases z : j < L.length
      · by_cases z2 : l < L.length
        · simp only [if_pos z, if_pos z2]; exact h4 j l ne
        · simp only [if_pos z, if_neg z2]; exact ((g5 _).sub (Same.refl _) (hR j z)).symm
      · by_cases z2 : l < L.length
        · simp only [if_neg z, if_pos z2]; exact (g5 _).sub (Same.refl _) (hR l z2)
        · simp only [if_neg z, if_neg z2]; exact g4 _ _ (by omega)
    · by_cases z : j < L.length
      · simp only [if_pos z]; exact h5 j
      · simp only [if_neg z]; exact (g5 _).sub (Same.refl _) rR
theorem caR {G : Type} {p : Pm K G} {ss : List SD} {s : SD} {R' : List Own} (g : G) (hp : p.pre g) (he : p.err g = none) (ha : p.args g = ss) (ho : p.own g = R) (hq : p.out g = R') (hr : p.res g = s) : CaD K (L ++ R) p.sp ss s (L ++ R') := fun X B F Γ σ H xs A r Q k => by
  obtain ⟨B', e, A0, back⟩ := (A.slots r).callR
  refine ⟨g, B', F, hp, by rw [ha, ho]; exact A0, e, fun _ x F' H' A' q => ?_, fun C c => by rw [he] at c; cases c⟩
  rw [hq] at A'
  have A2 := back A'
  have e2 : Same F F' := by rw [← e]; exact A'.bs
  exact k x F' H' (A2.slots (A.sl.mono e2)) e2 (by rw [← hr]; exact q)
theorem clR {G : Type} {p : Pl K G} {ss : List SD} {ds : List PyData} {R' : List Own} (g : G) (hp : p.pre g) (he : p.err g = none) (ha : p.args g = ss) (ho : p.own g = R) (hq : p.out g = R') (hr : p.res g = ds) : CaL K (L ++ R) p.sp ss ds (L ++ R') := fun X B F Γ σ H xs A r Q k => by
  obtain ⟨B', e, A0, back⟩ := (A.slots r).callR
  refine ⟨g, B', F, hp, by rw [ha, ho]; exact A0, e, fun _ x F' H' A' => ?_, fun C c => by rw [he] at c; cases c⟩
  rw [hq, hr] at A'
  have A2 := back A'
  rw [← List.append_assoc] at A2
  have e2 : Same F F' := by rw [← e]; exact A'.bs
  exact k x F' H' (A2.slots (A.sl.mono e2)) e2
theorem ca_eq {sp : Sp} {ss : List SD} {s : SD} {Os' Os1' : List Own} (h : CaD K Os sp ss s Os') (e : Os = Os1) (e2 : Os' = Os1') : CaD K Os1 sp ss s Os1' := by subst e; subst e2; exact h
theorem cal_eq {sp : Sp} {ss : List SD} {ds : List PyData} {Os' Os1' : List Own} (h : CaL K Os sp ss ds Os') (e : Os = Os1) (e2 : Os' = Os1') : CaL K Os1 sp ss ds Os1' := by subst e; subst e2; exact h
/-- a comprehension over the keys of a dict of ours -/
theorem el_lock {p : Addr} {kvs : List (Key × SD)} {ds : List PyData} (i : Nat) (h : Os[i]? = some (dK K p kvs)) (h' : Os1[i]? = some (dK K p kvs)) (k : ∀ o vs, EL K Γ (Os.set i (dKf K p o vs kvs)) te ds (Os1.set i (dKf K p o vs kvs))) : EL K Γ Os (tLockE te) ds Os1 := fun B F σ H A Q kk => by
  obtain ⟨vs, h1, h2⟩ := A.getD h
  refine ⟨p, _, h1, trivial, fun o => k o vs B F σ _ (A.cell h (fun h ⟨vs, h1, _⟩ => ⟨_, h1⟩) fun h _ => ⟨upd_same, h2⟩) _ fun q F' H' A' e => ?_⟩
  have lt := (List.getElem?_eq_some_iff.mp h').1
  have hi : (Os1.set i (dKf K p o vs kvs) ++ [lst K q ds])[i]? = some (dKf K p o vs kvs) := by
    rw [List.getElem?_append_left (by rw [List.length_set]; exact lt), List.getElem?_set_self lt]
  obtain ⟨g1, g2⟩ := A'.getF hi
  refine ⟨g1, kk q F' _ ?_ e⟩
  have A2 := A'.cell (O' := dK K p kvs) (o := .dK ((kvs.map Prod.fst).zip vs)) hi (fun h ⟨h1, _⟩ => ⟨_, h1⟩) fun h ⟨_, h2⟩ => ⟨vs, upd_same, h2⟩
  rw [List.set_append_left _ _ (by rw [List.length_set]; exact lt), List.set_set, show Os1.set i (dK K p kvs) = Os1 from set_self h'] at A2
  exact A2
theorem cd_lenO {p : Addr} {xs : List V} (i : Nat) (h : Os[i]? = some (lstV p xs)) : CbD K Os (rLen K) [.v (.ref p)] (.d (.int xs.length)) Os := fun B F Γ σ H vs A r Q kk => by
  obtain ⟨x, rfl, q⟩ := sl1 rfl r
  obtain ⟨h1, _⟩ := A.getV h
  exact ⟨p, xs, by rw [show x = _ from q], .inl (.inl (.inl h1)), kk _ F H A (Same.refl _) (.int _)⟩
end
theorem nodup_le : ∀ (n : Nat) (l : List Nat), l.Nodup → (∀ x ∈ l, x < n) → l.length ≤ n
  | 0, [], _, _ => Nat.le_refl _
  | 0, x :: l, _, h => by have := h x (by simp); omega
  | n + 1, l, nd, h => by
    by_cases z : n ∈ l
    · have := nodup_le n (l.erase n) (nd.erase n) fun x hx => by
        have a := (nd.mem_erase_iff.mp hx)
        have := h x a.2
        have := a.1
        omega
      rw [List.length_erase_of_mem z] at this
      omega
    · have := nodup_le n l nd fun x hx => by
        have := h x hx
        have : x ≠ n := fun e => z (e ▸ hx)
        omega
      omega
theorem any_after (l : List Nat) (p : Nat → Bool) : ((List.range l.length).map fun j => PyData.bool (p (l[j]?.getD 0))) = (l.map p).map .bool := by
  rw [List.map_map]
  refine List.ext_getElem? fun i => ?_
  rw [List.getElem?_map, List.getElem?_map]
  by_cases h : i < l.length
  · rw [List.getElem?_range h, List.getElem?_eq_getElem h]; simp [h]
  · rw [List.getElem?_eq_none (by rw [List.length_range]; omega), List.getElem?_eq_none (by omega)]; rfl
theorem lst_V {K : Fr} {p : Addr} : Oimp (lst K p []) (lstV p []) := fun F h q => by
  obtain ⟨xs, h1, h2⟩ := q
  cases h2
  exact h1
theorem mergeK_app : ∀ (more kvs : List (Key × V)), (∀ p ∈ more, ∀ q ∈ kvs, q.1 ≠ p.1) → (more.map Prod.fst).Nodup → mergeK kvs more = kvs ++ more
  | [], kvs, _, _ => by simp [mergeK]
  | p :: r, kvs, h, nd => by
    rw [List.map_cons, List.nodup_cons] at nd
    show mergeK (putK kvs p.1 p.2) r = _
    have e : putK kvs p.1 p.2 = kvs ++ [p] := by
      unfold putK
      rw [if_neg]
      intro z
      obtain ⟨q, hq, e⟩ := List.any_eq_true.mp z
      exact h p (by simp) q hq (of_decide_eq_true e)
    rw [e, mergeK_app r _ (fun x hx q hq => by
      rcases List.mem_append.mp hq with hq | hq
      · exact h x (by simp [hx]) q hq
      · simp at hq
        subst hq
        exact fun z => nd.1 (List.mem_map.mpr ⟨x, hx, z.symm⟩)) nd.2, List.append_assoc]; rfl
theorem zip_nd : ∀ (ks : List Key) (vs : List V), ks.Nodup → ((ks.zip vs).map Prod.fst).Nodup
  | [], _, _ => by simp
  | _ :: _, [], _ => by simp
  | k :: ks, v :: vs, h => by
    rw [List.nodup_cons] at h
    rw [List.zip_cons_cons, List.map_cons, List.nodup_cons]
    refine ⟨fun z => ?_, zip_nd ks vs h.2⟩
    obtain ⟨x, hx, e⟩ := List.mem_map.mp z
    obtain ⟨x1, x2⟩ := x
    have e : x1 = k := e
    subst e
    exact h.1 (List.of_mem_zip hx).1
theorem mergeK_nd {ks : List Key} (h : ks.Nodup) (vs : List V) : mergeK [] (ks.zip vs) = ks.zip vs := by
  rw [mergeK_app _ _ (fun _ _ q hq => by cases hq) (zip_nd ks vs h)]; rfl
theorem em_dnew {K : Fr} {Γ : List SD} {Os : List Own} : EM K Γ Os tDNewK (fun p => dK K p []) Os := fun B F σ H A Q kk p hp => kk p F _ (A.newO hp ⟨[], one_same, trivial⟩) (Same.refl _)
/-! dicts by the place of the key -/
section
variable {κ : Type} [DecidableEq κ]
theorem lkp_ix : ∀ {kvs : List (κ × SD)} {j : Nat} {k : κ} {s : SD}, (kvs.map Prod.fst).Nodup → kvs[j]? = some (k, s) → lkp kvs k = some s
  | [], _, _, _, _, h => by simp at h
  | x :: kvs, 0, k, s, _, h => by
    simp at h; subst h
    rw [lkp_cons, if_pos rfl]
  | x :: kvs, j + 1, k, s, nd, h => by
    have h : kvs[j]? = some (k, s) := by simpa using h
    rw [List.map_cons, List.nodup_cons] at nd
    have hm : k ∈ kvs.map Prod.fst := List.mem_map.mpr ⟨_, List.mem_of_getElem? h, rfl⟩
    rw [lkp_cons, if_neg (fun e => nd.1 (by rw [e]; exact hm)), lkp_ix nd.2 h]
theorem putS_ix {kvs : List (κ × SD)} {j : Nat} {k : κ} (s : SD) (nd : (kvs.map Prod.fst).Nodup) (h : (kvs.map Prod.fst)[j]? = some k) : putS kvs k s = kvs.set j (k, s) := by
  rw [List.getElem?_map] at h
  cases q : kvs[j]? with
  | none => rw [q] at h; cases h
  | some x =>
    rw [q] at h
    have hx : x.1 = k := by simpa using h
    have lt := (List.getElem?_eq_some_iff.mp q).1
    unfold putS
    rw [if_pos (List.any_eq_true.mpr ⟨x, List.mem_of_getElem? q, decide_eq_true hx⟩)]
    refine List.ext_getElem? fun i => ?_
    rw [List.getElem?_map, List.getElem?_set]
    by_cases z : j = i
    · subst z
      rw [if_pos rfl, if_pos lt, q]
      show some (if x.1 = k then (x.1, s) else x) = _
      rw [if_pos hx, hx]
    · rw [if_neg z]
      cases q2 : kvs[i]? with
      | none => rfl
      | some y =>
        show some (if y.1 = k then (y.1, s) else y) = _
        rw [if_neg]
        intro e
        have h1 : (kvs.map Prod.fst)[j]? = some k := by rw [List.getElem?_map, q]; exact congrArg some hx
        have h2 : (kvs.map Prod.fst)[i]? = some k := by rw [List.getElem?_map, q2]; exact congrArg some e
        exact z (nd_ix nd h1 h2)
end
end Cw

namespace Cw
open PySem PySem.Spec PyProof.Rows L2
/-! d.update(e), e another dict -/
def tDUpd (td ty : TE) : TE := fun σ H Q => td σ H fun x H1 => ∃ a, x = .ref a ∧ IsD H1 a ∧ ty σ H1 fun y H2 => ∃ b kvs more, y = .ref b ∧ a ≠ b ∧ H2 a = some (.dK kvs) ∧ H2 b = some (.dK more) ∧ kvs.length + more.length ≤ sizeLine ∧ Q .non (upd H2 a (.dK (mergeK kvs more)))
section
variable {X : Cx} {o e : Expr} {apos cpos : Pos} {td ty : TE}
theorem pe_dupd (ho : PE X o td) (he : PE X e ty) (m : M1 X o "update" apos e cpos) : PE X (.Call (.Attribute o "update" apos) [e] [] cpos) (tDUpd td ty) := by
  refine ⟨fun pins s σ H Q I h => ?_⟩
  refine wpAny_Call_method m.base m.few m.line PySem.F.plainAttrs_dict PySem.F.slot_dict_update PySem.F.type_dict_update (thn (ho.run pins s σ H _ I h) fun u s1 ⟨x, H1, I1, rx, a, ex, d, q1⟩ => ?_)
  subst ex
  obtain rfl : u = Value.ref a := rx
  obtain ⟨t1, t2, _⟩ := isD_at I1 d
  refine ⟨t1, t2, ?_⟩
  rw [m.trees]
  refine Calls.callWith_builtin rfl (Calls.evalArgs_plain (Calls.spliced_cons (thn (he.run pins s1 σ H1 _ I1 q1) fun iv s2 ⟨y, H2, I2, ry, b, kvs, more, ey, nab, ea, eb, hz, q2⟩ => Calls.spliced_nil ?_)))
  subst ey
  obtain rfl : iv = Value.ref b := ry
  obtain ⟨z, hd, vs, rel, dd⟩ := dk_of I2.hok ea
  obtain ⟨z2, hd2, vs2, rel2, dd2⟩ := dk_of I2.hok eb
  refine call_meetsIn PySem.F.slot_dict_update dd.typeIs PySem.F.entry_dict_update (PySem.F.args_dict_update_2 _ _) (meets_dict_update (mixKind X.prog X.w) a b nab hd2) ⟨vs, vs2, dd, dd2, by rw [← rel.length, ← rel2.length]; exact hz, fun h' dd' dd2' hs => ⟨.non, _, ?_, rfl, q2⟩⟩
  have he : ∃ q, h'.get? a = some q := let ⟨q, _, _, hq, _⟩ := dd'; ⟨q, hq⟩
  exact d_write I2 (by rw [ea]; exact True.intro) hs he (dk_new (Nat.le_trans (length_mergeK more kvs) hz) hd (rel2.merge rel) dd')
end
section
variable {K : Fr} {B : Hp × Hp} {F H : Hp} {Γ : List SD} {Os Os1 Os2 : List Own} {σ : L2.St} {nx bk ct : L2.St → Hp → Prop} {rt : VK} {ta te td ty : TE} {p : Addr}
theorem sl_app {F : Hp} : ∀ {ss rs : List SD} {vs ws : List V}, Sl K F ss (vs.map some) → Sl K F rs (ws.map some) → Sl K F (ss ++ rs) ((vs ++ ws).map some)
  | [], _, [], _, _, h => h
  | s :: ss, rs, v :: vs, ws, h, k => ⟨h.1, sl_app h.2 k⟩
  | [], _, _ :: _, _, h, _ => h.elim
  | _ :: _, _, [], _, h, _ => h.elim
theorem n_dupd {kvs more : List (Key × SD)} (i : Nat) (hd : E K Γ Os td (.v (.ref p)) Os1) (hi1 : Os1[i]? = some (dK K p kvs)) (h : EM K Γ Os1 ty (fun q => dK K q more) Os2) (hi : Os2[i]? = some (dK K p kvs)) (hl : kvs.length + more.length ≤ 1000) (nd : ((kvs ++ more).map Prod.fst).Nodup)
    (kk : N K B Γ (Os2.set i (dK K p (kvs ++ more))) nx) : N K B Γ Os (tDrop (tDUpd td ty) ⟨nx, rt, bk, ct⟩) := fun F σ H A => hd B F σ H A _ fun x F1 H1 A1 _ q1 => by
  obtain ⟨vs1, g1, _⟩ := A1.getD hi1
  refine ⟨p, q1, .inl ⟨_, .inl g1⟩, h B F1 σ H1 A1 _ fun z F2 H2 A2 _ => ?_⟩
  have lt := (List.getElem?_eq_some_iff.mp hi).1
  have hi' : (Os2 ++ [dK K z more])[i]? = some (dK K p kvs) := by rw [List.getElem?_append_left lt]; exact hi
  have hz' : (Os2 ++ [dK K z more])[Os2.length]? = some (dK K z more) := by simp
  obtain ⟨vs, a1, a2⟩ := A2.getD hi'
  obtain ⟨ws, b1, b2⟩ := A2.getD hz'
  have l1 : kvs.length = vs.length := by have := Sl.len a2; simpa using this
  have l2 : more.length = ws.length := by have := Sl.len b2; simpa using this
  have ne : p ≠ z := by
    obtain ⟨hs, o1, o2, o3, o4, o5⟩ := A2.ow
    obtain ⟨_, c1, _⟩ := o1 i _ hi'
    obtain ⟨_, c2, _⟩ := o1 _ _ hz'
    intro e
    subst e
    have := (o4 i Os2.length (by omega)).none c1
    rw [c2] at this; cases this
  rw [List.map_append] at nd
  obtain ⟨n1, n2, n3⟩ := List.nodup_append.mp nd
  refine ⟨z, _, _, rfl, ne, a1, b1, szl (by rw [List.length_zip, List.length_zip, List.length_map, List.length_map]; omega), ?_⟩
  have em : mergeK ((kvs.map Prod.fst).zip vs) ((more.map Prod.fst).zip ws) = ((kvs ++ more).map Prod.fst).zip (vs ++ ws) := by
    rw [mergeK_app _ _ (fun x hx q hq => ?_) (zip_nd _ _ n2), List.map_append, List.zip_append (by rw [List.length_map]; exact l1)]
    obtain ⟨x1, x2⟩ := x
    obtain ⟨q1', q2'⟩ := q
    exact n3 q1' (List.of_mem_zip hq).1 x1 (List.of_mem_zip hx).1
  rw [em]
  have A3 := (A2.cell (O' := dK K p (kvs ++ more)) (o := .dK (((kvs ++ more).map Prod.fst).zip (vs ++ ws))) hi' (fun h ⟨vs, h1, _⟩ => ⟨_, h1⟩) fun h _ => ⟨vs ++ ws, upd_same, by rw [List.map_append]; exact sl_app a2 b2⟩).take Os2.length
  rw [List.set_append_left _ _ lt, List.take_append_of_le_length (by simp), List.take_of_length_le (by simp)] at A3
  exact kk F2 σ _ A3
/-! the last of ours to the front, the first to the back -/
theorem n_front {O : Own} {P : L2.St → Hp → Prop} (h : N K B Γ (O :: Os) P) : N K B Γ (Os ++ [O]) P := fun F σ H A => h F σ H (A.re (fun i => if i = 0 then Os.length else i - 1) (fun i j h1 h2 q => by
  rw [List.length_cons] at h1 h2
  split at q <;> split at q <;> omega) fun i O' q => by
  cases i with
  | zero => simp at q; subst q; simp
  | succ i =>
    simp at q
    have lt := (List.getElem?_eq_some_iff.mp q).1
    simp only [Nat.succ_ne_zero, if_false, Nat.add_sub_cancel]
    rw [List.getElem?_append_left lt]; exact q)
theorem n_back {O : Own} {P : L2.St → Hp → Prop} (h : N K B Γ (Os ++ [O]) P) : N K B Γ (O :: Os) P := fun F σ H A => h F σ H (A.re (fun i => if i < Os.length then i + 1 else 0) (fun i j h1 h2 q => by
  rw [List.length_append, List.length_singleton] at h1 h2
  split at q <;> split at q <;> omega) fun i O' q => by
  by_cases z : i < Os.length
  · rw [List.getElem?_append_left z] at q
    simp only [if_pos z]
    simpa using q
  · have lt := (List.getElem?_eq_some_iff.mp q).1
    rw [List.length_append, List.length_singleton] at lt
    have e : i = Os.length := by omega
    subst e
    simp at q
    subst q
    simp)
end
/-! promises that answer things of their own, with addresses -/
structure Pg (K : Fr) (G α : Type) where
  pre : G → Prop
  args : G → List SD
  own : G → List Own
  ok : G → α → Prop
  res : G → α → SD
  out : G → α → List Own
def Pg.sp {K : Fr} {G α : Type} (p : Pg K G α) : Sp := fun vs H Q X => ∃ (g : G) (B : Hp × Hp) (F : Hp), p.pre g ∧ At K B F (p.args g) (p.own g) (vs.map some) H ∧ B.1 = F ∧
  (∀ y, p.ok g y → ∀ x F' H', At K B F' [] (p.out g y) [] H' → Rp K F' x (p.res g y) → Q x H') ∧ True
theorem Pg.len {K : Fr} {G α : Type} (p : Pg K G α) {n : Nat} (h : ∀ g, (p.args g).length = n) : ∀ vs H Q X, p.sp vs H Q X → vs.length = n := fun vs H Q X ⟨g, B, F, _, A, _⟩ => by
  have := Sl.len A.sl
  rw [h, List.length_map] at this
  exact this.symm
def CaG {α : Type} (K : Fr) (Os : List Own) (sp : Sp) (ss : List SD) (ok : α → Prop) (res : α → SD) (out : α → List Own) : Prop := ∀ (X : XK) (B : Hp × Hp) (F : Hp) (Γ : List SD) (σ : L2.St) (H : Hp) (xs : List V), At K B F Γ Os σ H → Sl K F ss (xs.map some) → ∀ Q : VK,
  (∀ y, ok y → ∀ z F' H', At K B F' Γ (out y) σ H' → Same F F' → Rp K F' z (res y) → Q z H') → sp xs H Q X
section
variable {K : Fr} {B : Hp × Hp} {Γ : List SD} {Os Os1 L R : List Own} {nx bk ct : L2.St → Hp → Prop} {rt : VK} {t : TA} {ss : List SD} {G α : Type} {X : XK}
theorem cgR {p : Pg K G α} (g : G) (hp : p.pre g) (ha : p.args g = ss) (ho : p.own g = R) : CaG K (L ++ R) p.sp ss (p.ok g) (p.res g) (fun y => L ++ p.out g y) := fun X B F Γ σ H xs A r Q k => by
  obtain ⟨B', e, A0, back⟩ := (A.slots r).callR
  refine ⟨g, B', F, hp, by rw [ha, ho]; exact A0, e, fun y hy x F' H' A' q => ?_, trivial⟩
  have A2 := back A'
  have e2 : Same F F' := by rw [← e]; exact A'.bs
  exact k y hy x F' H' (A2.slots (A.sl.mono e2)) e2 q
theorem n_asgG {i : Nat} {sp : Sp} {ok : α → Prop} {res : α → SD} {out : α → List Own} (h : EA K Γ Os t ss Os1) (hr : CaG K Os1 sp ss ok res out) (kk : ∀ y, ok y → N K B (Γ.set i (res y)) (out y) nx) : N K B Γ Os (tAsg (tCall sp [] X t) (gName i) ⟨nx, rt, bk, ct⟩) := fun F σ H A =>
  h B F σ H A _ fun xs F1 H1 A1 e1 q1 => by
    show sp (xs ++ []) H1 _ X
    rw [List.append_nil]
    exact hr X B F1 Γ σ H1 xs A1 q1 _ fun y hy z F2 H2 A2 e2 q2 => kk y hy F2 _ H2 (A2.set q2)
theorem r_retG {sp : Sp} {ok : α → Prop} {res : α → SD} {out : α → List Own} {B0 : Hp × Hp} (h : EA K Γ Os t ss Os1) (hr : CaG K Os1 sp ss ok res out) (kk : ∀ y, ok y → ∃ Oo R, (∀ x F H, At K B0 F [] Oo [] H → Rp K F x R → rt x H) ∧ res y = R ∧ Ole (out y) Oo) (hb : Bl B0 B) : N K B Γ Os (tRet (tCall sp [] X t) ⟨nx, rt, bk, ct⟩) := fun F σ H A =>
  h B F σ H A _ fun xs F1 H1 A1 e1 q1 => by
    show sp (xs ++ []) H1 _ X
    rw [List.append_nil]
    refine hr X B F1 Γ σ H1 xs A1 q1 _ fun y hy z F2 H2 A2 e2 q2 => ?_
    obtain ⟨Oo, R, k, e, o⟩ := kk y hy
    exact k z F2 H2 (((A2.ole o).slots (Γ' := []) (σ' := []) trivial).rebase hb) (by rw [← e]; exact q2)
theorem n_ifG {sp : Sp} {ok : α → Prop} {res : α → SD} {out : α → List Own} {Os2 : List Own} {ta : TE} {sx : SD} {r : R2} {b : α → Bool} {t1 t2 : TS} (ha : E K Γ Os ta sx Os1) (h : EA K Γ Os1 t ss Os2) (hr : CaG K Os2 sp ss ok res out) (ho : ∀ y, ok y → OpD K (out y) r sx (res y) (.d (.bool (b y))))
    (k1 : ∀ y, ok y → b y = true → N K B Γ (out y) (t1 ⟨nx, rt, bk, ct⟩)) (k2 : ∀ y, ok y → b y = false → N K B Γ (out y) (t2 ⟨nx, rt, bk, ct⟩)) : N K B Γ Os (tIfS (tTest (tOp r ta (tCall sp [] X t))) t1 t2 ⟨nx, rt, bk, ct⟩) := fun F σ H A =>
  ha B F σ H A _ fun x F0 H0 A0 e0 q0 => h B F0 σ H0 A0 _ fun xs F1 H1 A1 e1 q1 => by
    show sp (xs ++ []) H1 _ X
    rw [List.append_nil]
    refine hr X B F1 Γ σ H1 xs A1 q1 _ fun y hy z F2 H2 A2 e2 q2 => ho y hy B F2 Γ σ H2 x z A2 ((q0.mono e1).mono e2) q2 _ fun w F3 H3 A3 e3 q3 => ?_
    cases (show Dp K F3 w (.bool (b y)) from q3)
    refine ⟨_, rfl, ?_⟩
    cases hb : b y with
    | true => exact iteT (k1 y hy hb F3 σ H3 A3)
    | false => exact iteF (k2 y hy hb F3 σ H3 A3)
/-! a display with new lists in it -/
def EPg {β : Type} (K : Fr) (Γ : List SD) (Os : List Own) (trs : List (TE × TE)) (kvs : β → List (Key × SD)) (Os' : β → List Own) : Prop := ∀ (B : Hp × Hp) (F : Hp) (σ : L2.St) (H : Hp), At K B F Γ Os σ H → ∀ Q : List (V × V) → Hp → Prop,
  (∀ y vs F' H', At K B F' Γ (Os' y) σ H' → Same F F' → Sl K F' ((kvs y).map Prod.snd) (vs.map some) → Q ((((kvs y).map Prod.fst).zip vs).map fun kv => (kV kv.1, kv.2)) H') → tPairs trs σ H Q
theorem epg_nil : EPg (β := Unit) K Γ Os [] (fun _ => []) (fun _ => Os) := fun B F σ H A Q kk => kk () [] F H A (Same.refl _) trivial
theorem epg_d {β : Type} {k : Key} {s : SD} {ty tv : TE} {Os2 : List Own} {trs : List (TE × TE)} {kvs : β → List (Key × SD)} {Os' : β → List Own} (hk : E K Γ Os ty (.d (keyD k)) Os1) (hv : E K Γ Os1 tv s Os2) (hr : EPg K Γ Os2 trs kvs Os') : EPg K Γ Os ((ty, tv) :: trs) (fun y => (k, s) :: kvs y) Os' := fun B F σ H A Q kk =>
  hk B F σ H A _ fun x F1 H1 A1 e1 r1 => hv B F1 σ H1 A1 _ fun y F2 H2 A2 e2 r2 => hr B F2 σ H2 A2 _ fun z vs F3 H3 A3 e3 r3 => by
    rw [key_is r1]
    exact kk z (y :: vs) F3 H3 A3 ((e1.trans e2).trans e3) ⟨(r2.mono e3).sl1, r3⟩
theorem epg_l {β : Type} {k : Key} {ds : List PyData} {ty tv : TE} {Os2 : List Own} {trs : List (TE × TE)} {kvs : Addr → β → List (Key × SD)} {Os' : Addr → β → List Own} (hk : E K Γ Os ty (.d (keyD k)) Os1) (hv : EL K Γ Os1 tv ds Os2) (hr : ∀ p, EPg K Γ (Os2 ++ [lst K p ds]) trs (kvs p) (Os' p)) : EPg (β := Addr × β) K Γ Os ((ty, tv) :: trs) (fun y => (k, .v (.ref y.1)) :: kvs y.1 y.2) (fun y => Os' y.1 y.2) := fun B F σ H A Q kk =>
  hk B F σ H A _ fun x F1 H1 A1 e1 r1 => hv B F1 σ H1 A1 _ fun p F2 H2 A2 e2 => hr p B F2 σ H2 A2 _ fun z vs F3 H3 A3 e3 r3 => by
    rw [key_is r1]
    exact kk (p, z) (.ref p :: vs) F3 H3 A3 ((e1.trans e2).trans e3) ⟨rfl, r3⟩
theorem r_retDisp {β : Type} {trs : List (TE × TE)} {kvs : Addr → β → List (Key × SD)} {Os' : Addr → β → List Own} {B0 : Hp × Hp} (i : Nat) (h : ∀ p, EPg K Γ (Os ++ [dK K p []]) trs (kvs p) (Os' p)) (hi : ∀ p y, (Os' p y)[i]? = some (dK K p [])) (hl : ∀ p y, (kvs p y).length ≤ 15) (nd : ∀ p y, ((kvs p y).map Prod.fst).Nodup)
    (kk : ∀ p y F H, At K B0 F [] ((Os' p y).set i (dK K p (kvs p y))) [] H → rt (.ref p) H) (hb : Bl B0 B) : N K B Γ Os (tRet (tDisp trs) ⟨nx, rt, bk, ct⟩) := fun F σ H A p hp => by
  have A1 : At K B F Γ (Os ++ [dK K p []]) σ (upd H p (.dK [])) := A.newO hp ⟨[], one_same, trivial⟩
  refine h p B F σ _ A1 _ fun y vs F2 H2 A2 e2 r2 => ?_
  obtain ⟨vs0, g1, g2⟩ := A2.getD (hi p y)
  have l : (kvs p y).length = vs.length := by have := Sl.len r2; simpa using this
  refine ⟨by simpa using g1, ((kvs p y).map Prod.fst).zip vs, rfl, by rw [List.length_zip, List.length_map, ← l, Nat.min_self]; exact hl p y, ?_⟩
  rw [mergeK_nd (nd p y)]
  have A3 := A2.cell (O' := dK K p (kvs p y)) (o := .dK (((kvs p y).map Prod.fst).zip vs)) (hi p y) (fun h ⟨vs, h1, _⟩ => ⟨_, h1⟩) fun h _ => ⟨vs, upd_same, r2⟩
  exact kk p y F2 _ ((A3.slots (Γ' := []) (σ' := []) trivial).rebase hb)
end
end Cw

namespace Cw
open PySem PySem.Spec PyProof.Rows L2
/-! a call that owns one of ours and leaves new things; a display with made or listed things in it -/
section
variable {K : Fr} {B : Hp × Hp} {F H : Hp} {Γ : List SD} {Os Os1 Os2 : List Own} {σ : L2.St} {nx bk ct : L2.St → Hp → Prop} {rt : VK} {t : TA} {te : TE} {ss : List SD} {G α β : Type} {p : Addr}
theorem cg1 {p : Pg K G α} {O : Own} {O' : α → Own} {new : α → List Own} (i : Nat) (g : G) (hi : Os[i]? = some O) (hp : p.pre g) (ha : p.args g = ss) (ho : p.own g = [O]) (hq : ∀ y, p.out g y = O' y :: new y) : CaG K Os p.sp ss (p.ok g) (p.res g) (fun y => Os.set i (O' y) ++ new y) := fun X B F Γ σ H xs A r Q k => by
  obtain ⟨B', e, A0, back⟩ := (A.slots r).call1 hi
  refine ⟨g, B', F, hp, by rw [ha, ho]; exact A0, e, fun y hy x F' H' A' q => ?_, trivial⟩
  rw [hq] at A'
  have A2 := back A'
  have e2 : Same F F' := by rw [← e]; exact A'.bs
  exact k y hy x F' H' (A2.slots (A.sl.mono e2)) e2 q
/-- the same, where the new list is at once what does not change -/
def newL (K : Fr) (ds : List PyData) : Option Addr → List Own
  | none => []
  | some a => [lst K a ds]
def resL (d : PyData) : Option Addr → SD
  | none => .d d
  | some a => .v (.ref a)
theorem caF {p : Pg K G (Option Addr)} {O O' : Own} {d : PyData} {ds : List PyData} (i : Nat) (g : G) (hi : Os[i]? = some O) (hp : p.pre g) (ha : p.args g = ss) (ho : p.own g = [O]) (hq : ∀ y, p.out g y = O' :: newL K ds y) (hr : p.res g = resL d) (hd : ∀ a, p.ok g (some a) → d = .list ds) : CaD K Os p.sp ss (.d d) (Os.set i O') := fun X B F Γ σ H xs A r Q k => by
  obtain ⟨B', e, A0, back⟩ := (A.slots r).call1 hi
  refine ⟨g, B', F, hp, by rw [ha, ho]; exact A0, e, fun y hy x F' H' A' q => ?_, trivial⟩
  rw [hq] at A'
  rw [hr] at q
  have A2 := back A'
  have e2 : Same F F' := by rw [← e]; exact A'.bs
  cases y with
  | none =>
    rw [show newL K ds none = [] from rfl, List.append_nil] at A2
    exact k x F' H' (A2.slots (A.sl.mono e2)) e2 q
  | some a =>
    obtain ⟨F2, e3, A3, q3⟩ := At.lastL A2
    exact k _ F2 H' (A3.slots (A.sl.mono (e2.trans e3))) (e2.trans e3) (by rw [show x = V.ref a from q, hd a hy]; exact q3)
def EAg {β : Type} (K : Fr) (Γ : List SD) (Os : List Own) (t : TA) (ss : β → List SD) (Os' : β → List Own) : Prop := ∀ (B : Hp × Hp) (F : Hp) (σ : L2.St) (H : Hp), At K B F Γ Os σ H → ∀ Q : List V → Hp → Prop,
  (∀ y vs F' H', At K B F' Γ (Os' y) σ H' → Same F F' → Sl K F' (ss y) (vs.map some) → Q vs H') → t σ H Q
theorem eag_nil : EAg (β := Unit) K Γ Os tNil (fun _ => []) (fun _ => Os) := fun B F σ H A Q kk => kk () [] F H A (Same.refl _) trivial
theorem eag_M {O : Addr → Own} {ss : Addr → β → List SD} {Os' : Addr → β → List Own} (h : EM K Γ Os te O Os1) (hr : ∀ x, EAg K Γ (Os1 ++ [O x]) t (ss x) (Os' x)) : EAg (β := Addr × β) K Γ Os (tCons te t) (fun y => .v (.ref y.1) :: ss y.1 y.2) (fun y => Os' y.1 y.2) := fun B F σ H A Q kk =>
  h B F σ H A _ fun x F1 H1 A1 e1 => hr x B F1 σ H1 A1 _ fun y vs F2 H2 A2 e2 q => kk (x, y) (.ref x :: vs) F2 H2 A2 (e1.trans e2) ⟨rfl, q⟩
theorem sl_refs {F : Hp} : ∀ {xs vs : List V}, Sl K F (xs.map SD.v) (vs.map some) → vs = xs
  | [], [], _ => rfl
  | x :: xs, v :: vs, h => by
    obtain ⟨h1, h2⟩ := h
    rw [sl_refs h2, show v = x from h1]
theorem n_asgDL {i : Nat} {xs : β → List V} {Os' : β → List Own} (h : EAg K Γ Os t (fun y => (xs y).map SD.v) Os') (hl : ∀ y, (xs y).length ≤ 1000000) (kk : ∀ p y, N K B (Γ.set i (.v (.ref p))) (Os' y ++ [lstV p (xs y)]) nx) : N K B Γ Os (tAsg (tLst t) (gName i) ⟨nx, rt, bk, ct⟩) := fun F σ H A =>
  h B F σ H A _ fun y vs F1 H1 A1 e q => by
    cases sl_refs q
    exact ⟨szl (hl y), fun p hp => kk p y F1 _ _ ((A1.newO (O' := lstV p (xs y)) (o := .lst (xs y)) hp one_same).set (s := .v (.ref p)) rfl)⟩
end
end Cw

namespace Cw
open PySem PySem.Spec PyProof.Rows L2
/-! within a try: a made instance, a call of a def, either of which may raise -/
def tMakeS (C : Addr) (sp : Sp) (E : L2.St → XK) (t : TA) : TE := fun σ H Q => t σ H fun vs H1 => ∀ x dx, H1 x = none → H1 dx = none → dx ≠ x → sp (.ref x :: vs) (upd (upd H1 dx (.own x)) x (.ins C dx [])) (fun v H2 => v = .non ∧ Q (.ref x) H2) (E σ)
section
variable {X : Cx} {Ct : CXT} {k : Nat} {f C : Addr} {fd : FuncData} {ps : List Str} {sp : Sp} {E : L2.St → XK} {x : Str} {p pos : Pos} {e : Expr} {es : List Expr} {t : TA}
theorem cw_runMake {pn : List (Addr × Obj)} {σ : L2.St} {H : Hp} {s : Shared} {Q : VK} {us : List Value} {vs : List V} (M : Mk X.K C f) (Fn : FnOk X.prog X.w X.K X.mg X.base Ct k f fd ps sp) (hr : Room (k + 1) X.A) (hb : Binds X.K fd ps []) (hx : PassesAt Ct X σ (E σ)) (I : Inv X pn σ H s) (rv : Vals vs us)
    (hh : ∀ y dy, H y = none → H dy = none → dy ≠ y → sp (.ref y :: vs) (upd (upd H dy (.own y)) y (.ins C dy [])) (fun v H2 => v = .non ∧ Q (.ref y) H2) (E σ)) : wpAny (model X.prog X.w) X.A (call (.ref C) us) (EP X pn σ Q) X.xe s := by
  have q0 := hh (s.heap.objs.size + 1) s.heap.objs.size (I.hok.fresh (Nat.le_succ _)) (I.hok.fresh (Nat.le_refl _)) (Nat.ne_of_lt (Nat.lt_succ_self _))
  have J := Inv.made (C := C) I
  have rs : Vals (V.ref (s.heap.objs.size + 1) :: vs) (Value.ref (s.heap.objs.size + 1) :: us) := .cons rfl rv
  have ln : (Value.ref (s.heap.objs.size + 1) :: us).length = ps.length := by
    have z := rs.length; rw [Fn.len _ _ _ _ q0] at z; exact z.symm
  have bb := hb _ (Value.ref (s.heap.objs.size + 1) :: us) J.kIn (by rw [List.append_nil]; exact ln)
  rw [List.append_nil] at bb
  refine wpAny_call (make_map (f := f) I.kIn M.makes M.init (beq_iff_eq.mp M.fn) (codeAny_mono (Fn.run _ X.stack _ _ ⟨Value.ref (s.heap.objs.size + 1) :: us, []⟩ (Value.ref (s.heap.objs.size + 1) :: us) _ _ (E σ) (hr.make C us []) (J.env0.make C us []) bb rs q0) fun r s2 h2 => ?_))
  cases r with
  | error er => exact hx pn _ _ er s2 J h2
  | ok fl =>
    cases fl with
    | ret u =>
      obtain ⟨v, H2, J2, r1, r2, r3⟩ := J.after h2
      subst r2
      exact ⟨r1, ⟨V.ref (s.heap.objs.size + 1), H2, J2, rfl, r3⟩⟩
    | next => exact False.elim h2
    | brk => exact False.elim h2
    | cont => exact False.elim h2
theorem pe_makeSX (M : Mk X.K C f) (Fn : FnOk X.prog X.w X.K X.mg X.base Ct k f fd ps sp) (hr : Room (k + 1) X.A) (hg : Gl X x) (hm : X.mg x = some (.ref C)) (hb : Binds X.K fd ps []) (hx : ∀ σ, PassesAt Ct X σ (E σ)) (ha : PA X (e :: es) t) (hdb : (x == ("__debug__" : Str)) = false := by decide)
    (he : starEach (e :: es) X.env = (false, eval e X.env) :: starEach es X.env := by rfl) (hpl : (backTo pos (starEach es X.env)).any (·.1) = false := by rfl) : PE X (.Call (.Name x p) (e :: es) [] pos) (tMakeS C sp E t) := by
  refine ⟨fun pn s σ H Q I hh => wpAny_Call_Name_kw (ld_glob I hg hm ?_ hdb)⟩
  refine PySem.W.callWith_K (h₀ := X.base) I.ok.mod.kin M.kp (thn (ha.run pos pn s σ H _ I hh) fun us t1 ⟨vs, H1, I1, r, q⟩ => ⟨I1.kIn, ?_⟩) he hpl
  exact cw_runMake M Fn hr hb (hx σ) I1 r q
end
section
variable {K : Fr} {B : Hp × Hp} {Γ : List SD} {Os Os1 Os2 OsE : List Own} {nx bk ct : L2.St → Hp → Prop} {rt : VK} {t : TA} {ss : List SD} {s : SD} {sp : Sp} {W : WX} {err : Option Addr} {C Ce : Addr} {tt : TT} {ta tb : TE} {b : Bool}
/-- a made instance that is refused -/
theorem n_mkX {Q : VK} (h : EA K Γ Os t ss Os1) (c : ∀ x X, CaX K (Os1 ++ [inst K C x [] []]) sp (.v (.ref x) :: ss) X (some Ce) s Os2 (Os1 ++ [inst K C x [] []])) (k2 : N K B Γ Os1 (fun σ H => W (.ref Ce) none σ H)) : N K B Γ Os (fun σ H => tMakeS C sp (WE W) t σ H Q) := fun F σ H A =>
  h B F σ H A _ fun vs F1 H1 A1 e1 q1 x dx hx hdx hne => by
    have A2 : At K B F1 Γ (Os1 ++ [inst K C x [] []]) σ (upd (upd H1 dx (.own x)) x (.ins C dx [])) := by
      have A3 : At K B F1 Γ Os1 σ (upd H1 dx (.own x)) := A1.same (same_upd hdx)
      exact A3.newO (by rw [upd_ne (Ne.symm hne)]; exact hx) ⟨dx, [], one_same, rfl, trivial⟩
    refine c x _ B F1 Γ σ _ (.ref x :: vs) A2 ⟨(rfl : V.ref x = V.ref x), q1⟩ _ (fun z => by cases z) fun Ce' hC F3 H3 A3 => ?_
    cases hC
    have A4 := A3.take Os1.length
    rw [List.take_append_of_le_length (Nat.le_refl _), List.take_length] at A4
    exact k2 F3 σ H3 A4
theorem n_retIf (h : ET K Γ Os tt b Os1) (h1 : b = true → N K B Γ Os1 (fun σ H => ta σ H rt)) (h2 : b = false → N K B Γ Os1 (fun σ H => tb σ H rt)) : N K B Γ Os (tRet (tIf tt ta tb) ⟨nx, rt, bk, ct⟩) := fun F σ H A => h B F σ H A _ fun F1 H1 A1 _ => by
  cases b with
  | true => exact iteT (h1 rfl F1 σ H1 A1)
  | false => exact iteF (h2 rfl F1 σ H1 A1)
/-- a def called within a try: data -/
theorem n_retCX (h : EA K Γ Os t ss Os1) (c : ∀ X, CaX K Os1 sp ss X err s Os2 OsE) (k1 : err = none → ∀ x F σ H, At K B F Γ Os2 σ H → Rp K F x s → rt x H) (k2 : ∀ Ce, err = some Ce → N K B Γ OsE (fun σ H => W (.ref Ce) none σ H)) : N K B Γ Os (tRet (tCallS sp (WE W) t) ⟨nx, rt, bk, ct⟩) := fun F σ H A =>
  h B F σ H A _ fun xs F1 H1 A1 e1 q1 => c _ B F1 Γ σ H1 xs A1 q1 _ (fun hn z F2 H2 A2 _ q2 => k1 hn z F2 σ H2 A2 q2) fun Ce hC F2 H2 A2 => k2 Ce hC F2 σ H2 A2
/-- .. a list of its own -/
theorem n_retCXL {ds : List PyData} (h : EA K Γ Os t ss Os1) (c : ∀ X, CaXL K Os1 sp ss X err ds Os2 OsE) (k1 : err = none → ∀ p F σ H, At K B F Γ (Os2 ++ [lst K p ds]) σ H → rt (.ref p) H) (k2 : ∀ Ce, err = some Ce → N K B Γ OsE (fun σ H => W (.ref Ce) none σ H)) : N K B Γ Os (tRet (tCallS sp (WE W) t) ⟨nx, rt, bk, ct⟩) := fun F σ H A =>
  h B F σ H A _ fun xs F1 H1 A1 e1 q1 => c _ B F1 Γ σ H1 xs A1 q1 _ (fun hn p F2 H2 A2 _ => k1 hn p F2 σ H2 A2) fun Ce hC F2 H2 A2 => k2 Ce hC F2 σ H2 A2
end
end Cw

namespace Cw
open PySem PySem.Spec PyProof.Rows L2
/-! a dict of the module: .get with another answer -/
def tDGetK (K : Fr) (w : World) (td ty tx : TE) : TE := fun σ H Q => td σ H fun x H1 => ∃ a es n, x = .ref a ∧ KDict K w a es n ∧ ty σ H1 fun y H2 => tx σ H2 fun z H3 => ∃ t : Str, y = .str t ∧
  ((PySem.W.nsIn K a t = some none ∧ Q z H3) ∨ ∃ u v, PySem.W.nsIn K a t = some (some u) ∧ RelV v u ∧ Q v H3)
section
variable {X : Cx} {o e f : Expr} {apos cpos : Pos} {td ty tx : TE}
theorem pe_dgetK (ho : PE X o td) (he : PE X e ty) (hf : PE X f tx) (m : M2 X o "get" apos e f cpos) : PE X (.Call (.Attribute o "get" apos) [e, f] [] cpos) (tDGetK X.K X.w td ty tx) := by
  refine ⟨fun pins s σ H Q I h => ?_⟩
  refine wpAny_Call_method m.base m.few m.line PySem.F.plainAttrs_dict PySem.F.slot_dict_get PySem.F.type_dict_get (thn (ho.run pins s σ H _ I h) fun u s1 ⟨x, H1, I1, rx, a, es, n, ex, D, q1⟩ => ?_)
  subst ex
  obtain rfl : u = Value.ref a := rx
  refine ⟨kd_type D I1, fun b q => ?_, ?_⟩
  · cases q
    exact ⟨_, I1.kIn _ _ D.at_, rfl⟩
  rw [m.trees]
  refine Calls.callWith_builtin rfl (Calls.evalArgs_plain (Calls.spliced_cons (thn (he.run pins s1 σ H1 _ I1 q1) fun iv s2 ⟨y, H2, I2, ry, q2⟩ =>
    Calls.spliced_cons (thn (hf.run pins s2 σ H2 _ I2 q2) fun fv s3 ⟨z, H3, I3, rz, t, ey, q3⟩ => Calls.spliced_nil ?_))))
  subst ey
  obtain ⟨tk, rfl⟩ := (show ∃ t', iv = Value.str t t' from ry)
  have hm := PySem.W.mapOf_K (prog := X.prog) (w := X.w) I3.kIn D.at_ D.lit
  refine call_meetsIn PySem.F.slot_dict_get hm.typeIs PySem.F.entry_dict_get (PySem.F.args_dict_get_3 _ _ _) (meets_dict_get_default (strKind X.prog X.w) a (strKind_is X.prog X.w t tk) D.low fv) ⟨_, hm, ?_⟩
  rcases q3 with ⟨e1, q3⟩ | ⟨u, v, e1, rv, q3⟩
  · rw [PySem.W.find_K D.at_ e1]
    exact ⟨_, H3, I3.tok _, rz, q3⟩
  · rw [PySem.W.find_K D.at_ e1]
    exact ⟨_, H3, I3.tok _, rv, q3⟩
end
/-! x in a tuple of data -/
def rInDT (K : Fr) : R2 := fun x y H Q => ∃ d ds, Dp K H x d ∧ Dp K H y (.tuple ds) ∧ SeqAt.shaped d = true ∧ SeqAt.shaped (.tuple ds) = true ∧ Q (.bl (ds.any fun z => PyData.eqv z d)) H
theorem inDTK {K : Fr} {X : Cx} (hk : X.K = K) (hu : X.A.units + 65 < cLine) : OpR X (compareOp .In) (rInDT K) := by
  subst hk
  intro pins s σ H x y v u Q I rx ry h
  obtain ⟨d, ds, hd, he, sd, se, q⟩ := h
  obtain ⟨as, r1⟩ := Dp.reads I d x v hd rx
  obtain ⟨bs, r2⟩ := Dp.reads I (.tuple ds) y u he ry
  exact SeqAt.in_tuple_reads r2 r1 (SeqAt.canLay_of_shaped se) (SeqAt.canLay_of_shaped sd) (room_in_shaped sd hu) ⟨.bl _, H, I, rfl, q⟩
theorem od_inDT {K : Fr} {Os : List Own} {sx sy : SD} {d : PyData} {ds : List PyData} (hx : Vw K Os sx d) (hy : Vw K Os sy (.tuple ds)) (h1 : SeqAt.shaped d = true) (h2 : SeqAt.shaped (.tuple ds) = true) : OpD K Os (rInDT K) sx sy (.d (.bool (inD d ds))) := fun B F Γ σ H x y A rx ry Q k =>
  ⟨d, ds, hx.dp A rx, hy.dp A ry, h1, h2, k _ F H A (Same.refl _) (.bl _)⟩
/-- at tupO p xs: a tuple of these very values -/
def tupO (p : Addr) (xs : List V) : Own := ⟨fun _ h => h p = some (.tup xs), fun _ e2 h1 => e2 _ _ h1⟩
section
variable {K : Fr} {B : Hp × Hp} {F H : Hp} {Γ : List SD} {Os Os1 Os2 Os3 OsE : List Own} {σ : L2.St} {nx bk ct : L2.St → Hp → Prop} {rt : VK} {t : TA} {te td ty tx ta : TE} {s : SD} {ss : List SD} {G α β : Type} {p : Addr} {C : Addr} {m : Str} {X : XK} {err : Option Addr}
theorem e_dgetK {w : World} {a : Addr} {es : Array DictEntry} {n : Nat} {z : Str} {d r : Int} (hd : E K Γ Os td (.v (.ref a)) Os1) (D : KDict K w a es n) (hy : E K Γ Os1 ty (.d (.str z)) Os2) (hx : E K Γ Os2 tx (.d (.int d)) Os3)
    (hr : (PySem.W.nsIn K a z = some none ∧ r = d) ∨ ∃ tk, PySem.W.nsIn K a z = some (some (.int r tk))) : E K Γ Os (tDGetK K w td ty tx) (.d (.int r)) Os3 := fun B F σ H A Q kk =>
  hd B F σ H A _ fun x F1 H1 A1 e1 q1 => ⟨a, es, n, q1, D, hy B F1 σ H1 A1 _ fun y F2 H2 A2 e2 q2 => hx B F2 σ H2 A2 _ fun v F3 H3 A3 e3 q3 => by
    cases (show Dp K F2 y (.str z) from q2)
    refine ⟨z, rfl, ?_⟩
    rcases hr with ⟨h, rfl⟩ | ⟨tk, h⟩
    · exact .inl ⟨h, kk v F3 H3 A3 ((e1.trans e2).trans e3) q3⟩
    · exact .inr ⟨_, .int r, h, ⟨tk, rfl⟩, kk _ F3 H3 A3 ((e1.trans e2).trans e3) (.int r)⟩⟩
/-- caught by a clause without a name -/
theorem n_catchO {W : WX} {c : Value} {ts : Addr → Value → Option Addr → TS} {D : Ends} {Ce : Addr} (he : PySem.W.exmOne K (.ref Ce) c = some true) (k : ∀ a, N K B Γ Os (ts a (.ref Ce) none D)) : N K B Γ Os (fun σ H => wOnly K c ts W D (.ref Ce) none σ H) := fun F σ H A =>
  ⟨true, he, fun _ a _ => k a F σ H A, fun z => nomatch z⟩
/-- a made instance that is refused, outside a try -/
theorem n_mkP {i : Nat} {sp : Sp} {Ce : Addr} {Os2 : List Own} (h : EA K Γ Os t ss Os1) (c : ∀ x, CaX K (Os1 ++ [inst K C x [] []]) sp (.v (.ref x) :: ss) X (some Ce) s Os2 (Os1 ++ [inst K C x [] []])) (k2 : N K B Γ Os1 (fun _ H => X (.ref Ce) none H)) : N K B Γ Os (tAsg (tMake C sp [] X t) (gName i) ⟨nx, rt, bk, ct⟩) := fun F σ H A =>
  h B F σ H A _ fun vs F1 H1 A1 e1 q1 x dx hx hdx hne => by
    have A2 : At K B F1 Γ (Os1 ++ [inst K C x [] []]) σ (upd (upd H1 dx (.own x)) x (.ins C dx [])) := by
      have A3 : At K B F1 Γ Os1 σ (upd H1 dx (.own x)) := A1.same (same_upd hdx)
      exact A3.newO (by rw [upd_ne (Ne.symm hne)]; exact hx) ⟨dx, [], one_same, rfl, trivial⟩
    rw [List.append_nil]
    refine c x B F1 Γ σ _ (.ref x :: vs) A2 ⟨(rfl : V.ref x = V.ref x), q1⟩ _ (fun z => by cases z) fun Ce' hC F3 H3 A3 => ?_
    cases hC
    have A4 := A3.take Os1.length
    rw [List.take_append_of_le_length (Nat.le_refl _), List.take_length] at A4
    exact k2 F3 σ H3 A4
/-- what a method answers, what it raises goes on -/
theorem n_retMP {sp : Sp} {ad : Addr} (ho : E K Γ Os ta (.v (.ref ad)) Os1) (hi : InsD K Os1 C ad m) (h : EA K Γ Os1 t ss Os2) (c : CaX K Os2 sp (.v (.ref ad) :: ss) X err s Os3 OsE) (k1 : err = none → ∀ x F σ H, At K B F Γ Os3 σ H → Rp K F x s → rt x H) (k2 : ∀ Ce, err = some Ce → N K B Γ OsE (fun _ H => X (.ref Ce) none H)) :
    N K B Γ Os (tRet (tMeth C m sp [] X ta t) ⟨nx, rt, bk, ct⟩) := fun F σ H A => ho B F σ H A _ fun x F1 H1 A1 _ q1 => by
  obtain ⟨dx, fs, h1, h2⟩ := hi B F1 Γ σ H1 A1
  refine ⟨ad, dx, fs, q1, h1, h2, h B F1 σ H1 A1 _ fun xs F2 H2 A2 e2 q2 => ?_⟩
  try rw [List.append_nil]
  exact c B F2 Γ σ H2 (x :: xs) A2 ⟨(q1.mono e2 : Rp K F2 x (.v (.ref ad))), q2⟩ _ (fun hn z F3 H3 A3 _ q3 => k1 hn z F3 σ H3 A3 q3) fun Ce hC F3 H3 A3 => k2 Ce hC F3 σ H3 A3
theorem n_retMPL {sp : Sp} {ad : Addr} {ds : List PyData} (ho : E K Γ Os ta (.v (.ref ad)) Os1) (hi : InsD K Os1 C ad m) (h : EA K Γ Os1 t ss Os2) (c : CaXL K Os2 sp (.v (.ref ad) :: ss) X err ds Os3 OsE) (k1 : err = none → ∀ p F σ H, At K B F Γ (Os3 ++ [lst K p ds]) σ H → rt (.ref p) H) (k2 : ∀ Ce, err = some Ce → N K B Γ OsE (fun _ H => X (.ref Ce) none H)) :
    N K B Γ Os (tRet (tMeth C m sp [] X ta t) ⟨nx, rt, bk, ct⟩) := fun F σ H A => ho B F σ H A _ fun x F1 H1 A1 _ q1 => by
  obtain ⟨dx, fs, h1, h2⟩ := hi B F1 Γ σ H1 A1
  refine ⟨ad, dx, fs, q1, h1, h2, h B F1 σ H1 A1 _ fun xs F2 H2 A2 e2 q2 => ?_⟩
  try rw [List.append_nil]
  exact c B F2 Γ σ H2 (x :: xs) A2 ⟨(q1.mono e2 : Rp K F2 x (.v (.ref ad))), q2⟩ _ (fun hn p F3 H3 A3 _ => k1 hn p F3 σ H3 A3) fun Ce hC F3 H3 A3 => k2 Ce hC F3 σ H3 A3
end
/-! a promise that answers things of its own, or raises -/
structure Px (K : Fr) (G α : Type) where
  pre : G → Prop
  args : G → List SD
  own : G → List Own
  ok : G → α → Prop
  res : G → α → SD
  out : G → α → List Own
  err : G → Option Addr
  outE : G → List Own
def Px.sp {K : Fr} {G α : Type} (p : Px K G α) : Sp := fun vs H Q X => ∃ (g : G) (B : Hp × Hp) (F : Hp), p.pre g ∧ At K B F (p.args g) (p.own g) (vs.map some) H ∧ B.1 = F ∧
  (p.err g = none → ∀ y, p.ok g y → ∀ x F' H', At K B F' [] (p.out g y) [] H' → Rp K F' x (p.res g y) → Q x H') ∧
  (∀ C, p.err g = some C → ∀ F' H', At K B F' [] (p.outE g) [] H' → X (.ref C) none H')
theorem Px.len {K : Fr} {G α : Type} (p : Px K G α) {n : Nat} (h : ∀ g, (p.args g).length = n) : ∀ vs H Q X, p.sp vs H Q X → vs.length = n := fun vs H Q X ⟨g, B, F, _, A, _⟩ => by
  have := Sl.len A.sl
  rw [h, List.length_map] at this
  exact this.symm
section
variable {K : Fr} {B : Hp × Hp} {Γ : List SD} {Os Os1 Os2 : List Own} {nx bk ct : L2.St → Hp → Prop} {rt : VK} {t : TA} {te : TE} {s : SD} {ss : List SD} {G α β : Type} {X : XK}
/-- .. not raising, nothing of ours handed in -/
theorem cp0 {p : Px K G α} (g : G) (hp : p.pre g) (he : p.err g = none) (ha : p.args g = ss) (ho : p.own g = []) : CaG K Os p.sp ss (p.ok g) (p.res g) (fun y => Os ++ p.out g y) := fun X B F Γ σ H xs A r Q k => by
  obtain ⟨B', e, A0, back⟩ := (A.slots r).call0
  refine ⟨g, B', F, hp, by rw [ha, ho]; exact A0, e, fun _ y hy x F' H' A' q => ?_, fun C c => by rw [he] at c; cases c⟩
  have A2 := back A'
  have e2 : Same F F' := by rw [← e]; exact A'.bs
  exact k y hy x F' H' (A2.slots (A.sl.mono e2)) e2 q
/-- .. raising, nothing of ours handed in -/
theorem cp0X {p : Px K G α} {C : Addr} {Os2 : List Own} (g : G) (hp : p.pre g) (he : p.err g = some C) (ha : p.args g = ss) (ho : p.own g = []) (hq : p.outE g = []) : CaX K Os p.sp ss X (some C) s Os2 Os := fun B F Γ σ H xs A r Q k1 k2 => by
  obtain ⟨B', e, A0, back⟩ := (A.slots r).call0
  refine ⟨g, B', F, hp, by rw [ha, ho]; exact A0, e, (fun c => by rw [he] at c; cases c), fun C' c F' H' A' => ?_⟩
  rw [hq] at A'
  have A2 := back A'
  rw [List.append_nil] at A2
  have e2 : Same F F' := by rw [← e]; exact A'.bs
  exact k2 C' (by rw [← he]; exact c) F' H' (A2.slots (A.sl.mono e2))
theorem eag_E {ss : β → List SD} {Os' : β → List Own} (h : E K Γ Os te s Os1) (hr : EAg K Γ Os1 t ss Os') : EAg K Γ Os (tCons te t) (fun y => s :: ss y) Os' := fun B F σ H A Q kk =>
  h B F σ H A _ fun x F1 H1 A1 e1 q1 => hr B F1 σ H1 A1 _ fun y vs F2 H2 A2 e2 q => kk y (x :: vs) F2 H2 A2 (e1.trans e2) ⟨(q1.mono e2).sl1, q⟩
/-- a tuple of things of ours is answered -/
theorem r_retTup {xs : β → List V} {Os' : β → List Own} {B0 : Hp × Hp} (h : EAg K Γ Os t (fun y => (xs y).map SD.v) Os') (hl : ∀ y, (xs y).length ≤ 1000000) (kk : ∀ p y F H, At K B0 F [] (Os' y ++ [tupO p (xs y)]) [] H → rt (.ref p) H) (hb : Bl B0 B) : N K B Γ Os (tRet (tTup t) ⟨nx, rt, bk, ct⟩) := fun F σ H A =>
  h B F σ H A _ fun y vs F1 H1 A1 e q => by
    cases sl_refs q
    exact ⟨szl (hl y), fun p hp => kk p y F1 _ (((A1.newO (O' := tupO p (xs y)) (o := .tup (xs y)) hp one_same).slots (Γ' := []) (σ' := []) trivial).rebase hb)⟩
/-- such a pair is taken apart -/
theorem n_asgG2 {i j : Nat} {sp : Sp} {ok : α → Prop} {res : α → SD} {out : α → List Own} (n : Nat) (pa : α → Addr) (u v : α → V) (h : EA K Γ Os t ss Os1) (hr : CaG K Os1 sp ss ok res out) (e : ∀ y, res y = .v (.ref (pa y))) (ho : ∀ y, (out y)[n]? = some (tupO (pa y) [u y, v y]))
    (kk : ∀ y, ok y → N K B ((Γ.set i (.v (u y))).set j (.v (v y))) (out y) nx) : N K B Γ Os (tAsg (tCall sp [] X t) (gTup K 2 (gCons (gName i) (gCons (gName j) gNil))) ⟨nx, rt, bk, ct⟩) := fun F σ H A =>
  h B F σ H A _ fun xs F1 H1 A1 e1 q1 => by
    show sp (xs ++ []) H1 _ X
    rw [List.append_nil]
    refine hr X B F1 Γ σ H1 xs A1 q1 _ fun y hy z F2 H2 A2 e2 q2 => ?_
    rw [e y] at q2
    obtain ⟨hs, o1, o2, _⟩ := A2.ow
    have c1 : hs n (pa y) = some (.tup [u y, v y]) := o1 n _ (ho y)
    have hh : H2 (pa y) = some (.tup [u y, v y]) := o2 n _ _ c1
    exact ⟨pa y, [u y, v y], q2, .inl (.inl hh), rfl, _, _, rfl, _, _, rfl, rfl, kk y hy F2 _ H2 ((A2.set (s := .v (u y)) rfl).set (s := .v (v y)) rfl)⟩
end
end Cw

namespace Cw
open PySem L2
--import FwY
--mock Fw19
/-! what frames leave alone; what is dropped, as a law counts it -/
theorem frame_same {S : Bd} (ok : S.Ok) {k : Nat} (hk : k < S.jobs.length) : ∃ a f i, S.frameS.jb k = { S.jb k with at_ := a, fin := f, idle := i } := by
  have R := run_facts ok
  rw [frame_jb S k (by rw [R.al.n]; exact hk)]
  obtain ⟨a, f, e, _⟩ := R.job k
  rw [e]
  unfold idleM
  split
  · exact ⟨a, f, 0, rfl⟩
  · split
    · exact ⟨a, f, _, rfl⟩
    · exact ⟨a, f, _, rfl⟩
theorem frame_len {S : Bd} (ok : S.Ok) : S.frameS.jobs.length = S.jobs.length := by
  have R := run_facts ok
  unfold Bd.frameS
  dsimp only
  rw [List.length_mapIdx, R.al.n]
theorem frame_splen (S : Bd) : S.frameS.spent.length = S.spent.length + 1 := by
  unfold Bd.frameS
  dsimp only
  rw [List.length_append]; rfl
theorem frame_live {S : Bd} (ok : S.Ok) : ∀ p ∈ S.frameR, p.1 < S.jobs.length ∧ (S.jb p.1).gone = false := by
  have := (run_full ok (fun S' r m => S'.jobs.length = S.jobs.length ∧ (∀ k, (S'.jb k).gone = (S.jb k).gone) ∧ ∀ p ∈ m, p.1 < S.jobs.length ∧ (S.jb p.1).gone = false) ⟨rfl, fun _ => rfl, fun p hp => nomatch hp⟩ (fun S' r m k o ok' h hf => by
    obtain ⟨h1, h2, h3⟩ := h
    have hk : k ∈ S'.order := (fits_mem.mp (by rw [hf]; simp : k ∈ S'.fits r)).1
    obtain ⟨lt, rd⟩ := mem_order.mp hk
    refine ⟨by unfold Bd.step Bd.set; simpa using h1, fun l => ?_, fun p hp => ?_⟩
    · rw [jb_step S' k l lt]
      split
      · rename_i z; subst z; exact h2 k
      · exact h2 l
    · rcases List.mem_append.mp hp with hp | hp
      · exact h3 p hp
      · simp at hp; subst hp
        exact ⟨by omega, by rw [← h2 k]; exact (rdy_open rd).2⟩)).1
  exact this.2.2
/-- the dropped ones, as the law counts them -/
def dueF (S : Bd) (g : List Nat) (k : Nat) : List Nat := if (!decide (k ∈ g) && (S.jb k).after.any fun o => decide (o ∈ g)) = true then g ++ [k] else g
def dueN (S : Bd) (n : Nat) (l : List Nat) : List Nat := l.foldl (dueF S) [n]
theorem dueN_app (S : Bd) (n : Nat) (l : List Nat) (k : Nat) : dueN S n (l ++ [k]) = dueF S (dueN S n l) k := by
  unfold dueN; rw [List.foldl_append]; rfl
theorem foldl_filter' {α β : Type} (f : β → α → β) (p : α → Bool) : ∀ (l : List α) (b : β), (l.filter p).foldl f b = l.foldl (fun b a => if p a = true then f b a else b) b
  | [], _ => rfl
  | x :: l, b => by
    rw [List.filter_cons]
    by_cases h : p x = true
    · rw [if_pos h, List.foldl_cons, List.foldl_cons, if_pos h]; exact foldl_filter' f p l _
    · rw [if_neg h, List.foldl_cons, if_neg h]; exact foldl_filter' f p l _
theorem due_upto {S : Bd} (ok : S.Ok) {n : Nat} (hn : n < S.jobs.length) : ∀ m, m ≤ S.jobs.length → (List.range m).foldl (fun g k => if (S.jb k).isOpen = true then dueF S g k else g) [n] = S.dropG n (m - n)
  | 0, _ => by rw [Nat.zero_sub]; rfl
  | m + 1, hm => by
    rw [List.range_succ, List.foldl_append, due_upto ok hn m (by omega)]
    show (if (S.jb m).isOpen = true then dueF S (S.dropG n (m - n)) m else S.dropG n (m - n)) = _
    obtain ⟨a, b, c, d⟩ := dropG_facts ok n (m - n) (by omega)
    by_cases h1 : m ≤ n
    · have e0 : S.dropG n (m - n) = [n] := d (by omega)
      have e1 : S.dropG n (m + 1 - n) = [n] := (dropG_facts ok n (m + 1 - n) (by omega)).2.2.2 (by omega)
      rw [e0, e1]
      split
      · unfold dueF
        by_cases h2 : m = n
        · subst h2; rw [if_neg (by simp)]
        · rw [if_neg (fun z => by
            obtain ⟨z1, z2⟩ := Bool.and_eq_true_iff.mp z
            obtain ⟨o, ho, hm2⟩ := List.any_eq_true.mp z2
            have := of_decide_eq_true hm2
            simp at this
            have lt := (ok.job m _ (Bd.jb_get (by omega))).aft o ho
            omega)]
      · rfl
    · have e : m + 1 - n = (m - n) + 1 := by omega
      rw [e, dropG_succ]
      have hmn : n + (m - n) = m := by omega
      have hnm : m ∉ S.dropG n (m - n) := fun z => by rcases b m z with w | w <;> omega
      unfold dropStep dueF
      rw [hmn, decide_eq_false hnm]
      by_cases q : (S.jb m).isOpen = true
      · rw [if_pos q, q]; rfl
      · rw [if_neg q]
        rw [if_neg (fun z => q (Bool.and_eq_true_iff.mp z).1)]
theorem due_is {S : Bd} (ok : S.Ok) {n : Nat} (hn : n < S.jobs.length) : dueN S n ((List.range S.jobs.length).filter fun k => (S.jb k).isOpen) = S.dropL n := by
  unfold dueN Bd.dropL
  rw [foldl_filter']
  exact due_upto ok hn _ (Nat.le_refl _)
theorem dropL_open {S : Bd} (ok : S.Ok) {n : Nat} (hn : n < S.jobs.length) (ho : (S.jb n).isOpen = true) : ∀ x ∈ S.dropL n, (S.jb x).isOpen = true := by
  unfold Bd.dropL
  generalize S.jobs.length - n = i
  induction i with
  | zero => intro x hx; simp [Bd.dropG] at hx; subst hx; exact ho
  | succ i ih =>
    intro x hx
    rw [dropG_succ] at hx
    unfold dropStep at hx
    split at hx
    · rename_i h
      rcases List.mem_append.mp hx with hx | hx
      · exact ih x hx
      · simp at hx; subst hx; exact (Bool.and_eq_true_iff.mp h).1
    · exact ih x hx
theorem dropL_self (S : Bd) (n : Nat) : n ∈ S.dropL n := by
  unfold Bd.dropL
  generalize S.jobs.length - n = i
  induction i with
  | zero => simp [Bd.dropG]
  | succ i ih =>
    rw [dropG_succ]
    unfold dropStep
    split
    · exact List.mem_append_left _ ih
    · exact ih
theorem open_fin {J : Jb} (h : J.isOpen = true) : J.fin = none ∧ J.gone = false := by
  unfold Jb.isOpen at h
  obtain ⟨h1, h2⟩ := Bool.and_eq_true_iff.mp h
  constructor
  · cases e : J.fin with
    | none => rfl
    | some x => rw [e] at h1; cases h1
  · simpa using h2
theorem dropS_fin (S : Bd) (g : List Nat) (k : Nat) (hk : k < S.jobs.length) : ((S.dropS g).jb k).fin = (S.jb k).fin := by
  rw [dropS_jb S g hk]; split <;> rfl
theorem dropS_rdy {S : Bd} (ok : S.Ok) (g : List Nat) {k : Nat} (hk : k < S.jobs.length) (hg : k ∉ g) : (S.dropS g).rdy ((S.dropS g).jb k) = S.rdy (S.jb k) := by
  rw [dropS_jb S g hk, if_neg hg]
  unfold Bd.rdy
  have e : ((S.jb k).after.all fun o => !isNone (oD ((S.dropS g).jb o).fin)) = ((S.jb k).after.all fun o => !isNone (oD (S.jb o).fin)) := by
    have hb := (ok.job k _ (Bd.jb_get hk)).aft
    rw [Bool.eq_iff_iff, List.all_eq_true, List.all_eq_true]
    constructor
    · intro z o ho; have := z o ho; rw [dropS_fin S g o (by have := hb o ho; omega)] at this; exact this
    · intro z o ho; rw [dropS_fin S g o (by have := hb o ho; omega)]; exact z o ho
  rw [e]; rfl
end Cw

namespace Cw
open PySem L2
--import FwZ W05
--mock Fw19 W05
/-! nobody waits for ever, in plain Lean -/
theorem filt_le {α : Type} {p q : α → Bool} : ∀ {l : List α}, (∀ x ∈ l, p x = true → q x = true) → (l.filter p).length ≤ (l.filter q).length
  | [], _ => Nat.le_refl _
  | x :: l, h => by
    have ih := filt_le (l := l) (p := p) (q := q) fun y hy => h y (by simp [hy])
    have hx := h x (by simp)
    rw [List.filter_cons, List.filter_cons]
    by_cases a : p x = true
    · rw [if_pos a, if_pos (hx a), List.length_cons, List.length_cons]; omega
    · rw [if_neg a]
      split
      · rw [List.length_cons]; omega
      · exact ih
theorem filt_lt {α : Type} {p q : α → Bool} {h : α} : ∀ {l : List α}, (∀ x ∈ l, p x = true → q x = true) → h ∈ l → q h = true → p h = false → (l.filter p).length + 1 ≤ (l.filter q).length
  | [], _, hm, _, _ => by simp at hm
  | x :: l, hi, hm, hq, hp => by
    rw [List.filter_cons, List.filter_cons]
    have hx := hi x (by simp)
    by_cases e : h = x
    · subst e
      rw [if_neg (by rw [hp]; exact Bool.false_ne_true), if_pos hq, List.length_cons]
      have := filt_le (l := l) (p := p) (q := q) fun y hy => hi y (by simp [hy])
      omega
    · have hm2 : h ∈ l := by
        rcases List.mem_cons.mp hm with z | z
        · exact absurd z e
        · exact z
      have ih := filt_lt (l := l) (p := p) (q := q) (fun y hy => hi y (by simp [hy])) hm2 hq hp
      by_cases a : p x = true
      · rw [if_pos a, if_pos (hx a), List.length_cons, List.length_cons]; omega
      · rw [if_neg a]
        split
        · rw [List.length_cons]; omega
        · exact ih
/-- who did a part was open ahead of the frame; who was finished by it did one -/
theorem frame_ran {S : Bd} (ok : S.Ok) : (∀ p ∈ S.frameR, (S.jb p.1).fin = none ∧ p.1 < S.jobs.length) ∧ ∀ k, (S.run.1.jb k).fin ≠ (S.jb k).fin → k ∈ S.frameR.map (·.1) := by
  have := (run_full ok (fun S' r m => S'.jobs.length = S.jobs.length ∧ (∀ k, (S'.jb k).fin = none → (S.jb k).fin = none) ∧ (∀ p ∈ m, (S.jb p.1).fin = none ∧ p.1 < S.jobs.length) ∧ ∀ k, (S'.jb k).fin ≠ (S.jb k).fin → k ∈ m.map (·.1)) ⟨rfl, fun _ h => h, (fun p hp => nomatch hp), fun k h => absurd rfl h⟩ (fun S' r m k o ok' h hf => by
    obtain ⟨h1, h2, h3, h4⟩ := h
    have hk : k ∈ S'.order := (fits_mem.mp (by rw [hf]; simp : k ∈ S'.fits r)).1
    obtain ⟨lt, rd⟩ := mem_order.mp hk
    have hfk := (rdy_open rd).1
    refine ⟨by unfold Bd.step Bd.set; simpa using h1, fun l hl => ?_, fun p hp => ?_, fun l hl => ?_⟩
    · rw [jb_step S' k l lt] at hl
      by_cases z : k = l
      · subst z; exact h2 k hfk
      · rw [if_neg z] at hl; exact h2 l hl
    · rcases List.mem_append.mp hp with hp | hp
      · exact h3 p hp
      · simp at hp; subst hp; exact ⟨h2 k hfk, by show k < _; omega⟩
    · rw [List.map_append]
      rw [jb_step S' k l lt] at hl
      by_cases z : k = l
      · subst z; exact List.mem_append_right _ (by simp)
      · rw [if_neg z] at hl; exact List.mem_append_left _ (h4 l hl))).1
  exact ⟨this.2.2.1, this.2.2.2⟩
theorem frame_fin {S : Bd} (ok : S.Ok) {k : Nat} (hk : k < S.jobs.length) : (S.frameS.jb k).fin = (S.run.1.jb k).fin := by
  have R := run_facts ok
  rw [frame_jb S k (by rw [R.al.n]; exact hk)]
  unfold idleM
  split
  · rfl
  · split <;> rfl
def cntI (S : Bd) (j e : Nat) : Nat := ((List.range S.jobs.length).filter fun k => decide (k ≠ j) && ((S.jb k).isOpen && decide ((e : Int) ≤ (S.jb k).idle))).length
def opN (S : Bd) : Nat := ((List.range S.jobs.length).filter fun k => (S.jb k).isOpen).length
theorem cntI_op {S : Bd} {j : Nat} (e : Nat) (hj : j < S.jobs.length) (ho : (S.jb j).isOpen = true) : cntI S j e + 1 ≤ opN S := by
  unfold cntI opN
  refine filt_lt (h := j) (fun x _ hx => ?_) (List.mem_range.mpr hj) ho (by simp)
  exact (Bool.and_eq_true_iff.mp (Bool.and_eq_true_iff.mp hx).2).1
structure T3 (S : Bd) (R : List Int) : Prop where
  ok : S.Ok
  n : R.length = S.jobs.length
  job : ∀ k, k < S.jobs.length → (S.jb k).gone = false ∧ (S.jb k).start = 0 ∧ (S.jb k).after = [] ∧ 0 ≤ (S.jb k).rank ∧ (S.jb k).rank ≤ R[k]?.getD 0 ∧ ((S.jb k).fin ≠ none → (S.jb k).idle = 0)
  op : opN S ≤ 20
  cnt : ∀ j, j < S.jobs.length → (S.jb j).fin = none → ∀ e : Nat, S.patience * (3 + R[j]?.getD 0) + (e : Int) ≤ (S.jb j).idle → cntI S j e + e ≤ 19
theorem t3_open {S : Bd} {R : List Int} (h : T3 S R) {k : Nat} (hk : k < S.jobs.length) (hf : (S.jb k).fin = none) : (S.jb k).isOpen = true := by
  unfold Jb.isOpen; rw [hf, (h.job k hk).1]; rfl
theorem t3_order {S : Bd} {R : List Int} (h : T3 S R) {k : Nat} (hk : k < S.jobs.length) (hf : (S.jb k).fin = none) : k ∈ S.order := by
  obtain ⟨a, b, c, _⟩ := h.job k hk
  exact rdy_free hk hf a (by rw [b]; exact h.ok.fr) (by rw [c]; intro o ho; cases ho)
theorem t3_pos {S : Bd} {R : List Int} (h : T3 S R) {k : Nat} (hk : k < S.jobs.length) : 3 ≤ S.patience * (3 + R[k]?.getD 0) := by
  have j := h.job k hk
  have p := h.ok.pa.1
  have : 1 * 3 ≤ S.patience * (3 + R[k]?.getD 0) := Int.mul_le_mul p (by omega) (by decide) (by omega)
  omega
theorem t3_bound {S : Bd} {R : List Int} (h : T3 S R) {k : Nat} (hk : k < S.jobs.length) : (S.jb k).idle ≤ 19 + S.patience * (3 + R[k]?.getD 0) := by
  have hp := t3_pos h hk
  by_cases hf : (S.jb k).fin = none
  · by_cases z : (S.jb k).idle ≤ 19 + S.patience * (3 + R[k]?.getD 0)
    · exact z
    · have := h.cnt k hk hf 20 (by omega)
      omega
  · rw [(h.job k hk).2.2.2.2.2 hf]; omega
theorem late_le (t : Option Int) (now : Int) : (0 : Int) ≤ 2 * (if lateB t now then 1 else 0) ∧ 2 * (if lateB t now then 1 else 0) ≤ (2 : Int) := by
  split <;> omega
theorem t3_head {S : Bd} {R : List Int} (h : T3 S R) {j k : Nat} {o : List Nat} (q : S.order = k :: o) (hj : j < S.jobs.length) (hf : (S.jb j).fin = none) {e : Nat} (he : S.patience * (3 + R[j]?.getD 0) + (e : Int) ≤ (S.jb j).idle) : (e : Int) ≤ (S.jb k).idle := by
  have hjo := t3_order h hj hf
  have hle := order_head_le q hjo
  rw [leK_eq] at hle
  have hle := of_decide_eq_true hle
  have hko : k ∈ S.order := by rw [q]; simp
  have hk := (mem_order.mp hko).1
  have hr : raisedI (S.jb k) S.frames S.patience ≤ raisedI (S.jb j) S.frames S.patience := by
    rcases hle with z | ⟨z, _⟩
    · omega
    · omega
  unfold raisedI at hr
  have l1 := late_le (S.jb k).term S.frames
  have l2 := late_le (S.jb j).term S.frames
  have jk := h.job k hk
  have jj := h.job j hj
  have pp : 0 < S.patience := by have := h.ok.pa.1; omega
  have d1 : (S.patience * (3 + R[j]?.getD 0) + (e : Int)) / S.patience ≤ (S.jb j).idle / S.patience := Int.ediv_le_ediv pp he
  rw [Int.add_comm, Int.add_mul_ediv_left _ _ (by omega)] at d1
  by_cases z : (e : Int) ≤ (S.jb k).idle
  · exact z
  · have d2 : (S.jb k).idle / S.patience ≤ (e : Int) / S.patience := Int.ediv_le_ediv pp (by omega)
    omega
theorem t3_frame {S : Bd} {R : List Int} (h : T3 S R) (hs : S.spent.length < 100000) : T3 S.frameS R := by
  have hn := frame_len h.ok
  obtain ⟨hr1, hr2⟩ := frame_ran h.ok
  have hfin : ∀ k, k < S.jobs.length → (S.frameS.jb k).fin = none → (S.jb k).fin = none := fun k hk hf => by
    rw [frame_fin h.ok hk] at hf
    by_cases z : (S.jb k).fin = none
    · exact z
    · have := hr2 k (by rw [hf]; exact fun y => z y.symm)
      obtain ⟨p, hp, e⟩ := List.mem_map.mp this
      subst e
      exact (hr1 p hp).1
  have hop : ∀ k, k < S.jobs.length → (S.frameS.jb k).isOpen = true → (S.jb k).isOpen = true := fun k hk ho => t3_open h hk (hfin k hk (open_fin ho).1)
  have hopn : opN S.frameS ≤ opN S := by
    unfold opN
    rw [hn]
    exact filt_le fun x hx ho => hop x (List.mem_range.mp hx) ho
  refine ⟨frame_ok h.ok hs, by rw [hn]; exact h.n, fun k hk => ?_, Nat.le_trans hopn h.op, fun j hj hf e he => ?_⟩
  · rw [hn] at hk
    obtain ⟨a, f, i, q⟩ := frame_same h.ok hk
    obtain ⟨j1, j2, j3, j4, j5, j6⟩ := h.job k hk
    refine ⟨by rw [q]; exact j1, by rw [q]; exact j2, by rw [q]; exact j3, by rw [q]; exact j4, by rw [q]; exact j5, fun hf => ?_⟩
    rw [frame_idle h.ok hk]
    by_cases hr : k ∈ S.frameR.map (·.1)
    · rw [if_pos hr]
    · rw [if_neg hr]
      have e1 : (S.jb k).fin ≠ none := fun z => by
        by_cases y : (S.run.1.jb k).fin = (S.jb k).fin
        · rw [frame_fin h.ok hk, y, z] at hf; exact hf rfl
        · exact hr (hr2 k y)
      have e2 : k ∉ S.order := fun z => e1 (rdy_open (mem_order.mp z).2).1
      rw [if_neg e2]
      exact j6 e1
  · rw [hn] at hj
    have hf0 := hfin j hj hf
    have hjo := t3_order h hj hf0
    have hp := t3_pos h hj
    have hpat : S.frameS.patience = S.patience := rfl
    rw [hpat, frame_idle h.ok hj] at he
    by_cases hr : j ∈ S.frameR.map (·.1)
    · rw [if_pos hr] at he; omega
    · rw [if_neg hr, if_pos hjo] at he
      have hoj : (S.frameS.jb j).isOpen = true := by
        obtain ⟨a, f, i, q⟩ := frame_same h.ok hj
        unfold Jb.isOpen
        rw [hf, show (S.frameS.jb j).gone = false by rw [q]; exact (h.job j hj).1]; rfl
      cases e with
      | zero =>
        have := cntI_op (S := S.frameS) 0 (by rw [hn]; exact hj) hoj
        have := h.op
        omega
      | succ e =>
        have he0 : S.patience * (3 + R[j]?.getD 0) + (e : Int) ≤ (S.jb j).idle := by omega
        have h0 := h.cnt j hj hf0 e he0
        cases q : S.order with
        | nil => rw [q] at hjo; simp at hjo
        | cons k o =>
          have hk0 := t3_head h q hj hf0 he0
          obtain ⟨l, hl⟩ := run_head h.ok q
          have hkr : k ∈ S.frameR.map (·.1) := by rw [hl]; simp
          have hko : k ∈ S.order := by rw [q]; simp
          have hk := mem_order.mp hko
          have hkj : k ≠ j := fun z => by subst z; exact hr hkr
          have : cntI S.frameS j (e + 1) + 1 ≤ cntI S j e := by
            unfold cntI
            rw [hn]
            refine filt_lt (h := k) (fun x hx hy => ?_) (List.mem_range.mpr hk.1) ?_ ?_
            · have hx := List.mem_range.mp hx
              obtain ⟨y1, y2⟩ := Bool.and_eq_true_iff.mp hy
              obtain ⟨y2, y3⟩ := Bool.and_eq_true_iff.mp y2
              have y3 := of_decide_eq_true y3
              rw [y1, hop x hx y2]
              refine decide_eq_true ?_
              rw [frame_idle h.ok hx] at y3
              have hxo := t3_order h hx (open_fin (hop x hx y2)).1
              by_cases w : x ∈ S.frameR.map (·.1)
              · rw [if_pos w] at y3; omega
              · rw [if_neg w, if_pos hxo] at y3; omega
            · rw [decide_eq_true hkj, t3_open h hk.1 (rdy_open hk.2).1]
              exact decide_eq_true hk0
            · have e0 : (S.frameS.jb k).idle = 0 := by rw [frame_idle h.ok hk.1, if_pos hkr]
              rw [e0, decide_eq_false (show ¬ (((e + 1 : Nat) : Int) ≤ 0) by omega)]
              simp
          omega
theorem t3_add {S : Bd} {R : List Int} (h : T3 S R) {J : Jb} (okJ : (S.addS J).Ok) (ho : opN S < 20) (hJ : J.gone = false ∧ J.start = 0 ∧ J.after = [] ∧ 0 ≤ J.rank ∧ J.idle = 0 ∧ J.fin = none) : T3 (S.addS J) (R ++ [J.rank]) := by
  have hn : (S.addS J).jobs.length = S.jobs.length + 1 := by unfold Bd.addS; simp
  have hl : ∀ k, k < S.jobs.length → (S.addS J).jb k = S.jb k := fun k hk => by rw [jb_add, if_pos hk]
  have hx : (S.addS J).jb S.jobs.length = J := by rw [jb_add, if_neg (by omega), if_pos rfl]
  have hR : ∀ k, k < S.jobs.length → (R ++ [J.rank])[k]?.getD 0 = R[k]?.getD 0 := fun k hk => by rw [List.getElem?_append_left (by rw [h.n]; exact hk)]
  have hR2 : (R ++ [J.rank])[S.jobs.length]?.getD 0 = J.rank := by rw [List.getElem?_append_right (by rw [h.n]; exact Nat.le_refl _), h.n, Nat.sub_self]; rfl
  have hop : opN (S.addS J) ≤ opN S + 1 := by
    unfold opN
    rw [hn, List.range_succ, List.filter_append, List.length_append]
    have e : ((List.range S.jobs.length).filter fun k => ((S.addS J).jb k).isOpen) = (List.range S.jobs.length).filter fun k => (S.jb k).isOpen := List.filter_congr fun k hk => by rw [hl k (List.mem_range.mp hk)]
    rw [e]
    have := List.length_filter_le (fun k => ((S.addS J).jb k).isOpen) [S.jobs.length]
    simp only [List.length_singleton] at this
    omega
  refine ⟨okJ, by rw [List.length_append, h.n, hn]; rfl, fun k hk => ?_, by omega, fun j hj hf e he => ?_⟩
  · rw [hn] at hk
    by_cases z : k < S.jobs.length
    · rw [hl k z, hR k z]; exact h.job k z
    · have : k = S.jobs.length := by omega
      subst this
      rw [hx, hR2]
      exact ⟨hJ.1, hJ.2.1, hJ.2.2.1, hJ.2.2.2.1, Int.le_refl _, fun z => absurd hJ.2.2.2.2.2 z⟩
  · rw [hn] at hj
    have hpat : (S.addS J).patience = S.patience := rfl
    rw [hpat] at he
    by_cases z : j < S.jobs.length
    · rw [hl j z, hR j z] at he
      rw [hl j z] at hf
      cases e with
      | zero =>
        have := cntI_op (S := S.addS J) 0 (j := j) (by rw [hn]; omega) (by rw [hl j z]; exact t3_open h z hf)
        omega
      | succ e =>
        have h0 := h.cnt j z hf (e + 1) he
        have : cntI (S.addS J) j (e + 1) = cntI S j (e + 1) := by
          unfold cntI
          rw [hn, List.range_succ, List.filter_append]
          have e1 : ([S.jobs.length].filter fun k => decide (k ≠ j) && (((S.addS J).jb k).isOpen && decide (((e + 1 : Nat) : Int) ≤ ((S.addS J).jb k).idle))) = [] := by
            rw [List.filter_cons, if_neg (by rw [hx, hJ.2.2.2.2.1, decide_eq_false (show ¬ (((e + 1 : Nat) : Int) ≤ 0) by omega)]; simp)]; rfl
          rw [e1, List.append_nil]
          rw [List.filter_congr fun k hk => by rw [hl k (List.mem_range.mp hk)]]
        omega
    · have : j = S.jobs.length := by omega
      subst this
      rw [hx, hR2, hJ.2.2.2.2.1] at he
      have := h.ok.pa.1
      have : 1 * 3 ≤ S.patience * (3 + J.rank) := Int.mul_le_mul this (by omega) (by decide) (by omega)
      omega
theorem t3_rank {S : Bd} {R : List Int} (h : T3 S R) {n : Nat} {r : Int} (hn : n < S.jobs.length) (hr : 0 ≤ r) {v : Int} (hv : v = max (R[n]?.getD 0) r) : T3 (S.rankN n r) (R.set n v) := by
  have hl : (S.rankN n r).jobs.length = S.jobs.length := by unfold Bd.rankN; simp
  have hi : ∀ k, ((S.rankN n r).jb k).idle = (S.jb k).idle ∧ ((S.rankN n r).jb k).fin = (S.jb k).fin ∧ ((S.rankN n r).jb k).gone = (S.jb k).gone := fun k => by
    rw [rankN_jb S r k hn]
    split
    · rename_i z; subst z; exact ⟨rfl, rfl, rfl⟩
    · exact ⟨rfl, rfl, rfl⟩
  have ho : ∀ k, ((S.rankN n r).jb k).isOpen = (S.jb k).isOpen := fun k => by unfold Jb.isOpen; rw [(hi k).2.1, (hi k).2.2]
  have hR : ∀ k, k < S.jobs.length → R[k]?.getD 0 ≤ (R.set n v)[k]?.getD 0 ∧ (n = k → (R.set n v)[k]?.getD 0 = v) := fun k hk => by
    by_cases z : n = k
    · subst z
      rw [List.getElem?_set_self (by rw [h.n]; exact hn)]
      exact ⟨by show _ ≤ v; omega, fun _ => rfl⟩
    · rw [List.getElem?_set_ne z]; exact ⟨Int.le_refl _, fun y => absurd y z⟩
  refine ⟨rankN_ok h.ok r hn, by rw [List.length_set, hl]; exact h.n, fun k hk => ?_, ?_, fun j hj hf e he => ?_⟩
  · rw [hl] at hk
    obtain ⟨j1, j2, j3, j4, j5, j6⟩ := h.job k hk
    obtain ⟨r1, r2⟩ := hR k hk
    rw [rankN_jb S r k hn]
    split
    · rename_i z
      subst z
      exact ⟨j1, j2, j3, hr, by rw [r2 rfl]; show r ≤ v; omega, j6⟩
    · exact ⟨j1, j2, j3, j4, by omega, j6⟩
  · have : opN (S.rankN n r) = opN S := by
      unfold opN
      rw [hl, List.filter_congr fun k _ => ho k]
    rw [this]; exact h.op
  · rw [hl] at hj
    rw [(hi j).2.1] at hf
    have hpat : (S.rankN n r).patience = S.patience := rfl
    rw [hpat, (hi j).1] at he
    obtain ⟨r1, _⟩ := hR j hj
    have pp := h.ok.pa.1
    have : S.patience * (3 + R[j]?.getD 0) ≤ S.patience * (3 + (R.set n v)[j]?.getD 0) := Int.mul_le_mul_of_nonneg_left (by omega) (by omega)
    have h0 := h.cnt j hj hf e (by omega)
    have : cntI (S.rankN n r) j e = cntI S j e := by
      unfold cntI
      rw [hl, List.filter_congr fun k _ => by rw [ho k, (hi k).1]]
    omega
theorem t3_0 {Bu Pa : Int} (ok : (Bd.mk Bu Pa [] 0 []).Ok) : T3 (Bd.mk Bu Pa [] 0 []) [] := ⟨ok, rfl, fun k hk => by simp at hk, by simp [opN], fun j hj => by simp at hj⟩
end Cw


namespace Cw
open PySem L2
def top (i : Nat) : Stmt := PySem.Challenge.pw_cutwork_k19_runs.main.body.getD i (.Pass ⟨0, 0, 0, 0⟩)
abbrev s_is_whole : Stmt := top 20
theorem sc_is_whole : FnScope ["thing", "low", "most"] ["thing", "low", "most"] (defScope s_is_whole) := ⟨rfl, rfl, rfl, by decide +kernel, rfl, by decide +kernel, by decide +kernel⟩
abbrev s_are_parts : Stmt := top 21
theorem sc_are_parts : FnScope ["thing", "budget", "part"] ["thing", "budget"] (defScope s_are_parts) := ⟨rfl, rfl, rfl, by decide +kernel, rfl, by decide +kernel, by decide +kernel⟩
abbrev s_need_rank : Stmt := top 22
theorem sc_need_rank : FnScope ["rank"] ["rank"] (defScope s_need_rank) := ⟨rfl, rfl, rfl, by decide +kernel, rfl, by decide +kernel, by decide +kernel⟩
abbrev s_need_job : Stmt := top 23
theorem sc_need_job : FnScope ["budget", "rank", "term", "start", "parts"] ["budget", "rank", "term", "start", "parts"] (defScope s_need_job) := ⟨rfl, rfl, rfl, by decide +kernel, rfl, by decide +kernel, by decide +kernel⟩
abbrev s_Job_init : Stmt := inClass (top 24) 0
theorem sc_Job_init : FnScope ["self", "number", "rank", "term", "start", "after", "parts"] ["self", "number", "rank", "term", "start", "after", "parts"] (defScope s_Job_init) := ⟨rfl, rfl, rfl, by decide +kernel, rfl, by decide +kernel, by decide +kernel⟩
abbrev s_Job_is_open : Stmt := inClass (top 24) 1
theorem sc_Job_is_open : FnScope ["self"] ["self"] (defScope s_Job_is_open) := ⟨rfl, rfl, rfl, by decide +kernel, rfl, by decide +kernel, by decide +kernel⟩
abbrev s_Job_is_late : Stmt := inClass (top 24) 2
theorem sc_Job_is_late : FnScope ["self", "now"] ["self", "now"] (defScope s_Job_is_late) := ⟨rfl, rfl, rfl, by decide +kernel, rfl, by decide +kernel, by decide +kernel⟩
abbrev s_Job_raised : Stmt := inClass (top 24) 3
theorem sc_Job_raised : FnScope ["self", "now", "patience"] ["self", "now", "patience"] (defScope s_Job_raised) := ⟨rfl, rfl, rfl, by decide +kernel, rfl, by decide +kernel, by decide +kernel⟩
abbrev s_Job_key : Stmt := inClass (top 24) 4
theorem sc_Job_key : FnScope ["self", "now", "patience", "term"] ["self", "now", "patience"] (defScope s_Job_key) := ⟨rfl, rfl, rfl, by decide +kernel, rfl, by decide +kernel, by decide +kernel⟩
abbrev s_Board_init : Stmt := inClass (top 28) 0
theorem sc_Board_init : FnScope ["self", "budget", "patience"] ["self", "budget", "patience"] (defScope s_Board_init) := ⟨rfl, rfl, rfl, by decide +kernel, rfl, by decide +kernel, by decide +kernel⟩
abbrev s_Board_open_jobs : Stmt := inClass (top 28) 2
theorem sc_Board_open_jobs : FnScope ["self", "job"] ["self"] (defScope s_Board_open_jobs) := ⟨rfl, rfl, rfl, by decide +kernel, rfl, by decide +kernel, by decide +kernel⟩
abbrev s_Board_need : Stmt := inClass (top 28) 3
theorem sc_Board_need : FnScope ["self", "number"] ["self", "number"] (defScope s_Board_need) := ⟨rfl, rfl, rfl, by decide +kernel, rfl, by decide +kernel, by decide +kernel⟩
abbrev s_Board_is_ready : Stmt := inClass (top 28) 7
theorem sc_Board_is_ready : FnScope ["self", "job", "other"] ["self", "job"] (defScope s_Board_is_ready) := ⟨rfl, rfl, rfl, by decide +kernel, rfl, by decide +kernel, by decide +kernel⟩
abbrev s_Board_in_order : Stmt := inClass (top 28) 8
theorem sc_Board_in_order : FnScope ["self", "keys", "job", "key"] ["self"] (defScope s_Board_in_order) := ⟨rfl, rfl, rfl, by decide +kernel, rfl, by decide +kernel, by decide +kernel⟩
abbrev s_Board_order : Stmt := inClass (top 28) 9
theorem sc_Board_order : FnScope ["self", "job"] ["self"] (defScope s_Board_order) := ⟨rfl, rfl, rfl, by decide +kernel, rfl, by decide +kernel, by decide +kernel⟩
abbrev s_Board_frame : Stmt := inClass (top 28) 10
theorem sc_Board_frame : FnScope ["self", "begin", "rest", "made", "some", "ran", "job", "other", "number", "part"] ["self"] (defScope s_Board_frame) := ⟨rfl, rfl, rfl, by decide +kernel, rfl, by decide +kernel, by decide +kernel⟩
abbrev s_Board_add : Stmt := inClass (top 28) 1
theorem sc_Board_add : FnScope ["self", "rank", "term", "start", "after", "parts", "number"] ["self", "rank", "term", "start", "after", "parts"] (defScope s_Board_add) := ⟨rfl, rfl, rfl, by decide +kernel, rfl, by decide +kernel, by decide +kernel⟩
abbrev s_Board_waited : Stmt := inClass (top 28) 15
theorem sc_Board_waited : FnScope ["self", "number"] ["self", "number"] (defScope s_Board_waited) := ⟨rfl, rfl, rfl, by decide +kernel, rfl, by decide +kernel, by decide +kernel⟩
abbrev s_Board_used : Stmt := inClass (top 28) 12
theorem sc_Board_used : FnScope ["self"] ["self"] (defScope s_Board_used) := ⟨rfl, rfl, rfl, by decide +kernel, rfl, by decide +kernel, by decide +kernel⟩
abbrev s_Board_now : Stmt := inClass (top 28) 11
theorem sc_Board_now : FnScope ["self"] ["self"] (defScope s_Board_now) := ⟨rfl, rfl, rfl, by decide +kernel, rfl, by decide +kernel, by decide +kernel⟩
abbrev s_Board_is_late : Stmt := inClass (top 28) 18
theorem sc_Board_is_late : FnScope ["self", "number", "job"] ["self", "number"] (defScope s_Board_is_late) := ⟨rfl, rfl, rfl, by decide +kernel, rfl, by decide +kernel, by decide +kernel⟩
abbrev s_Board_need_open : Stmt := inClass (top 28) 4
theorem sc_Board_need_open : FnScope ["self", "number"] ["self", "number"] (defScope s_Board_need_open) := ⟨rfl, rfl, rfl, by decide +kernel, rfl, by decide +kernel, by decide +kernel⟩
abbrev s_Board_set_rank : Stmt := inClass (top 28) 6
theorem sc_Board_set_rank : FnScope ["self", "number", "rank", "old"] ["self", "number", "rank"] (defScope s_Board_set_rank) := ⟨rfl, rfl, rfl, by decide +kernel, rfl, by decide +kernel, by decide +kernel⟩
abbrev s_Board_saved : Stmt := inClass (top 28) 20
theorem sc_Board_saved : FnScope ["self", "rows", "job", "front"] ["self"] (defScope s_Board_saved) := ⟨rfl, rfl, rfl, by decide +kernel, rfl, by decide +kernel, by decide +kernel⟩
abbrev s_woken : Stmt := top 29
theorem sc_woken : FnScope ["thing", "board", "number", "job", "rank", "term", "start", "after", "parts", "at", "idle", "end", "gone"] ["thing"] (defScope s_woken) := ⟨rfl, rfl, rfl, by decide +kernel, rfl, by decide +kernel, by decide +kernel⟩
abbrev s_Board_ahead : Stmt := inClass (top 28) 19
theorem sc_Board_ahead : FnScope ["self", "many", "other", "turn"] ["self", "many"] (defScope s_Board_ahead) := ⟨rfl, rfl, rfl, by decide +kernel, rfl, by decide +kernel, by decide +kernel⟩
abbrev s_Board_drop : Stmt := inClass (top 28) 5
theorem sc_Board_drop : FnScope ["self", "number", "gone", "job", "other"] ["self", "number"] (defScope s_Board_drop) := ⟨rfl, rfl, rfl, by decide +kernel, rfl, by decide +kernel, by decide +kernel⟩
abbrev s_l_cell_at : Stmt := top 37
theorem sc_l_cell_at : FnScope ["_law_script", "_law_k"] ["_law_script", "_law_k"] (defScope s_l_cell_at) := ⟨rfl, rfl, rfl, by decide +kernel, rfl, by decide +kernel, by decide +kernel⟩
abbrev s_l_mixed : Stmt := top 38
theorem sc_l_mixed : FnScope ["_law_script", "_law_k", "_law_many", "_law_drawn"] ["_law_script", "_law_k", "_law_many"] (defScope s_l_mixed) := ⟨rfl, rfl, rfl, by decide +kernel, rfl, by decide +kernel, by decide +kernel⟩
abbrev s_l_draw : Stmt := top 39
theorem sc_l_draw : FnScope ["_law_script", "_law_town", "_law_many"] ["_law_script", "_law_town", "_law_many"] (defScope s_l_draw) := ⟨rfl, rfl, rfl, by decide +kernel, rfl, by decide +kernel, by decide +kernel⟩
abbrev s_l_pick : Stmt := top 40
theorem sc_l_pick : FnScope ["_law_script", "_law_town", "_law_some"] ["_law_script", "_law_town", "_law_some"] (defScope s_l_pick) := ⟨rfl, rfl, rfl, by decide +kernel, rfl, by decide +kernel, by decide +kernel⟩
abbrev s_l_which : Stmt := top 53
theorem sc_l_which : FnScope ["_law_e", "_law_own_here"] ["_law_e"] (defScope s_l_which) := ⟨rfl, rfl, rfl, by decide +kernel, rfl, by decide +kernel, by decide +kernel⟩
abbrev s_is_deed : Stmt := top 32
theorem sc_is_deed : FnScope ["thing"] ["thing"] (defScope s_is_deed) := ⟨rfl, rfl, rfl, by decide +kernel, rfl, by decide +kernel, by decide +kernel⟩
abbrev s_do_now : Stmt := top 33
theorem sc_do_now : FnScope ["board", "deed"] ["board", "deed"] (defScope s_do_now) := ⟨rfl, rfl, rfl, by decide +kernel, rfl, by decide +kernel, by decide +kernel⟩
abbrev s_do : Stmt := top 34
theorem sc_do : FnScope ["board", "deed"] ["board", "deed"] (defScope s_do) := ⟨rfl, rfl, rfl, by decide +kernel, rfl, by decide +kernel, by decide +kernel⟩
abbrev s_l_sizes : Stmt := top 43
theorem sc_l_sizes : FnScope ["_law_script", "_law_town"] ["_law_script", "_law_town"] (defScope s_l_sizes) := ⟨rfl, rfl, rfl, by decide +kernel, rfl, by decide +kernel, by decide +kernel⟩
abbrev s_l_job : Stmt := top 41
theorem sc_l_job : FnScope ["_law_script", "_law_town", "_law_budget", "_law_many", "_law_term", "_law_start", "_law_after", "_law_parts", "_law_k"] ["_law_script", "_law_town", "_law_budget", "_law_many"] (defScope s_l_job) := ⟨rfl, rfl, rfl, by decide +kernel, rfl, by decide +kernel, by decide +kernel⟩
abbrev s_l_deed : Stmt := top 42
theorem sc_l_deed : FnScope ["_law_script", "_law_town", "_law_budget", "_law_many", "_law_kind"] ["_law_script", "_law_town", "_law_budget", "_law_many"] (defScope s_l_deed) := ⟨rfl, rfl, rfl, by decide +kernel, rfl, by decide +kernel, by decide +kernel⟩
abbrev s_l_new : Stmt := top 44
theorem sc_l_new : FnScope ["_law_budget", "_law_patience"] ["_law_budget", "_law_patience"] (defScope s_l_new) := ⟨rfl, rfl, rfl, by decide +kernel, rfl, by decide +kernel, by decide +kernel⟩
abbrev s_l_open : Stmt := top 45
theorem sc_l_open : FnScope ["_law_job_here"] ["_law_job_here"] (defScope s_l_open) := ⟨rfl, rfl, rfl, by decide +kernel, rfl, by decide +kernel, by decide +kernel⟩
abbrev s_l_ready : Stmt := top 46
theorem sc_l_ready : FnScope ["_law_model", "_law_job_here", "_law_other"] ["_law_model", "_law_job_here"] (defScope s_l_ready) := ⟨rfl, rfl, rfl, by decide +kernel, rfl, by decide +kernel, by decide +kernel⟩
abbrev s_l_raised : Stmt := top 47
theorem sc_l_raised : FnScope ["_law_model", "_law_job_here", "_law_late"] ["_law_model", "_law_job_here"] (defScope s_l_raised) := ⟨rfl, rfl, rfl, by decide +kernel, rfl, by decide +kernel, by decide +kernel⟩
abbrev s_l_order : Stmt := top 48
theorem sc_l_order : FnScope ["_law_model", "_law_rows", "_law_number", "_law_job_here", "_law_term", "_law_row"] ["_law_model"] (defScope s_l_order) := ⟨rfl, rfl, rfl, by decide +kernel, rfl, by decide +kernel, by decide +kernel⟩
abbrev s_l_frame : Stmt := top 49
theorem sc_l_frame : FnScope ["_law_model", "_law_jobs", "_law_first", "_law_left", "_law_made", "_law_going", "_law_ran", "_law_fit", "_law_number", "_law_job_here", "_law_part"] ["_law_model"] (defScope s_l_frame) := ⟨rfl, rfl, rfl, by decide +kernel, rfl, by decide +kernel, by decide +kernel⟩
abbrev s_l_add : Stmt := top 50
theorem sc_l_add : FnScope ["_law_model", "_law_deed_here", "_law_jobs", "_law_number", "_law_job_here"] ["_law_model", "_law_deed_here"] (defScope s_l_add) := ⟨rfl, rfl, rfl, by decide +kernel, rfl, by decide +kernel, by decide +kernel⟩
abbrev s_l_drop : Stmt := top 51
theorem sc_l_drop : FnScope ["_law_model", "_law_number", "_law_gone", "_law_other", "_law_job_here", "_law_one"] ["_law_model", "_law_number"] (defScope s_l_drop) := ⟨rfl, rfl, rfl, by decide +kernel, rfl, by decide +kernel, by decide +kernel⟩
abbrev s_l_own : Stmt := top 52
theorem sc_l_own : FnScope ["_law_model", "_law_deed_here", "_law_job_here", "_law_old"] ["_law_model", "_law_deed_here"] (defScope s_l_own) := ⟨rfl, rfl, rfl, by decide +kernel, rfl, by decide +kernel, by decide +kernel⟩
abbrev s_run : Stmt := top 35
theorem sc_run : FnScope ["budget", "patience", "deeds", "board", "deed"] ["budget", "patience", "deeds"] (defScope s_run) := ⟨rfl, rfl, rfl, by decide +kernel, rfl, by decide +kernel, by decide +kernel⟩
abbrev s_l_asked : Stmt := top 54
theorem sc_l_asked : FnScope ["_law_what", "_law_one", "_law_other", "_law_third", "_law_e"] ["_law_what", "_law_one", "_law_other", "_law_third"] (defScope s_l_asked) := ⟨rfl, rfl, rfl, by decide +kernel, rfl, by decide +kernel, by decide +kernel⟩
abbrev s_law : Stmt := top 55
theorem sc_law : FnScope ["_law_script", "_law_town", "_law_model", "_law_deeds", "_law_due", "_law_k", "_law_other", "_law_bad", "_law_budget", "_law_patience", "_law_deed_here", "_law_odd", "_law_told", "_law_board"] ["_law_script"] (defScope s_law) := ⟨rfl, rfl, rfl, by decide +kernel, rfl, by decide +kernel, by decide +kernel⟩
structure Tx (K : Fr) (mg : Str → Option Value) (w : World) where
  c_Job : Addr
  cl_Job : Cls K c_Job
  m_Job : mg "Job" = some (.ref c_Job)
  na_Job_number : NoAttr K c_Job "number"
  na_Job_rank : NoAttr K c_Job "rank"
  na_Job_term : NoAttr K c_Job "term"
  na_Job_start : NoAttr K c_Job "start"
  na_Job_after : NoAttr K c_Job "after"
  na_Job_parts : NoAttr K c_Job "parts"
  na_Job_at : NoAttr K c_Job "at"
  na_Job_idle : NoAttr K c_Job "idle"
  na_Job_end : NoAttr K c_Job "end"
  na_Job_gone : NoAttr K c_Job "gone"
  c_Board : Addr
  cl_Board : Cls K c_Board
  m_Board : mg "Board" = some (.ref c_Board)
  na_Board_budget : NoAttr K c_Board "budget"
  na_Board_patience : NoAttr K c_Board "patience"
  na_Board_jobs : NoAttr K c_Board "jobs"
  na_Board_frames : NoAttr K c_Board "frames"
  na_Board_spent : NoAttr K c_Board "spent"
  a_is_whole : Addr
  fd_is_whole : FuncData
  F_is_whole : Fun K "is_whole" "is_whole" s_is_whole a_is_whole fd_is_whole
  b_is_whole : Binds K fd_is_whole ["thing", "low", "most"] []
  m_is_whole : mg "is_whole" = some (.ref a_is_whole)
  a_are_parts : Addr
  fd_are_parts : FuncData
  F_are_parts : Fun K "are_parts" "are_parts" s_are_parts a_are_parts fd_are_parts
  b_are_parts : Binds K fd_are_parts ["thing", "budget"] []
  m_are_parts : mg "are_parts" = some (.ref a_are_parts)
  a_need_rank : Addr
  fd_need_rank : FuncData
  F_need_rank : Fun K "need_rank" "need_rank" s_need_rank a_need_rank fd_need_rank
  b_need_rank : Binds K fd_need_rank ["rank"] []
  m_need_rank : mg "need_rank" = some (.ref a_need_rank)
  a_need_job : Addr
  fd_need_job : FuncData
  F_need_job : Fun K "need_job" "need_job" s_need_job a_need_job fd_need_job
  b_need_job : Binds K fd_need_job ["budget", "rank", "term", "start", "parts"] []
  m_need_job : mg "need_job" = some (.ref a_need_job)
  a_Job_init : Addr
  fd_Job_init : FuncData
  F_Job_init : Fun K "__init__" "Job.__init__" s_Job_init a_Job_init fd_Job_init
  b_Job_init : Binds K fd_Job_init ["self", "number", "rank", "term", "start", "after", "parts"] []
  mk_Job : Mk K c_Job a_Job_init
  a_Job_is_open : Addr
  fd_Job_is_open : FuncData
  F_Job_is_open : Fun K "is_open" "Job.is_open" s_Job_is_open a_Job_is_open fd_Job_is_open
  b_Job_is_open : Binds K fd_Job_is_open ["self"] []
  M_Job_is_open : Meth K c_Job "is_open" a_Job_is_open
  a_Job_is_late : Addr
  fd_Job_is_late : FuncData
  F_Job_is_late : Fun K "is_late" "Job.is_late" s_Job_is_late a_Job_is_late fd_Job_is_late
  b_Job_is_late : Binds K fd_Job_is_late ["self", "now"] []
  M_Job_is_late : Meth K c_Job "is_late" a_Job_is_late
  a_Job_raised : Addr
  fd_Job_raised : FuncData
  F_Job_raised : Fun K "raised" "Job.raised" s_Job_raised a_Job_raised fd_Job_raised
  b_Job_raised : Binds K fd_Job_raised ["self", "now", "patience"] []
  M_Job_raised : Meth K c_Job "raised" a_Job_raised
  a_Job_key : Addr
  fd_Job_key : FuncData
  F_Job_key : Fun K "key" "Job.key" s_Job_key a_Job_key fd_Job_key
  b_Job_key : Binds K fd_Job_key ["self", "now", "patience"] []
  M_Job_key : Meth K c_Job "key" a_Job_key
  a_Board_init : Addr
  fd_Board_init : FuncData
  F_Board_init : Fun K "__init__" "Board.__init__" s_Board_init a_Board_init fd_Board_init
  b_Board_init : Binds K fd_Board_init ["self", "budget", "patience"] []
  mk_Board : Mk K c_Board a_Board_init
  a_Board_open_jobs : Addr
  fd_Board_open_jobs : FuncData
  F_Board_open_jobs : Fun K "open_jobs" "Board.open_jobs" s_Board_open_jobs a_Board_open_jobs fd_Board_open_jobs
  b_Board_open_jobs : Binds K fd_Board_open_jobs ["self"] []
  M_Board_open_jobs : Meth K c_Board "open_jobs" a_Board_open_jobs
  a_Board_need : Addr
  fd_Board_need : FuncData
  F_Board_need : Fun K "need" "Board.need" s_Board_need a_Board_need fd_Board_need
  b_Board_need : Binds K fd_Board_need ["self", "number"] []
  M_Board_need : Meth K c_Board "need" a_Board_need
  a_Board_is_ready : Addr
  fd_Board_is_ready : FuncData
  F_Board_is_ready : Fun K "is_ready" "Board.is_ready" s_Board_is_ready a_Board_is_ready fd_Board_is_ready
  b_Board_is_ready : Binds K fd_Board_is_ready ["self", "job"] []
  M_Board_is_ready : Meth K c_Board "is_ready" a_Board_is_ready
  a_Board_in_order : Addr
  fd_Board_in_order : FuncData
  F_Board_in_order : Fun K "in_order" "Board.in_order" s_Board_in_order a_Board_in_order fd_Board_in_order
  b_Board_in_order : Binds K fd_Board_in_order ["self"] []
  M_Board_in_order : Meth K c_Board "in_order" a_Board_in_order
  a_Board_order : Addr
  fd_Board_order : FuncData
  F_Board_order : Fun K "order" "Board.order" s_Board_order a_Board_order fd_Board_order
  b_Board_order : Binds K fd_Board_order ["self"] []
  M_Board_order : Meth K c_Board "order" a_Board_order
  a_Board_frame : Addr
  fd_Board_frame : FuncData
  F_Board_frame : Fun K "frame" "Board.frame" s_Board_frame a_Board_frame fd_Board_frame
  b_Board_frame : Binds K fd_Board_frame ["self"] []
  M_Board_frame : Meth K c_Board "frame" a_Board_frame
  a_Board_add : Addr
  fd_Board_add : FuncData
  F_Board_add : Fun K "add" "Board.add" s_Board_add a_Board_add fd_Board_add
  b_Board_add : Binds K fd_Board_add ["self", "rank", "term", "start", "after", "parts"] []
  M_Board_add : Meth K c_Board "add" a_Board_add
  a_Board_waited : Addr
  fd_Board_waited : FuncData
  F_Board_waited : Fun K "waited" "Board.waited" s_Board_waited a_Board_waited fd_Board_waited
  b_Board_waited : Binds K fd_Board_waited ["self", "number"] []
  M_Board_waited : Meth K c_Board "waited" a_Board_waited
  a_Board_used : Addr
  fd_Board_used : FuncData
  F_Board_used : Fun K "used" "Board.used" s_Board_used a_Board_used fd_Board_used
  b_Board_used : Binds K fd_Board_used ["self"] []
  M_Board_used : Meth K c_Board "used" a_Board_used
  a_Board_now : Addr
  fd_Board_now : FuncData
  F_Board_now : Fun K "now" "Board.now" s_Board_now a_Board_now fd_Board_now
  b_Board_now : Binds K fd_Board_now ["self"] []
  M_Board_now : Meth K c_Board "now" a_Board_now
  a_Board_is_late : Addr
  fd_Board_is_late : FuncData
  F_Board_is_late : Fun K "is_late" "Board.is_late" s_Board_is_late a_Board_is_late fd_Board_is_late
  b_Board_is_late : Binds K fd_Board_is_late ["self", "number"] []
  M_Board_is_late : Meth K c_Board "is_late" a_Board_is_late
  a_Board_need_open : Addr
  fd_Board_need_open : FuncData
  F_Board_need_open : Fun K "need_open" "Board.need_open" s_Board_need_open a_Board_need_open fd_Board_need_open
  b_Board_need_open : Binds K fd_Board_need_open ["self", "number"] []
  M_Board_need_open : Meth K c_Board "need_open" a_Board_need_open
  a_Board_set_rank : Addr
  fd_Board_set_rank : FuncData
  F_Board_set_rank : Fun K "set_rank" "Board.set_rank" s_Board_set_rank a_Board_set_rank fd_Board_set_rank
  b_Board_set_rank : Binds K fd_Board_set_rank ["self", "number", "rank"] []
  M_Board_set_rank : Meth K c_Board "set_rank" a_Board_set_rank
  a_Board_saved : Addr
  fd_Board_saved : FuncData
  F_Board_saved : Fun K "saved" "Board.saved" s_Board_saved a_Board_saved fd_Board_saved
  b_Board_saved : Binds K fd_Board_saved ["self"] []
  M_Board_saved : Meth K c_Board "saved" a_Board_saved
  a_woken : Addr
  fd_woken : FuncData
  F_woken : Fun K "woken" "woken" s_woken a_woken fd_woken
  b_woken : Binds K fd_woken ["thing"] []
  m_woken : mg "woken" = some (.ref a_woken)
  a_Board_ahead : Addr
  fd_Board_ahead : FuncData
  F_Board_ahead : Fun K "ahead" "Board.ahead" s_Board_ahead a_Board_ahead fd_Board_ahead
  b_Board_ahead : Binds K fd_Board_ahead ["self", "many"] []
  M_Board_ahead : Meth K c_Board "ahead" a_Board_ahead
  a_Board_drop : Addr
  fd_Board_drop : FuncData
  F_Board_drop : Fun K "drop" "Board.drop" s_Board_drop a_Board_drop fd_Board_drop
  b_Board_drop : Binds K fd_Board_drop ["self", "number"] []
  M_Board_drop : Meth K c_Board "drop" a_Board_drop
  a_l_cell_at : Addr
  fd_l_cell_at : FuncData
  F_l_cell_at : Fun K "_law_cell_at" "_law_cell_at" s_l_cell_at a_l_cell_at fd_l_cell_at
  b_l_cell_at : Binds K fd_l_cell_at ["_law_script", "_law_k"] []
  m_l_cell_at : mg "_law_cell_at" = some (.ref a_l_cell_at)
  a_l_mixed : Addr
  fd_l_mixed : FuncData
  F_l_mixed : Fun K "_law_mixed" "_law_mixed" s_l_mixed a_l_mixed fd_l_mixed
  b_l_mixed : Binds K fd_l_mixed ["_law_script", "_law_k", "_law_many"] []
  m_l_mixed : mg "_law_mixed" = some (.ref a_l_mixed)
  a_l_draw : Addr
  fd_l_draw : FuncData
  F_l_draw : Fun K "_law_draw" "_law_draw" s_l_draw a_l_draw fd_l_draw
  b_l_draw : Binds K fd_l_draw ["_law_script", "_law_town", "_law_many"] []
  m_l_draw : mg "_law_draw" = some (.ref a_l_draw)
  a_l_pick : Addr
  fd_l_pick : FuncData
  F_l_pick : Fun K "_law_pick" "_law_pick" s_l_pick a_l_pick fd_l_pick
  b_l_pick : Binds K fd_l_pick ["_law_script", "_law_town", "_law_some"] []
  m_l_pick : mg "_law_pick" = some (.ref a_l_pick)
  a_l_which : Addr
  fd_l_which : FuncData
  F_l_which : Fun K "_law_which" "_law_which" s_l_which a_l_which fd_l_which
  b_l_which : Binds K fd_l_which ["_law_e"] []
  m_l_which : mg "_law_which" = some (.ref a_l_which)
  a_is_deed : Addr
  fd_is_deed : FuncData
  F_is_deed : Fun K "is_deed" "is_deed" s_is_deed a_is_deed fd_is_deed
  b_is_deed : Binds K fd_is_deed ["thing"] []
  m_is_deed : mg "is_deed" = some (.ref a_is_deed)
  a_do_now : Addr
  fd_do_now : FuncData
  F_do_now : Fun K "do_now" "do_now" s_do_now a_do_now fd_do_now
  b_do_now : Binds K fd_do_now ["board", "deed"] []
  m_do_now : mg "do_now" = some (.ref a_do_now)
  a_do : Addr
  fd_do : FuncData
  F_do : Fun K "do" "do" s_do a_do fd_do
  b_do : Binds K fd_do ["board", "deed"] []
  m_do : mg "do" = some (.ref a_do)
  a_l_sizes : Addr
  fd_l_sizes : FuncData
  F_l_sizes : Fun K "_law_sizes" "_law_sizes" s_l_sizes a_l_sizes fd_l_sizes
  b_l_sizes : Binds K fd_l_sizes ["_law_script", "_law_town"] []
  m_l_sizes : mg "_law_sizes" = some (.ref a_l_sizes)
  a_l_job : Addr
  fd_l_job : FuncData
  F_l_job : Fun K "_law_job" "_law_job" s_l_job a_l_job fd_l_job
  b_l_job : Binds K fd_l_job ["_law_script", "_law_town", "_law_budget", "_law_many"] []
  m_l_job : mg "_law_job" = some (.ref a_l_job)
  a_l_deed : Addr
  fd_l_deed : FuncData
  F_l_deed : Fun K "_law_deed" "_law_deed" s_l_deed a_l_deed fd_l_deed
  b_l_deed : Binds K fd_l_deed ["_law_script", "_law_town", "_law_budget", "_law_many"] []
  m_l_deed : mg "_law_deed" = some (.ref a_l_deed)
  a_l_new : Addr
  fd_l_new : FuncData
  F_l_new : Fun K "_law_new" "_law_new" s_l_new a_l_new fd_l_new
  b_l_new : Binds K fd_l_new ["_law_budget", "_law_patience"] []
  m_l_new : mg "_law_new" = some (.ref a_l_new)
  a_l_open : Addr
  fd_l_open : FuncData
  F_l_open : Fun K "_law_open" "_law_open" s_l_open a_l_open fd_l_open
  b_l_open : Binds K fd_l_open ["_law_job_here"] []
  m_l_open : mg "_law_open" = some (.ref a_l_open)
  a_l_ready : Addr
  fd_l_ready : FuncData
  F_l_ready : Fun K "_law_ready" "_law_ready" s_l_ready a_l_ready fd_l_ready
  b_l_ready : Binds K fd_l_ready ["_law_model", "_law_job_here"] []
  m_l_ready : mg "_law_ready" = some (.ref a_l_ready)
  a_l_raised : Addr
  fd_l_raised : FuncData
  F_l_raised : Fun K "_law_raised" "_law_raised" s_l_raised a_l_raised fd_l_raised
  b_l_raised : Binds K fd_l_raised ["_law_model", "_law_job_here"] []
  m_l_raised : mg "_law_raised" = some (.ref a_l_raised)
  a_l_order : Addr
  fd_l_order : FuncData
  F_l_order : Fun K "_law_order" "_law_order" s_l_order a_l_order fd_l_order
  b_l_order : Binds K fd_l_order ["_law_model"] []
  m_l_order : mg "_law_order" = some (.ref a_l_order)
  a_l_frame : Addr
  fd_l_frame : FuncData
  F_l_frame : Fun K "_law_frame" "_law_frame" s_l_frame a_l_frame fd_l_frame
  b_l_frame : Binds K fd_l_frame ["_law_model"] []
  m_l_frame : mg "_law_frame" = some (.ref a_l_frame)
  a_l_add : Addr
  fd_l_add : FuncData
  F_l_add : Fun K "_law_add" "_law_add" s_l_add a_l_add fd_l_add
  b_l_add : Binds K fd_l_add ["_law_model", "_law_deed_here"] []
  m_l_add : mg "_law_add" = some (.ref a_l_add)
  a_l_drop : Addr
  fd_l_drop : FuncData
  F_l_drop : Fun K "_law_drop" "_law_drop" s_l_drop a_l_drop fd_l_drop
  b_l_drop : Binds K fd_l_drop ["_law_model", "_law_number"] []
  m_l_drop : mg "_law_drop" = some (.ref a_l_drop)
  a_l_own : Addr
  fd_l_own : FuncData
  F_l_own : Fun K "_law_own" "_law_own" s_l_own a_l_own fd_l_own
  b_l_own : Binds K fd_l_own ["_law_model", "_law_deed_here"] []
  m_l_own : mg "_law_own" = some (.ref a_l_own)
  a_run : Addr
  fd_run : FuncData
  F_run : Fun K "run" "run" s_run a_run fd_run
  b_run : Binds K fd_run ["budget", "patience", "deeds"] []
  m_run : mg "run" = some (.ref a_run)
  a_l_asked : Addr
  fd_l_asked : FuncData
  F_l_asked : Fun K "_law_asked" "_law_asked" s_l_asked a_l_asked fd_l_asked
  b_l_asked : Binds K fd_l_asked ["_law_what", "_law_one", "_law_other", "_law_third"] []
  m_l_asked : mg "_law_asked" = some (.ref a_l_asked)
  a_law : Addr
  fd_law : FuncData
  F_law : Fun K "law" "law" s_law a_law fd_law
  b_law : Binds K fd_law ["_law_script"] []
  m_law : mg "law" = some (.ref a_law)
  n_isinstance : mg "isinstance" = none
  n_int : mg "int" = none
  n_bool : mg "bool" = none
  n_tuple : mg "tuple" = none
  n_len : mg "len" = none
  n_all : mg "all" = none
  n_sorted : mg "sorted" = none
  n_list : mg "list" = none
  n_enumerate : mg "enumerate" = none
  n_range : mg "range" = none
  n_any : mg "any" = none
  n_ValueError : mg "ValueError" = none
  n_str : mg "str" = none
  t_PARTS : Tok
  m_PARTS : mg "PARTS" = some (.int 8 t_PARTS)
  t_RANKS : Tok
  m_RANKS : mg "RANKS" = some (.int 4 t_RANKS)
  t_FRAMES : Tok
  m_FRAMES : mg "FRAMES" = some (.int 10000 t_FRAMES)
  t_RAISED : Tok
  m_RAISED : mg "RAISED" = some (.int 2 t_RAISED)
  t_BUDGET : Tok
  m_BUDGET : mg "BUDGET" = some (.int 50 t_BUDGET)
  t_PATIENCE : Tok
  m_PATIENCE : mg "PATIENCE" = some (.int 20 t_PATIENCE)
  t_JOBS : Tok
  m_JOBS : mg "JOBS" = some (.int 20 t_JOBS)
  t_AHEAD : Tok
  m_AHEAD : mg "AHEAD" = some (.int 200 t_AHEAD)
  c_NoJob : Addr
  m_NoJob : mg "NoJob" = some (.ref c_NoJob)
  x_NoJob : PySem.W.excIn K c_NoJob [.type "ValueError", .type "Exception", .type "BaseException", .type "object"] "ValueError.__new__" = true
  k_NoJob : PySem.W.keepIn K (.ref c_NoJob) = true
  b_NoJob : PySem.W.subIn K (.ref c_NoJob) (.type "BaseException") = some true
  t_NoJob : PySem.W.typeIn K (.ref c_NoJob) = some (.type "type")
  c_NoBoard : Addr
  m_NoBoard : mg "NoBoard" = some (.ref c_NoBoard)
  x_NoBoard : PySem.W.excIn K c_NoBoard [.type "ValueError", .type "Exception", .type "BaseException", .type "object"] "ValueError.__new__" = true
  k_NoBoard : PySem.W.keepIn K (.ref c_NoBoard) = true
  b_NoBoard : PySem.W.subIn K (.ref c_NoBoard) (.type "BaseException") = some true
  t_NoBoard : PySem.W.typeIn K (.ref c_NoBoard) = some (.type "type")
  c_NoNumber : Addr
  m_NoNumber : mg "NoNumber" = some (.ref c_NoNumber)
  x_NoNumber : PySem.W.excIn K c_NoNumber [.type "ValueError", .type "Exception", .type "BaseException", .type "object"] "ValueError.__new__" = true
  k_NoNumber : PySem.W.keepIn K (.ref c_NoNumber) = true
  b_NoNumber : PySem.W.subIn K (.ref c_NoNumber) (.type "BaseException") = some true
  t_NoNumber : PySem.W.typeIn K (.ref c_NoNumber) = some (.type "type")
  c_Over : Addr
  m_Over : mg "Over" = some (.ref c_Over)
  x_Over : PySem.W.excIn K c_Over [.type "ValueError", .type "Exception", .type "BaseException", .type "object"] "ValueError.__new__" = true
  k_Over : PySem.W.keepIn K (.ref c_Over) = true
  b_Over : PySem.W.subIn K (.ref c_Over) (.type "BaseException") = some true
  t_Over : PySem.W.typeIn K (.ref c_Over) = some (.type "type")
  c_Full : Addr
  m_Full : mg "Full" = some (.ref c_Full)
  x_Full : PySem.W.excIn K c_Full [.type "ValueError", .type "Exception", .type "BaseException", .type "object"] "ValueError.__new__" = true
  k_Full : PySem.W.keepIn K (.ref c_Full) = true
  b_Full : PySem.W.subIn K (.ref c_Full) (.type "BaseException") = some true
  t_Full : PySem.W.typeIn K (.ref c_Full) = some (.type "type")
  c_NoCount : Addr
  m_NoCount : mg "NoCount" = some (.ref c_NoCount)
  x_NoCount : PySem.W.excIn K c_NoCount [.type "ValueError", .type "Exception", .type "BaseException", .type "object"] "ValueError.__new__" = true
  k_NoCount : PySem.W.keepIn K (.ref c_NoCount) = true
  b_NoCount : PySem.W.subIn K (.ref c_NoCount) (.type "BaseException") = some true
  t_NoCount : PySem.W.typeIn K (.ref c_NoCount) = some (.type "type")
  c_NoJobs : Addr
  m_NoJobs : mg "NoJobs" = some (.ref c_NoJobs)
  x_NoJobs : PySem.W.excIn K c_NoJobs [.type "ValueError", .type "Exception", .type "BaseException", .type "object"] "ValueError.__new__" = true
  k_NoJobs : PySem.W.keepIn K (.ref c_NoJobs) = true
  b_NoJobs : PySem.W.subIn K (.ref c_NoJobs) (.type "BaseException") = some true
  t_NoJobs : PySem.W.typeIn K (.ref c_NoJobs) = some (.type "type")
  c_TooMany : Addr
  m_TooMany : mg "TooMany" = some (.ref c_TooMany)
  x_TooMany : PySem.W.excIn K c_TooMany [.type "ValueError", .type "Exception", .type "BaseException", .type "object"] "ValueError.__new__" = true
  k_TooMany : PySem.W.keepIn K (.ref c_TooMany) = true
  b_TooMany : PySem.W.subIn K (.ref c_TooMany) (.type "BaseException") = some true
  t_TooMany : PySem.W.typeIn K (.ref c_TooMany) = some (.type "type")
  c_NoPlan : Addr
  m_NoPlan : mg "NoPlan" = some (.ref c_NoPlan)
  x_NoPlan : PySem.W.excIn K c_NoPlan [.type "ValueError", .type "Exception", .type "BaseException", .type "object"] "ValueError.__new__" = true
  k_NoPlan : PySem.W.keepIn K (.ref c_NoPlan) = true
  b_NoPlan : PySem.W.subIn K (.ref c_NoPlan) (.type "BaseException") = some true
  t_NoPlan : PySem.W.typeIn K (.ref c_NoPlan) = some (.type "type")
  c_NoDeed : Addr
  m_NoDeed : mg "NoDeed" = some (.ref c_NoDeed)
  x_NoDeed : PySem.W.excIn K c_NoDeed [.type "ValueError", .type "Exception", .type "BaseException", .type "object"] "ValueError.__new__" = true
  k_NoDeed : PySem.W.keepIn K (.ref c_NoDeed) = true
  b_NoDeed : PySem.W.subIn K (.ref c_NoDeed) (.type "BaseException") = some true
  t_NoDeed : PySem.W.typeIn K (.ref c_NoDeed) = some (.type "type")
  c_WorkError : Addr
  m_WorkError : mg "WorkError" = some (.ref c_WorkError)
  x_WorkError : PySem.W.excIn K c_WorkError [.type "ValueError", .type "Exception", .type "BaseException", .type "object"] "ValueError.__new__" = true
  k_WorkError : PySem.W.keepIn K (.ref c_WorkError) = true
  b_WorkError : PySem.W.subIn K (.ref c_WorkError) (.type "BaseException") = some true
  t_WorkError : PySem.W.typeIn K (.ref c_WorkError) = some (.type "type")
  xc_NoBoard : ExcC K c_NoBoard
  ki_NoBoard : kitRow K c_NoBoard [c_NoBoard, c_NoJob, c_NoNumber, c_Over, c_Full, c_NoCount, c_NoJobs, c_TooMany, c_NoPlan, c_NoDeed] = rowE .noBoard
  xw_NoBoard : PySem.W.exmOne K (.ref c_NoBoard) (.ref c_WorkError) = some true
  xc_NoJob : ExcC K c_NoJob
  ki_NoJob : kitRow K c_NoJob [c_NoBoard, c_NoJob, c_NoNumber, c_Over, c_Full, c_NoCount, c_NoJobs, c_TooMany, c_NoPlan, c_NoDeed] = rowE .noJob
  xw_NoJob : PySem.W.exmOne K (.ref c_NoJob) (.ref c_WorkError) = some true
  xc_NoNumber : ExcC K c_NoNumber
  ki_NoNumber : kitRow K c_NoNumber [c_NoBoard, c_NoJob, c_NoNumber, c_Over, c_Full, c_NoCount, c_NoJobs, c_TooMany, c_NoPlan, c_NoDeed] = rowE .noNum
  xw_NoNumber : PySem.W.exmOne K (.ref c_NoNumber) (.ref c_WorkError) = some true
  xc_Over : ExcC K c_Over
  ki_Over : kitRow K c_Over [c_NoBoard, c_NoJob, c_NoNumber, c_Over, c_Full, c_NoCount, c_NoJobs, c_TooMany, c_NoPlan, c_NoDeed] = rowE .over
  xw_Over : PySem.W.exmOne K (.ref c_Over) (.ref c_WorkError) = some true
  xc_Full : ExcC K c_Full
  ki_Full : kitRow K c_Full [c_NoBoard, c_NoJob, c_NoNumber, c_Over, c_Full, c_NoCount, c_NoJobs, c_TooMany, c_NoPlan, c_NoDeed] = rowE .full
  xw_Full : PySem.W.exmOne K (.ref c_Full) (.ref c_WorkError) = some true
  xc_NoDeed : ExcC K c_NoDeed
  ki_NoDeed : kitRow K c_NoDeed [c_NoBoard, c_NoJob, c_NoNumber, c_Over, c_Full, c_NoCount, c_NoJobs, c_TooMany, c_NoPlan, c_NoDeed] = rowE .noDeed
  xw_NoDeed : PySem.W.exmOne K (.ref c_NoDeed) (.ref c_WorkError) = some true
  d_SIZES : Addr
  m_SIZES : mg "SIZES" = some (.ref d_SIZES)
  kd_SIZES : ∃ es n, KDict K w d_SIZES es n
  s_add : ∃ tk, PySem.W.nsIn K d_SIZES "add" = some (some (.int 6 tk))
  s_drop : ∃ tk, PySem.W.nsIn K d_SIZES "drop" = some (some (.int 2 tk))
  s_rank : ∃ tk, PySem.W.nsIn K d_SIZES "rank" = some (some (.int 3 tk))
  s_frame : ∃ tk, PySem.W.nsIn K d_SIZES "frame" = some (some (.int 1 tk))
  s_go : PySem.W.nsIn K d_SIZES "go" = some none
end Cw

namespace Cw
open PySem L2

local macro_rules | `(tactic| walk_at "vw") => `(tactic| first | exact Vw.dat | exact Vw.own 0 rfl | exact Vw.own 1 rfl | exact Vw.own 2 rfl | exact Vw.own 3 rfl | exact Vw.own 4 rfl | exact Vw.own 5 rfl | exact Vw.own 6 rfl | exact Vw.own 7 rfl)
local macro_rules | `(tactic| walk_at "ar") => `(tactic| first | assumption | decide | omega)
local macro_rules | `(tactic| walk_at "ix") => `(tactic| first | assumption | rfl)
local macro_rules | `(tactic| walk_at "sh") => `(tactic| first | assumption | rfl)
local macro_rules | `(tactic| walk_at "cm") => `(tactic| first | exact Or.inr ⟨by decide, by decide⟩ | exact Or.inl ⟨by decide, by decide⟩ | (unfold CMul; omega))
local macro_rules | `(tactic| walk_at "cd") => `(tactic| first | exact ⟨by decide, by decide⟩ | exact ⟨by omega, by omega⟩)
local macro_rules | `(tactic| walk_at "lim") => `(tactic| first | assumption | omega | (simp only [List.length_append, List.length_cons, List.length_nil, List.length_replicate, List.length_map]; omega) | decide)
local macro_rules | `(tactic| walk_at "od") => `(tactic| first
  | exact od_add | exact od_sub | exact od_lt | exact od_le | exact od_gt | exact od_ge | exact od_isn | exact od_notn
  | exact od_mul (by walk_at "cm") | exact od_mod (by walk_at "ar") | exact od_fdiv (by walk_at "cd")
  | exact od_eq (by walk_at "vw") (by walk_at "vw") (by walk_at "sh") (by walk_at "sh") | exact od_l (od_ne (by walk_at "vw") (by walk_at "vw") (by walk_at "sh") (by walk_at "sh"))
  | exact od_ixT (by walk_at "ix") | exact od_ixL (by walk_at "vw") (by walk_at "ix") | exact od_addT (by walk_at "lim") | exact od_repT (by walk_at "lim") (by walk_at "lim") (by walk_at "lim")
  | exact od_jobs 0 rfl (by assumption) | exact od_ixV 1 rfl (by assumption)
  | exact od_in (by walk_at "vw") (by walk_at "vw") (by walk_at "sh") (by walk_at "sh") | exact od_nin (by walk_at "vw") (by walk_at "vw") (by walk_at "sh") (by walk_at "sh"))
local macro_rules | `(tactic| walk_at "ins") => `(tactic| first | exact ins_bd 0 rfl (by decide +kernel) | exact ins_bdx 0 rfl (by decide +kernel) | exact ins_bdx 1 rfl (by decide +kernel) | exact ins_bdx 2 rfl (by decide +kernel) | exact ins_bdx 3 rfl (by decide +kernel))
local macro_rules | `(tactic| walk_at "cb") => `(tactic| first
  | exact cd_lenT | exact cd_lenL (by walk_at "vw") | exact cd_isInt (by walk_at "vw") | exact cd_isBool (by walk_at "vw") | exact cd_isTup (by walk_at "vw") | exact cd_isLst (by walk_at "vw") | exact cd_isStr (by walk_at "vw")
  | exact cd_all (by walk_at "vw") | exact cd_any (by walk_at "vw") | exact cd_sum (by walk_at "vw") | exact cd_tupL (by walk_at "vw") | exact cl_listL (by walk_at "vw") | exact cd_lenJ 0 rfl | exact cl_spent 0 rfl | exact cd_spentT 0 rfl | exact cd_intB | exact cd_max2 | exact cd_min2)

section
variable {P : Program} {w : World} {K : Fr} {mg : Str → Option Value} {base : Heap}
def isWhole (d : PyData) (lo hi : Int) : Bool := match d with
  | .int i => decide (lo ≤ i) && decide (i ≤ hi)
  | _ => false
theorem isWhole_eq (d : PyData) (lo hi : Int) : (isIntD d && (!isBoolD d && isWhole d lo hi)) = isWhole d lo hi := by cases d <;> simp [isIntD, isBoolD, isWhole]
def sp_is_whole (K : Fr) : Pm K (PyData × Int × Int) := pureP (fun _ => True) (fun g => [.d g.1, .d (.int g.2.1), .d (.int g.2.2)]) (fun g => .d (.bool (isWhole g.1 g.2.1 g.2.2)))
theorem ok_is_whole (T : Tx K mg w) : FnOk P w K mg base (L2.CX P w) 1 T.a_is_whole T.fd_is_whole ["thing", "low", "most"] (sp_is_whole K).sp := by
  refine T.F_is_whole.okX sc_is_whole ((sp_is_whole K).len fun _ => rfl) (fun cdv A outer s H vs Q EX hr h => ?_)
  obtain ⟨⟨d, lo, hi⟩, B, F, hp, A0, hB, k, kx⟩ := h
  refine ⟨_, (pss_one (ps_ret (pe_and (pe_callB (isiK (K := K) rfl) (by rfl) T.n_isinstance (by decide +kernel) (pa_cons (pv 0) (pa_cons (pe_bltn (v := .ty "int") (by rfl) T.n_int (by decide +kernel) rfl) pa_nil))) (pe_and (pe_not (pe_callB (isiK (K := K) rfl) (by rfl) T.n_isinstance (by decide +kernel) (pa_cons (pv 0) (pa_cons (pe_bltn (v := .ty "bool") (by rfl) T.n_bool (by decide +kernel) rfl) pa_nil)))) (pe_one (pe_chain op_le op_le (pv 1) (pv 0) (pv 2))))))), ?_⟩
  refine run (Γ := [.d d, .d (.int lo), .d (.int hi)]) (Oi := []) A0 rfl ?_
  exact r_ret (e_andV (e_cb (a_cons (e_var (i := 0) rfl rfl) (a_cons e_cv a_nil)) (by walk_at "cb")) (fun hh => (e_andV (e_notV (e_cb (a_cons (e_var (i := 0) rfl rfl) (a_cons e_cv a_nil)) (by walk_at "cb"))) (fun hh => (show E K _ _ _ (.d (.bool (isWhole d lo hi))) _ from by
        obtain ⟨i, rfl⟩ := isInt_of (d := d) (by assumption) (by assumption)
        exact e_chain (e_var (i := 1) rfl rfl) (e_var (i := 0) rfl rfl) od_le (fun _ => e_var (i := 2) rfl rfl) (fun _ => od_le)))))) (k rfl) (congrArg (fun b => SD.d (.bool b)) (isWhole_eq d lo hi)) (Ole.refl _) (Bl.refl _)
theorem c_is_whole {Os : List Own} {d : PyData} {lo hi : Int} : CaD K Os (sp_is_whole K).sp [.d d, .d (.int lo), .d (.int hi)] (.d (.bool (isWhole d lo hi))) Os := ca0 (d, lo, hi) trivial rfl rfl rfl rfl rfl
def arePartsD (d : PyData) (bu : Int) : Bool := match d with
  | .tuple ds => decide (1 ≤ ds.length) && decide (ds.length ≤ 8) && ds.all fun p => isWhole p 1 bu
  | _ => false
def sp_are_parts (K : Fr) : Pm K (PyData × Int) := pureP (fun _ => True) (fun g => [.d g.1, .d (.int g.2)]) (fun g => .d (.bool (arePartsD g.1 g.2)))
theorem ok_are_parts (T : Tx K mg w) : FnOk P w K mg base (L2.CX P w) 2 T.a_are_parts T.fd_are_parts ["thing", "budget"] (sp_are_parts K).sp := by
  refine T.F_are_parts.okX sc_are_parts ((sp_are_parts K).len fun _ => rfl) (fun cdv A outer s H vs Q EX hr h => ?_)
  obtain ⟨⟨d, bu⟩, B, F, hp, A0, hB, k, kx⟩ := h
  refine ⟨_, (pss_cons (ps_if (PW.pt (pw_or (pt_not (pt_val (pe_callB (isiK (K := K) rfl) (by rfl) T.n_isinstance (by decide +kernel) (pa_cons (pv 0) (pa_cons (pe_bltn (v := .ty "tuple") (by rfl) T.n_tuple (by decide +kernel) rfl) pa_nil))))) (pw_or1 (pt_not (pt_chain op_le op_le pe_int (pe_callB (lenK (K := K) rfl) (by rfl) T.n_len (by decide +kernel) (pa_cons (pv 0) pa_nil)) (pe_glob (v := .int 8) rfl T.m_PARTS ⟨_, rfl⟩)))))) (pss_one (ps_ret pe_bl)) pss_nil) (pss_one (ps_ret (pe_callB (allK (K := K) rfl rfl) (by rfl) T.n_all (by decide +kernel) (pa_cons (pe_lc (own := [("part", 2)]) rfl sc_are_parts.nd (pi_tup (pv 0)) (blkOk_by (own := [("part", 2)]) (N := ["thing", "budget", "part"]) (sc := defScope s_are_parts) (by decide +kernel)) (fun _ _ _ _ _ => by exact (pg_name (i := 2) sc_are_parts.nd rfl (by first | exact Or.inl rfl | exact Or.inr rfl))) (fun _ _ _ _ _ => by exact pts_nil) (fun _ _ _ _ _ => by exact (pe_call (ok_is_whole T) (hr.mono (by decide)) (by rfl) T.m_is_whole T.F_is_whole.kp T.b_is_whole .nil passL (pa_cons (pv 2) (pa_cons pe_int (pa_cons (pv 1) pa_nil)))))) pa_nil))))), ?_⟩
  refine run (Γ := [.d d, .d (.int bu), .un]) (Oi := []) A0 rfl ?_
  by_cases hT : isTupD d = true
  · obtain ⟨ds, rfl⟩ := isTup_of hT
    refine n_seq ?_; refine (n_when (t_or (t_not (t_B (e_cb (a_cons (e_var (i := 0) rfl rfl) (a_cons e_cv a_nil)) (by walk_at "cb")))) (fun hh => (t_not (t_T (e_chain e_int (e_cb (a_cons (e_var (i := 0) rfl rfl) a_nil) (by walk_at "cb")) (by walk_at "od") (fun hh => e_int) (fun hh => (by walk_at "od"))))))) (fun hb => ?_) (fun hb => ?_))
    · refine r_ret e_bl (k rfl) (congrArg (fun b => SD.d (.bool b)) ?_) (Ole.refl _) (Bl.refl _)
      have : ¬ ((1 : Int) ≤ ds.length ∧ (ds.length : Int) ≤ 8) := fun z => by
        rw [decide_eq_true z.1, decide_eq_true z.2] at hb
        cases hb
      show false = (decide (1 ≤ ds.length) && decide (ds.length ≤ 8) && _)
      by_cases h1 : 1 ≤ ds.length
      · rw [decide_eq_false (p := ds.length ≤ 8) (by omega)]; simp
      · rw [decide_eq_false h1]; simp
    · have h8 : (1 : Int) ≤ ds.length ∧ (ds.length : Int) ≤ 8 := by
        have hb' : (!(decide ((1 : Int) ≤ ds.length) && decide ((ds.length : Int) ≤ 8))) = false := hb
        simpa only [Bool.not_eq_false', Bool.and_eq_true, decide_eq_true_eq] using hb'
      refine r_ret (e_cb (a_cons (e_fz (el_is (es := (ds.map fun p => isWhole p 1 bu).map .bool) (el_lcP (vs := [2]) (it_tup (e_var (i := 0) rfl rfl)) (by walk_at "lim") (fun _ => tg_name) (by intro i hi; exact hi) (by first | exact trivial | exact rfl | exact ⟨_, rfl⟩) (f := fun _ => true) (v := fun i => .bool (isWhole (ds[i]?.getD .none) 1 bu)) (fun i hi => t_yes) (fun i hi hf => (e_call (a_cons (e_var (i := 2) rfl rfl) (a_cons e_int (a_cons (e_var (i := 1) rfl rfl) a_nil))) c_is_whole))) (by
        rw [gvn_all, List.map_map]
        refine List.ext_getElem? fun i => ?_
        by_cases hi : i < ds.length
        · simp [hi]
        · simp [hi]))) a_nil) (cd_all .dat)) (k rfl) (congrArg (fun b => SD.d (.bool b)) ?_) (Ole.refl _) (Bl.refl _)
      show _ = (decide (1 ≤ ds.length) && decide (ds.length ≤ 8) && ds.all fun p => isWhole p 1 bu)
      rw [decide_eq_true (p := 1 ≤ ds.length) (by omega), decide_eq_true (p := ds.length ≤ 8) (by omega), List.all_map]
      rfl
  · have hF : isTupD d = false := by simpa using hT
    refine n_seq ?_; refine (n_when (b := true) (et_is (t_or (b := false) (t_not (t_B (e_cb (a_cons (e_var (i := 0) rfl rfl) (a_cons e_cv a_nil)) (cd_isTup .dat)))) (fun hh => by rw [hF] at hh; cases hh)) (by rw [hF]; rfl)) (fun _ => ?_) (fun hb => by cases hb))
    refine r_ret e_bl (k rfl) (congrArg (fun b => SD.d (.bool b)) ?_) (Ole.refl _) (Bl.refl _)
    cases d <;> first | rfl | (simp [isTupD] at hF)
theorem c_are_parts {Os : List Own} {d : PyData} {bu : Int} : CaD K Os (sp_are_parts K).sp [.d d, .d (.int bu)] (.d (.bool (arePartsD d bu))) Os := ca0 (d, bu) trivial rfl rfl rfl rfl rfl
def sp_need_rank (T : Tx K mg w) : Pm K PyData := ⟨fun _ => True, fun d => [.d d], fun _ => [], fun _ => .d .none, fun _ => [], fun d => if isWhole d 0 4 = true then none else some T.c_NoJob, fun _ => []⟩
theorem ok_need_rank (T : Tx K mg w) : FnOk P w K mg base (L2.CX P w) 2 T.a_need_rank T.fd_need_rank ["rank"] (sp_need_rank T).sp := by
  refine T.F_need_rank.okX sc_need_rank ((sp_need_rank T).len fun _ => rfl) (fun cdv A outer s H vs Q EX hr h => ?_)
  obtain ⟨d, B, F, hp, A0, hB, k, kx⟩ := h
  refine ⟨_, (pss_one (ps_if (pt_not (pt_val (pe_call (ok_is_whole T) (hr.mono (by decide)) (by rfl) T.m_is_whole T.F_is_whole.kp T.b_is_whole .nil (passes_call (takes_of rfl rfl rfl rfl) (fun _ _ _ _ h => h)) (pa_cons (pv 0) (pa_cons pe_int (pa_cons (pe_glob (v := .int 4) rfl T.m_RANKS ⟨_, rfl⟩) pa_nil)))))) (pss_one (ps_raise rfl (takes_of rfl rfl rfl rfl) (pmk_own PySem.F.excBase_ValueError T.x_NoJob T.m_NoJob T.k_NoJob (raises_own T.b_NoJob T.t_NoJob) rfl))) pss_nil)), ?_⟩
  refine run (Γ := [.d d]) (Oi := []) A0 rfl ?_
  refine n_when (t_not (t_B (e_call (a_cons (e_var (i := 0) rfl rfl) (a_cons e_int (a_cons e_int a_nil))) c_is_whole))) (fun hb => ?_) (fun hb => ?_)
  · exact n_err kx (if_neg (by simpa using hb)) (Ole.refl _) (Bl.refl _)
  · exact r_end (k (if_pos (by simpa using hb))) rfl (Ole.refl _)
theorem c_need_rank (T : Tx K mg w) {Os : List Own} {X : XK} {d : PyData} : CaX K Os (sp_need_rank T).sp [.d d] X (if isWhole d 0 4 = true then none else some T.c_NoJob) (.d .none) Os Os := cx0 d trivial rfl rfl rfl rfl rfl rfl
def jobOkD (bu : Int) (r t s p : PyData) : Bool := isWhole r 0 4 && (isNone t || isWhole t 0 10000) && isWhole s 0 10000 && arePartsD p bu
def sp_need_job (T : Tx K mg w) : Pm K (Int × PyData × PyData × PyData × PyData) := ⟨fun _ => True, fun g => [.d (.int g.1), .d g.2.1, .d g.2.2.1, .d g.2.2.2.1, .d g.2.2.2.2], fun _ => [], fun _ => .d .none, fun _ => [], fun g => if jobOkD g.1 g.2.1 g.2.2.1 g.2.2.2.1 g.2.2.2.2 = true then none else some T.c_NoJob, fun _ => []⟩
theorem ok_need_job (T : Tx K mg w) : FnOk P w K mg base (L2.CX P w) 3 T.a_need_job T.fd_need_job ["budget", "rank", "term", "start", "parts"] (sp_need_job T).sp := by
  refine T.F_need_job.okX sc_need_job ((sp_need_job T).len fun _ => rfl) (fun cdv A outer s H vs Q EX hr h => ?_)
  obtain ⟨⟨bu, r, t, st, p⟩, B, F, hp, A0, hB, k, kx⟩ := h
  refine ⟨_, (pss_cons (ps_expr (pe_call (ok_need_rank T) (hr.mono (by decide)) (by rfl) T.m_need_rank T.F_need_rank.kp T.b_need_rank .nil (passes_call (takes_of rfl rfl rfl rfl) (fun _ _ _ _ h => h)) (pa_cons (pv 1) pa_nil))) (pss_cons (ps_if (PW.pt (pw_and (pt_cmpR op_notn (pv 2) pe_non (nomark _)) (pw_and1 (pt_not (pt_val (pe_call (ok_is_whole T) (hr.mono (by decide)) (by rfl) T.m_is_whole T.F_is_whole.kp T.b_is_whole .nil (passes_call (takes_of rfl rfl rfl rfl) (fun _ _ _ _ h => h)) (pa_cons (pv 2) (pa_cons pe_int (pa_cons (pe_glob (v := .int 10000) rfl T.m_FRAMES ⟨_, rfl⟩) pa_nil))))))))) (pss_one (ps_raise rfl (takes_of rfl rfl rfl rfl) (pmk_own PySem.F.excBase_ValueError T.x_NoJob T.m_NoJob T.k_NoJob (raises_own T.b_NoJob T.t_NoJob) rfl))) pss_nil) (pss_cons (ps_if (pt_not (pt_val (pe_call (ok_is_whole T) (hr.mono (by decide)) (by rfl) T.m_is_whole T.F_is_whole.kp T.b_is_whole .nil (passes_call (takes_of rfl rfl rfl rfl) (fun _ _ _ _ h => h)) (pa_cons (pv 3) (pa_cons pe_int (pa_cons (pe_glob (v := .int 10000) rfl T.m_FRAMES ⟨_, rfl⟩) pa_nil)))))) (pss_one (ps_raise rfl (takes_of rfl rfl rfl rfl) (pmk_own PySem.F.excBase_ValueError T.x_NoJob T.m_NoJob T.k_NoJob (raises_own T.b_NoJob T.t_NoJob) rfl))) pss_nil) (pss_one (ps_if (pt_not (pt_val (pe_call (ok_are_parts T) (hr.mono (by decide)) (by rfl) T.m_are_parts T.F_are_parts.kp T.b_are_parts .nil (passes_call (takes_of rfl rfl rfl rfl) (fun _ _ _ _ h => h)) (pa_cons (pv 4) (pa_cons (pv 0) pa_nil))))) (pss_one (ps_raise rfl (takes_of rfl rfl rfl rfl) (pmk_own PySem.F.excBase_ValueError T.x_NoJob T.m_NoJob T.k_NoJob (raises_own T.b_NoJob T.t_NoJob) rfl))) pss_nil))))), ?_⟩
  refine run (Γ := [.d (.int bu), .d r, .d t, .d st, .d p]) (Oi := []) A0 rfl ?_
  refine n_seq ?_; refine (n_dropX (a_cons (e_var (i := 1) rfl rfl) a_nil) (c_need_rank T) (fun h1 => ?_) (fun C hC => ?_))
  · have h1 : isWhole r 0 4 = true := by
      by_cases z : isWhole r 0 4 = true
      · exact z
      · rw [if_neg z] at h1; cases h1
    refine n_seq ?_; refine (n_when (t_and (t_T (e_op (e_var (i := 2) rfl rfl) e_non (by walk_at "od"))) (fun hh => (t_not (t_B (e_call (a_cons (e_var (i := 2) rfl rfl) (a_cons e_int (a_cons e_int a_nil))) c_is_whole))))) (fun hb => ?_) (fun hb => ?_))
    · have hb : (!isNone t && !isWhole t 0 10000) = true := hb
      refine n_err kx (if_neg fun z => ?_) (Ole.refl _) (Bl.refl _)
      have z : jobOkD bu r t st p = true := z
      unfold jobOkD at z
      revert hb z
      cases isNone t <;> cases isWhole t 0 10000 <;> simp
    · have hb : (!isNone t && !isWhole t 0 10000) = false := hb
      refine n_seq ?_; refine (n_when (t_not (t_B (e_call (a_cons (e_var (i := 3) rfl rfl) (a_cons e_int (a_cons e_int a_nil))) c_is_whole))) (fun hb3 => ?_) (fun hb3 => ?_))
      · refine n_err kx (if_neg fun z => ?_) (Ole.refl _) (Bl.refl _)
        have z : jobOkD bu r t st p = true := z
        unfold jobOkD at z
        have hb3 : (!isWhole st 0 10000) = true := hb3
        revert hb3 z
        cases isWhole st 0 10000 <;> simp
      · have hb3 : (!isWhole st 0 10000) = false := hb3
        refine n_when (t_not (t_B (e_call (a_cons (e_var (i := 4) rfl rfl) (a_cons (e_var (i := 0) rfl rfl) a_nil)) (c_are_parts)))) (fun hb5 => ?_) (fun hb5 => ?_)
        · refine n_err kx (if_neg fun z => ?_) (Ole.refl _) (Bl.refl _)
          have z : jobOkD bu r t st p = true := z
          unfold jobOkD at z
          have hb5 : (!arePartsD p bu) = true := hb5
          revert hb5 z
          cases arePartsD p bu <;> simp
        · have hb5 : (!arePartsD p bu) = false := hb5
          refine r_end (k (if_pos ?_)) rfl (Ole.refl _)
          show jobOkD bu r t st p = true
          unfold jobOkD
          revert hb hb3 hb5
          rw [h1]
          cases isNone t <;> cases isWhole t 0 10000 <;> cases isWhole st 0 10000 <;> cases arePartsD p bu <;> simp
  · by_cases z : isWhole r 0 4 = true
    · rw [if_pos z] at hC; cases hC
    · rw [if_neg z] at hC
      cases hC
      refine n_err kx (if_neg fun y => ?_) (Ole.refl _) (Bl.refl _)
      have y : jobOkD bu r t st p = true := y
      unfold jobOkD at y
      revert z y
      cases isWhole r 0 4 <;> simp
theorem c_need_job (T : Tx K mg w) {Os : List Own} {X : XK} {bu : Int} {r t s p : PyData} : CaX K Os (sp_need_job T).sp [.d (.int bu), .d r, .d t, .d s, .d p] X (if jobOkD bu r t s p = true then none else some T.c_NoJob) (.d .none) Os Os := cx0 (bu, r, t, s, p) trivial rfl rfl rfl rfl rfl rfl
end
end Cw

namespace Cw
open PySem L2

local macro_rules | `(tactic| walk_at "vw") => `(tactic| first | exact Vw.dat | exact Vw.own 0 rfl | exact Vw.own 1 rfl | exact Vw.own 2 rfl | exact Vw.own 3 rfl | exact Vw.own 4 rfl | exact Vw.own 5 rfl | exact Vw.own 6 rfl | exact Vw.own 7 rfl)
local macro_rules | `(tactic| walk_at "ar") => `(tactic| first | assumption | decide | omega)
local macro_rules | `(tactic| walk_at "ix") => `(tactic| first | assumption | rfl)
local macro_rules | `(tactic| walk_at "sh") => `(tactic| first | assumption | rfl)
local macro_rules | `(tactic| walk_at "cm") => `(tactic| first | exact Or.inr ⟨by decide, by decide⟩ | exact Or.inl ⟨by decide, by decide⟩ | (unfold CMul; omega))
local macro_rules | `(tactic| walk_at "cd") => `(tactic| first | exact ⟨by decide, by decide⟩ | exact ⟨by omega, by omega⟩)
local macro_rules | `(tactic| walk_at "lim") => `(tactic| first | assumption | omega | (simp only [List.length_append, List.length_cons, List.length_nil, List.length_replicate, List.length_map]; omega) | decide)
local macro_rules | `(tactic| walk_at "od") => `(tactic| first
  | exact od_add | exact od_sub | exact od_lt | exact od_le | exact od_gt | exact od_ge | exact od_isn | exact od_notn
  | exact od_mul (by walk_at "cm") | exact od_mod (by walk_at "ar") | exact od_fdiv (by walk_at "cd")
  | exact od_eq (by walk_at "vw") (by walk_at "vw") (by walk_at "sh") (by walk_at "sh") | exact od_l (od_ne (by walk_at "vw") (by walk_at "vw") (by walk_at "sh") (by walk_at "sh"))
  | exact od_ixT (by walk_at "ix") | exact od_ixL (by walk_at "vw") (by walk_at "ix") | exact od_addT (by walk_at "lim") | exact od_repT (by walk_at "lim") (by walk_at "lim") (by walk_at "lim")
  | exact od_jobs 0 rfl (by assumption) | exact od_ixV 1 rfl (by assumption)
  | exact od_in (by walk_at "vw") (by walk_at "vw") (by walk_at "sh") (by walk_at "sh") | exact od_nin (by walk_at "vw") (by walk_at "vw") (by walk_at "sh") (by walk_at "sh"))
local macro_rules | `(tactic| walk_at "ins") => `(tactic| first | exact ins_bd 0 rfl (by decide +kernel) | exact ins_bdx 0 rfl (by decide +kernel) | exact ins_bdx 1 rfl (by decide +kernel) | exact ins_bdx 2 rfl (by decide +kernel) | exact ins_bdx 3 rfl (by decide +kernel))
local macro_rules | `(tactic| walk_at "cb") => `(tactic| first
  | exact cd_lenT | exact cd_lenL (by walk_at "vw") | exact cd_isInt (by walk_at "vw") | exact cd_isBool (by walk_at "vw") | exact cd_isTup (by walk_at "vw") | exact cd_isLst (by walk_at "vw") | exact cd_isStr (by walk_at "vw")
  | exact cd_all (by walk_at "vw") | exact cd_any (by walk_at "vw") | exact cd_sum (by walk_at "vw") | exact cd_tupL (by walk_at "vw") | exact cl_listL (by walk_at "vw") | exact cd_lenJ 0 rfl | exact cl_spent 0 rfl | exact cd_spentT 0 rfl | exact cd_intB | exact cd_max2 | exact cd_min2)

section
variable {P : Program} {w : World} {K : Fr} {mg : Str → Option Value} {base : Heap}
def sp_Job_init (T : Tx K mg w) : Pm K (Addr × Nat × Jb) := ⟨fun g => g.2.2.at_ = 0 ∧ g.2.2.idle = 0 ∧ g.2.2.fin = none ∧ g.2.2.gone = false, fun g => [.v (.ref g.1), .d (.int (g.2.1 : Int)), .d (.int g.2.2.rank), .d (oD g.2.2.term), .d (.int g.2.2.start), .d (tupN g.2.2.after), .d (tupI g.2.2.parts)], fun g => [inst K T.c_Job g.1 [] []], fun _ => .d .none, fun g => [inst K T.c_Job g.1 jobKs (jobSD g.2.1 g.2.2)], fun _ => none, fun _ => []⟩
theorem ok_Job_init (T : Tx K mg w) : FnOk P w K mg base (L2.CX P w) 1 T.a_Job_init T.fd_Job_init ["self", "number", "rank", "term", "start", "after", "parts"] (sp_Job_init T).sp := by
  refine T.F_Job_init.okX sc_Job_init ((sp_Job_init T).len fun _ => rfl) (fun cdv A outer s H vs Q EX hr h => ?_)
  obtain ⟨⟨x, n, ⟨rank, term, start, after, parts, at', idle, fin, gone⟩⟩, B, F, hp, A0, hB, k, kx⟩ := h
  obtain ⟨h1, h2, h3, h4⟩ := hp
  dsimp only at h1 h2 h3 h4
  subst h1 h2 h3 h4
  refine ⟨_, (pss_cons (ps_fld (pv 0) (pv 1) rfl) (pss_cons (ps_fld (pv 0) (pv 2) rfl) (pss_cons (ps_fld (pv 0) (pv 3) rfl) (pss_cons (ps_fld (pv 0) (pv 4) rfl) (pss_cons (ps_fld (pv 0) (pv 5) rfl) (pss_cons (ps_fld (pv 0) (pv 6) rfl) (pss_cons (ps_fld (pv 0) pe_int rfl) (pss_cons (ps_fld (pv 0) pe_int rfl) (pss_cons (ps_fld (pv 0) pe_non rfl) (pss_one (ps_fld (pv 0) pe_bl rfl))))))))))), ?_⟩
  refine run (Γ := [.v (.ref x), .d (.int (n : Int)), .d (.int rank), .d (oD term), .d (.int start), .d (tupN after), .d (tupI parts)]) (Oi := [inst K T.c_Job x [] []]) A0 rfl ?_
  refine n_seq ?_; refine (n_fldN2 ["number"] [.d (.int (n : Int))] 0 (e_var (i := 1) rfl rfl) (e_var (i := 0) rfl rfl) rfl T.cl_Job T.na_Job_number (by decide +kernel) (by decide) rfl rfl ?_)
  refine n_own (Os1 := [inst K T.c_Job x ["number"] [.d (.int (n : Int))]]) rfl ?_
  refine n_seq ?_; refine (n_fldN2 ["number", "rank"] [.d (.int (n : Int)), .d (.int rank)] 0 (e_var (i := 2) rfl rfl) (e_var (i := 0) rfl rfl) rfl T.cl_Job T.na_Job_rank (by decide +kernel) (by decide) rfl rfl ?_)
  refine n_own (Os1 := [inst K T.c_Job x ["number", "rank"] [.d (.int (n : Int)), .d (.int rank)]]) rfl ?_
  refine n_seq ?_; refine (n_fldN2 ["number", "rank", "term"] [.d (.int (n : Int)), .d (.int rank), .d (oD term)] 0 (e_var (i := 3) rfl rfl) (e_var (i := 0) rfl rfl) rfl T.cl_Job T.na_Job_term (by decide +kernel) (by decide) rfl rfl ?_)
  refine n_own (Os1 := [inst K T.c_Job x ["number", "rank", "term"] [.d (.int (n : Int)), .d (.int rank), .d (oD term)]]) rfl ?_
  refine n_seq ?_; refine (n_fldN2 ["number", "rank", "term", "start"] [.d (.int (n : Int)), .d (.int rank), .d (oD term), .d (.int start)] 0 (e_var (i := 4) rfl rfl) (e_var (i := 0) rfl rfl) rfl T.cl_Job T.na_Job_start (by decide +kernel) (by decide) rfl rfl ?_)
  refine n_own (Os1 := [inst K T.c_Job x ["number", "rank", "term", "start"] [.d (.int (n : Int)), .d (.int rank), .d (oD term), .d (.int start)]]) rfl ?_
  refine n_seq ?_; refine (n_fldN2 ["number", "rank", "term", "start", "after"] [.d (.int (n : Int)), .d (.int rank), .d (oD term), .d (.int start), .d (tupN after)] 0 (e_var (i := 5) rfl rfl) (e_var (i := 0) rfl rfl) rfl T.cl_Job T.na_Job_after (by decide +kernel) (by decide) rfl rfl ?_)
  refine n_own (Os1 := [inst K T.c_Job x ["number", "rank", "term", "start", "after"] [.d (.int (n : Int)), .d (.int rank), .d (oD term), .d (.int start), .d (tupN after)]]) rfl ?_
  refine n_seq ?_; refine (n_fldN2 ["number", "rank", "term", "start", "after", "parts"] [.d (.int (n : Int)), .d (.int rank), .d (oD term), .d (.int start), .d (tupN after), .d (tupI parts)] 0 (e_var (i := 6) rfl rfl) (e_var (i := 0) rfl rfl) rfl T.cl_Job T.na_Job_parts (by decide +kernel) (by decide) rfl rfl ?_)
  refine n_own (Os1 := [inst K T.c_Job x ["number", "rank", "term", "start", "after", "parts"] [.d (.int (n : Int)), .d (.int rank), .d (oD term), .d (.int start), .d (tupN after), .d (tupI parts)]]) rfl ?_
  refine n_seq ?_; refine (n_fldN2 ["number", "rank", "term", "start", "after", "parts", "at"] [.d (.int (n : Int)), .d (.int rank), .d (oD term), .d (.int start), .d (tupN after), .d (tupI parts), .d (.int 0)] 0 e_int (e_var (i := 0) rfl rfl) rfl T.cl_Job T.na_Job_at (by decide +kernel) (by decide) rfl rfl ?_)
  refine n_own (Os1 := [inst K T.c_Job x ["number", "rank", "term", "start", "after", "parts", "at"] [.d (.int (n : Int)), .d (.int rank), .d (oD term), .d (.int start), .d (tupN after), .d (tupI parts), .d (.int 0)]]) rfl ?_
  refine n_seq ?_; refine (n_fldN2 ["number", "rank", "term", "start", "after", "parts", "at", "idle"] [.d (.int (n : Int)), .d (.int rank), .d (oD term), .d (.int start), .d (tupN after), .d (tupI parts), .d (.int 0), .d (.int 0)] 0 e_int (e_var (i := 0) rfl rfl) rfl T.cl_Job T.na_Job_idle (by decide +kernel) (by decide) rfl rfl ?_)
  refine n_own (Os1 := [inst K T.c_Job x ["number", "rank", "term", "start", "after", "parts", "at", "idle"] [.d (.int (n : Int)), .d (.int rank), .d (oD term), .d (.int start), .d (tupN after), .d (tupI parts), .d (.int 0), .d (.int 0)]]) rfl ?_
  refine n_seq ?_; refine (n_fldN2 ["number", "rank", "term", "start", "after", "parts", "at", "idle", "end"] [.d (.int (n : Int)), .d (.int rank), .d (oD term), .d (.int start), .d (tupN after), .d (tupI parts), .d (.int 0), .d (.int 0), .d .none] 0 e_non (e_var (i := 0) rfl rfl) rfl T.cl_Job T.na_Job_end (by decide +kernel) (by decide) rfl rfl ?_)
  refine n_own (Os1 := [inst K T.c_Job x ["number", "rank", "term", "start", "after", "parts", "at", "idle", "end"] [.d (.int (n : Int)), .d (.int rank), .d (oD term), .d (.int start), .d (tupN after), .d (tupI parts), .d (.int 0), .d (.int 0), .d .none]]) rfl ?_
  refine n_fldN2 ["number", "rank", "term", "start", "after", "parts", "at", "idle", "end", "gone"] [.d (.int (n : Int)), .d (.int rank), .d (oD term), .d (.int start), .d (tupN after), .d (tupI parts), .d (.int 0), .d (.int 0), .d .none, .d (.bool false)] 0 e_bl (e_var (i := 0) rfl rfl) rfl T.cl_Job T.na_Job_gone (by decide +kernel) (by decide) rfl rfl ?_
  refine n_own (Os1 := [inst K T.c_Job x ["number", "rank", "term", "start", "after", "parts", "at", "idle", "end", "gone"] [.d (.int (n : Int)), .d (.int rank), .d (oD term), .d (.int start), .d (tupN after), .d (tupI parts), .d (.int 0), .d (.int 0), .d .none, .d (.bool false)]]) rfl ?_
  exact r_end (k rfl) rfl (.cons (Oimp.refl _) .nil)
theorem c_Job_init (T : Tx K mg w) {Os : List Own} {x : Addr} {n : Nat} {J : Jb} (h : J.at_ = 0 ∧ J.idle = 0 ∧ J.fin = none ∧ J.gone = false) : CaD K (Os ++ [inst K T.c_Job x [] []]) (sp_Job_init T).sp [.v (.ref x), .d (.int (n : Int)), .d (.int J.rank), .d (oD J.term), .d (.int J.start), .d (tupN J.after), .d (tupI J.parts)] (.d .none) (Os ++ [inst K T.c_Job x jobKs (jobSD n J)]) := by
  have := ca1 (p := sp_Job_init T) (Os := Os ++ [inst K T.c_Job x [] []]) (O' := inst K T.c_Job x jobKs (jobSD n J)) Os.length (x, n, J) (by simp) h rfl rfl rfl rfl rfl
  rw [List.set_append_right _ _ (Nat.le_refl _), Nat.sub_self] at this
  exact this
end
end Cw

namespace Cw
open PySem L2

local macro_rules | `(tactic| walk_at "vw") => `(tactic| first | exact Vw.dat | exact Vw.own 0 rfl | exact Vw.own 1 rfl | exact Vw.own 2 rfl | exact Vw.own 3 rfl | exact Vw.own 4 rfl | exact Vw.own 5 rfl | exact Vw.own 6 rfl | exact Vw.own 7 rfl)
local macro_rules | `(tactic| walk_at "ar") => `(tactic| first | assumption | decide | omega)
local macro_rules | `(tactic| walk_at "ix") => `(tactic| first | assumption | rfl)
local macro_rules | `(tactic| walk_at "sh") => `(tactic| first | assumption | rfl)
local macro_rules | `(tactic| walk_at "cm") => `(tactic| first | exact Or.inr ⟨by decide, by decide⟩ | exact Or.inl ⟨by decide, by decide⟩ | (unfold CMul; omega))
local macro_rules | `(tactic| walk_at "cd") => `(tactic| first | exact ⟨by decide, by decide⟩ | exact ⟨by omega, by omega⟩)
local macro_rules | `(tactic| walk_at "lim") => `(tactic| first | assumption | omega | (simp only [List.length_append, List.length_cons, List.length_nil, List.length_replicate, List.length_map]; omega) | decide)
local macro_rules | `(tactic| walk_at "od") => `(tactic| first
  | exact od_add | exact od_sub | exact od_lt | exact od_le | exact od_gt | exact od_ge | exact od_isn | exact od_notn
  | exact od_mul (by walk_at "cm") | exact od_mod (by walk_at "ar") | exact od_fdiv (by walk_at "cd")
  | exact od_eq (by walk_at "vw") (by walk_at "vw") (by walk_at "sh") (by walk_at "sh") | exact od_l (od_ne (by walk_at "vw") (by walk_at "vw") (by walk_at "sh") (by walk_at "sh"))
  | exact od_ixT (by walk_at "ix") | exact od_ixL (by walk_at "vw") (by walk_at "ix") | exact od_addT (by walk_at "lim") | exact od_repT (by walk_at "lim") (by walk_at "lim") (by walk_at "lim")
  | exact od_jobs 0 rfl (by assumption) | exact od_ixV 1 rfl (by assumption)
  | exact od_in (by walk_at "vw") (by walk_at "vw") (by walk_at "sh") (by walk_at "sh") | exact od_nin (by walk_at "vw") (by walk_at "vw") (by walk_at "sh") (by walk_at "sh"))
local macro_rules | `(tactic| walk_at "ins") => `(tactic| first | exact ins_bd 0 rfl (by decide +kernel) | exact ins_bdx 0 rfl (by decide +kernel) | exact ins_bdx 1 rfl (by decide +kernel) | exact ins_bdx 2 rfl (by decide +kernel) | exact ins_bdx 3 rfl (by decide +kernel))
local macro_rules | `(tactic| walk_at "cb") => `(tactic| first
  | exact cd_lenT | exact cd_lenL (by walk_at "vw") | exact cd_isInt (by walk_at "vw") | exact cd_isBool (by walk_at "vw") | exact cd_isTup (by walk_at "vw") | exact cd_isLst (by walk_at "vw") | exact cd_isStr (by walk_at "vw")
  | exact cd_all (by walk_at "vw") | exact cd_any (by walk_at "vw") | exact cd_sum (by walk_at "vw") | exact cd_tupL (by walk_at "vw") | exact cl_listL (by walk_at "vw") | exact cd_lenJ 0 rfl | exact cl_spent 0 rfl | exact cd_spentT 0 rfl | exact cd_intB | exact cd_max2 | exact cd_min2)

section
variable {P : Program} {w : World} {K : Fr} {mg : Str → Option Value} {base : Heap}
def sp_Job_is_open (T : Tx K mg w) : Pm K (BA × Bd × Nat × Addr × Jb) := roP (fun g => g.1.js[g.2.2.1]? = some g.2.2.2.1 ∧ g.2.1.jobs[g.2.2.1]? = some g.2.2.2.2) (fun g => [.v (.ref g.2.2.2.1)]) (fun g => bd K T.c_Board T.c_Job g.1 g.2.1) (fun g => .d (.bool g.2.2.2.2.isOpen))
theorem ok_Job_is_open (T : Tx K mg w) : FnOk P w K mg base (L2.CX P w) 1 T.a_Job_is_open T.fd_Job_is_open ["self"] (sp_Job_is_open T).sp := by
  refine T.F_Job_is_open.okX sc_Job_is_open ((sp_Job_is_open T).len fun _ => rfl) (fun cdv A outer s H vs Q EX hr h => ?_)
  obtain ⟨⟨a, S, n, j, J⟩, B, F, hp, A0, hB, k, kx⟩ := h
  obtain ⟨hj, hJ⟩ := hp
  dsimp only at hj hJ
  refine ⟨_, (pss_one (ps_ret (pe_and (pe_cmpR op_isn (fldK (K := K) rfl (pv 0) rfl) pe_non (nomark _)) (pe_one (pe_not (fldK (K := K) rfl (pv 0) rfl)))))), ?_⟩
  refine run (Γ := [.v (.ref j)]) (Oi := [bd K T.c_Board T.c_Job a S]) A0 rfl ?_
  exact r_ret (e_andV (e_op (e_fld (e_var (i := 0) rfl rfl) (fld_job (n := 8) 0 rfl (by assumption) (by assumption) T.cl_Job T.na_Job_end (by decide +kernel) rfl rfl)) e_non (by walk_at "od")) (fun hh => (e_notV (e_fld (e_var (i := 0) rfl rfl) (fld_job (n := 9) 0 rfl (by assumption) (by assumption) T.cl_Job T.na_Job_gone (by decide +kernel) rfl rfl))))) (k rfl) rfl (Ole.refl _) (Bl.refl _)
theorem c_Job_is_open (T : Tx K mg w) {Os : List Own} {a : BA} {S : Bd} {n : Nat} {j : Addr} {J : Jb} (i : Nat) (h : Os[i]? = some (bd K T.c_Board T.c_Job a S)) (hj : a.js[n]? = some j) (hJ : S.jobs[n]? = some J) : CaD K Os (sp_Job_is_open T).sp [.v (.ref j)] (.d (.bool J.isOpen)) Os := ca1s i (a, S, n, j, J) h ⟨hj, hJ⟩ rfl rfl rfl rfl rfl
def sp_Job_is_late (T : Tx K mg w) : Pm K ((BA × Bd × Nat × Addr × Jb) × Int) := roP (fun g => g.1.1.js[g.1.2.2.1]? = some g.1.2.2.2.1 ∧ g.1.2.1.jobs[g.1.2.2.1]? = some g.1.2.2.2.2) (fun g => [.v (.ref g.1.2.2.2.1), .d (.int g.2)]) (fun g => bd K T.c_Board T.c_Job g.1.1 g.1.2.1) (fun g => .d (.bool (lateB g.1.2.2.2.2.term g.2)))
theorem ok_Job_is_late (T : Tx K mg w) : FnOk P w K mg base (L2.CX P w) 1 T.a_Job_is_late T.fd_Job_is_late ["self", "now"] (sp_Job_is_late T).sp := by
  refine T.F_Job_is_late.okX sc_Job_is_late ((sp_Job_is_late T).len fun _ => rfl) (fun cdv A outer s H vs Q EX hr h => ?_)
  obtain ⟨⟨⟨a, S, n, j, J⟩, now⟩, B, F, hp, A0, hB, k, kx⟩ := h
  obtain ⟨hj, hJ⟩ := hp
  dsimp only at hj hJ
  refine ⟨_, (pss_one (ps_ret (pe_and (pe_cmpR op_notn (fldK (K := K) rfl (pv 0) rfl) pe_non (nomark _)) (pe_one (pe_cmpR op_gt (pv 1) (fldK (K := K) rfl (pv 0) rfl) (nomark _)))))), ?_⟩
  refine run (Γ := [.v (.ref j), .d (.int now)]) (Oi := [bd K T.c_Board T.c_Job a S]) A0 rfl ?_
  refine r_ret (e_andV (e_op (e_fld (e_var (i := 0) rfl rfl) (fld_job (n := 2) 0 rfl (by assumption) (by assumption) T.cl_Job T.na_Job_term (by decide +kernel) rfl rfl)) e_non (by walk_at "od")) (fun hh => (show E K _ _ _ (.d (.bool (lateB J.term now))) _ from by
        cases ht : J.term with
        | none => rw [ht] at hh; cases hh
        | some t => exact e_op (e_var (i := 1) rfl rfl) (e_is (s' := .d (.int t)) (e_fld (e_var (i := 0) rfl rfl) (fld_job (n := 2) 0 rfl (by assumption) (by assumption) T.cl_Job T.na_Job_term (by decide +kernel) rfl rfl)) (by rw [ht]; rfl)) od_gt))) (k rfl) (congrArg (fun b => SD.d (.bool b)) ?_) (Ole.refl _) (Bl.refl _)
  cases J.term <;> rfl
theorem c_Job_is_late (T : Tx K mg w) {Os : List Own} {a : BA} {S : Bd} {n : Nat} {j : Addr} {J : Jb} {now : Int} (i : Nat) (h : Os[i]? = some (bd K T.c_Board T.c_Job a S)) (hj : a.js[n]? = some j) (hJ : S.jobs[n]? = some J) : CaD K Os (sp_Job_is_late T).sp [.v (.ref j), .d (.int now)] (.d (.bool (lateB J.term now))) Os := ca1s i ((a, S, n, j, J), now) h ⟨hj, hJ⟩ rfl rfl rfl rfl rfl
def sp_Job_raised (T : Tx K mg w) : Pm K ((BA × Bd × Nat × Addr × Jb) × Int × Int) := roP (fun g => (g.1.1.js[g.1.2.2.1]? = some g.1.2.2.2.1 ∧ g.1.2.1.jobs[g.1.2.2.1]? = some g.1.2.2.2.2) ∧ 1 ≤ g.2.2 ∧ g.2.2 ≤ 20) (fun g => [.v (.ref g.1.2.2.2.1), .d (.int g.2.1), .d (.int g.2.2)]) (fun g => bd K T.c_Board T.c_Job g.1.1 g.1.2.1) (fun g => .d (.int (raisedI g.1.2.2.2.2 g.2.1 g.2.2)))
theorem ok_Job_raised (T : Tx K mg w) : FnOk P w K mg base (L2.CX P w) 2 T.a_Job_raised T.fd_Job_raised ["self", "now", "patience"] (sp_Job_raised T).sp := by
  refine T.F_Job_raised.okX sc_Job_raised ((sp_Job_raised T).len fun _ => rfl) (fun cdv A outer s H vs Q EX hr h => ?_)
  obtain ⟨⟨⟨a, S, n, j, J⟩, now, pa⟩, B, F, hp, A0, hB, k, kx⟩ := h
  obtain ⟨⟨hj, hJ⟩, hp1, hp2⟩ := hp
  dsimp only at hj hJ hp1 hp2
  refine ⟨_, (pss_one (ps_ret (pe_op op_sub (pe_op op_sub (fldK (K := K) rfl (pv 0) rfl) (pe_op op_fdiv (fldK (K := K) rfl (pv 0) rfl) (pv 2))) (pe_op (mulK (K := K) rfl) (pe_glob (v := .int 2) rfl T.m_RAISED ⟨_, rfl⟩) (pe_callTy cr_int (by rfl) T.n_int (by decide +kernel) (pa_cons (pe_meth (pv 0) T.cl_Job T.M_Job_is_late (ok_Job_is_late T) (hr.mono (by decide)) T.b_Job_is_late .nil passL (pa_cons (pv 1) pa_nil)) pa_nil)))))), ?_⟩
  refine run (Γ := [.v (.ref j), .d (.int now), .d (.int pa)]) (Oi := [bd K T.c_Board T.c_Job a S]) A0 rfl ?_
  exact r_ret (e_op (e_op (e_fld (e_var (i := 0) rfl rfl) (fld_job (n := 1) 0 rfl (by assumption) (by assumption) T.cl_Job T.na_Job_rank (by decide +kernel) rfl rfl)) (e_op (e_fld (e_var (i := 0) rfl rfl) (fld_job (n := 7) 0 rfl (by assumption) (by assumption) T.cl_Job T.na_Job_idle (by decide +kernel) rfl rfl)) (e_var (i := 2) rfl rfl) (by walk_at "od")) (by walk_at "od")) (e_op e_int (e_cb (a_cons (e_meth (e_var (i := 0) rfl rfl) (ins_job 0 rfl (by assumption) (by assumption) (by decide +kernel)) (a_cons (e_var (i := 1) rfl rfl) a_nil) (c_Job_is_late T 0 rfl (by assumption) (by assumption))) a_nil) (by walk_at "cb")) (by walk_at "od")) (by walk_at "od")) (k rfl) rfl (Ole.refl _) (Bl.refl _)
theorem c_Job_raised (T : Tx K mg w) {Os : List Own} {a : BA} {S : Bd} {n : Nat} {j : Addr} {J : Jb} {now pa : Int} (i : Nat) (h : Os[i]? = some (bd K T.c_Board T.c_Job a S)) (hj : a.js[n]? = some j) (hJ : S.jobs[n]? = some J) (h1 : 1 ≤ pa) (h2 : pa ≤ 20) : CaD K Os (sp_Job_raised T).sp [.v (.ref j), .d (.int now), .d (.int pa)] (.d (.int (raisedI J now pa))) Os := ca1s i ((a, S, n, j, J), now, pa) h ⟨⟨hj, hJ⟩, h1, h2⟩ rfl rfl rfl rfl rfl
def sp_Job_key (T : Tx K mg w) : Pm K ((BA × Bd × Nat × Addr × Jb) × Int × Int) := roP (fun g => (g.1.1.js[g.1.2.2.1]? = some g.1.2.2.2.1 ∧ g.1.2.1.jobs[g.1.2.2.1]? = some g.1.2.2.2.2) ∧ 1 ≤ g.2.2 ∧ g.2.2 ≤ 20) (fun g => [.v (.ref g.1.2.2.2.1), .d (.int g.2.1), .d (.int g.2.2)]) (fun g => bd K T.c_Board T.c_Job g.1.1 g.1.2.1) (fun g => .d (.tuple [.int (raisedI g.1.2.2.2.2 g.2.1 g.2.2), .int (termK g.1.2.2.2.2.term), .int (g.1.2.2.1 : Int)]))
theorem ok_Job_key (T : Tx K mg w) : FnOk P w K mg base (L2.CX P w) 3 T.a_Job_key T.fd_Job_key ["self", "now", "patience"] (sp_Job_key T).sp := by
  refine T.F_Job_key.okX sc_Job_key ((sp_Job_key T).len fun _ => rfl) (fun cdv A outer s H vs Q EX hr h => ?_)
  obtain ⟨⟨⟨a, S, n, j, J⟩, now, pa⟩, B, F, hp, A0, hB, k, kx⟩ := h
  obtain ⟨⟨hj, hJ⟩, hp1, hp2⟩ := hp
  dsimp only at hj hJ hp1 hp2
  refine ⟨_, (pss_cons (ps_set (i := 3) sc_Job_key.nd rfl (by first | exact Or.inl rfl | exact Or.inr rfl) (pe_op (addK (K := K) rfl) (pe_glob (v := .int 10000) rfl T.m_FRAMES ⟨_, rfl⟩) pe_int)) (pss_cons (ps_if (pt_cmpR op_notn (fldK (K := K) rfl (pv 0) rfl) pe_non (nomark _)) (pss_one (ps_set (i := 3) sc_Job_key.nd rfl (by first | exact Or.inl rfl | exact Or.inr rfl) (fldK (K := K) rfl (pv 0) rfl))) pss_nil) (pss_one (ps_ret (pe_tup (pa_cons (pe_meth (pv 0) T.cl_Job T.M_Job_raised (ok_Job_raised T) (hr.mono (by decide)) T.b_Job_raised .nil passL (pa_cons (pv 1) (pa_cons (pv 2) pa_nil))) (pa_cons (pv 3) (pa_cons (fldK (K := K) rfl (pv 0) rfl) pa_nil)))))))), ?_⟩
  refine run (Γ := [.v (.ref j), .d (.int now), .d (.int pa), .un]) (Oi := [bd K T.c_Board T.c_Job a S]) A0 rfl ?_
  refine n_seq ?_; refine (n_asg (e_op e_int e_int (by walk_at "od")) ?_)
  refine n_seq ?_; refine (n_ifAsg rfl (t_T (e_op (e_fld (e_var (i := 0) rfl rfl) (fld_job (n := 2) 0 rfl (by assumption) (by assumption) T.cl_Job T.na_Job_term (by decide +kernel) rfl rfl)) e_non (by walk_at "od"))) (fun _ => (e_fld (e_var (i := 0) rfl rfl) (fld_job (n := 2) 0 rfl (by assumption) (by assumption) T.cl_Job T.na_Job_term (by decide +kernel) rfl rfl))) ?_)
  refine n_gam (Γ' := [.v (.ref j), .d (.int now), .d (.int pa), .d (.int (termK J.term))]) (by cases ht : J.term <;> rfl) ?_
  exact r_ret (e_tup (ds := [_, _, _]) (a_cons (e_meth (e_var (i := 0) rfl rfl) (ins_job 0 rfl (by assumption) (by assumption) (by decide +kernel)) (a_cons (e_var (i := 1) rfl rfl) (a_cons (e_var (i := 2) rfl rfl) a_nil)) (c_Job_raised T 0 rfl (by assumption) (by assumption) (by assumption) (by assumption))) (a_cons (e_var (i := 3) rfl rfl) (a_cons (e_fld (e_var (i := 0) rfl rfl) (fld_job (n := 0) 0 rfl (by assumption) (by assumption) T.cl_Job T.na_Job_number (by decide +kernel) rfl rfl)) a_nil))) rfl (Nat.le_of_ble_eq_true rfl)) (k rfl) rfl (Ole.refl _) (Bl.refl _)
theorem c_Job_key (T : Tx K mg w) {Os : List Own} {a : BA} {S : Bd} {n : Nat} {j : Addr} {J : Jb} {now pa : Int} (i : Nat) (h : Os[i]? = some (bd K T.c_Board T.c_Job a S)) (hj : a.js[n]? = some j) (hJ : S.jobs[n]? = some J) (h1 : 1 ≤ pa) (h2 : pa ≤ 20) : CaD K Os (sp_Job_key T).sp [.v (.ref j), .d (.int now), .d (.int pa)] (.d (.tuple [.int (raisedI J now pa), .int (termK J.term), .int (n : Int)])) Os := ca1s i ((a, S, n, j, J), now, pa) h ⟨⟨hj, hJ⟩, h1, h2⟩ rfl rfl rfl rfl rfl
end
end Cw

namespace Cw
open PySem L2

local macro_rules | `(tactic| walk_at "vw") => `(tactic| first | exact Vw.dat | exact Vw.own 0 rfl | exact Vw.own 1 rfl | exact Vw.own 2 rfl | exact Vw.own 3 rfl | exact Vw.own 4 rfl | exact Vw.own 5 rfl | exact Vw.own 6 rfl | exact Vw.own 7 rfl)
local macro_rules | `(tactic| walk_at "ar") => `(tactic| first | assumption | decide | omega)
local macro_rules | `(tactic| walk_at "ix") => `(tactic| first | assumption | rfl)
local macro_rules | `(tactic| walk_at "sh") => `(tactic| first | assumption | rfl)
local macro_rules | `(tactic| walk_at "cm") => `(tactic| first | exact Or.inr ⟨by decide, by decide⟩ | exact Or.inl ⟨by decide, by decide⟩ | (unfold CMul; omega))
local macro_rules | `(tactic| walk_at "cd") => `(tactic| first | exact ⟨by decide, by decide⟩ | exact ⟨by omega, by omega⟩)
local macro_rules | `(tactic| walk_at "lim") => `(tactic| first | assumption | omega | (simp only [List.length_append, List.length_cons, List.length_nil, List.length_replicate, List.length_map]; omega) | decide)
local macro_rules | `(tactic| walk_at "od") => `(tactic| first
  | exact od_add | exact od_sub | exact od_lt | exact od_le | exact od_gt | exact od_ge | exact od_isn | exact od_notn
  | exact od_mul (by walk_at "cm") | exact od_mod (by walk_at "ar") | exact od_fdiv (by walk_at "cd")
  | exact od_eq (by walk_at "vw") (by walk_at "vw") (by walk_at "sh") (by walk_at "sh") | exact od_l (od_ne (by walk_at "vw") (by walk_at "vw") (by walk_at "sh") (by walk_at "sh"))
  | exact od_ixT (by walk_at "ix") | exact od_ixL (by walk_at "vw") (by walk_at "ix") | exact od_addT (by walk_at "lim") | exact od_repT (by walk_at "lim") (by walk_at "lim") (by walk_at "lim")
  | exact od_jobs 0 rfl (by assumption) | exact od_ixV 1 rfl (by assumption)
  | exact od_in (by walk_at "vw") (by walk_at "vw") (by walk_at "sh") (by walk_at "sh") | exact od_nin (by walk_at "vw") (by walk_at "vw") (by walk_at "sh") (by walk_at "sh"))
local macro_rules | `(tactic| walk_at "ins") => `(tactic| first | exact ins_bd 0 rfl (by decide +kernel) | exact ins_bdx 0 rfl (by decide +kernel) | exact ins_bdx 1 rfl (by decide +kernel) | exact ins_bdx 2 rfl (by decide +kernel) | exact ins_bdx 3 rfl (by decide +kernel))
local macro_rules | `(tactic| walk_at "cb") => `(tactic| first
  | exact cd_lenT | exact cd_lenL (by walk_at "vw") | exact cd_isInt (by walk_at "vw") | exact cd_isBool (by walk_at "vw") | exact cd_isTup (by walk_at "vw") | exact cd_isLst (by walk_at "vw") | exact cd_isStr (by walk_at "vw")
  | exact cd_all (by walk_at "vw") | exact cd_any (by walk_at "vw") | exact cd_sum (by walk_at "vw") | exact cd_tupL (by walk_at "vw") | exact cl_listL (by walk_at "vw") | exact cd_lenJ 0 rfl | exact cl_spent 0 rfl | exact cd_spentT 0 rfl | exact cd_intB | exact cd_max2 | exact cd_min2)

section
variable {P : Program} {w : World} {K : Fr} {mg : Str → Option Value} {base : Heap}
theorem isWhole_int {d : PyData} {lo hi : Int} (h : isWhole d lo hi = true) : ∃ i, d = .int i := by
  cases d <;> first | exact ⟨_, rfl⟩ | (simp [isWhole] at h)
def sp_Board_init (T : Tx K mg w) : Pm K (Addr × PyData × PyData) := ⟨fun _ => True, fun g => [.v (.ref g.1), .d g.2.1, .d g.2.2], fun g => [inst K T.c_Board g.1 [] []], fun _ => .d .none, fun g => [bdx K T.c_Board T.c_Job g.1 ⟨intD g.2.1, intD g.2.2, [], 0, []⟩], fun g => if (isWhole g.2.1 1 50 && isWhole g.2.2 1 20) = true then none else some T.c_NoBoard, fun g => [inst K T.c_Board g.1 [] []]⟩
theorem ok_Board_init (T : Tx K mg w) : FnOk P w K mg base (L2.CX P w) 2 T.a_Board_init T.fd_Board_init ["self", "budget", "patience"] (sp_Board_init T).sp := by
  refine T.F_Board_init.okX sc_Board_init ((sp_Board_init T).len fun _ => rfl) (fun cdv A outer s H vs Q EX hr h => ?_)
  obtain ⟨⟨x, d1, d2⟩, B, F, hp, A0, hB, k, kx⟩ := h
  refine ⟨_, (pss_cons (ps_if (PW.pt (pw_or (pt_not (pt_val (pe_call (ok_is_whole T) (hr.mono (by decide)) (by rfl) T.m_is_whole T.F_is_whole.kp T.b_is_whole .nil (passes_call (takes_of rfl rfl rfl rfl) (fun _ _ _ _ h => h)) (pa_cons (pv 1) (pa_cons pe_int (pa_cons (pe_glob (v := .int 50) rfl T.m_BUDGET ⟨_, rfl⟩) pa_nil)))))) (pw_or1 (pt_not (pt_val (pe_call (ok_is_whole T) (hr.mono (by decide)) (by rfl) T.m_is_whole T.F_is_whole.kp T.b_is_whole .nil (passes_call (takes_of rfl rfl rfl rfl) (fun _ _ _ _ h => h)) (pa_cons (pv 2) (pa_cons pe_int (pa_cons (pe_glob (v := .int 20) rfl T.m_PATIENCE ⟨_, rfl⟩) pa_nil))))))))) (pss_one (ps_raise rfl (takes_of rfl rfl rfl rfl) (pmk_own PySem.F.excBase_ValueError T.x_NoBoard T.m_NoBoard T.k_NoBoard (raises_own T.b_NoBoard T.t_NoBoard) rfl))) pss_nil) (pss_cons (ps_fld (pv 0) (pv 1) rfl) (pss_cons (ps_fld (pv 0) (pv 2) rfl) (pss_cons (ps_fld (pv 0) (pe_lst pa_nil) rfl) (pss_cons (ps_fld (pv 0) pe_int rfl) (pss_one (ps_fld (pv 0) (pe_lst pa_nil) rfl))))))), ?_⟩
  refine run (Γ := [.v (.ref x), .d d1, .d d2]) (Oi := [inst K T.c_Board x [] []]) A0 rfl ?_
  refine n_seq ?_; refine (n_when (t_or (t_not (t_B (e_call (a_cons (e_var (i := 1) rfl rfl) (a_cons e_int (a_cons e_int a_nil))) c_is_whole))) (fun hh => (t_not (t_B (e_call (a_cons (e_var (i := 2) rfl rfl) (a_cons e_int (a_cons e_int a_nil))) c_is_whole))))) (fun hb => ?_) (fun hb => ?_))
  · refine n_err kx (if_neg fun z => ?_) (Ole.refl _) (Bl.refl _)
    have z : (isWhole d1 1 50 && isWhole d2 1 20) = true := z
    have hb : (!isWhole d1 1 50 || !isWhole d2 1 20) = true := hb
    revert hb z; cases isWhole d1 1 50 <;> cases isWhole d2 1 20 <;> simp
  · have hb : (!isWhole d1 1 50 || !isWhole d2 1 20) = false := hb
    have ok : (isWhole d1 1 50 && isWhole d2 1 20) = true := by revert hb; cases isWhole d1 1 50 <;> cases isWhole d2 1 20 <;> simp
    obtain ⟨i1, rfl⟩ := isWhole_int (Bool.and_eq_true_iff.mp ok).1
    obtain ⟨i2, rfl⟩ := isWhole_int (Bool.and_eq_true_iff.mp ok).2
    refine n_seq ?_
    refine n_fldN2 ["budget"] [.d (.int i1)] 0 (e_var (i := 1) rfl rfl) (e_var (i := 0) rfl rfl) rfl T.cl_Board T.na_Board_budget (by decide +kernel) (by decide) rfl rfl ?_
    refine n_own (Os1 := [inst K T.c_Board x ["budget"] [.d (.int i1)]]) rfl ?_
    refine n_seq ?_
    refine n_fldN2 ["budget", "patience"] [.d (.int i1), .d (.int i2)] 0 (e_var (i := 2) rfl rfl) (e_var (i := 0) rfl rfl) rfl T.cl_Board T.na_Board_patience (by decide +kernel) (by decide) rfl rfl ?_
    refine n_own (Os1 := [inst K T.c_Board x ["budget", "patience"] [.d (.int i1), .d (.int i2)]]) rfl ?_
    refine n_seq ?_
    refine n_fldNL 0 (el_lst (ds := []) a_nil rfl (Nat.le_of_ble_eq_true rfl)) (fun p => (e_var (i := 0) rfl rfl)) rfl T.cl_Board T.na_Board_jobs (by decide +kernel) (by decide) (fun l1 => ?_)
    refine n_own (Os1 := [inst K T.c_Board x ["budget", "patience", "jobs"] [.d (.int i1), .d (.int i2), .v (.ref l1)], lst K l1 []]) rfl ?_
    refine n_seq ?_
    refine n_fldN2 ["budget", "patience", "jobs", "frames"] [.d (.int i1), .d (.int i2), .v (.ref l1), .d (.int 0)] 0 e_int (e_var (i := 0) rfl rfl) rfl T.cl_Board T.na_Board_frames (by decide +kernel) (by decide) rfl rfl ?_
    refine n_own (Os1 := [inst K T.c_Board x ["budget", "patience", "jobs", "frames"] [.d (.int i1), .d (.int i2), .v (.ref l1), .d (.int 0)], lst K l1 []]) rfl ?_
    refine n_fldNL 0 (el_lst (ds := []) a_nil rfl (Nat.le_of_ble_eq_true rfl)) (fun p => (e_var (i := 0) rfl rfl)) rfl T.cl_Board T.na_Board_spent (by decide +kernel) (by decide) (fun l2 => ?_)
    refine n_own (Os1 := [inst K T.c_Board x ["budget", "patience", "jobs", "frames", "spent"] [.d (.int i1), .d (.int i2), .v (.ref l1), .d (.int 0), .v (.ref l2)], lst K l1 [], lst K l2 []]) rfl ?_
    refine n_newBd (CJ := T.c_Job) ?_
    exact r_end (k (if_pos ok)) rfl (.cons (Oimp.refl _) .nil)
theorem c_Board_init (T : Tx K mg w) {Os : List Own} {x : Addr} {i1 i2 : Int} (h : (isWhole (.int i1) 1 50 && isWhole (.int i2) 1 20) = true) : CaD K (Os ++ [inst K T.c_Board x [] []]) (sp_Board_init T).sp [.v (.ref x), .d (.int i1), .d (.int i2)] (.d .none) (Os ++ [bdx K T.c_Board T.c_Job x ⟨i1, i2, [], 0, []⟩]) := by
  have := ca1 (p := sp_Board_init T) (Os := Os ++ [inst K T.c_Board x [] []]) (O' := bdx K T.c_Board T.c_Job x ⟨i1, i2, [], 0, []⟩) Os.length (x, .int i1, .int i2) (by simp) trivial (if_pos h) rfl rfl rfl rfl
  rw [List.set_append_right _ _ (Nat.le_refl _), Nat.sub_self] at this
  exact this
def Bd.opens (S : Bd) : List Nat := (List.range S.jobs.length).filter fun k => (S.jb k).isOpen
def sp_Board_open_jobs (T : Tx K mg w) : Pv K (BA × Bd) := ⟨fun g => g.2.Ok, fun g => [.v (.ref g.1.b)], fun g => [bd K T.c_Board T.c_Job g.1 g.2], fun g => g.2.opens.map (jr g.1)⟩
theorem ok_Board_open_jobs (T : Tx K mg w) : FnOk P w K mg base (L2.CX P w) 2 T.a_Board_open_jobs T.fd_Board_open_jobs ["self"] (sp_Board_open_jobs T).sp := by
  refine T.F_Board_open_jobs.okX sc_Board_open_jobs ((sp_Board_open_jobs T).len fun _ => rfl) (fun cdv A outer s H vs Q EX hr h => ?_)
  obtain ⟨⟨a, S⟩, B, F, hp, A0, hB, k, kx⟩ := h
  have ok : S.Ok := hp
  have hn := ok.n
  have hl : a.js.length = S.jobs.length := (At.bdIn (i := 0) A0 rfl).len
  refine ⟨_, (pss_one (ps_ret (pe_lc (own := [("job", 1)]) rfl sc_Board_open_jobs.nd (pi_list (fldK (K := K) rfl (pv 0) rfl)) (blkOk_by (own := [("job", 1)]) (N := ["self", "job"]) (sc := defScope s_Board_open_jobs) (by decide +kernel)) (fun _ _ _ _ _ => by exact (pg_name (i := 1) sc_Board_open_jobs.nd rfl (by first | exact Or.inl rfl | exact Or.inr rfl))) (fun _ _ _ _ _ => by exact (pts_one (pt_val (pe_meth0 (pv 1) T.cl_Job T.M_Job_is_open (ok_Job_is_open T) (hr.mono (by decide)) T.b_Job_is_open .nil passL)))) (fun _ _ _ _ _ => by exact (pv 1))))), ?_⟩
  refine run (Γ := [.v (.ref a.b), .un]) (Oi := [bd K T.c_Board T.c_Job a S]) A0 rfl ?_
  refine r_retV (ev_lcP (vs := [1]) (it_jobs 0 (e_fld (e_var (i := 0) rfl rfl) (fld_bd (n := 2) 0 rfl T.cl_Board T.na_Board_jobs (by decide +kernel) rfl rfl)) rfl) (by walk_at "lim") (fun _ => tg_name) (by intro i hi; exact hi) (by first | exact trivial | exact rfl | exact ⟨_, rfl⟩) (f := fun k => (S.jb k).isOpen) (v := fun k => jr a k) (fun i hi => by
            have hi' : i < S.jobs.length := by rw [← hl]; exact hi
            obtain ⟨hj, hJ⟩ := js_of hl hi'
            exact (t_B (e_meth (e_var (i := 1) rfl rfl) (ins_job 0 rfl (by assumption) (by assumption) (by decide +kernel)) a_nil (c_Job_is_open T 0 rfl (by assumption) (by assumption))))) (fun i hi hf => by
            have hi' : i < S.jobs.length := by rw [← hl]; exact hi
            obtain ⟨hj, hJ⟩ := js_of hl hi'
            exact (e_var (i := 1) rfl rfl))) (k rfl) ?_ rfl (Bl.refl _)
  rw [hl]; rfl
theorem c_Board_open_jobs (T : Tx K mg w) {Os : List Own} {a : BA} {S : Bd} (i : Nat) (h : Os[i]? = some (bd K T.c_Board T.c_Job a S)) (ok : S.Ok) : CaV K Os (sp_Board_open_jobs T).sp [.v (.ref a.b)] (S.opens.map (jr a)) Os := cv1 i (a, S) h ok rfl rfl rfl
def sp_Board_need (T : Tx K mg w) : Pm K (BA × Bd × PyData) := ⟨fun _ => True, fun g => [.v (.ref g.1.b), .d g.2.2], fun g => [bd K T.c_Board T.c_Job g.1 g.2.1], fun _ => .d .none, fun g => [bd K T.c_Board T.c_Job g.1 g.2.1], fun g => if isWhole g.2.2 0 ((g.2.1.jobs.length : Int) - 1) = true then none else some T.c_NoNumber, fun g => [bd K T.c_Board T.c_Job g.1 g.2.1]⟩
theorem ok_Board_need (T : Tx K mg w) : FnOk P w K mg base (L2.CX P w) 2 T.a_Board_need T.fd_Board_need ["self", "number"] (sp_Board_need T).sp := by
  refine T.F_Board_need.okX sc_Board_need ((sp_Board_need T).len fun _ => rfl) (fun cdv A outer s H vs Q EX hr h => ?_)
  obtain ⟨⟨a, S, d⟩, B, F, hp, A0, hB, k, kx⟩ := h
  refine ⟨_, (pss_one (ps_if (pt_not (pt_val (pe_call (ok_is_whole T) (hr.mono (by decide)) (by rfl) T.m_is_whole T.F_is_whole.kp T.b_is_whole .nil (passes_call (takes_of rfl rfl rfl rfl) (fun _ _ _ _ h => h)) (pa_cons (pv 1) (pa_cons pe_int (pa_cons (pe_op op_sub (pe_callB (lenK (K := K) rfl) (by rfl) T.n_len (by decide +kernel) (pa_cons (fldK (K := K) rfl (pv 0) rfl) pa_nil)) pe_int) pa_nil)))))) (pss_one (ps_raise rfl (takes_of rfl rfl rfl rfl) (pmk_own PySem.F.excBase_ValueError T.x_NoNumber T.m_NoNumber T.k_NoNumber (raises_own T.b_NoNumber T.t_NoNumber) rfl))) pss_nil)), ?_⟩
  refine run (Γ := [.v (.ref a.b), .d d]) (Oi := [bd K T.c_Board T.c_Job a S]) A0 rfl ?_
  refine n_when (t_not (t_B (e_call (a_cons (e_var (i := 1) rfl rfl) (a_cons e_int (a_cons (e_op (e_cb (a_cons (e_fld (e_var (i := 0) rfl rfl) (fld_bd (n := 2) 0 rfl T.cl_Board T.na_Board_jobs (by decide +kernel) rfl rfl)) a_nil) (by walk_at "cb")) e_int (by walk_at "od")) a_nil))) c_is_whole))) (fun hb => ?_) (fun hb => ?_)
  · exact n_err kx (if_neg (by simpa using hb)) (Ole.refl _) (Bl.refl _)
  · exact r_end (k (if_pos (by simpa using hb))) rfl (Ole.refl _)
theorem c_Board_need (T : Tx K mg w) {Os : List Own} {X : XK} {a : BA} {S : Bd} {d : PyData} (i : Nat) (h : Os[i]? = some (bd K T.c_Board T.c_Job a S)) : CaX K Os (sp_Board_need T).sp [.v (.ref a.b), .d d] X (if isWhole d 0 ((S.jobs.length : Int) - 1) = true then none else some T.c_NoNumber) (.d .none) Os Os := cx1s i (a, S, d) h trivial rfl rfl rfl rfl rfl rfl
def sp_Board_is_ready (T : Tx K mg w) : Pm K (BA × Bd × Nat × Addr × Jb) := roP (fun g => (g.1.js[g.2.2.1]? = some g.2.2.2.1 ∧ g.2.1.jobs[g.2.2.1]? = some g.2.2.2.2) ∧ g.2.1.Ok) (fun g => [.v (.ref g.1.b), .v (.ref g.2.2.2.1)]) (fun g => bd K T.c_Board T.c_Job g.1 g.2.1) (fun g => .d (.bool (g.2.1.rdy g.2.2.2.2)))
theorem ok_Board_is_ready (T : Tx K mg w) : FnOk P w K mg base (L2.CX P w) 2 T.a_Board_is_ready T.fd_Board_is_ready ["self", "job"] (sp_Board_is_ready T).sp := by
  refine T.F_Board_is_ready.okX sc_Board_is_ready ((sp_Board_is_ready T).len fun _ => rfl) (fun cdv A outer s H vs Q EX hr h => ?_)
  obtain ⟨⟨a, S, n, j, J⟩, B, F, hp, A0, hB, k, kx⟩ := h
  obtain ⟨⟨hj, hJ⟩, ok⟩ := hp
  dsimp only at hj hJ ok
  have hn := ok.n
  have hon := order_len S
  have han := (ok.job n J hJ).aftn
  have hl : a.js.length = S.jobs.length := (At.bdIn (i := 0) A0 rfl).len
  refine ⟨_, (pss_cons (ps_if (PW.pt (pw_or (pt_not (pt_val (pe_meth0 (pv 1) T.cl_Job T.M_Job_is_open (ok_Job_is_open T) (hr.mono (by decide)) T.b_Job_is_open .nil passL))) (pw_or1 (pt_cmpR op_lt (fldK (K := K) rfl (pv 0) rfl) (fldK (K := K) rfl (pv 1) rfl) (nomark _))))) (pss_one (ps_ret pe_bl)) pss_nil) (pss_one (ps_ret (pe_callB (allK (K := K) rfl rfl) (by rfl) T.n_all (by decide +kernel) (pa_cons (pe_lc (own := [("other", 2)]) rfl sc_Board_is_ready.nd (pi_tup (fldK (K := K) rfl (pv 1) rfl)) (blkOk_by (own := [("other", 2)]) (N := ["self", "job", "other"]) (sc := defScope s_Board_is_ready) (by decide +kernel)) (fun _ _ _ _ _ => by exact (pg_name (i := 2) sc_Board_is_ready.nd rfl (by first | exact Or.inl rfl | exact Or.inr rfl))) (fun _ _ _ _ _ => by exact pts_nil) (fun _ _ _ _ _ => by exact (pe_cmpR op_notn (fldK (K := K) rfl (by exact (pe_ix (ixK (K := K) rfl) (fldK (K := K) rfl (pv 0) rfl) (pv 2) (fun _ _ => rfl))) rfl) pe_non (nomark _)))) pa_nil))))), ?_⟩
  refine run (Γ := [.v (.ref a.b), .v (.ref j), .un]) (Oi := [bd K T.c_Board T.c_Job a S]) A0 rfl ?_
  refine n_seq ?_; refine (n_when (t_or (t_not (t_B (e_meth (e_var (i := 1) rfl rfl) (ins_job 0 rfl (by assumption) (by assumption) (by decide +kernel)) a_nil (c_Job_is_open T 0 rfl (by assumption) (by assumption))))) (fun hh => (t_T (e_op (e_fld (e_var (i := 0) rfl rfl) (fld_bd (n := 3) 0 rfl T.cl_Board T.na_Board_frames (by decide +kernel) rfl rfl)) (e_fld (e_var (i := 1) rfl rfl) (fld_job (n := 3) 0 rfl (by assumption) (by assumption) T.cl_Job T.na_Job_start (by decide +kernel) rfl rfl)) (by walk_at "od"))))) (fun hb => ?_) (fun hb => ?_))
  · refine r_ret e_bl (k rfl) (congrArg (fun b => SD.d (.bool b)) ?_) (Ole.refl _) (Bl.refl _)
    have hb : (!J.isOpen || decide (S.frames < J.start)) = true := hb
    show false = S.rdy J
    unfold Bd.rdy
    revert hb; cases J.isOpen <;> cases decide (S.frames < J.start) <;> simp
  · have hb : (!J.isOpen || decide (S.frames < J.start)) = false := hb
    have haft := (ok.job n J hJ).aft
    have hlt := (List.getElem?_eq_some_iff.mp hJ).1
    refine r_ret (e_cb (a_cons (e_fz (el_is (es := (J.after.map fun o => !isNone (oD (S.jb o).fin)).map .bool) (el_lcP (vs := [2]) (it_tup (e_fld (e_var (i := 1) rfl rfl) (fld_job (n := 4) 0 rfl (by assumption) (by assumption) T.cl_Job T.na_Job_after (by decide +kernel) rfl rfl))) (by walk_at "lim") (fun _ => tg_name) (by intro i hi; exact hi) (by first | exact trivial | exact rfl | exact ⟨_, rfl⟩) (f := fun _ => true) (v := fun i => .bool (!isNone (oD (S.jb (J.after[i]?.getD 0)).fin))) (fun i hi => t_yes) (fun i hi hf => by
            have hi' : i < J.after.length := by rw [List.length_map] at hi; exact hi
            have ho : J.after[i]?.getD 0 < S.jobs.length := by
              rw [List.getElem?_eq_getElem hi']; exact Nat.lt_trans (haft _ (List.getElem_mem hi')) hlt
            obtain ⟨hj2, hJ2⟩ := js_of hl ho
            exact (e_op (e_fld (e_op (e_fld (e_var (i := 0) rfl rfl) (fld_bd (n := 2) 0 rfl T.cl_Board T.na_Board_jobs (by decide +kernel) rfl rfl)) (e_is (s' := .d (.int ((J.after[i]?.getD 0 : Nat) : Int))) (e_var (i := 2) rfl rfl) (by show SD.d ((J.after.map _)[i]?.getD .none) = _; rw [List.length_map] at hi; rw [map_getD hi]; simp [hi])) (od_jobs 0 rfl (atI_nat hj2))) (fld_job (n := 8) 0 rfl hj2 hJ2 T.cl_Job T.na_Job_end (by decide +kernel) rfl rfl)) e_non (by walk_at "od")))) (by
      rw [gvn_all, List.length_map, range_get J.after (fun o => PyData.bool (!isNone (oD (S.jb o).fin))) 0, List.map_map]; rfl))) a_nil) (cd_all .dat)) (k rfl) (congrArg (fun b => SD.d (.bool b)) ?_) (Ole.refl _) (Bl.refl _)
    show _ = S.rdy J
    unfold Bd.rdy
    rw [List.all_map]
    revert hb; cases J.isOpen <;> cases decide (S.frames < J.start) <;> simp <;> rfl
theorem c_Board_is_ready (T : Tx K mg w) {Os : List Own} {a : BA} {S : Bd} {n : Nat} {j : Addr} {J : Jb} (i : Nat) (h : Os[i]? = some (bd K T.c_Board T.c_Job a S)) (hj : a.js[n]? = some j) (hJ : S.jobs[n]? = some J) (ok : S.Ok) : CaD K Os (sp_Board_is_ready T).sp [.v (.ref a.b), .v (.ref j)] (.d (.bool (S.rdy J))) Os := ca1s i (a, S, n, j, J) h ⟨⟨hj, hJ⟩, ok⟩ rfl rfl rfl rfl rfl
def sp_Board_in_order (T : Tx K mg w) : Pv K (BA × Bd) := ⟨fun g => g.2.Ok, fun g => [.v (.ref g.1.b)], fun g => [bd K T.c_Board T.c_Job g.1 g.2], fun g => g.2.order.map (jr g.1)⟩
theorem ok_Board_in_order (T : Tx K mg w) : FnOk P w K mg base (L2.CX P w) 4 T.a_Board_in_order T.fd_Board_in_order ["self"] (sp_Board_in_order T).sp := by
  refine T.F_Board_in_order.okX sc_Board_in_order ((sp_Board_in_order T).len fun _ => rfl) (fun cdv A outer s H vs Q EX hr h => ?_)
  obtain ⟨⟨a, S⟩, B, F, hp, A0, hB, k, kx⟩ := h
  have ok : S.Ok := hp
  have pa1 := ok.pa.1
  have pa2 := ok.pa.2
  have hn := ok.n
  have hon := order_len S
  have hl : a.js.length = S.jobs.length := (At.bdIn (i := 0) A0 rfl).len
  refine ⟨_, (pss_cons (ps_setLc (i := 1) (own := [("job", 2)]) rfl sc_Board_in_order.nd rfl rfl (sw_true rfl rfl rfl (by decide +kernel)) (pi_list (fldK (K := K) rfl (pv 0) rfl)) (blkOk_by (own := [("job", 2)]) (N := ["self", "keys", "job", "key"]) (sc := defScope s_Board_in_order) (by decide +kernel)) (fun _ _ _ _ _ => by exact (pg_name (i := 2) sc_Board_in_order.nd rfl (by first | exact Or.inl rfl | exact Or.inr rfl))) (fun _ _ _ _ _ => by exact (pts_one (pt_val (pe_meth (pv 0) T.cl_Board T.M_Board_is_ready (ok_Board_is_ready T) (hr.mono (by decide)) T.b_Board_is_ready .nil passL (pa_cons (pv 2) pa_nil))))) (fun _ _ _ _ _ => by exact (pe_meth (pv 2) T.cl_Job T.M_Job_key (ok_Job_key T) (hr.mono (by decide)) T.b_Job_key .nil passL (pa_cons (fldK (K := K) rfl (pv 0) rfl) (pa_cons (fldK (K := K) rfl (pv 0) rfl) pa_nil))))) (pss_one (ps_ret (pe_lc (own := [("key", 3)]) rfl sc_Board_in_order.nd (pi_list (pe_callB (sortK (K := K) rfl hr.units) (by rfl) T.n_sorted (by decide +kernel) (pa_cons (pv 1) pa_nil))) (blkOk_by (own := [("key", 3)]) (N := ["self", "keys", "job", "key"]) (sc := defScope s_Board_in_order) (by decide +kernel)) (fun _ _ _ _ _ => by exact (pg_name (i := 3) sc_Board_in_order.nd rfl (by first | exact Or.inl rfl | exact Or.inr rfl))) (fun _ _ _ _ _ => by exact pts_nil) (fun _ _ _ _ _ => by exact (pe_ix (ixK (K := K) rfl) (fldK (K := K) rfl (pv 0) rfl) (pe_ix (ixK (K := K) rfl) (pv 3) pe_int (fun _ _ => rfl)) (fun _ _ => rfl))))))), ?_⟩
  refine run (Γ := [.v (.ref a.b), .un, .un, .un]) (Oi := [bd K T.c_Board T.c_Job a S]) A0 rfl ?_
  refine n_seq ?_
  refine n_asg (e_fz (el_is (es := S.ready.map S.keyD) (el_lcP (vs := [2]) (it_jobs 0 (e_fld (e_var (i := 0) rfl rfl) (fld_bd (n := 2) 0 rfl T.cl_Board T.na_Board_jobs (by decide +kernel) rfl rfl)) rfl) (by walk_at "lim") (fun _ => tg_name) (by intro i hi; exact hi) (by first | exact trivial | exact rfl | exact ⟨_, rfl⟩) (f := fun i => S.rdy (S.jb i)) (v := fun i => S.keyD i) (fun i hi => by
            have hi' : i < S.jobs.length := by rw [← hl]; exact hi
            obtain ⟨hj, hJ⟩ := js_of hl hi'
            exact (t_B (e_meth (e_var (i := 0) rfl rfl) (by walk_at "ins") (a_cons (e_var (i := 2) rfl rfl) a_nil) (c_Board_is_ready T 0 rfl (by assumption) (by assumption) (by assumption))))) (fun i hi hf => by
            have hi' : i < S.jobs.length := by rw [← hl]; exact hi
            obtain ⟨hj, hJ⟩ := js_of hl hi'
            exact (e_meth (e_var (i := 2) rfl rfl) (ins_job 0 rfl (by assumption) (by assumption) (by decide +kernel)) (a_cons (e_fld (e_var (i := 0) rfl rfl) (fld_bd (n := 3) 0 rfl T.cl_Board T.na_Board_frames (by decide +kernel) rfl rfl)) (a_cons (e_fld (e_var (i := 0) rfl rfl) (fld_bd (n := 1) 0 rfl T.cl_Board T.na_Board_patience (by decide +kernel) rfl rfl)) a_nil)) (c_Job_key T 0 rfl (by assumption) (by assumption) (by assumption) (by assumption))))) (by unfold gvn; rw [hl]; rfl))) ?_
  refine r_retV (ev_is (zs := S.order.map (jr a)) (ev_lcP (vs := [3]) (it_list (e_is (s' := .d (.list (S.order.map S.keyD))) (e_fz (el_cb (a_cons (e_var (i := 1) rfl rfl) a_nil) (cl_sort .dat (keys_alike S _) (keys_sortable S _) (dep_keys S _)))) (by rw [keys_sorted]; rfl))) (by walk_at "lim") (fun _ => tg_name) (by intro i hi; exact hi) (by first | exact trivial | exact rfl | exact ⟨_, rfl⟩) (f := fun _ => true) (v := fun i => jr a (S.order[i]?.getD 0)) (fun i hi => t_yes) (fun i hi hf => by
            have hi' : i < S.order.length := by rw [List.length_map] at hi; exact hi
            have ho : S.order[i]?.getD 0 < S.jobs.length := by
              rw [List.getElem?_eq_getElem hi']; exact (mem_order.mp (List.getElem_mem hi')).1
            obtain ⟨hj2, hJ2⟩ := js_of hl ho
            exact (e_op (e_fld (e_var (i := 0) rfl rfl) (fld_bd (n := 2) 0 rfl T.cl_Board T.na_Board_jobs (by decide +kernel) rfl rfl)) (e_is (s' := .d (.int ((S.order[i]?.getD 0 : Nat) : Int))) (e_op (e_is (s' := .d (S.keyD (S.order[i]?.getD 0))) (e_var (i := 3) rfl rfl) (by show SD.d ((S.order.map S.keyD)[i]?.getD .none) = _; rw [map_getD hi']; simp [hi'])) e_int (od_ixT rfl)) rfl) (od_jobs 0 rfl (atI_nat hj2))))) ?_) (k rfl) rfl rfl (Bl.refl _)
  rw [filt_true, List.length_map, range_get S.order (jr a) 0]
theorem c_Board_in_order (T : Tx K mg w) {Os : List Own} {a : BA} {S : Bd} (i : Nat) (h : Os[i]? = some (bd K T.c_Board T.c_Job a S)) (ok : S.Ok) : CaV K Os (sp_Board_in_order T).sp [.v (.ref a.b)] (S.order.map (jr a)) Os := cv1 i (a, S) h ok rfl rfl rfl
def lstN (ns : List Nat) : List PyData := ns.map fun (n : Nat) => .int (n : Int)
def sp_Board_order (T : Tx K mg w) : Pl K (BA × Bd) := roL (fun g => g.2.Ok) (fun g => [.v (.ref g.1.b)]) (fun g => bd K T.c_Board T.c_Job g.1 g.2) (fun g => lstN g.2.order)
theorem ok_Board_order (T : Tx K mg w) : FnOk P w K mg base (L2.CX P w) 5 T.a_Board_order T.fd_Board_order ["self"] (sp_Board_order T).sp := by
  refine T.F_Board_order.okX sc_Board_order ((sp_Board_order T).len fun _ => rfl) (fun cdv A outer s H vs Q EX hr h => ?_)
  obtain ⟨⟨a, S⟩, B, F, hp, A0, hB, k, kx⟩ := h
  have ok : S.Ok := hp
  have hn := ok.n
  have hon := order_len S
  have hl : a.js.length = S.jobs.length := (At.bdIn (i := 0) A0 rfl).len
  refine ⟨_, (pss_one (ps_ret (pe_lc (own := [("job", 1)]) rfl sc_Board_order.nd (pi_list (pe_meth0 (pv 0) T.cl_Board T.M_Board_in_order (ok_Board_in_order T) (hr.mono (by decide)) T.b_Board_in_order .nil passL)) (blkOk_by (own := [("job", 1)]) (N := ["self", "job"]) (sc := defScope s_Board_order) (by decide +kernel)) (fun _ _ _ _ _ => by exact (pg_name (i := 1) sc_Board_order.nd rfl (by first | exact Or.inl rfl | exact Or.inr rfl))) (fun _ _ _ _ _ => by exact pts_nil) (fun _ _ _ _ _ => by exact (fldK (K := K) rfl (pv 1) rfl))))), ?_⟩
  refine run (Γ := [.v (.ref a.b), .un]) (Oi := [bd K T.c_Board T.c_Job a S]) A0 rfl ?_
  refine r_retL (el_lcP (vs := [1]) (it_newV (ev_meth (e_var (i := 0) rfl rfl) (ins_bd 0 rfl (by decide +kernel)) a_nil (c_Board_in_order T 0 rfl ok))) (by walk_at "lim") (fun _ => tg_name) (by intro i hi; exact hi) (by first | exact trivial | exact rfl | exact ⟨_, rfl⟩) (f := fun _ => true) (v := fun i => .int ((S.order[i]?.getD 0 : Nat) : Int)) (fun i hi => t_yes) (fun i hi hf => by
            have hi' : i < S.order.length := by rw [List.length_map] at hi; exact hi
            have ho : S.order[i]?.getD 0 < S.jobs.length := by
              rw [List.getElem?_eq_getElem hi']; exact (mem_order.mp (List.getElem_mem hi')).1
            obtain ⟨hj2, hJ2⟩ := js_of hl ho
            exact (e_fld (e_is (s' := .v (jr a (S.order[i]?.getD 0))) (e_var (i := 1) rfl rfl) (by show SD.v ((S.order.map (jr a))[i]?.getD .non) = _; rw [map_getD hi']; simp [hi'])) (fld_job (n := 0) 0 rfl hj2 hJ2 T.cl_Job T.na_Job_number (by decide +kernel) rfl rfl)))) (k rfl) ?_ (Ole.refl _) (Bl.refl _)
  rw [gvn_all, List.length_map, range_get S.order (fun (n : Nat) => PyData.int (n : Int)) 0]; rfl
theorem c_Board_order (T : Tx K mg w) {Os : List Own} {a : BA} {S : Bd} (i : Nat) (h : Os[i]? = some (bd K T.c_Board T.c_Job a S)) (ok : S.Ok) : CaL K Os (sp_Board_order T).sp [.v (.ref a.b)] (lstN S.order) Os := cl1s i (a, S) h ok rfl rfl rfl rfl rfl
theorem x_Board_order (T : Tx K mg w) {Os : List Own} {b : Addr} {S : Bd} (i : Nat) (h : Os[i]? = some (bdx K T.c_Board T.c_Job b S)) (ok : S.Ok) : CaL K Os (sp_Board_order T).sp [.v (.ref b)] (lstN S.order) Os := cl_bdxR i h fun a e => by
  subst e
  exact c_Board_order T i (List.getElem?_set_self (List.getElem?_eq_some_iff.mp h).1) ok
end
end Cw

namespace Cw
open PySem L2

local macro_rules | `(tactic| walk_at "vw") => `(tactic| first | exact Vw.dat | exact Vw.own 0 rfl | exact Vw.own 1 rfl | exact Vw.own 2 rfl | exact Vw.own 3 rfl | exact Vw.own 4 rfl | exact Vw.own 5 rfl | exact Vw.own 6 rfl | exact Vw.own 7 rfl)
local macro_rules | `(tactic| walk_at "ar") => `(tactic| first | assumption | decide | omega)
local macro_rules | `(tactic| walk_at "ix") => `(tactic| first | assumption | rfl)
local macro_rules | `(tactic| walk_at "sh") => `(tactic| first | assumption | rfl)
local macro_rules | `(tactic| walk_at "cm") => `(tactic| first | exact Or.inr ⟨by decide, by decide⟩ | exact Or.inl ⟨by decide, by decide⟩ | (unfold CMul; omega))
local macro_rules | `(tactic| walk_at "cd") => `(tactic| first | exact ⟨by decide, by decide⟩ | exact ⟨by omega, by omega⟩)
local macro_rules | `(tactic| walk_at "lim") => `(tactic| first | assumption | omega | (simp only [List.length_append, List.length_cons, List.length_nil, List.length_replicate, List.length_map]; omega) | decide)
local macro_rules | `(tactic| walk_at "od") => `(tactic| first
  | exact od_add | exact od_sub | exact od_lt | exact od_le | exact od_gt | exact od_ge | exact od_isn | exact od_notn
  | exact od_mul (by walk_at "cm") | exact od_mod (by walk_at "ar") | exact od_fdiv (by walk_at "cd")
  | exact od_eq (by walk_at "vw") (by walk_at "vw") (by walk_at "sh") (by walk_at "sh") | exact od_l (od_ne (by walk_at "vw") (by walk_at "vw") (by walk_at "sh") (by walk_at "sh"))
  | exact od_ixT (by walk_at "ix") | exact od_ixL (by walk_at "vw") (by walk_at "ix") | exact od_addT (by walk_at "lim") | exact od_repT (by walk_at "lim") (by walk_at "lim") (by walk_at "lim")
  | exact od_jobs 0 rfl (by assumption) | exact od_ixV 1 rfl (by assumption)
  | exact od_in (by walk_at "vw") (by walk_at "vw") (by walk_at "sh") (by walk_at "sh") | exact od_nin (by walk_at "vw") (by walk_at "vw") (by walk_at "sh") (by walk_at "sh"))
local macro_rules | `(tactic| walk_at "ins") => `(tactic| first | exact ins_bd 0 rfl (by decide +kernel) | exact ins_bdx 0 rfl (by decide +kernel) | exact ins_bdx 1 rfl (by decide +kernel) | exact ins_bdx 2 rfl (by decide +kernel) | exact ins_bdx 3 rfl (by decide +kernel))
local macro_rules | `(tactic| walk_at "cb") => `(tactic| first
  | exact cd_lenT | exact cd_lenL (by walk_at "vw") | exact cd_isInt (by walk_at "vw") | exact cd_isBool (by walk_at "vw") | exact cd_isTup (by walk_at "vw") | exact cd_isLst (by walk_at "vw") | exact cd_isStr (by walk_at "vw")
  | exact cd_all (by walk_at "vw") | exact cd_any (by walk_at "vw") | exact cd_sum (by walk_at "vw") | exact cd_tupL (by walk_at "vw") | exact cl_listL (by walk_at "vw") | exact cd_lenJ 0 rfl | exact cl_spent 0 rfl | exact cd_spentT 0 rfl | exact cd_intB | exact cd_max2 | exact cd_min2)

section
variable {P : Program} {w : World} {K : Fr} {mg : Str → Option Value} {base : Heap}
theorem part_at {bu : Int} {k : Nat} {J : Jb} (h : JbOk bu k J) (f : J.fin = none) : atI (J.parts.map PyData.int) ((J.at_ : Nat) : Int) = some (.int J.part) := by
  have lt := h.fin.mp f
  refine atI_nat ?_
  unfold Jb.part
  rw [List.getElem?_map, List.getElem?_eq_getElem lt]; rfl
def sp_Board_frame (T : Tx K mg w) : Pl K (BA × Bd) := ⟨fun g => g.2.Ok ∧ g.2.spent.length < 100000, fun g => [.v (.ref g.1.b)], fun g => [bd K T.c_Board T.c_Job g.1 g.2], fun g => g.2.frameR.map partD, fun g => [bd K T.c_Board T.c_Job g.1 g.2.frameS], fun _ => none, fun _ => []⟩
theorem ok_Board_frame (T : Tx K mg w) : FnOk P w K mg base (L2.CX P w) 6 T.a_Board_frame T.fd_Board_frame ["self"] (sp_Board_frame T).sp := by
  refine T.F_Board_frame.okX sc_Board_frame ((sp_Board_frame T).len fun _ => rfl) (fun cdv A outer s H vs Q EX hr h => ?_)
  obtain ⟨⟨a, S⟩, B, F, hp, A0, hB, k, kx⟩ := h
  obtain ⟨ok, hsp⟩ := hp
  dsimp only at ok hsp
  have hn := ok.n
  have hon := order_len S
  have hl : a.js.length = S.jobs.length := (At.bdIn (i := 0) A0 rfl).len
  refine ⟨_, (pss_cons (ps_set (i := 1) sc_Board_frame.nd rfl (by first | exact Or.inl rfl | exact Or.inr rfl) (pe_meth0 (pv 0) T.cl_Board T.M_Board_order (ok_Board_order T) (hr.mono (by decide)) T.b_Board_order .nil passL)) (pss_cons (ps_set (i := 2) sc_Board_frame.nd rfl (by first | exact Or.inl rfl | exact Or.inr rfl) (fldK (K := K) rfl (pv 0) rfl)) (pss_cons (ps_set (i := 3) sc_Board_frame.nd rfl (by first | exact Or.inl rfl | exact Or.inr rfl) (pe_lst pa_nil)) (pss_cons (ps_set (i := 4) sc_Board_frame.nd rfl (by first | exact Or.inl rfl | exact Or.inr rfl) (pe_meth0 (pv 0) T.cl_Board T.M_Board_in_order (ok_Board_in_order T) (hr.mono (by decide)) T.b_Board_in_order .nil passL)) (pss_cons (ps_while (passes_of rfl) (pt_cmpR (neK (K := K) rfl hr.units) (pv 4) (pe_lst pa_nil) (nomark _)) (pss_cons (ps_set (i := 6) sc_Board_frame.nd rfl (by first | exact Or.inl rfl | exact Or.inr rfl) (pe_ix (ixK (K := K) rfl) (pv 4) pe_int (fun _ _ => rfl))) (pss_cons (ps_expr (pe_bm PySem.F.plainAttrs_list PySem.F.slot_list_append PySem.F.type_list_append mt_append (pv 3) (pa_cons (pe_tup (pa_cons (fldK (K := K) rfl (pv 6) rfl) (pa_cons (fldK (K := K) rfl (pv 6) rfl) pa_nil))) pa_nil))) (pss_cons (ps_set (i := 2) sc_Board_frame.nd rfl (by first | exact Or.inl rfl | exact Or.inr rfl) (pe_op op_sub (pv 2) (pe_ix (ixK (K := K) rfl) (fldK (K := K) rfl (pv 6) rfl) (fldK (K := K) rfl (pv 6) rfl) (fun _ _ => rfl)))) (pss_cons (ps_fld (pv 6) (pe_op (addK (K := K) rfl) (fldK (K := K) rfl (pv 6) rfl) pe_int) rfl) (pss_cons (ps_if (pt_cmpR (eqK (K := K) rfl hr.units) (fldK (K := K) rfl (pv 6) rfl) (pe_callB (lenK (K := K) rfl) (by rfl) T.n_len (by decide +kernel) (pa_cons (fldK (K := K) rfl (pv 6) rfl) pa_nil)) (nomark _)) (pss_one (ps_fld (pv 6) (fldK (K := K) rfl (pv 0) rfl) rfl)) pss_nil) (pss_one (ps_setLc (i := 4) (own := [("other", 7)]) rfl sc_Board_frame.nd rfl rfl (sw_true rfl rfl rfl (by decide +kernel)) (pi_list (pe_meth0 (pv 0) T.cl_Board T.M_Board_in_order (ok_Board_in_order T) (hr.mono (by decide)) T.b_Board_in_order .nil passL)) (blkOk_by (own := [("other", 7)]) (N := ["self", "begin", "rest", "made", "some", "ran", "job", "other", "number", "part"]) (sc := defScope s_Board_frame) (by decide +kernel)) (fun _ _ _ _ _ => by exact (pg_name (i := 7) sc_Board_frame.nd rfl (by first | exact Or.inl rfl | exact Or.inr rfl))) (fun _ _ _ _ _ => by exact (pts_one (pt_cmpR op_le (pe_ix (ixK (K := K) rfl) (fldK (K := K) rfl (pv 7) rfl) (fldK (K := K) rfl (pv 7) rfl) (fun _ _ => rfl)) (pv 2) (nomark _)))) (fun _ _ _ _ _ => by exact (pv 7)))))))))) (pss_cons (ps_setLc (i := 5) (own := [("number", 8), ("part", 9)]) rfl sc_Board_frame.nd rfl rfl (sw_true rfl rfl rfl (by decide +kernel)) (pi_list (pv 3)) (blkOk_by (own := [("number", 8), ("part", 9)]) (N := ["self", "begin", "rest", "made", "some", "ran", "job", "other", "number", "part"]) (sc := defScope s_Board_frame) (by decide +kernel)) (fun _ _ _ _ _ => by exact (tgK (K := K) 2 rfl rfl (pgs_cons (pg_name (i := 8) sc_Board_frame.nd rfl (by first | exact Or.inl rfl | exact Or.inr rfl)) (pgs_cons (pg_name (i := 9) sc_Board_frame.nd rfl (by first | exact Or.inl rfl | exact Or.inr rfl)) pgs_nil)))) (fun _ _ _ _ _ => by exact pts_nil) (fun _ _ _ _ _ => by exact (pv 8))) (pss_cons (ps_for (passes_of rfl) rfl (pi_list (fldK (K := K) rfl (pv 0) rfl)) (pg_name (i := 6) sc_Board_frame.nd rfl (by first | exact Or.inl rfl | exact Or.inr rfl)) (pss_one (ps_if (pt_cmpR (inK (K := K) rfl hr.units1) (fldK (K := K) rfl (pv 6) rfl) (pv 5) (by rfl)) (pss_one (ps_fld (pv 6) pe_int rfl)) (pss_one (ps_if (pt_cmpR (inK (K := K) rfl hr.units1) (fldK (K := K) rfl (pv 6) rfl) (pv 1) (by rfl)) (pss_one (ps_fld (pv 6) (pe_op (addK (K := K) rfl) (fldK (K := K) rfl (pv 6) rfl) pe_int) rfl)) pss_nil))))) (pss_cons (ps_fld (pv 0) (pe_op (addK (K := K) rfl) (fldK (K := K) rfl (pv 0) rfl) pe_int) rfl) (pss_cons (ps_expr (pe_bm PySem.F.plainAttrs_list PySem.F.slot_list_append PySem.F.type_list_append mt_append (fldK (K := K) rfl (pv 0) rfl) (pa_cons (pe_op op_sub (fldK (K := K) rfl (pv 0) rfl) (pv 2)) pa_nil))) (pss_one (ps_ret (pv 3)))))))))))), ?_⟩
  refine run (Γ := [.v (.ref a.b), .un, .un, .un, .un, .un, .un, .un, .un, .un]) (Oi := [bd K T.c_Board T.c_Job a S]) A0 rfl ?_
  refine n_seq ?_
  refine n_asg (e_fz (el_meth (e_var (i := 0) rfl rfl) (by walk_at "ins") a_nil (c_Board_order T 0 rfl (by assumption)))) ?_
  refine n_seq ?_; refine (n_asg (e_fld (e_var (i := 0) rfl rfl) (fld_bd (n := 0) 0 rfl T.cl_Board T.na_Board_budget (by decide +kernel) rfl rfl)) ?_)
  refine n_seq ?_
  refine n_asgL (el_lst (ds := []) a_nil rfl (Nat.le_of_ble_eq_true rfl)) (fun pm => ?_)
  refine n_seq ?_
  refine n_asgV (ev_meth (e_var (i := 0) rfl rfl) (ins_bd 0 rfl (by decide +kernel)) a_nil (c_Board_in_order T 0 rfl ok)) (fun ps0 => ?_)
  refine n_seq ?_
  refine n_while (fun m Γ Os => ∃ S1 r mm od ps n, S1.left = m ∧ S1.Ok ∧ S.Alike S1 ∧ (∀ k ∈ od, k ∈ S1.order) ∧ mm.length + S1.left ≤ S.left ∧ m ≤ n ∧ runM n S1 r mm od = S.run ∧
      Γ = [.v (.ref a.b), .d (.list (lstN S.order)), .d (.int r), .v (.ref pm), .v (.ref ps), .un, .un, .un, .un, .un] ∧ Os = [bd K T.c_Board T.c_Job a S1, lst K pm (mm.map partD), lstV ps (od.map (jr a))]) S.left ⟨S, S.budget, [], S.order, ps0, S.left, rfl, ok, .refl S, fun _ h => h, by simp, Nat.le_refl _, rfl, rfl, rfl⟩ ?_
  rintro m Γ Os ⟨S1, r, mm, od, ps, n, hm, ok1, al, hod, hlen, hmn, hrun, rfl, rfl⟩
  have hn1 := ok1.n
  have hl1 : a.js.length = S1.jobs.length := by rw [hl, al.n]
  have hleft := left_le ok
  refine ⟨!(od.map (jr a)).isEmpty, [bd K T.c_Board T.c_Job a S1, lst K pm (mm.map partD), lstV ps (od.map (jr a))], t_T (e_neV (i := 2) (e_var (i := 4) rfl rfl) rfl (el_lst (ds := []) a_nil rfl (Nat.le_of_ble_eq_true rfl))), fun hb => ?_, fun hb => ?_⟩
  · cases od with
    | nil => cases hb
    | cons k0 od =>
      have hk := hod k0 (by simp)
      obtain ⟨hk1, hk2⟩ := mem_order.mp hk
      obtain ⟨hj, hJ⟩ := js_of hl1 hk1
      have ok2 := step_ok ok1 hk
      have hleft2 := step_left ok1 hk
      have hl2 : a.js.length = (S1.step k0).jobs.length := by rw [hl1]; unfold Bd.step Bd.set; simp
      have hn2 := ok2.n
      have hon2 := order_len (S1.step k0)
      have hmm : mm.length ≤ 100000 := by omega
      have hpt := part_at (ok1.job _ _ hJ) (rdy_open hk2).1
      have hparts := (ok1.job _ _ hJ).len
      refine n_seq ?_
      refine n_asg (e_op (e_var (i := 4) rfl rfl) e_int (od_ixV (y := jr a k0) 2 rfl at0)) ?_
      refine n_seq ?_
      refine n_app 1 (e_var (i := 3) rfl rfl) (e_tup (ds := [_, _]) (a_cons (e_fld (e_var (i := 6) rfl rfl) (fld_job (n := 0) 0 rfl (by assumption) (by assumption) T.cl_Job T.na_Job_number (by decide +kernel) rfl rfl)) (a_cons (e_fld (e_var (i := 6) rfl rfl) (fld_job (n := 6) 0 rfl (by assumption) (by assumption) T.cl_Job T.na_Job_at (by decide +kernel) rfl rfl)) a_nil)) rfl (Nat.le_of_ble_eq_true rfl)) rfl rfl (by rw [List.length_map]; omega) ?_
      refine n_seq ?_; refine (n_asg (e_op (e_var (i := 2) rfl rfl) (e_op (e_fld (e_var (i := 6) rfl rfl) (fld_job (n := 5) 0 rfl (by assumption) (by assumption) T.cl_Job T.na_Job_parts (by decide +kernel) rfl rfl)) (e_fld (e_var (i := 6) rfl rfl) (fld_job (n := 6) 0 rfl (by assumption) (by assumption) T.cl_Job T.na_Job_at (by decide +kernel) rfl rfl)) (od_ixT hpt)) (by walk_at "od")) ?_)
      refine n_seq ?_
      refine n_fldJob (n := 6) (k := k0) (J' := { S1.jb k0 with at_ := (S1.jb k0).at_ + 1 }) 0 (e_op (e_fld (e_var (i := 6) rfl rfl) (fld_job (n := 6) 0 rfl (by assumption) (by assumption) T.cl_Job T.na_Job_at (by decide +kernel) rfl rfl)) e_int (by walk_at "od")) (e_var (i := 6) rfl rfl) rfl hj hJ T.cl_Job T.na_Job_at (by decide +kernel) rfl ?_
      have hJ' : (S1.jobs.set k0 { S1.jb k0 with at_ := (S1.jb k0).at_ + 1 })[k0]? = some { S1.jb k0 with at_ := (S1.jb k0).at_ + 1 } := List.getElem?_set_self hk1
      refine n_own (Os1 := [bd K T.c_Board T.c_Job a { S1 with jobs := S1.jobs.set k0 { S1.jb k0 with at_ := (S1.jb k0).at_ + 1 } }, lst K pm (mm.map partD ++ [partD (k0, (S1.jb k0).at_)]), lstV ps ((k0 :: od).map (jr a))]) rfl ?_
      refine n_seq ?_
      refine n_whenJ (Γ' := [.v (.ref a.b), .d (.list (lstN S.order)), .d (.int (r - (S1.jb k0).part)), .v (.ref pm), .v (.ref ps), .un, .v (jr a k0), .un, .un, .un]) (Os' := [bd K T.c_Board T.c_Job a (S1.step k0), lst K pm (mm.map partD ++ [partD (k0, (S1.jb k0).at_)]), lstV ps ((k0 :: od).map (jr a))]) (t_T (e_op (e_fld (e_var (i := 6) rfl rfl) (fld_job (n := 6) 0 rfl (by assumption) (by assumption) T.cl_Job T.na_Job_at (by decide +kernel) rfl rfl)) (e_cb (a_cons (e_fld (e_var (i := 6) rfl rfl) (fld_job (n := 5) 0 rfl (by assumption) (by assumption) T.cl_Job T.na_Job_parts (by decide +kernel) rfl rfl)) a_nil) (by walk_at "cb")) (by walk_at "od"))) ?_ (fun hb2 kk => ?_) (fun hb2 kk => ?_)
      · refine n_asgV (ev_is (zs := ((S1.step k0).fits (r - (S1.jb k0).part)).map (jr a)) (ev_lcP (vs := [7]) (it_newV (ev_meth (e_var (i := 0) rfl rfl) (ins_bd 0 rfl (by decide +kernel)) a_nil (c_Board_in_order T 0 rfl ok2))) (by walk_at "lim") (fun _ => tg_name) (by intro i hi; exact hi) (by first | exact trivial | exact rfl | exact ⟨_, rfl⟩) (f := fun i => decide (((S1.step k0).jb ((S1.step k0).order[i]?.getD 0)).part ≤ r - (S1.jb k0).part)) (v := fun i => jr a ((S1.step k0).order[i]?.getD 0)) (fun i hi => by
            have hi' : i < (S1.step k0).order.length := by rw [List.length_map] at hi; exact hi
            have ho := mem_order.mp (List.getElem_mem hi')
            rw [← show (S1.step k0).order[i]?.getD 0 = (S1.step k0).order[i] by rw [List.getElem?_eq_getElem hi']; rfl] at ho
            obtain ⟨hj2, hJ2⟩ := js_of hl2 ho.1
            have hp2 := part_at (ok2.job _ _ hJ2) (rdy_open ho.2).1
            exact (t_T (e_op (e_op (e_fld (e_is (s' := .v (jr a ((S1.step k0).order[i]?.getD 0))) (e_var (i := 7) rfl rfl) (by show SD.v (((S1.step k0).order.map (jr a))[i]?.getD .non) = _; rw [map_getD hi']; simp [hi'])) (fld_job (n := 5) 0 rfl hj2 hJ2 T.cl_Job T.na_Job_parts (by decide +kernel) rfl rfl)) (e_fld (e_is (s' := .v (jr a ((S1.step k0).order[i]?.getD 0))) (e_var (i := 7) rfl rfl) (by show SD.v (((S1.step k0).order.map (jr a))[i]?.getD .non) = _; rw [map_getD hi']; simp [hi'])) (fld_job (n := 6) 0 rfl hj2 hJ2 T.cl_Job T.na_Job_at (by decide +kernel) rfl rfl)) (od_ixT hp2)) (e_var (i := 2) rfl rfl) (by walk_at "od")))) (fun i hi hf => by
            have hi' : i < (S1.step k0).order.length := by rw [List.length_map] at hi; exact hi
            have ho := mem_order.mp (List.getElem_mem hi')
            rw [← show (S1.step k0).order[i]?.getD 0 = (S1.step k0).order[i] by rw [List.getElem?_eq_getElem hi']; rfl] at ho
            obtain ⟨hj2, hJ2⟩ := js_of hl2 ho.1
            have hp2 := part_at (ok2.job _ _ hJ2) (rdy_open ho.2).1
            exact (e_is (s' := .v (jr a ((S1.step k0).order[i]?.getD 0))) (e_var (i := 7) rfl rfl) (by show SD.v (((S1.step k0).order.map (jr a))[i]?.getD .non) = _; rw [map_getD hi']; simp [hi'])))) (by rw [List.length_map, range_getF (S1.step k0).order (fun k => decide (((S1.step k0).jb k).part ≤ r - (S1.jb k0).part)) (jr a) 0]; rfl)) (fun ps' => ?_)
        refine n_mv 3 [bd K T.c_Board T.c_Job a (S1.step k0), lst K pm (mm.map partD ++ [partD (k0, (S1.jb k0).at_)])] (.cons (Oimp.refl _) (.cons (Oimp.refl _) .nil)) rfl (by simp) ?_
        cases n with
        | zero => exact absurd hmn (by omega)
        | succ n =>
          refine r_inv _ _ ⟨(S1.step k0).left, by omega, S1.step k0, r - (S1.jb k0).part, mm ++ [(k0, (S1.jb k0).at_)], (S1.step k0).fits (r - (S1.jb k0).part), ps', n, rfl, ok2, al.step k0, fun k hk => (List.mem_filter.mp hk).1, ?_, by omega, hrun, rfl, rfl⟩ ?_ ?_
          · rw [List.length_append, List.length_singleton]; omega
          · exact .eq (.eq (.eq (.eq (.eq (.eq (.un (.eq (.eq (.eq .nil)))))))))
          · rw [List.map_append]; exact Ole.refl _
      · have hb2 : PyData.eqv (.int (((S1.jb k0).at_ + 1 : Nat) : Int)) (.int (((S1.jb k0).parts.map PyData.int).length : Int)) = true := hb2
        have ee : (((S1.jb k0).at_ + 1 : Nat) : Int) = ((S1.jb k0).parts.length : Int) := by rw [List.length_map] at hb2; simpa [PyData.eqv] using hb2
        refine n_fldJob (n := 8) (k := k0) (J' := (S1.jb k0).go S1.frames) 0 (e_fld (e_var (i := 0) rfl rfl) (fld_bd (n := 3) 0 rfl T.cl_Board T.na_Board_frames (by decide +kernel) rfl rfl)) (e_var (i := 6) rfl rfl) rfl hj hJ' T.cl_Job T.na_Job_end (by decide +kernel) (by unfold Jb.go; rw [if_pos ee]; rfl) ?_
        refine n_own ?_ kk
        have e3 : ({ S1 with jobs := (S1.jobs.set k0 { S1.jb k0 with at_ := (S1.jb k0).at_ + 1 }).set k0 ((S1.jb k0).go S1.frames) } : Bd) = S1.step k0 := by unfold Bd.step Bd.set; rw [List.set_set]
        rw [← e3]; rfl
      · have hb2 : PyData.eqv (.int (((S1.jb k0).at_ + 1 : Nat) : Int)) (.int (((S1.jb k0).parts.map PyData.int).length : Int)) = false := hb2
        have ee : ¬ (((S1.jb k0).at_ + 1 : Nat) : Int) = ((S1.jb k0).parts.length : Int) := by rw [List.length_map] at hb2; simpa [PyData.eqv] using hb2
        refine n_own ?_ kk
        have e3 : ({ S1 with jobs := S1.jobs.set k0 { S1.jb k0 with at_ := (S1.jb k0).at_ + 1 } } : Bd) = S1.step k0 := by unfold Bd.step Bd.set Jb.go; rw [if_neg ee]
        rw [e3]
  · cases od with
    | cons k0 od => cases hb
    | nil =>
      have hrun : S.run = (S1, r, mm) := by rw [← hrun]; cases n <;> rfl
      have hm1 : mm.length ≤ 100000 := by omega
      refine n_seq ?_
      refine n_asg (e_fz (el_is (es := lstN (mm.map (·.1))) (el_lcP (vs := [8, 9]) (it_item (item' := fun i => .d (partD (mm[i]?.getD (0, 0)))) (it_own 1 (e_var (i := 3) rfl rfl) rfl) (fun i hi => by show SD.d ((mm.map partD)[i]?.getD .none) = _; rw [List.length_map] at hi; rw [map_getD hi]; simp [hi])) (by walk_at "lim") (fun _ => (tg_tup (tgs_cons tg_name (tgs_cons tg_name tgs_nil)) rfl)) (by intro i hi; exact hi) (by first | exact trivial | exact rfl | exact ⟨_, rfl⟩) (f := fun _ => true) (v := fun i => .int ((mm[i]?.getD (0, 0)).1 : Int)) (fun i hi => t_yes) (fun i hi hf => (e_var (i := 8) rfl rfl))) (by
        rw [gvn_all, List.length_map, range_get mm (fun p => PyData.int (p.1 : Int)) (0, 0)]
        unfold lstN; rw [List.map_map]; rfl))) ?_
      have hs1 := shaped_ints (mm.map (·.1))
      have hs2 := shaped_ints S.order
      refine n_ole (Os' := [bd K T.c_Board T.c_Job a S1, lst K pm (mm.map partD)]) (.cons (Oimp.refl _) (.cons (Oimp.refl _) .nil)) ?_
      refine n_seq ?_
      refine n_for (it_jobs 0 (e_fld (e_var (i := 0) rfl rfl) (fld_bd (n := 2) 0 rfl T.cl_Board T.na_Board_jobs (by decide +kernel) rfl rfl)) rfl) (fun _ => tg_name) (fun i Γ Os => Γ = [.v (.ref a.b), .d (.list (lstN S.order)), .d (.int r), .v (.ref pm), .v (.ref ps), .d (.list (lstN (mm.map (·.1)))), .un, .un, .un, .un] ∧
        Os = [bd K T.c_Board T.c_Job a { S1 with jobs := S1.jobs.mapIdx fun k J => if k < i then idleM (mm.map (·.1)) S.order k J else J }, lst K pm (mm.map partD)]) ⟨rfl, ?_⟩ (fun i Γ Os h => by rw [h.2]; exact ⟨_, rfl⟩) (fun B2 hB2 i Γ Os hi h => ?_) (fun Γ Os h => ?_)
      · rw [upto0 S1.jobs (idleM (mm.map (·.1)) S.order)]
      · obtain ⟨rfl, rfl⟩ := h
        have hi2 : i < S1.jobs.length := by rw [← hl1]; exact hi
        obtain ⟨hj2, hJ0⟩ := js_of hl1 hi2
        have hJ2 : (S1.jobs.mapIdx fun k J => if k < i then idleM (mm.map (·.1)) S.order k J else J)[i]? = some (S1.jb i) := by rw [upto_at S1.jobs (idleM (mm.map (·.1)) S.order)]; exact hJ0
        have hset := upto_set S1.jobs (idleM (mm.map (·.1)) S.order) i _ hJ0
        have wk : Wk [.v (.ref a.b), .d (.list (lstN S.order)), .d (.int r), .v (.ref pm), .v (.ref ps), .d (.list (lstN (mm.map (·.1)))), SD.v (.ref (a.js[i]?.getD 0)), .un, .un, .un] [.v (.ref a.b), .d (.list (lstN S.order)), .d (.int r), .v (.ref pm), .v (.ref ps), .d (.list (lstN (mm.map (·.1)))), .un, .un, .un, .un] := .eq (.eq (.eq (.eq (.eq (.eq (.un (.eq (.eq (.eq .nil)))))))))
        have hmi : inD (.int (i : Int)) (lstN (mm.map (·.1))) = decide (i ∈ mm.map (·.1)) := inD_ints _ _
        have hmo : inD (.int (i : Int)) (lstN S.order) = decide (i ∈ S.order) := inD_ints _ _
        refine n_if (t_T (e_op (e_fld (e_var (i := 6) rfl rfl) (fld_job (n := 0) 0 rfl (by assumption) (by assumption) T.cl_Job T.na_Job_number (by decide +kernel) rfl rfl)) (e_var (i := 5) rfl rfl) (by walk_at "od"))) (fun hb => ?_) (fun hb => ?_)
        · have hm : i ∈ mm.map (·.1) := of_decide_eq_true (hmi.symm.trans hb)
          refine n_fldJob (n := 7) (k := i) (J' := idleM (mm.map (·.1)) S.order i (S1.jb i)) 0 e_int (e_var (i := 6) rfl rfl) rfl hj2 hJ2 T.cl_Job T.na_Job_idle (by decide +kernel) (by unfold idleM; rw [if_pos hm]; rfl) ?_
          refine r_inv _ _ ⟨rfl, rfl⟩ wk ?_
          rw [← hset]; exact Ole.refl _
        · have hm : i ∉ mm.map (·.1) := of_decide_eq_false (hmi.symm.trans hb)
          refine n_when (t_T (e_op (e_fld (e_var (i := 6) rfl rfl) (fld_job (n := 0) 0 rfl (by assumption) (by assumption) T.cl_Job T.na_Job_number (by decide +kernel) rfl rfl)) (e_var (i := 1) rfl rfl) (by walk_at "od"))) (fun hb => ?_) (fun hb => ?_)
          · have hm2 : i ∈ S.order := of_decide_eq_true (hmo.symm.trans hb)
            refine n_fldJob (n := 7) (k := i) (J' := idleM (mm.map (·.1)) S.order i (S1.jb i)) 0 (e_op (e_fld (e_var (i := 6) rfl rfl) (fld_job (n := 7) 0 rfl (by assumption) (by assumption) T.cl_Job T.na_Job_idle (by decide +kernel) rfl rfl)) e_int (by walk_at "od")) (e_var (i := 6) rfl rfl) rfl hj2 hJ2 T.cl_Job T.na_Job_idle (by decide +kernel) (by unfold idleM; rw [if_neg hm, if_pos hm2]; rfl) ?_
            refine r_inv _ _ ⟨rfl, rfl⟩ wk ?_
            rw [← hset]; exact Ole.refl _
          · have hm2 : i ∉ S.order := of_decide_eq_false (hmo.symm.trans hb)
            refine r_inv _ _ ⟨rfl, rfl⟩ wk ?_
            have e4 : idleM (mm.map (·.1)) S.order i (S1.jb i) = S1.jb i := by unfold idleM; rw [if_neg hm, if_neg hm2]
            rw [← hset, e4, set_self hJ2]; exact Ole.refl _
      · obtain ⟨rfl, rfl⟩ := h
        rw [upto_end S1.jobs (idleM (mm.map (·.1)) S.order) _ (by rw [hl1]; exact Nat.le_refl _)]
        refine n_seq ?_
        refine n_fldBd (n := 3) (S' := { S1 with jobs := S1.jobs.mapIdx (idleM (mm.map (·.1)) S.order), frames := S1.frames + 1 }) 0 (e_op (e_fld (e_var (i := 0) rfl rfl) (fld_bd (n := 3) 0 rfl T.cl_Board T.na_Board_frames (by decide +kernel) rfl rfl)) e_int (by walk_at "od")) (e_var (i := 0) rfl rfl) rfl T.cl_Board T.na_Board_frames (by decide +kernel) rfl rfl rfl ?_
        have hsp1 : S1.spent.length < 1000000 := by rw [al.sp]; omega
        refine n_seq ?_
        refine n_appSp 0 (e_fld (e_var (i := 0) rfl rfl) (fld_bd (n := 4) 0 rfl T.cl_Board T.na_Board_spent (by decide +kernel) rfl rfl)) (e_op (e_fld (e_var (i := 0) rfl rfl) (fld_bd (n := 0) 0 rfl T.cl_Board T.na_Board_budget (by decide +kernel) rfl rfl)) (e_var (i := 2) rfl rfl) (by walk_at "od")) rfl rfl hsp1 ?_
        refine r_retO 1 (e_var (i := 3) rfl rfl) rfl (k rfl) (by show _ = S.frameR.map partD; unfold Bd.frameR; rw [hrun]) ?_ (Nat.le_refl _) (Bl.refl _)
        have e5 : ({ S1 with jobs := S1.jobs.mapIdx (idleM (mm.map (·.1)) S.order), frames := S1.frames + 1, spent := S1.spent ++ [S1.budget - r] } : Bd) = S.frameS := by
          unfold Bd.frameS
          rw [hrun]
          dsimp only
          rw [al.bu, al.pa, al.fr, al.sp]
        show Ole _ [bd K T.c_Board T.c_Job a S.frameS]
        rw [← e5]
        exact .cons (Oimp.refl _) .nil
theorem c_Board_frame (T : Tx K mg w) {Os : List Own} {a : BA} {S : Bd} (i : Nat) (h : Os[i]? = some (bd K T.c_Board T.c_Job a S)) (ok : S.Ok) (hs : S.spent.length < 100000) : CaL K Os (sp_Board_frame T).sp [.v (.ref a.b)] (S.frameR.map partD) (Os.set i (bd K T.c_Board T.c_Job a S.frameS)) := cl1 i (a, S) h ⟨ok, hs⟩ rfl rfl rfl rfl rfl
theorem x_Board_frame (T : Tx K mg w) {Os : List Own} {b : Addr} {S : Bd} (i : Nat) (h : Os[i]? = some (bdx K T.c_Board T.c_Job b S)) (ok : S.Ok) (hs : S.spent.length < 100000) : CaL K Os (sp_Board_frame T).sp [.v (.ref b)] (S.frameR.map partD) (Os.set i (bdx K T.c_Board T.c_Job b S.frameS)) := cl_bdx i h fun a e => by
  subst e
  have := c_Board_frame T (Os := Os.set i (bd K T.c_Board T.c_Job a S)) i (List.getElem?_set_self (List.getElem?_eq_some_iff.mp h).1) ok hs
  rw [List.set_set] at this
  exact this
end
end Cw

namespace Cw
open PySem L2

local macro_rules | `(tactic| walk_at "vw") => `(tactic| first | exact Vw.dat | exact Vw.own 0 rfl | exact Vw.own 1 rfl | exact Vw.own 2 rfl | exact Vw.own 3 rfl | exact Vw.own 4 rfl | exact Vw.own 5 rfl | exact Vw.own 6 rfl | exact Vw.own 7 rfl)
local macro_rules | `(tactic| walk_at "ar") => `(tactic| first | assumption | decide | omega)
local macro_rules | `(tactic| walk_at "ix") => `(tactic| first | assumption | rfl)
local macro_rules | `(tactic| walk_at "sh") => `(tactic| first | assumption | rfl)
local macro_rules | `(tactic| walk_at "cm") => `(tactic| first | exact Or.inr ⟨by decide, by decide⟩ | exact Or.inl ⟨by decide, by decide⟩ | (unfold CMul; omega))
local macro_rules | `(tactic| walk_at "cd") => `(tactic| first | exact ⟨by decide, by decide⟩ | exact ⟨by omega, by omega⟩)
local macro_rules | `(tactic| walk_at "lim") => `(tactic| first | assumption | omega | (simp only [List.length_append, List.length_cons, List.length_nil, List.length_replicate, List.length_map]; omega) | decide)
local macro_rules | `(tactic| walk_at "od") => `(tactic| first
  | exact od_add | exact od_sub | exact od_lt | exact od_le | exact od_gt | exact od_ge | exact od_isn | exact od_notn
  | exact od_mul (by walk_at "cm") | exact od_mod (by walk_at "ar") | exact od_fdiv (by walk_at "cd")
  | exact od_eq (by walk_at "vw") (by walk_at "vw") (by walk_at "sh") (by walk_at "sh") | exact od_l (od_ne (by walk_at "vw") (by walk_at "vw") (by walk_at "sh") (by walk_at "sh"))
  | exact od_ixT (by walk_at "ix") | exact od_ixL (by walk_at "vw") (by walk_at "ix") | exact od_addT (by walk_at "lim") | exact od_repT (by walk_at "lim") (by walk_at "lim") (by walk_at "lim")
  | exact od_jobs 0 rfl (by assumption) | exact od_ixV 1 rfl (by assumption)
  | exact od_in (by walk_at "vw") (by walk_at "vw") (by walk_at "sh") (by walk_at "sh") | exact od_nin (by walk_at "vw") (by walk_at "vw") (by walk_at "sh") (by walk_at "sh"))
local macro_rules | `(tactic| walk_at "ins") => `(tactic| first | exact ins_bd 0 rfl (by decide +kernel) | exact ins_bdx 0 rfl (by decide +kernel) | exact ins_bdx 1 rfl (by decide +kernel) | exact ins_bdx 2 rfl (by decide +kernel) | exact ins_bdx 3 rfl (by decide +kernel))
local macro_rules | `(tactic| walk_at "cb") => `(tactic| first
  | exact cd_lenT | exact cd_lenL (by walk_at "vw") | exact cd_isInt (by walk_at "vw") | exact cd_isBool (by walk_at "vw") | exact cd_isTup (by walk_at "vw") | exact cd_isLst (by walk_at "vw") | exact cd_isStr (by walk_at "vw")
  | exact cd_all (by walk_at "vw") | exact cd_any (by walk_at "vw") | exact cd_sum (by walk_at "vw") | exact cd_tupL (by walk_at "vw") | exact cl_listL (by walk_at "vw") | exact cd_lenJ 0 rfl | exact cl_spent 0 rfl | exact cd_spentT 0 rfl | exact cd_intB | exact cd_max2 | exact cd_min2)

section
variable {P : Program} {w : World} {K : Fr} {mg : Str → Option Value} {base : Heap}
def afterE (S : Bd) : List PyData → Option Ek
  | [] => none
  | d :: ds => if isWhole d 0 ((S.jobs.length : Int) - 1) = true then (if (S.jb (natD d)).gone = true then some .over else afterE S ds) else some .noNum
def addE (S : Bd) (r t st af p : PyData) : Option Ek := if jobOkD S.budget r t st p = true then (match af with
  | .tuple ds => if ds.length ≤ 20 then (afterE S ds).or (if S.opens.length = 20 then some .full else none) else some .noJob
  | _ => some .noJob) else some .noJob
def jobOf (r t st af p : PyData) : Jb := ⟨intD r, optD t, intD st, (tupL af).map natD, (tupL p).map intD, 0, 0, none, false⟩
def ekA (T : Tx K mg w) : Ek → Addr
  | .noJob => T.c_NoJob
  | .noNum => T.c_NoNumber
  | .over => T.c_Over
  | .full => T.c_Full
  | .noCount => 0
theorem isWhole_nat {d : PyData} {n : Nat} (h : isWhole d 0 ((n : Int) - 1) = true) : ∃ k : Nat, d = .int (k : Int) ∧ k < n := by
  obtain ⟨i, rfl⟩ := isWhole_int h
  simp only [isWhole, Bool.and_eq_true, decide_eq_true_eq] at h
  exact ⟨i.toNat, by rw [Int.toNat_of_nonneg h.1], by omega⟩
theorem after_nats {S : Bd} : ∀ {ds : List PyData}, afterE S ds = none → ds = (ds.map natD).map (fun (n : Nat) => PyData.int (n : Int)) ∧ ∀ k ∈ ds.map natD, k < S.jobs.length ∧ (S.jb k).gone = false
  | [], _ => ⟨rfl, fun _ h => by cases h⟩
  | d :: ds, h => by
    unfold afterE at h
    by_cases z : isWhole d 0 ((S.jobs.length : Int) - 1) = true
    · rw [if_pos z] at h
      by_cases y : (S.jb (natD d)).gone = true
      · rw [if_pos y] at h; cases h
      · rw [if_neg y] at h
        obtain ⟨k, rfl, hk⟩ := isWhole_nat z
        obtain ⟨e1, e2⟩ := after_nats h
        refine ⟨?_, fun m hm => ?_⟩
        · rw [List.map_cons, List.map_cons, ← e1]; simp [natD]
        · rcases List.mem_cons.mp hm with rfl | hm
          · exact ⟨by simpa [natD] using hk, by simpa [natD] using y⟩
          · exact e2 m hm
    · rw [if_neg z] at h; cases h
theorem jobOf_eq {S : Bd} {r t st p : PyData} {ds : List PyData} (h : jobOkD S.budget r t st p = true) (ha : afterE S ds = none) :
    r = .int (jobOf r t st (.tuple ds) p).rank ∧ t = oD (jobOf r t st (.tuple ds) p).term ∧ st = .int (jobOf r t st (.tuple ds) p).start ∧ (PyData.tuple ds) = tupN (jobOf r t st (.tuple ds) p).after ∧ p = tupI (jobOf r t st (.tuple ds) p).parts := by
  unfold jobOkD at h
  simp only [Bool.and_eq_true, Bool.or_eq_true] at h
  obtain ⟨⟨⟨h1, h2⟩, h3⟩, h4⟩ := h
  refine ⟨?_, ?_, ?_, ?_, ?_⟩
  · obtain ⟨i, rfl⟩ := isWhole_int h1; rfl
  · rcases h2 with h2 | h2
    · cases t <;> first | rfl | (simp [isNone] at h2)
    · obtain ⟨i, rfl⟩ := isWhole_int h2; rfl
  · obtain ⟨i, rfl⟩ := isWhole_int h3; rfl
  · exact congrArg PyData.tuple (after_nats ha).1
  · cases p with
    | tuple es =>
      simp only [arePartsD, Bool.and_eq_true, List.all_eq_true] at h4
      show _ = PyData.tuple ((es.map intD).map .int)
      congr 1
      rw [List.map_map]
      refine (List.map_id' es).symm.trans (List.map_congr_left fun d hd => ?_)
      obtain ⟨i, rfl⟩ := isWhole_int (h4.2 d hd); rfl
    | _ => simp [arePartsD] at h4
theorem add_ok {S : Bd} {r t st p : PyData} {ds : List PyData} (ok : S.Ok) (hn : S.jobs.length < 10000) (h : addE S r t st (.tuple ds) p = none) : (S.addS (jobOf r t st (.tuple ds) p)).Ok := by
  unfold addE at h
  by_cases z : jobOkD S.budget r t st p = true
  · rw [if_pos z] at h
    dsimp only at h
    by_cases y : ds.length ≤ 20
    · rw [if_pos y] at h
      have ha : afterE S ds = none := by
        cases q : afterE S ds with
        | none => rfl
        | some e => rw [q] at h; cases h
      have an := after_nats ha
      refine ⟨ok.bu, ok.pa, fun k J e => ?_, ?_, ok.fr, ok.sp⟩
      · unfold Bd.addS at e
        dsimp only at e
        by_cases lt : k < S.jobs.length
        · rw [List.getElem?_append_left lt] at e
          exact ok.job k J e
        · have lt2 := (List.getElem?_eq_some_iff.mp e).1
          rw [List.length_append, List.length_singleton] at lt2
          have ek : k = S.jobs.length := by omega
          subst ek
          rw [List.getElem?_append_right (Nat.le_refl _), Nat.sub_self] at e
          simp at e
          subst e
          unfold jobOkD at z
          simp only [Bool.and_eq_true] at z
          have h4 := z.2
          cases p with
          | tuple es =>
            simp only [arePartsD, Bool.and_eq_true, List.all_eq_true, decide_eq_true_eq] at h4
            refine ⟨fun o ho => (an.2 o ho).1, ⟨by show 1 ≤ (es.map intD).length; rw [List.length_map]; exact h4.1.1, by show (es.map intD).length ≤ 8; rw [List.length_map]; exact h4.1.2⟩, fun q hq => ?_, Nat.zero_le _, ⟨fun _ => by show 0 < (es.map intD).length; rw [List.length_map]; omega, fun _ => rfl⟩, Int.le_refl _, by show (ds.map natD).length ≤ 20; rw [List.length_map]; exact y⟩
            obtain ⟨d, hd, rfl⟩ := List.mem_map.mp hq
            have w := h4.2 d hd
            obtain ⟨i, rfl⟩ := isWhole_int w
            exact (by simpa [isWhole] using w : 1 ≤ i ∧ i ≤ S.budget)
          | _ => simp [arePartsD] at h4
      · show (S.jobs ++ [_]).length ≤ 10000
        rw [List.length_append, List.length_singleton]; omega
    · rw [if_neg y] at h; cases h
  · rw [if_neg z] at h; cases h
def sp_Board_add (T : Tx K mg w) : Pm K ((BA × Bd) × PyData × PyData × PyData × PyData × PyData) := ⟨fun g => g.1.2.Ok, fun g => [.v (.ref g.1.1.b), .d g.2.1, .d g.2.2.1, .d g.2.2.2.1, .d g.2.2.2.2.1, .d g.2.2.2.2.2], fun g => [bd K T.c_Board T.c_Job g.1.1 g.1.2], fun g => .d (.int g.1.2.jobs.length),
  fun g => [bdx K T.c_Board T.c_Job g.1.1.b (g.1.2.addS (jobOf g.2.1 g.2.2.1 g.2.2.2.1 g.2.2.2.2.1 g.2.2.2.2.2))], fun g => (addE g.1.2 g.2.1 g.2.2.1 g.2.2.2.1 g.2.2.2.2.1 g.2.2.2.2.2).map (ekA T), fun g => [bdx K T.c_Board T.c_Job g.1.1.b g.1.2]⟩
theorem ok_Board_add (T : Tx K mg w) : FnOk P w K mg base (L2.CX P w) 4 T.a_Board_add T.fd_Board_add ["self", "rank", "term", "start", "after", "parts"] (sp_Board_add T).sp := by
  refine T.F_Board_add.okX sc_Board_add ((sp_Board_add T).len fun _ => rfl) (fun cdv A outer s H vs Q EX hr h => ?_)
  obtain ⟨⟨⟨a, S⟩, r, t, st, af, p⟩, B, F, hp, A0, hB, k, kx⟩ := h
  have ok : S.Ok := hp
  have hn := ok.n
  have hl : a.js.length = S.jobs.length := (At.bdIn (i := 0) A0 rfl).len
  refine ⟨_, (pss_cons (ps_expr (pe_call (ok_need_job T) (hr.mono (by decide)) (by rfl) T.m_need_job T.F_need_job.kp T.b_need_job .nil (passes_call (takes_of rfl rfl rfl rfl) (fun _ _ _ _ h => h)) (pa_cons (fldK (K := K) rfl (pv 0) rfl) (pa_cons (pv 1) (pa_cons (pv 2) (pa_cons (pv 3) (pa_cons (pv 5) pa_nil))))))) (pss_cons (ps_if (PW.pt (pw_or (pt_not (pt_val (pe_callB (isiK (K := K) rfl) (by rfl) T.n_isinstance (by decide +kernel) (pa_cons (pv 4) (pa_cons (pe_bltn (v := .ty "tuple") (by rfl) T.n_tuple (by decide +kernel) rfl) pa_nil))))) (pw_or1 (pt_cmpR op_gt (pe_callB (lenK (K := K) rfl) (by rfl) T.n_len (by decide +kernel) (pa_cons (pv 4) pa_nil)) (pe_glob (v := .int 20) rfl T.m_JOBS ⟨_, rfl⟩) (nomark _))))) (pss_one (ps_raise rfl (takes_of rfl rfl rfl rfl) (pmk_own PySem.F.excBase_ValueError T.x_NoJob T.m_NoJob T.k_NoJob (raises_own T.b_NoJob T.t_NoJob) rfl))) pss_nil) (pss_cons (ps_for (passes_of rfl) rfl (pi_tup (pv 4)) (pg_name (i := 6) sc_Board_add.nd rfl (by first | exact Or.inl rfl | exact Or.inr rfl)) (pss_cons (ps_expr (pe_meth (pv 0) T.cl_Board T.M_Board_need (ok_Board_need T) (hr.mono (by decide)) T.b_Board_need .nil (passes_call (takes_of rfl rfl rfl rfl) (fun _ _ _ _ h => h)) (pa_cons (pv 6) pa_nil))) (pss_one (ps_if (pt_val (fldK (K := K) rfl (by exact (pe_ix (ixK (K := K) rfl) (fldK (K := K) rfl (pv 0) rfl) (pv 6) (fun _ _ => rfl))) rfl)) (pss_one (ps_raise rfl (takes_of rfl rfl rfl rfl) (pmk_own PySem.F.excBase_ValueError T.x_Over T.m_Over T.k_Over (raises_own T.b_Over T.t_Over) rfl))) pss_nil)))) (pss_cons (ps_if (pt_cmpR (eqK (K := K) rfl hr.units) (pe_callB (lenK (K := K) rfl) (by rfl) T.n_len (by decide +kernel) (pa_cons (pe_meth0 (pv 0) T.cl_Board T.M_Board_open_jobs (ok_Board_open_jobs T) (hr.mono (by decide)) T.b_Board_open_jobs .nil (passes_call (takes_of rfl rfl rfl rfl) (fun _ _ _ _ h => h))) pa_nil)) (pe_glob (v := .int 20) rfl T.m_JOBS ⟨_, rfl⟩) (nomark _)) (pss_one (ps_raise rfl (takes_of rfl rfl rfl rfl) (pmk_own PySem.F.excBase_ValueError T.x_Full T.m_Full T.k_Full (raises_own T.b_Full T.t_Full) rfl))) pss_nil) (pss_cons (ps_expr (pe_bm PySem.F.plainAttrs_list PySem.F.slot_list_append PySem.F.type_list_append mt_append (fldK (K := K) rfl (pv 0) rfl) (pa_cons (pe_make T.mk_Job (ok_Job_init T) (hr.mono (by decide)) (by rfl) T.m_Job T.b_Job_init .nil (passes_call (takes_of rfl rfl rfl rfl) (fun _ _ _ _ h => h)) (pa_cons (pe_callB (lenK (K := K) rfl) (by rfl) T.n_len (by decide +kernel) (pa_cons (fldK (K := K) rfl (pv 0) rfl) pa_nil)) (pa_cons (pv 1) (pa_cons (pv 2) (pa_cons (pv 3) (pa_cons (pv 4) (pa_cons (pv 5) pa_nil))))))) pa_nil))) (pss_one (ps_ret (pe_op op_sub (pe_callB (lenK (K := K) rfl) (by rfl) T.n_len (by decide +kernel) (pa_cons (fldK (K := K) rfl (pv 0) rfl) pa_nil)) pe_int)))))))), ?_⟩
  refine run (Γ := [.v (.ref a.b), .d r, .d t, .d st, .d af, .d p, .un]) (Oi := [bd K T.c_Board T.c_Job a S]) A0 rfl ?_
  refine n_seq ?_; refine (n_dropX (a_cons (e_fld (e_var (i := 0) rfl rfl) (fld_bd (n := 0) 0 rfl T.cl_Board T.na_Board_budget (by decide +kernel) rfl rfl)) (a_cons (e_var (i := 1) rfl rfl) (a_cons (e_var (i := 2) rfl rfl) (a_cons (e_var (i := 3) rfl rfl) (a_cons (e_var (i := 5) rfl rfl) a_nil))))) (c_need_job T) (fun h1 => ?_) (fun C hC => ?_))
  rotate_left
  · by_cases z : jobOkD S.budget r t st p = true
    · rw [if_pos z] at hC; cases hC
    · rw [if_neg z] at hC
      cases hC
      exact n_err kx (by show Option.map _ (addE S r t st af p) = _; unfold addE; rw [if_neg z]; rfl) (.cons bd_bdx .nil) (Bl.refl _)
  have ok1 : jobOkD S.budget r t st p = true := by
    by_cases z : jobOkD S.budget r t st p = true
    · exact z
    · rw [if_neg z] at h1; cases h1
  clear h1
  by_cases hT : isTupD af = true
  rotate_left
  · have hF : isTupD af = false := by simpa using hT
    refine n_seq ?_; refine (n_when (b := true) (et_is (t_or (b := false) (t_not (t_B (e_cb (a_cons (e_var (i := 4) rfl rfl) (a_cons e_cv a_nil)) (cd_isTup .dat)))) (fun hh => by rw [hF] at hh; cases hh)) (by rw [hF]; rfl)) (fun _ => ?_) (fun hb => by cases hb))
    refine n_err kx ?_ (.cons bd_bdx .nil) (Bl.refl _)
    show Option.map _ (addE S r t st af p) = _
    unfold addE
    rw [if_pos ok1]
    cases af <;> first | rfl | (simp [isTupD] at hF)
  obtain ⟨ds, rfl⟩ := isTup_of hT
  refine n_seq ?_; refine (n_when (t_or (t_not (t_B (e_cb (a_cons (e_var (i := 4) rfl rfl) (a_cons e_cv a_nil)) (by walk_at "cb")))) (fun hh => (t_T (e_op (e_cb (a_cons (e_var (i := 4) rfl rfl) a_nil) (by walk_at "cb")) e_int (by walk_at "od"))))) (fun hb => ?_) (fun hb => ?_))
  · have hb2 : decide ((20 : Int) < (ds.length : Int)) = true := hb
    have hb3 : ¬ ds.length ≤ 20 := by have := of_decide_eq_true hb2; omega
    refine n_err kx ?_ (.cons bd_bdx .nil) (Bl.refl _)
    show Option.map _ (addE S r t st (.tuple ds) p) = _
    unfold addE
    rw [if_pos ok1]
    dsimp only
    rw [if_neg hb3]; rfl
  have h20 : ds.length ≤ 20 := by
    have hb2 : decide ((20 : Int) < (ds.length : Int)) = false := hb
    have := of_decide_eq_false hb2
    omega
  clear hb
  have e0 : addE S r t st (.tuple ds) p = (afterE S ds).or (if S.opens.length = 20 then some .full else none) := by
    unfold addE; rw [if_pos ok1]; dsimp only; rw [if_pos h20]
  refine n_seq ?_
  refine n_for (it_tup (e_var (i := 4) rfl rfl)) (fun _ => tg_name) (fun i Γ Os => afterE S ds = afterE S (ds.drop i) ∧ Γ = [.v (.ref a.b), .d r, .d t, .d st, .d (.tuple ds), .d p, .un] ∧ Os = [bd K T.c_Board T.c_Job a S]) ⟨rfl, rfl, rfl⟩ (fun _ _ _ _ => trivial) (fun B2 hB2 i Γ Os hi h => ?_) (fun Γ Os h => ?_)
  · obtain ⟨ha, rfl, rfl⟩ := h
    have hd : ds.drop i = (ds[i]?.getD .none) :: ds.drop (i + 1) := by rw [List.drop_eq_getElem_cons hi, List.getElem?_eq_getElem hi]; rfl
    rw [hd] at ha
    generalize hq : ds[i]?.getD .none = d at ha hd
    refine n_gam (Γ' := [.v (.ref a.b), .d r, .d t, .d st, .d (.tuple ds), .d p, .d d]) (by show [_, _, _, _, _, _, getD ds i] = _; unfold getD; rw [hq]) ?_
    refine n_seq ?_; refine (n_dropMX (e_var (i := 0) rfl rfl) (ins_bd 0 rfl (by decide +kernel)) (a_cons (e_var (i := 6) rfl rfl) a_nil) (c_Board_need T 0 rfl) (fun h1 => ?_) (fun C hC => ?_))
    rotate_left
    · by_cases z : isWhole d 0 ((S.jobs.length : Int) - 1) = true
      · rw [if_pos z] at hC; cases hC
      · rw [if_neg z] at hC
        cases hC
        refine n_err kx ?_ (.cons bd_bdx .nil) hB2
        show Option.map _ (addE S r t st (.tuple ds) p) = _
        rw [e0, ha]
        unfold afterE
        rw [if_neg z]; rfl
    have okd : isWhole d 0 ((S.jobs.length : Int) - 1) = true := by
      by_cases z : isWhole d 0 ((S.jobs.length : Int) - 1) = true
      · exact z
      · rw [if_neg z] at h1; cases h1
    obtain ⟨n, rfl, hn0⟩ := isWhole_nat okd
    obtain ⟨hj, hJ⟩ := js_of hl hn0
    refine n_when (t_B (e_fld (e_op (e_fld (e_var (i := 0) rfl rfl) (fld_bd (n := 2) 0 rfl T.cl_Board T.na_Board_jobs (by decide +kernel) rfl rfl)) (e_var (i := 6) rfl rfl) (od_jobs 0 rfl (atI_nat hj))) (fld_job (n := 9) 0 rfl hj hJ T.cl_Job T.na_Job_gone (by decide +kernel) rfl rfl))) (fun hb => ?_) (fun hb => ?_)
    · refine n_err kx ?_ (.cons bd_bdx .nil) hB2
      show Option.map _ (addE S r t st (.tuple ds) p) = _
      rw [e0, ha]
      unfold afterE
      rw [if_pos okd, if_pos (show (S.jb (natD (.int (n : Int)))).gone = true from hb)]; rfl
    · refine r_inv _ _ ⟨?_, rfl, rfl⟩ (.eq (.eq (.eq (.eq (.eq (.eq (.un .nil))))))) (Ole.refl _)
      rw [ha]
      show afterE S (PyData.int (n : Int) :: ds.drop (i + 1)) = _
      rw [afterE, if_pos okd, if_neg (show ¬ (S.jb (natD (.int (n : Int)))).gone = true from by rw [show (S.jb (natD (.int (n : Int)))).gone = false from hb]; simp)]
  · obtain ⟨ha, rfl, rfl⟩ := h
    rw [List.drop_length] at ha
    rw [ha] at e0
    refine n_seq ?_; refine (n_when (t_T (e_op (e_lenV (ev_meth (e_var (i := 0) rfl rfl) (ins_bd 0 rfl (by decide +kernel)) a_nil (c_Board_open_jobs T 0 rfl ok))) e_int (od_eq .dat .dat rfl rfl))) (fun hb => ?_) (fun hb => ?_))
    · have hb2 : PyData.eqv (.int ((S.opens.map (jr a)).length : Int)) (.int 20) = true := hb
      have hb3 : S.opens.length = 20 := by rw [List.length_map] at hb2; have : ((S.opens.length : Int)) = 20 := by simpa [PyData.eqv] using hb2
                                           omega
      refine n_err kx ?_ (.cons bd_bdx .nil) (Bl.refl _)
      show Option.map _ (addE S r t st (.tuple ds) p) = _
      rw [e0, if_pos hb3]; rfl
    · have hb2 : PyData.eqv (.int ((S.opens.map (jr a)).length : Int)) (.int 20) = false := hb
      have hb3 : ¬ S.opens.length = 20 := fun z => by rw [List.length_map, z] at hb2; simp [PyData.eqv] at hb2
      rw [if_neg hb3] at e0
      obtain ⟨f1, f2, f3, f4, f5⟩ := jobOf_eq ok1 ha
      refine n_seq ?_
      refine n_appJ 0 (e_fld (e_var (i := 0) rfl rfl) (fld_bd (n := 2) 0 rfl T.cl_Board T.na_Board_jobs (by decide +kernel) rfl rfl)) (e_make (a_cons (e_cb (a_cons (e_fld (e_var (i := 0) rfl rfl) (fld_bd (n := 2) 0 rfl T.cl_Board T.na_Board_jobs (by decide +kernel) rfl rfl)) a_nil) (by walk_at "cb")) (a_cons (e_is (e_var (i := 1) rfl rfl) (congrArg SD.d f1)) (a_cons (e_is (e_var (i := 2) rfl rfl) (congrArg SD.d f2)) (a_cons (e_is (e_var (i := 3) rfl rfl) (congrArg SD.d f3)) (a_cons (e_is (e_var (i := 4) rfl rfl) (congrArg SD.d f4)) (a_cons (e_is (e_var (i := 5) rfl rfl) (congrArg SD.d f5)) a_nil)))))) (fun x => c_Job_init T ⟨rfl, rfl, rfl, rfl⟩)) rfl rfl (by omega) (fun x => ?_)
      refine n_own (Os1 := [bd K T.c_Board T.c_Job { a with js := a.js ++ [x] } (S.addS (jobOf r t st (.tuple ds) p))]) rfl ?_
      refine r_ret (e_op (e_cb (a_cons (e_fld (e_var (i := 0) rfl rfl) (fld_bd (a := { a with js := a.js ++ [x] }) (n := 2) 0 rfl T.cl_Board T.na_Board_jobs (by decide +kernel) rfl rfl)) a_nil) (cd_lenJ (a := { a with js := a.js ++ [x] }) 0 rfl)) e_int od_sub) (k (by show Option.map _ (addE S r t st (.tuple ds) p) = _; rw [e0]; rfl)) ?_ (.cons bd_bdx .nil) (Bl.refl _)
      show SD.d (.int (((S.jobs ++ [_]).length : Int) - 1)) = .d (.int (S.jobs.length : Int))
      rw [List.length_append, List.length_singleton]
      congr 2; omega
theorem c_Board_add (T : Tx K mg w) {Os : List Own} {X : XK} {b : Addr} {S : Bd} {r t st af p : PyData} (i : Nat) (h : Os[i]? = some (bdx K T.c_Board T.c_Job b S)) (ok : S.Ok) : CaX K Os (sp_Board_add T).sp [.v (.ref b), .d r, .d t, .d st, .d af, .d p] X ((addE S r t st af p).map (ekA T)) (.d (.int S.jobs.length)) (Os.set i (bdx K T.c_Board T.c_Job b (S.addS (jobOf r t st af p)))) Os := cx_bdx i h fun a e => by
  subst e
  have := cx1 (p := sp_Board_add T) (Os := Os.set i (bd K T.c_Board T.c_Job a S)) (X := X) i ((a, S), r, t, st, af, p) (List.getElem?_set_self (List.getElem?_eq_some_iff.mp h).1) ok rfl rfl rfl rfl rfl rfl
  rw [List.set_set, List.set_set] at this
  exact this
theorem c_Board_addV (T : Tx K mg w) {Os : List Own} {b : Addr} {S : Bd} {r t st af p : PyData} (i : Nat) (h : Os[i]? = some (bdx K T.c_Board T.c_Job b S)) (ok : S.Ok) (e : addE S r t st af p = none) : CaD K Os (sp_Board_add T).sp [.v (.ref b), .d r, .d t, .d st, .d af, .d p] (.d (.int S.jobs.length)) (Os.set i (bdx K T.c_Board T.c_Job b (S.addS (jobOf r t st af p)))) := caX_D (fun X => c_Board_add T i h ok) (by rw [e]; rfl)
theorem afterE_nats {S : Bd} : ∀ {af : List Nat}, (∀ o ∈ af, o < S.jobs.length ∧ (S.jb o).gone = false) → afterE S (af.map fun (n : Nat) => PyData.int (n : Int)) = none
  | [], _ => rfl
  | o :: af, h => by
    obtain ⟨h1, h2⟩ := h o (by simp)
    show afterE S (PyData.int (o : Int) :: af.map fun (n : Nat) => PyData.int (n : Int)) = none
    rw [afterE, if_pos (show isWhole (.int (o : Int)) 0 ((S.jobs.length : Int) - 1) = true by simp [isWhole]; omega), if_neg (show ¬ (S.jb (natD (.int (o : Int)))).gone = true by rw [show natD (.int (o : Int)) = o from Int.toNat_natCast o, h2]; simp)]
    exact afterE_nats fun x hx => h x (by simp [hx])
theorem arePartsI {ps : List Int} {bu : Int} (h1 : 1 ≤ ps.length) (h8 : ps.length ≤ 8) (hp : ∀ p ∈ ps, 1 ≤ p ∧ p ≤ bu) : arePartsD (tupI ps) bu = true := by
  simp only [tupI, arePartsD, Bool.and_eq_true, List.all_eq_true, decide_eq_true_eq, List.length_map]
  refine ⟨⟨h1, h8⟩, fun d hd => ?_⟩
  obtain ⟨x, hx, rfl⟩ := List.mem_map.mp hd
  have := hp x hx
  simp [isWhole]; omega
theorem addE_ok {S : Bd} {r st : Int} {t : PyData} {af : List Nat} {ps : List Int} (hr : 0 ≤ r ∧ r ≤ 4) (ht : (isNone t || isWhole t 0 10000) = true) (hs : 0 ≤ st ∧ st ≤ 10000) (ha : af.length ≤ 20) (ha2 : ∀ o ∈ af, o < S.jobs.length ∧ (S.jb o).gone = false)
    (h1 : 1 ≤ ps.length) (h8 : ps.length ≤ 8) (hp : ∀ p ∈ ps, 1 ≤ p ∧ p ≤ S.budget) (ho : S.opens.length ≠ 20) : addE S (.int r) t (.int st) (tupN af) (tupI ps) = none := by
  unfold addE
  rw [if_pos (by
    unfold jobOkD
    rw [ht, arePartsI h1 h8 hp]
    have a : isWhole (.int r) 0 4 = true := by simp [isWhole]; omega
    have b : isWhole (.int st) 0 10000 = true := by simp [isWhole]; omega
    rw [a, b]; rfl)]
  show (if (af.map fun (n : Nat) => PyData.int (n : Int)).length ≤ 20 then (afterE S (af.map fun (n : Nat) => PyData.int (n : Int))).or (if S.opens.length = 20 then some Ek.full else none) else some Ek.noJob) = none
  rw [if_pos (by rw [List.length_map]; exact ha), afterE_nats ha2, if_neg ho]; rfl
theorem jobOf_mk (r st : Int) (t : Option Int) (af : List Nat) (ps : List Int) : jobOf (.int r) (oD t) (.int st) (tupN af) (tupI ps) = ⟨r, t, st, af, ps, 0, 0, none, false⟩ := by
  unfold jobOf tupN tupI tupL
  dsimp only
  rw [List.map_map, List.map_map]
  have e1 : af.map (natD ∘ fun (n : Nat) => PyData.int (n : Int)) = af := by
    conv => rhs; rw [← List.map_id af]
    exact List.map_congr_left fun n _ => Int.toNat_natCast n
  have e2 : ps.map (intD ∘ PyData.int) = ps := by
    conv => rhs; rw [← List.map_id ps]
    exact List.map_congr_left fun n _ => rfl
  rw [e1, e2]
  cases t <;> rfl
theorem opens_le (S : Bd) : S.opens.length ≤ S.jobs.length := by
  refine Nat.le_trans (List.length_filter_le _ _) ?_
  rw [List.length_range]; exact Nat.le_refl _
theorem term_ok {t : Option Int} (h : ∀ x, t = some x → 0 ≤ x ∧ x ≤ 10000) : (isNone (oD t) || isWhole (oD t) 0 10000) = true := by
  cases t with
  | none => rfl
  | some x => have := h x rfl; simp [oD, isNone, isWhole]; omega
end
end Cw

namespace Cw
open PySem L2

local macro_rules | `(tactic| walk_at "vw") => `(tactic| first | exact Vw.dat | exact Vw.own 0 rfl | exact Vw.own 1 rfl | exact Vw.own 2 rfl | exact Vw.own 3 rfl | exact Vw.own 4 rfl | exact Vw.own 5 rfl | exact Vw.own 6 rfl | exact Vw.own 7 rfl)
local macro_rules | `(tactic| walk_at "ar") => `(tactic| first | assumption | decide | omega)
local macro_rules | `(tactic| walk_at "ix") => `(tactic| first | assumption | rfl)
local macro_rules | `(tactic| walk_at "sh") => `(tactic| first | assumption | rfl)
local macro_rules | `(tactic| walk_at "cm") => `(tactic| first | exact Or.inr ⟨by decide, by decide⟩ | exact Or.inl ⟨by decide, by decide⟩ | (unfold CMul; omega))
local macro_rules | `(tactic| walk_at "cd") => `(tactic| first | exact ⟨by decide, by decide⟩ | exact ⟨by omega, by omega⟩)
local macro_rules | `(tactic| walk_at "lim") => `(tactic| first | assumption | omega | (simp only [List.length_append, List.length_cons, List.length_nil, List.length_replicate, List.length_map]; omega) | decide)
local macro_rules | `(tactic| walk_at "od") => `(tactic| first
  | exact od_add | exact od_sub | exact od_lt | exact od_le | exact od_gt | exact od_ge | exact od_isn | exact od_notn
  | exact od_mul (by walk_at "cm") | exact od_mod (by walk_at "ar") | exact od_fdiv (by walk_at "cd")
  | exact od_eq (by walk_at "vw") (by walk_at "vw") (by walk_at "sh") (by walk_at "sh") | exact od_l (od_ne (by walk_at "vw") (by walk_at "vw") (by walk_at "sh") (by walk_at "sh"))
  | exact od_ixT (by walk_at "ix") | exact od_ixL (by walk_at "vw") (by walk_at "ix") | exact od_addT (by walk_at "lim") | exact od_repT (by walk_at "lim") (by walk_at "lim") (by walk_at "lim")
  | exact od_jobs 0 rfl (by assumption) | exact od_ixV 1 rfl (by assumption)
  | exact od_in (by walk_at "vw") (by walk_at "vw") (by walk_at "sh") (by walk_at "sh") | exact od_nin (by walk_at "vw") (by walk_at "vw") (by walk_at "sh") (by walk_at "sh"))
local macro_rules | `(tactic| walk_at "ins") => `(tactic| first | exact ins_bd 0 rfl (by decide +kernel) | exact ins_bdx 0 rfl (by decide +kernel) | exact ins_bdx 1 rfl (by decide +kernel) | exact ins_bdx 2 rfl (by decide +kernel) | exact ins_bdx 3 rfl (by decide +kernel))
local macro_rules | `(tactic| walk_at "cb") => `(tactic| first
  | exact cd_lenT | exact cd_lenL (by walk_at "vw") | exact cd_isInt (by walk_at "vw") | exact cd_isBool (by walk_at "vw") | exact cd_isTup (by walk_at "vw") | exact cd_isLst (by walk_at "vw") | exact cd_isStr (by walk_at "vw")
  | exact cd_all (by walk_at "vw") | exact cd_any (by walk_at "vw") | exact cd_sum (by walk_at "vw") | exact cd_tupL (by walk_at "vw") | exact cl_listL (by walk_at "vw") | exact cd_lenJ 0 rfl | exact cl_spent 0 rfl | exact cd_spentT 0 rfl | exact cd_intB | exact cd_max2 | exact cd_min2)

section
variable {P : Program} {w : World} {K : Fr} {mg : Str → Option Value} {base : Heap}
def sp_Board_waited (T : Tx K mg w) : Pm K (BA × Bd × PyData) := ⟨fun g => g.2.1.Ok, fun g => [.v (.ref g.1.b), .d g.2.2], fun g => [bd K T.c_Board T.c_Job g.1 g.2.1], fun g => .d (.int (g.2.1.jb (natD g.2.2)).idle), fun g => [bd K T.c_Board T.c_Job g.1 g.2.1], fun g => if isWhole g.2.2 0 ((g.2.1.jobs.length : Int) - 1) = true then none else some T.c_NoNumber, fun g => [bd K T.c_Board T.c_Job g.1 g.2.1]⟩
theorem ok_Board_waited (T : Tx K mg w) : FnOk P w K mg base (L2.CX P w) 3 T.a_Board_waited T.fd_Board_waited ["self", "number"] (sp_Board_waited T).sp := by
  refine T.F_Board_waited.okX sc_Board_waited ((sp_Board_waited T).len fun _ => rfl) (fun cdv A outer s H vs Q EX hr h => ?_)
  obtain ⟨⟨a, S, d⟩, B, F, hp, A0, hB, k, kx⟩ := h
  have ok : S.Ok := hp
  have hn := ok.n
  have hl : a.js.length = S.jobs.length := (At.bdIn (i := 0) A0 rfl).len
  refine ⟨_, (pss_cons (ps_expr (pe_meth (pv 0) T.cl_Board T.M_Board_need (ok_Board_need T) (hr.mono (by decide)) T.b_Board_need .nil (passes_call (takes_of rfl rfl rfl rfl) (fun _ _ _ _ h => h)) (pa_cons (pv 1) pa_nil))) (pss_one (ps_ret (fldK (K := K) rfl (by exact (pe_ix (ixK (K := K) rfl) (fldK (K := K) rfl (pv 0) rfl) (pv 1) (fun _ _ => rfl))) rfl)))), ?_⟩
  refine run (Γ := [.v (.ref a.b), .d d]) (Oi := [bd K T.c_Board T.c_Job a S]) A0 rfl ?_
  refine n_seq ?_; refine (n_dropMX (e_var (i := 0) rfl rfl) (ins_bd 0 rfl (by decide +kernel)) (a_cons (e_var (i := 1) rfl rfl) a_nil) (c_Board_need T 0 rfl) (fun h1 => ?_) (fun C hC => ?_))
  · have okd : isWhole d 0 ((S.jobs.length : Int) - 1) = true := by
      by_cases z : isWhole d 0 ((S.jobs.length : Int) - 1) = true
      · exact z
      · rw [if_neg z] at h1; cases h1
    obtain ⟨n, rfl, hn0⟩ := isWhole_nat okd
    obtain ⟨hj, hJ⟩ := js_of hl hn0
    exact r_ret (e_fld (e_op (e_fld (e_var (i := 0) rfl rfl) (fld_bd (n := 2) 0 rfl T.cl_Board T.na_Board_jobs (by decide +kernel) rfl rfl)) (e_var (i := 1) rfl rfl) (od_jobs 0 rfl (atI_nat hj))) (fld_job (n := 7) 0 rfl (by assumption) (by assumption) T.cl_Job T.na_Job_idle (by decide +kernel) rfl rfl)) (k (if_pos okd)) rfl (Ole.refl _) (Bl.refl _)
  · by_cases z : isWhole d 0 ((S.jobs.length : Int) - 1) = true
    · rw [if_pos z] at hC; cases hC
    · rw [if_neg z] at hC
      cases hC
      exact n_err kx (if_neg z) (Ole.refl _) (Bl.refl _)
theorem c_Board_waited (T : Tx K mg w) {Os : List Own} {X : XK} {b : Addr} {S : Bd} {d : PyData} (i : Nat) (h : Os[i]? = some (bdx K T.c_Board T.c_Job b S)) (ok : S.Ok) : CaX K Os (sp_Board_waited T).sp [.v (.ref b), .d d] X (if isWhole d 0 ((S.jobs.length : Int) - 1) = true then none else some T.c_NoNumber) (.d (.int (S.jb (natD d)).idle)) Os Os := cx_bdxR i h fun a e => by
  subst e
  exact cx1s i (a, S, d) (List.getElem?_set_self (List.getElem?_eq_some_iff.mp h).1) ok rfl rfl rfl rfl rfl rfl
theorem c_Board_waitedV (T : Tx K mg w) {Os : List Own} {b : Addr} {S : Bd} {n : Nat} (i : Nat) (h : Os[i]? = some (bdx K T.c_Board T.c_Job b S)) (ok : S.Ok) (hn : n < S.jobs.length) : CaD K Os (sp_Board_waited T).sp [.v (.ref b), .d (.int (n : Int))] (.d (.int (S.jb n).idle)) Os :=
  caX_D (fun X => c_Board_waited T (d := .int (n : Int)) i h ok) (if_pos (by simp [isWhole]; omega))
def sp_Board_used (T : Tx K mg w) : Pl K (BA × Bd) := roL (fun _ => True) (fun g => [.v (.ref g.1.b)]) (fun g => bd K T.c_Board T.c_Job g.1 g.2) (fun g => g.2.spent.map .int)
theorem ok_Board_used (T : Tx K mg w) : FnOk P w K mg base (L2.CX P w) 1 T.a_Board_used T.fd_Board_used ["self"] (sp_Board_used T).sp := by
  refine T.F_Board_used.okX sc_Board_used ((sp_Board_used T).len fun _ => rfl) (fun cdv A outer s H vs Q EX hr h => ?_)
  obtain ⟨⟨a, S⟩, B, F, hp, A0, hB, k, kx⟩ := h
  refine ⟨_, (pss_one (ps_ret (pe_callTy (listK (K := K) rfl) (by rfl) T.n_list (by decide +kernel) (pa_cons (fldK (K := K) rfl (pv 0) rfl) pa_nil)))), ?_⟩
  refine run (Γ := [.v (.ref a.b)]) (Oi := [bd K T.c_Board T.c_Job a S]) A0 rfl ?_
  exact r_retL (el_cb (a_cons (e_fld (e_var (i := 0) rfl rfl) (fld_bd (n := 4) 0 rfl T.cl_Board T.na_Board_spent (by decide +kernel) rfl rfl)) a_nil) (by walk_at "cb")) (k rfl) rfl (Ole.refl _) (Bl.refl _)
theorem x_Board_used (T : Tx K mg w) {Os : List Own} {b : Addr} {S : Bd} (i : Nat) (h : Os[i]? = some (bdx K T.c_Board T.c_Job b S)) : CaL K Os (sp_Board_used T).sp [.v (.ref b)] (S.spent.map .int) Os := cl_bdxR i h fun a e => by
  subst e
  exact cl1s i (a, S) (List.getElem?_set_self (List.getElem?_eq_some_iff.mp h).1) trivial rfl rfl rfl rfl rfl
def sp_Board_now (T : Tx K mg w) : Pm K (BA × Bd) := roP (fun _ => True) (fun g => [.v (.ref g.1.b)]) (fun g => bd K T.c_Board T.c_Job g.1 g.2) (fun g => .d (.int g.2.frames))
theorem ok_Board_now (T : Tx K mg w) : FnOk P w K mg base (L2.CX P w) 1 T.a_Board_now T.fd_Board_now ["self"] (sp_Board_now T).sp := by
  refine T.F_Board_now.okX sc_Board_now ((sp_Board_now T).len fun _ => rfl) (fun cdv A outer s H vs Q EX hr h => ?_)
  obtain ⟨⟨a, S⟩, B, F, hp, A0, hB, k, kx⟩ := h
  refine ⟨_, (pss_one (ps_ret (fldK (K := K) rfl (pv 0) rfl))), ?_⟩
  refine run (Γ := [.v (.ref a.b)]) (Oi := [bd K T.c_Board T.c_Job a S]) A0 rfl ?_
  exact r_ret (e_fld (e_var (i := 0) rfl rfl) (fld_bd (n := 3) 0 rfl T.cl_Board T.na_Board_frames (by decide +kernel) rfl rfl)) (k rfl) rfl (Ole.refl _) (Bl.refl _)
theorem x_Board_now (T : Tx K mg w) {Os : List Own} {b : Addr} {S : Bd} (i : Nat) (h : Os[i]? = some (bdx K T.c_Board T.c_Job b S)) : CaD K Os (sp_Board_now T).sp [.v (.ref b)] (.d (.int S.frames)) Os := ca_bdxR i h fun a e => by
  subst e
  exact ca1s i (a, S) (List.getElem?_set_self (List.getElem?_eq_some_iff.mp h).1) trivial rfl rfl rfl rfl rfl
def lateS (S : Bd) (J : Jb) : Bool := match J.fin with
  | some e => lateB J.term e
  | none => !J.gone && lateB J.term S.frames
def sp_Board_is_late (T : Tx K mg w) : Pm K (BA × Bd × PyData) := ⟨fun g => g.2.1.Ok, fun g => [.v (.ref g.1.b), .d g.2.2], fun g => [bd K T.c_Board T.c_Job g.1 g.2.1], fun g => .d (.bool (lateS g.2.1 (g.2.1.jb (natD g.2.2)))), fun g => [bd K T.c_Board T.c_Job g.1 g.2.1], fun g => if isWhole g.2.2 0 ((g.2.1.jobs.length : Int) - 1) = true then none else some T.c_NoNumber, fun g => [bd K T.c_Board T.c_Job g.1 g.2.1]⟩
theorem ok_Board_is_late (T : Tx K mg w) : FnOk P w K mg base (L2.CX P w) 3 T.a_Board_is_late T.fd_Board_is_late ["self", "number"] (sp_Board_is_late T).sp := by
  refine T.F_Board_is_late.okX sc_Board_is_late ((sp_Board_is_late T).len fun _ => rfl) (fun cdv A outer s H vs Q EX hr h => ?_)
  obtain ⟨⟨a, S, d⟩, B, F, hp, A0, hB, k, kx⟩ := h
  have ok : S.Ok := hp
  have hn := ok.n
  have hl : a.js.length = S.jobs.length := (At.bdIn (i := 0) A0 rfl).len
  refine ⟨_, (pss_cons (ps_expr (pe_meth (pv 0) T.cl_Board T.M_Board_need (ok_Board_need T) (hr.mono (by decide)) T.b_Board_need .nil (passes_call (takes_of rfl rfl rfl rfl) (fun _ _ _ _ h => h)) (pa_cons (pv 1) pa_nil))) (pss_cons (ps_set (i := 2) sc_Board_is_late.nd rfl (by first | exact Or.inl rfl | exact Or.inr rfl) (pe_ix (ixK (K := K) rfl) (fldK (K := K) rfl (pv 0) rfl) (pv 1) (fun _ _ => rfl))) (pss_cons (ps_if (pt_cmpR op_notn (fldK (K := K) rfl (pv 2) rfl) pe_non (nomark _)) (pss_one (ps_ret (pe_meth (pv 2) T.cl_Job T.M_Job_is_late (ok_Job_is_late T) (hr.mono (by decide)) T.b_Job_is_late .nil (passes_call (takes_of rfl rfl rfl rfl) (fun _ _ _ _ h => h)) (pa_cons (fldK (K := K) rfl (pv 2) rfl) pa_nil)))) pss_nil) (pss_one (ps_ret (pe_and (pe_not (fldK (K := K) rfl (pv 2) rfl)) (pe_one (pe_meth (pv 2) T.cl_Job T.M_Job_is_late (ok_Job_is_late T) (hr.mono (by decide)) T.b_Job_is_late .nil (passes_call (takes_of rfl rfl rfl rfl) (fun _ _ _ _ h => h)) (pa_cons (fldK (K := K) rfl (pv 0) rfl) pa_nil))))))))), ?_⟩
  refine run (Γ := [.v (.ref a.b), .d d, .un]) (Oi := [bd K T.c_Board T.c_Job a S]) A0 rfl ?_
  refine n_seq ?_; refine (n_dropMX (e_var (i := 0) rfl rfl) (ins_bd 0 rfl (by decide +kernel)) (a_cons (e_var (i := 1) rfl rfl) a_nil) (c_Board_need T 0 rfl) (fun h1 => ?_) (fun C hC => ?_))
  · have okd : isWhole d 0 ((S.jobs.length : Int) - 1) = true := by
      by_cases z : isWhole d 0 ((S.jobs.length : Int) - 1) = true
      · exact z
      · rw [if_neg z] at h1; cases h1
    obtain ⟨n, rfl, hn0⟩ := isWhole_nat okd
    obtain ⟨hj, hJ⟩ := js_of hl hn0
    refine n_seq ?_; refine (n_asg (e_op (e_fld (e_var (i := 0) rfl rfl) (fld_bd (n := 2) 0 rfl T.cl_Board T.na_Board_jobs (by decide +kernel) rfl rfl)) (e_var (i := 1) rfl rfl) (od_jobs 0 rfl (atI_nat hj))) ?_)
    refine n_seq ?_; refine (n_when (t_T (e_op (e_fld (e_var (i := 2) rfl rfl) (fld_job (n := 8) 0 rfl hj hJ T.cl_Job T.na_Job_end (by decide +kernel) rfl rfl)) e_non od_notn)) (fun hb => ?_) (fun hb => ?_))
    · have hb : (!isNone (oD (S.jb n).fin)) = true := hb
      obtain ⟨e, he⟩ : ∃ e, (S.jb n).fin = some e := by
        cases q : (S.jb n).fin with
        | none => rw [q] at hb; cases hb
        | some e => exact ⟨e, rfl⟩
      refine r_ret (e_meth (e_var (i := 2) rfl rfl) (ins_job 0 rfl (by assumption) (by assumption) (by decide +kernel)) (a_cons (e_is (s' := .d (.int e)) (e_fld (e_var (i := 2) rfl rfl) (fld_job (n := 8) 0 rfl hj hJ T.cl_Job T.na_Job_end (by decide +kernel) rfl rfl)) (by rw [he]; rfl)) a_nil) (c_Job_is_late T 0 rfl (by assumption) (by assumption))) (k (if_pos okd)) ?_ (Ole.refl _) (Bl.refl _)
      show _ = SD.d (.bool (lateS S (S.jb n)))
      unfold lateS; rw [he]
    · have hb : (!isNone (oD (S.jb n).fin)) = false := hb
      have he : (S.jb n).fin = none := by
        cases q : (S.jb n).fin with
        | none => rfl
        | some e => rw [q] at hb; cases hb
      refine r_ret (e_andV (e_notV (e_fld (e_var (i := 2) rfl rfl) (fld_job (n := 9) 0 rfl (by assumption) (by assumption) T.cl_Job T.na_Job_gone (by decide +kernel) rfl rfl))) (fun hh => (e_meth (e_var (i := 2) rfl rfl) (ins_job 0 rfl (by assumption) (by assumption) (by decide +kernel)) (a_cons (e_fld (e_var (i := 0) rfl rfl) (fld_bd (n := 3) 0 rfl T.cl_Board T.na_Board_frames (by decide +kernel) rfl rfl)) a_nil) (c_Job_is_late T 0 rfl (by assumption) (by assumption))))) (k (if_pos okd)) ?_ (Ole.refl _) (Bl.refl _)
      show _ = SD.d (.bool (lateS S (S.jb n)))
      unfold lateS; rw [he]
  · by_cases z : isWhole d 0 ((S.jobs.length : Int) - 1) = true
    · rw [if_pos z] at hC; cases hC
    · rw [if_neg z] at hC
      cases hC
      exact n_err kx (if_neg z) (Ole.refl _) (Bl.refl _)
theorem c_Board_is_late (T : Tx K mg w) {Os : List Own} {X : XK} {b : Addr} {S : Bd} {d : PyData} (i : Nat) (h : Os[i]? = some (bdx K T.c_Board T.c_Job b S)) (ok : S.Ok) : CaX K Os (sp_Board_is_late T).sp [.v (.ref b), .d d] X (if isWhole d 0 ((S.jobs.length : Int) - 1) = true then none else some T.c_NoNumber) (.d (.bool (lateS S (S.jb (natD d))))) Os Os := cx_bdxR i h fun a e => by
  subst e
  exact cx1s i (a, S, d) (List.getElem?_set_self (List.getElem?_eq_some_iff.mp h).1) ok rfl rfl rfl rfl rfl rfl
theorem c_Board_is_lateV (T : Tx K mg w) {Os : List Own} {b : Addr} {S : Bd} {n : Nat} (i : Nat) (h : Os[i]? = some (bdx K T.c_Board T.c_Job b S)) (ok : S.Ok) (hn : n < S.jobs.length) : CaD K Os (sp_Board_is_late T).sp [.v (.ref b), .d (.int (n : Int))] (.d (.bool (lateS S (S.jb n)))) Os :=
  caX_D (fun X => c_Board_is_late T (d := .int (n : Int)) i h ok) (if_pos (by simp [isWhole]; omega))
def openE (S : Bd) (d : PyData) : Option Ek := if isWhole d 0 ((S.jobs.length : Int) - 1) = true then (if (S.jb (natD d)).isOpen = true then none else some .over) else some .noNum
def ekO (T : Tx K mg w) : Ek → Addr
  | .over => T.c_Over
  | _ => T.c_NoNumber
def sp_Board_need_open (T : Tx K mg w) : Pm K (BA × Bd × PyData) := ⟨fun _ => True, fun g => [.v (.ref g.1.b), .d g.2.2], fun g => [bd K T.c_Board T.c_Job g.1 g.2.1], fun _ => .d .none, fun g => [bd K T.c_Board T.c_Job g.1 g.2.1], fun g => (openE g.2.1 g.2.2).map (ekO T), fun g => [bd K T.c_Board T.c_Job g.1 g.2.1]⟩
theorem ok_Board_need_open (T : Tx K mg w) : FnOk P w K mg base (L2.CX P w) 3 T.a_Board_need_open T.fd_Board_need_open ["self", "number"] (sp_Board_need_open T).sp := by
  refine T.F_Board_need_open.okX sc_Board_need_open ((sp_Board_need_open T).len fun _ => rfl) (fun cdv A outer s H vs Q EX hr h => ?_)
  obtain ⟨⟨a, S, d⟩, B, F, hp, A0, hB, k, kx⟩ := h
  have hl : a.js.length = S.jobs.length := (At.bdIn (i := 0) A0 rfl).len
  refine ⟨_, (pss_cons (ps_expr (pe_meth (pv 0) T.cl_Board T.M_Board_need (ok_Board_need T) (hr.mono (by decide)) T.b_Board_need .nil (passes_call (takes_of rfl rfl rfl rfl) (fun _ _ _ _ h => h)) (pa_cons (pv 1) pa_nil))) (pss_one (ps_if (pt_not (pt_val (pe_meth0 (pe_ix (ixK (K := K) rfl) (fldK (K := K) rfl (pv 0) rfl) (pv 1) (fun _ _ => rfl)) T.cl_Job T.M_Job_is_open (ok_Job_is_open T) (hr.mono (by decide)) T.b_Job_is_open .nil (passes_call (takes_of rfl rfl rfl rfl) (fun _ _ _ _ h => h))))) (pss_one (ps_raise rfl (takes_of rfl rfl rfl rfl) (pmk_own PySem.F.excBase_ValueError T.x_Over T.m_Over T.k_Over (raises_own T.b_Over T.t_Over) rfl))) pss_nil))), ?_⟩
  refine run (Γ := [.v (.ref a.b), .d d]) (Oi := [bd K T.c_Board T.c_Job a S]) A0 rfl ?_
  refine n_seq ?_; refine (n_dropMX (e_var (i := 0) rfl rfl) (ins_bd 0 rfl (by decide +kernel)) (a_cons (e_var (i := 1) rfl rfl) a_nil) (c_Board_need T 0 rfl) (fun h1 => ?_) (fun C hC => ?_))
  · have okd : isWhole d 0 ((S.jobs.length : Int) - 1) = true := by
      by_cases z : isWhole d 0 ((S.jobs.length : Int) - 1) = true
      · exact z
      · rw [if_neg z] at h1; cases h1
    obtain ⟨n, rfl, hn0⟩ := isWhole_nat okd
    obtain ⟨hj, hJ⟩ := js_of hl hn0
    have e1 : openE S (.int (n : Int)) = if (S.jb n).isOpen = true then none else some .over := by unfold openE; rw [if_pos okd]; rfl
    refine n_when (t_not (t_B (e_meth (e_op (e_fld (e_var (i := 0) rfl rfl) (fld_bd (n := 2) 0 rfl T.cl_Board T.na_Board_jobs (by decide +kernel) rfl rfl)) (e_var (i := 1) rfl rfl) (od_jobs 0 rfl (atI_nat hj))) (ins_job 0 rfl (by assumption) (by assumption) (by decide +kernel)) a_nil (c_Job_is_open T 0 rfl (by assumption) (by assumption))))) (fun hb => ?_) (fun hb => ?_)
    · have hb : (!(S.jb n).isOpen) = true := hb
      refine n_err kx ?_ (Ole.refl _) (Bl.refl _)
      show (openE S (.int (n : Int))).map (ekO T) = _
      rw [e1, if_neg (by simpa using hb)]; rfl
    · have hb : (!(S.jb n).isOpen) = false := hb
      refine r_end (k ?_) rfl (Ole.refl _)
      show (openE S (.int (n : Int))).map (ekO T) = _
      rw [e1, if_pos (by simpa using hb)]; rfl
  · by_cases z : isWhole d 0 ((S.jobs.length : Int) - 1) = true
    · rw [if_pos z] at hC; cases hC
    · rw [if_neg z] at hC
      cases hC
      refine n_err kx ?_ (Ole.refl _) (Bl.refl _)
      show (openE S d).map (ekO T) = _
      unfold openE; rw [if_neg z]; rfl
theorem c_Board_need_open (T : Tx K mg w) {Os : List Own} {X : XK} {a : BA} {S : Bd} {d : PyData} (i : Nat) (h : Os[i]? = some (bd K T.c_Board T.c_Job a S)) : CaX K Os (sp_Board_need_open T).sp [.v (.ref a.b), .d d] X ((openE S d).map (ekO T)) (.d .none) Os Os := cx1s i (a, S, d) h trivial rfl rfl rfl rfl rfl rfl
theorem openE_none {S : Bd} {d : PyData} (h : openE S d = none) : ∃ n : Nat, d = .int (n : Int) ∧ n < S.jobs.length ∧ (S.jb n).isOpen = true := by
  unfold openE at h
  by_cases z : isWhole d 0 ((S.jobs.length : Int) - 1) = true
  · obtain ⟨n, rfl, hn⟩ := isWhole_nat z
    rw [if_pos z] at h
    by_cases y : (S.jb n).isOpen = true
    · exact ⟨n, rfl, hn, y⟩
    · rw [show natD (.int (n : Int)) = n from Int.toNat_natCast n, if_neg y] at h; cases h
  · rw [if_neg z] at h; cases h
def rankE (S : Bd) (d r : PyData) : Option Ek := (openE S d).or (if isWhole r 0 4 = true then none else some .noJob)
def ekR (T : Tx K mg w) : Ek → Addr
  | .over => T.c_Over
  | .noJob => T.c_NoJob
  | _ => T.c_NoNumber
def Bd.rankS (S : Bd) (d r : PyData) : Bd := { S with jobs := S.jobs.set (natD d) { S.jb (natD d) with rank := intD r } }
theorem ek_or {S : Bd} {d : PyData} {e : Ek} (T : Tx K mg w) (h : openE S d = some e) : ekR T e = ekO T e := by
  unfold openE at h
  split at h
  · split at h
    · cases h
    · cases h; rfl
  · cases h; rfl
def sp_Board_set_rank (T : Tx K mg w) : Pm K (BA × Bd × PyData × PyData) := ⟨fun g => g.2.1.Ok, fun g => [.v (.ref g.1.b), .d g.2.2.1, .d g.2.2.2], fun g => [bd K T.c_Board T.c_Job g.1 g.2.1], fun g => .d (.int (g.2.1.jb (natD g.2.2.1)).rank), fun g => [bd K T.c_Board T.c_Job g.1 (g.2.1.rankS g.2.2.1 g.2.2.2)], fun g => (rankE g.2.1 g.2.2.1 g.2.2.2).map (ekR T), fun g => [bd K T.c_Board T.c_Job g.1 g.2.1]⟩
theorem ok_Board_set_rank (T : Tx K mg w) : FnOk P w K mg base (L2.CX P w) 4 T.a_Board_set_rank T.fd_Board_set_rank ["self", "number", "rank"] (sp_Board_set_rank T).sp := by
  refine T.F_Board_set_rank.okX sc_Board_set_rank ((sp_Board_set_rank T).len fun _ => rfl) (fun cdv A outer s H vs Q EX hr h => ?_)
  obtain ⟨⟨a, S, d, rk⟩, B, F, hp, A0, hB, k, kx⟩ := h
  have ok : S.Ok := hp
  have hl : a.js.length = S.jobs.length := (At.bdIn (i := 0) A0 rfl).len
  refine ⟨_, (pss_cons (ps_expr (pe_meth (pv 0) T.cl_Board T.M_Board_need_open (ok_Board_need_open T) (hr.mono (by decide)) T.b_Board_need_open .nil (passes_call (takes_of rfl rfl rfl rfl) (fun _ _ _ _ h => h)) (pa_cons (pv 1) pa_nil))) (pss_cons (ps_expr (pe_call (ok_need_rank T) (hr.mono (by decide)) (by rfl) T.m_need_rank T.F_need_rank.kp T.b_need_rank .nil (passes_call (takes_of rfl rfl rfl rfl) (fun _ _ _ _ h => h)) (pa_cons (pv 2) pa_nil))) (pss_cons (ps_set (i := 3) sc_Board_set_rank.nd rfl (by first | exact Or.inl rfl | exact Or.inr rfl) (fldK (K := K) rfl (by exact (pe_ix (ixK (K := K) rfl) (fldK (K := K) rfl (pv 0) rfl) (pv 1) (fun _ _ => rfl))) rfl)) (pss_cons (ps_fld (pe_ix (ixK (K := K) rfl) (fldK (K := K) rfl (pv 0) rfl) (pv 1) (fun _ _ => rfl)) (pv 2) rfl) (pss_one (ps_ret (pv 3))))))), ?_⟩
  refine run (Γ := [.v (.ref a.b), .d d, .d rk, .un]) (Oi := [bd K T.c_Board T.c_Job a S]) A0 rfl ?_
  refine n_seq ?_; refine (n_dropMX (e_var (i := 0) rfl rfl) (ins_bd 0 rfl (by decide +kernel)) (a_cons (e_var (i := 1) rfl rfl) a_nil) (c_Board_need_open T 0 rfl) (fun h1 => ?_) (fun C hC => ?_))
  rotate_left
  · cases z : openE S d with
    | none => rw [z] at hC; cases hC
    | some e =>
      rw [z] at hC
      cases hC
      refine n_err kx ?_ (Ole.refl _) (Bl.refl _)
      show (rankE S d rk).map (ekR T) = _
      unfold rankE; rw [z]; exact congrArg some (ek_or T z)
  have ho : openE S d = none := by
    cases z : openE S d with
    | none => rfl
    | some e => rw [z] at h1; cases h1
  obtain ⟨n, rfl, hn0, hop⟩ := openE_none ho
  obtain ⟨hj, hJ⟩ := js_of hl hn0
  
  refine n_seq ?_; refine (n_dropX (a_cons (e_var (i := 2) rfl rfl) a_nil) (c_need_rank T) (fun h2 => ?_) (fun C hC => ?_))
  rotate_left
  · by_cases z : isWhole rk 0 4 = true
    · rw [if_pos z] at hC; cases hC
    · rw [if_neg z] at hC
      cases hC
      refine n_err kx ?_ (Ole.refl _) (Bl.refl _)
      show (rankE S (.int (n : Int)) rk).map (ekR T) = _
      unfold rankE; rw [ho, if_neg z]; rfl
  have okr : isWhole rk 0 4 = true := by
    by_cases z : isWhole rk 0 4 = true
    · exact z
    · rw [if_neg z] at h2; cases h2
  obtain ⟨r, rfl⟩ := isWhole_int okr
  refine n_seq ?_; refine (n_asg (e_fld (e_op (e_fld (e_var (i := 0) rfl rfl) (fld_bd (n := 2) 0 rfl T.cl_Board T.na_Board_jobs (by decide +kernel) rfl rfl)) (e_var (i := 1) rfl rfl) (od_jobs 0 rfl (atI_nat hj))) (fld_job (n := 1) 0 rfl (by assumption) (by assumption) T.cl_Job T.na_Job_rank (by decide +kernel) rfl rfl)) ?_)
  refine n_seq ?_
  refine n_fldJob (n := 1) (k := n) (J' := { S.jb n with rank := r }) 0 (e_var (i := 2) rfl rfl) (e_op (e_fld (e_var (i := 0) rfl rfl) (fld_bd (n := 2) 0 rfl T.cl_Board T.na_Board_jobs (by decide +kernel) rfl rfl)) (e_var (i := 1) rfl rfl) (od_jobs 0 rfl (atI_nat hj))) rfl hj hJ T.cl_Job T.na_Job_rank (by decide +kernel) rfl ?_
  exact r_ret (e_var (i := 3) rfl rfl) (k (by show (rankE S (.int (n : Int)) (.int r)).map (ekR T) = _; unfold rankE; rw [ho, if_pos okr]; rfl)) rfl (Ole.refl _) (Bl.refl _)
theorem c_Board_set_rank (T : Tx K mg w) {Os : List Own} {X : XK} {b : Addr} {S : Bd} {d rk : PyData} (i : Nat) (h : Os[i]? = some (bdx K T.c_Board T.c_Job b S)) (ok : S.Ok) : CaX K Os (sp_Board_set_rank T).sp [.v (.ref b), .d d, .d rk] X ((rankE S d rk).map (ekR T)) (.d (.int (S.jb (natD d)).rank)) (Os.set i (bdx K T.c_Board T.c_Job b (S.rankS d rk))) Os := cx_bdx i h fun a e => by
  subst e
  have := cx1 (p := sp_Board_set_rank T) (Os := Os.set i (bd K T.c_Board T.c_Job a S)) (X := X) i (a, S, d, rk) (List.getElem?_set_self (List.getElem?_eq_some_iff.mp h).1) ok rfl rfl rfl rfl rfl rfl
  rw [List.set_set, List.set_set] at this
  exact fun B F Γ σ H xs A r Q k1 k2 => this B F Γ σ H xs A r Q (fun n z F' H' A' e q => k1 n z F' H' (A'.ole (ole_set bd_bdx Os i)) e q) fun C c F' H' A' => k2 C c F' H' (A'.ole (ole_set bd_bdx Os i))
theorem c_Board_set_rankV (T : Tx K mg w) {Os : List Own} {b : Addr} {S : Bd} {n : Nat} {r : Int} (i : Nat) (h : Os[i]? = some (bdx K T.c_Board T.c_Job b S)) (ok : S.Ok) (hn : n < S.jobs.length) (ho : (S.jb n).isOpen = true) (hr : 0 ≤ r ∧ r ≤ 4) : CaD K Os (sp_Board_set_rank T).sp [.v (.ref b), .d (.int (n : Int)), .d (.int r)] (.d (.int (S.jb n).rank)) (Os.set i (bdx K T.c_Board T.c_Job b (S.rankN n r))) :=
  caX_D (fun X => c_Board_set_rank T (d := .int (n : Int)) (rk := .int r) i h ok) (by
    unfold rankE openE
    rw [if_pos (by simp [isWhole]; omega), if_pos (show (S.jb (natD (.int (n : Int)))).isOpen = true from ho), if_pos (by simp [isWhole]; omega)]; rfl)
end
end Cw

namespace Cw
open PySem L2

local macro_rules | `(tactic| walk_at "vw") => `(tactic| first | exact Vw.dat | exact Vw.own 0 rfl | exact Vw.own 1 rfl | exact Vw.own 2 rfl | exact Vw.own 3 rfl | exact Vw.own 4 rfl | exact Vw.own 5 rfl | exact Vw.own 6 rfl | exact Vw.own 7 rfl)
local macro_rules | `(tactic| walk_at "ar") => `(tactic| first | assumption | decide | omega)
local macro_rules | `(tactic| walk_at "ix") => `(tactic| first | assumption | rfl)
local macro_rules | `(tactic| walk_at "sh") => `(tactic| first | assumption | rfl)
local macro_rules | `(tactic| walk_at "cm") => `(tactic| first | exact Or.inr ⟨by decide, by decide⟩ | exact Or.inl ⟨by decide, by decide⟩ | (unfold CMul; omega))
local macro_rules | `(tactic| walk_at "cd") => `(tactic| first | exact ⟨by decide, by decide⟩ | exact ⟨by omega, by omega⟩)
local macro_rules | `(tactic| walk_at "lim") => `(tactic| first | assumption | omega | (simp only [List.length_append, List.length_cons, List.length_nil, List.length_replicate, List.length_map]; omega) | decide)
local macro_rules | `(tactic| walk_at "od") => `(tactic| first
  | exact od_add | exact od_sub | exact od_lt | exact od_le | exact od_gt | exact od_ge | exact od_isn | exact od_notn
  | exact od_mul (by walk_at "cm") | exact od_mod (by walk_at "ar") | exact od_fdiv (by walk_at "cd")
  | exact od_eq (by walk_at "vw") (by walk_at "vw") (by walk_at "sh") (by walk_at "sh") | exact od_l (od_ne (by walk_at "vw") (by walk_at "vw") (by walk_at "sh") (by walk_at "sh"))
  | exact od_ixT (by walk_at "ix") | exact od_ixL (by walk_at "vw") (by walk_at "ix") | exact od_addT (by walk_at "lim") | exact od_repT (by walk_at "lim") (by walk_at "lim") (by walk_at "lim")
  | exact od_jobs 0 rfl (by assumption) | exact od_ixV 1 rfl (by assumption)
  | exact od_in (by walk_at "vw") (by walk_at "vw") (by walk_at "sh") (by walk_at "sh") | exact od_nin (by walk_at "vw") (by walk_at "vw") (by walk_at "sh") (by walk_at "sh"))
local macro_rules | `(tactic| walk_at "ins") => `(tactic| first | exact ins_bd 0 rfl (by decide +kernel) | exact ins_bdx 0 rfl (by decide +kernel) | exact ins_bdx 1 rfl (by decide +kernel) | exact ins_bdx 2 rfl (by decide +kernel) | exact ins_bdx 3 rfl (by decide +kernel))
local macro_rules | `(tactic| walk_at "cb") => `(tactic| first
  | exact cd_lenT | exact cd_lenL (by walk_at "vw") | exact cd_isInt (by walk_at "vw") | exact cd_isBool (by walk_at "vw") | exact cd_isTup (by walk_at "vw") | exact cd_isLst (by walk_at "vw") | exact cd_isStr (by walk_at "vw")
  | exact cd_all (by walk_at "vw") | exact cd_any (by walk_at "vw") | exact cd_sum (by walk_at "vw") | exact cd_tupL (by walk_at "vw") | exact cl_listL (by walk_at "vw") | exact cd_lenJ 0 rfl | exact cl_spent 0 rfl | exact cd_spentT 0 rfl | exact cd_intB | exact cd_max2 | exact cd_min2)

section
variable {P : Program} {w : World} {K : Fr} {mg : Str → Option Value} {base : Heap}
def rowD (J : Jb) : PyData := .tuple [.int J.rank, oD J.term, .int J.start, tupN J.after, tupI J.parts, .int (J.at_ : Int), .int J.idle, oD J.fin, .bool J.gone]
def savedD (S : Bd) : PyData := .tuple [.int S.budget, .int S.patience, .tuple (S.jobs.map rowD), .int S.frames, tupI S.spent]
def sp_Board_saved (T : Tx K mg w) : Pm K (BA × Bd) := roP (fun g => g.2.Ok) (fun g => [.v (.ref g.1.b)]) (fun g => bd K T.c_Board T.c_Job g.1 g.2) (fun g => .d (savedD g.2))
theorem ok_Board_saved (T : Tx K mg w) : FnOk P w K mg base (L2.CX P w) 1 T.a_Board_saved T.fd_Board_saved ["self"] (sp_Board_saved T).sp := by
  refine T.F_Board_saved.okX sc_Board_saved ((sp_Board_saved T).len fun _ => rfl) (fun cdv A outer s H vs Q EX hr h => ?_)
  obtain ⟨⟨a, S⟩, B, F, hp, A0, hB, k, kx⟩ := h
  have ok : S.Ok := hp
  have hn := ok.n
  have hl : a.js.length = S.jobs.length := (At.bdIn (i := 0) A0 rfl).len
  refine ⟨_, (pss_cons (ps_set (i := 1) sc_Board_saved.nd rfl (by first | exact Or.inl rfl | exact Or.inr rfl) (pe_lst pa_nil)) (pss_cons (ps_for (passes_of rfl) rfl (pi_list (fldK (K := K) rfl (pv 0) rfl)) (pg_name (i := 2) sc_Board_saved.nd rfl (by first | exact Or.inl rfl | exact Or.inr rfl)) (pss_cons (ps_set (i := 3) sc_Board_saved.nd rfl (by first | exact Or.inl rfl | exact Or.inr rfl) (pe_tup (pa_cons (fldK (K := K) rfl (pv 2) rfl) (pa_cons (fldK (K := K) rfl (pv 2) rfl) (pa_cons (fldK (K := K) rfl (pv 2) rfl) (pa_cons (fldK (K := K) rfl (pv 2) rfl) (pa_cons (fldK (K := K) rfl (pv 2) rfl) pa_nil))))))) (pss_one (ps_expr (pe_bm PySem.F.plainAttrs_list PySem.F.slot_list_append PySem.F.type_list_append mt_append (pv 1) (pa_cons (pe_op (addK (K := K) rfl) (pv 3) (pe_tup (pa_cons (fldK (K := K) rfl (pv 2) rfl) (pa_cons (fldK (K := K) rfl (pv 2) rfl) (pa_cons (fldK (K := K) rfl (pv 2) rfl) (pa_cons (fldK (K := K) rfl (pv 2) rfl) pa_nil)))))) pa_nil)))))) (pss_one (ps_ret (pe_tup (pa_cons (fldK (K := K) rfl (pv 0) rfl) (pa_cons (fldK (K := K) rfl (pv 0) rfl) (pa_cons (pe_callTy (tupleK (K := K) rfl) (by rfl) T.n_tuple (by decide +kernel) (pa_cons (pv 1) pa_nil)) (pa_cons (fldK (K := K) rfl (pv 0) rfl) (pa_cons (pe_callTy (tupleK (K := K) rfl) (by rfl) T.n_tuple (by decide +kernel) (pa_cons (fldK (K := K) rfl (pv 0) rfl) pa_nil)) pa_nil)))))))))), ?_⟩
  refine run (Γ := [.v (.ref a.b), .un, .un, .un]) (Oi := [bd K T.c_Board T.c_Job a S]) A0 rfl ?_
  refine n_seq ?_
  refine n_asgL (el_lst (ds := []) a_nil rfl (Nat.le_of_ble_eq_true rfl)) (fun pr => ?_)
  refine n_own (Os1 := [bd K T.c_Board T.c_Job a S, lst K pr ((S.jobs.take 0).map rowD)]) rfl ?_
  refine n_seq ?_
  refine n_for (it_jobs 0 (e_fld (e_var (i := 0) rfl rfl) (fld_bd (n := 2) 0 rfl T.cl_Board T.na_Board_jobs (by decide +kernel) rfl rfl)) rfl) (fun _ => tg_name) (fun i Γ Os => Γ = [.v (.ref a.b), .v (.ref pr), .un, .un] ∧ Os = [bd K T.c_Board T.c_Job a S, lst K pr ((S.jobs.take i).map rowD)]) ⟨rfl, rfl⟩ (fun i Γ Os h => by rw [h.2]; exact ⟨_, rfl⟩) (fun B2 hB2 i Γ Os hi h => ?_) (fun Γ Os h => ?_)
  · obtain ⟨rfl, rfl⟩ := h
    have hi2 : i < S.jobs.length := by rw [← hl]; exact hi
    obtain ⟨hj, hJ⟩ := js_of hl hi2
    refine n_seq ?_; refine (n_asg (e_tup (ds := [_, _, _, _, _]) (a_cons (e_fld (e_var (i := 2) rfl rfl) (fld_job (n := 1) 0 rfl (by assumption) (by assumption) T.cl_Job T.na_Job_rank (by decide +kernel) rfl rfl)) (a_cons (e_fld (e_var (i := 2) rfl rfl) (fld_job (n := 2) 0 rfl (by assumption) (by assumption) T.cl_Job T.na_Job_term (by decide +kernel) rfl rfl)) (a_cons (e_fld (e_var (i := 2) rfl rfl) (fld_job (n := 3) 0 rfl (by assumption) (by assumption) T.cl_Job T.na_Job_start (by decide +kernel) rfl rfl)) (a_cons (e_fld (e_var (i := 2) rfl rfl) (fld_job (n := 4) 0 rfl (by assumption) (by assumption) T.cl_Job T.na_Job_after (by decide +kernel) rfl rfl)) (a_cons (e_fld (e_var (i := 2) rfl rfl) (fld_job (n := 5) 0 rfl (by assumption) (by assumption) T.cl_Job T.na_Job_parts (by decide +kernel) rfl rfl)) a_nil))))) rfl (Nat.le_of_ble_eq_true rfl)) ?_)
    refine n_app (d := rowD (S.jb i)) 1 (e_var (i := 1) rfl rfl) (e_op (e_var (i := 3) rfl rfl) (e_tup (ds := [_, _, _, _]) (a_cons (e_fld (e_var (i := 2) rfl rfl) (fld_job (n := 6) 0 rfl (by assumption) (by assumption) T.cl_Job T.na_Job_at (by decide +kernel) rfl rfl)) (a_cons (e_fld (e_var (i := 2) rfl rfl) (fld_job (n := 7) 0 rfl (by assumption) (by assumption) T.cl_Job T.na_Job_idle (by decide +kernel) rfl rfl)) (a_cons (e_fld (e_var (i := 2) rfl rfl) (fld_job (n := 8) 0 rfl (by assumption) (by assumption) T.cl_Job T.na_Job_end (by decide +kernel) rfl rfl)) (a_cons (e_fld (e_var (i := 2) rfl rfl) (fld_job (n := 9) 0 rfl (by assumption) (by assumption) T.cl_Job T.na_Job_gone (by decide +kernel) rfl rfl)) a_nil)))) rfl (Nat.le_of_ble_eq_true rfl)) (by walk_at "od")) rfl rfl (by rw [List.length_map, List.length_take]; omega) ?_
    refine r_inv _ _ ⟨rfl, rfl⟩ (.eq (.eq (.un (.un .nil)))) ?_
    have e : (S.jobs.take i).map rowD ++ [rowD (S.jb i)] = (S.jobs.take (i + 1)).map rowD := by
      rw [List.take_succ, List.map_append, Bd.jb_get hi2]; rfl
    rw [e]; exact Ole.refl _
  · obtain ⟨rfl, rfl⟩ := h
    rw [hl, List.take_length]
    exact r_ret (e_tup (ds := [_, _, _, _, _]) (a_cons (e_fld (e_var (i := 0) rfl rfl) (fld_bd (n := 0) 0 rfl T.cl_Board T.na_Board_budget (by decide +kernel) rfl rfl)) (a_cons (e_fld (e_var (i := 0) rfl rfl) (fld_bd (n := 1) 0 rfl T.cl_Board T.na_Board_patience (by decide +kernel) rfl rfl)) (a_cons (e_cb (a_cons (e_var (i := 1) rfl rfl) a_nil) (cd_tupL (.own 1 rfl))) (a_cons (e_fld (e_var (i := 0) rfl rfl) (fld_bd (n := 3) 0 rfl T.cl_Board T.na_Board_frames (by decide +kernel) rfl rfl)) (a_cons (e_cb (a_cons (e_fld (e_var (i := 0) rfl rfl) (fld_bd (n := 4) 0 rfl T.cl_Board T.na_Board_spent (by decide +kernel) rfl rfl)) a_nil) (cd_spentT 0 rfl)) a_nil))))) rfl (Nat.le_of_ble_eq_true rfl)) (k rfl) rfl (.cons (Oimp.refl _) .nil) (Bl.refl _)
theorem c_Board_saved (T : Tx K mg w) {Os : List Own} {a : BA} {S : Bd} (i : Nat) (h : Os[i]? = some (bd K T.c_Board T.c_Job a S)) (ok : S.Ok) : CaD K Os (sp_Board_saved T).sp [.v (.ref a.b)] (.d (savedD S)) Os := ca1s i (a, S) h ok rfl rfl rfl rfl rfl
theorem x_Board_saved (T : Tx K mg w) {Os : List Own} {b : Addr} {S : Bd} (i : Nat) (h : Os[i]? = some (bdx K T.c_Board T.c_Job b S)) (ok : S.Ok) : CaD K Os (sp_Board_saved T).sp [.v (.ref b)] (.d (savedD S)) Os := ca_bdxR i h fun a e => by
  subst e
  exact c_Board_saved T i (List.getElem?_set_self (List.getElem?_eq_some_iff.mp h).1) ok
def sp_woken (T : Tx K mg w) : Pn K Bd := ⟨fun S => S.Ok, fun S => [.d (savedD S)], fun _ => [], fun S b => bdx K T.c_Board T.c_Job b S, fun _ => [], fun _ => none, fun _ => []⟩
theorem ok_woken (T : Tx K mg w) : FnOk P w K mg base (L2.CX P w) 4 T.a_woken T.fd_woken ["thing"] (sp_woken T).sp := by
  refine T.F_woken.okX sc_woken ((sp_woken T).len fun _ => rfl) (fun cdv A outer s H vs Q EX hr h => ?_)
  obtain ⟨S, B, F, hp, A0, hB, k, kx⟩ := h
  have ok : S.Ok := hp
  have hn := ok.n
  refine ⟨_, (pss_cons (ps_set (i := 1) sc_woken.nd rfl (by first | exact Or.inl rfl | exact Or.inr rfl) (pe_make T.mk_Board (ok_Board_init T) (hr.mono (by decide)) (by rfl) T.m_Board T.b_Board_init .nil passL (pa_cons (pe_ix (ixK (K := K) rfl) (pv 0) pe_int (fun _ _ => rfl)) (pa_cons (pe_ix (ixK (K := K) rfl) (pv 0) pe_int (fun _ _ => rfl)) pa_nil)))) (pss_cons (ps_for (passes_of rfl) rfl (enumTK (K := K) rfl (by rfl) T.n_enumerate (pa_cons (pe_ix (ixK (K := K) rfl) (pv 0) pe_int (fun _ _ => rfl)) pa_nil)) (tgK (K := K) 2 rfl rfl (pgs_cons (pg_name (i := 2) sc_woken.nd rfl (by first | exact Or.inl rfl | exact Or.inr rfl)) (pgs_cons (tgK (K := K) 9 rfl rfl (pgs_cons (pg_name (i := 4) sc_woken.nd rfl (by first | exact Or.inl rfl | exact Or.inr rfl)) (pgs_cons (pg_name (i := 5) sc_woken.nd rfl (by first | exact Or.inl rfl | exact Or.inr rfl)) (pgs_cons (pg_name (i := 6) sc_woken.nd rfl (by first | exact Or.inl rfl | exact Or.inr rfl)) (pgs_cons (pg_name (i := 7) sc_woken.nd rfl (by first | exact Or.inl rfl | exact Or.inr rfl)) (pgs_cons (pg_name (i := 8) sc_woken.nd rfl (by first | exact Or.inl rfl | exact Or.inr rfl)) (pgs_cons (pg_name (i := 9) sc_woken.nd rfl (by first | exact Or.inl rfl | exact Or.inr rfl)) (pgs_cons (pg_name (i := 10) sc_woken.nd rfl (by first | exact Or.inl rfl | exact Or.inr rfl)) (pgs_cons (pg_name (i := 11) sc_woken.nd rfl (by first | exact Or.inl rfl | exact Or.inr rfl)) (pgs_cons (pg_name (i := 12) sc_woken.nd rfl (by first | exact Or.inl rfl | exact Or.inr rfl)) pgs_nil)))))))))) pgs_nil))) (pss_cons (ps_set (i := 3) sc_woken.nd rfl (by first | exact Or.inl rfl | exact Or.inr rfl) (pe_make T.mk_Job (ok_Job_init T) (hr.mono (by decide)) (by rfl) T.m_Job T.b_Job_init .nil passL (pa_cons (pv 2) (pa_cons (pv 4) (pa_cons (pv 5) (pa_cons (pv 6) (pa_cons (pv 7) (pa_cons (pv 8) pa_nil)))))))) (pss_cons (ps_fld (pv 3) (pv 9) rfl) (pss_cons (ps_fld (pv 3) (pv 10) rfl) (pss_cons (ps_fld (pv 3) (pv 11) rfl) (pss_cons (ps_fld (pv 3) (pv 12) rfl) (pss_one (ps_expr (pe_bm PySem.F.plainAttrs_list PySem.F.slot_list_append PySem.F.type_list_append mt_append (fldK (K := K) rfl (pv 1) rfl) (pa_cons (pv 3) pa_nil)))))))))) (pss_cons (ps_fld (pv 1) (pe_ix (ixK (K := K) rfl) (pv 0) pe_int (fun _ _ => rfl)) rfl) (pss_cons (ps_fld (pv 1) (pe_callTy (listK (K := K) rfl) (by rfl) T.n_list (by decide +kernel) (pa_cons (pe_ix (ixK (K := K) rfl) (pv 0) pe_int (fun _ _ => rfl)) pa_nil)) rfl) (pss_one (ps_ret (pv 1))))))), ?_⟩
  refine run (Γ := [.d (savedD S), .un, .un, .un, .un, .un, .un, .un, .un, .un, .un, .un, .un]) (Oi := []) A0 rfl ?_
  have hbu := ok.bu
  have hpa := ok.pa
  have hth : ∀ (n : Nat) (d : PyData), [PyData.int S.budget, .int S.patience, .tuple (S.jobs.map rowD), .int S.frames, tupI S.spent][n]? = some d → atI [PyData.int S.budget, .int S.patience, .tuple (S.jobs.map rowD), .int S.frames, tupI S.spent] (n : Int) = some d := fun n d h => atI_nat h
  refine n_seq ?_
  refine n_asgM (e_make (a_cons (e_op (e_var (i := 0) rfl rfl) e_int (od_ixT (hth 0 _ rfl))) (a_cons (e_op (e_var (i := 0) rfl rfl) e_int (od_ixT (hth 1 _ rfl))) a_nil)) (fun x => c_Board_init T (i1 := S.budget) (i2 := S.patience) (by simp [isWhole]; omega))) (fun b => ?_)
  refine n_ex (f := fun x : Addr × Addr × List Addr => bd K T.c_Board T.c_Job ⟨b, x.1, x.2.1, x.2.2⟩ ⟨S.budget, S.patience, [], 0, []⟩) 0 rfl (fun x => ?_)
  obtain ⟨l0, s0, j0⟩ := x
  refine n_own (Os1 := [bd K T.c_Board T.c_Job ⟨b, l0, s0, j0⟩ ⟨S.budget, S.patience, S.jobs.take 0, 0, []⟩]) rfl ?_
  refine n_seq ?_
  refine n_for (it_item (item' := fun i => .d (.tuple [.int (i : Int), rowD (S.jb i)])) (it_enumT (a_cons (e_op (e_var (i := 0) rfl rfl) e_int (od_ixT (hth 2 _ rfl))) a_nil)) (fun i hi => by rw [List.length_map] at hi; show SD.d (.tuple [_, (S.jobs.map rowD)[i]?.getD .none]) = _; rw [List.getElem?_map, Bd.jb_get hi]; rfl)) (fun _ => (tg_tup (tgs_cons tg_name (tgs_cons (tg_tup (tgs_cons tg_name (tgs_cons tg_name (tgs_cons tg_name (tgs_cons tg_name (tgs_cons tg_name (tgs_cons tg_name (tgs_cons tg_name (tgs_cons tg_name (tgs_cons tg_name tgs_nil))))))))) rfl) tgs_nil)) rfl)) (fun i Γ Os => ∃ js, Γ = [.d (savedD S), .v (.ref b), .un, .un, .un, .un, .un, .un, .un, .un, .un, .un, .un] ∧ Os = [bd K T.c_Board T.c_Job ⟨b, l0, s0, js⟩ ⟨S.budget, S.patience, S.jobs.take i, 0, []⟩]) ⟨j0, rfl, rfl⟩ (fun _ _ _ _ => trivial) (fun B2 hB2 i Γ Os hi h => ?_) (fun Γ Os h => ?_)
  · obtain ⟨js, rfl, rfl⟩ := h
    rw [List.length_map] at hi
    have hli : (S.jobs.take i).length = i := by rw [List.length_take]; omega
    refine n_seq ?_
    refine n_asgM (e_make (a_cons (e_var (i := 2) rfl rfl) (a_cons (e_var (i := 4) rfl rfl) (a_cons (e_var (i := 5) rfl rfl) (a_cons (e_var (i := 6) rfl rfl) (a_cons (e_var (i := 7) rfl rfl) (a_cons (e_var (i := 8) rfl rfl) a_nil)))))) (fun x => c_Job_init T (n := i) (J := { S.jb i with at_ := 0, idle := 0, fin := none, gone := false }) ⟨rfl, rfl, rfl, rfl⟩)) (fun x => ?_)
    refine n_own (Os1 := [bd K T.c_Board T.c_Job ⟨b, l0, s0, js⟩ ⟨S.budget, S.patience, S.jobs.take i, 0, []⟩, inst K T.c_Job x jobKs (jobSD i { S.jb i with at_ := 0, idle := 0, fin := none, gone := false })]) rfl ?_
    refine n_seq ?_
    refine n_fld (j := 6) 1 (e_var (i := 9) rfl rfl) (e_var (i := 3) rfl rfl) rfl T.cl_Job T.na_Job_at (by decide +kernel) (by decide) ?_
    refine n_own (Os1 := [bd K T.c_Board T.c_Job ⟨b, l0, s0, js⟩ ⟨S.budget, S.patience, S.jobs.take i, 0, []⟩, inst K T.c_Job x jobKs (jobSD i { S.jb i with idle := 0, fin := none, gone := false })]) rfl ?_
    refine n_seq ?_
    refine n_fld (j := 7) 1 (e_var (i := 10) rfl rfl) (e_var (i := 3) rfl rfl) rfl T.cl_Job T.na_Job_idle (by decide +kernel) (by decide) ?_
    refine n_own (Os1 := [bd K T.c_Board T.c_Job ⟨b, l0, s0, js⟩ ⟨S.budget, S.patience, S.jobs.take i, 0, []⟩, inst K T.c_Job x jobKs (jobSD i { S.jb i with fin := none, gone := false })]) rfl ?_
    refine n_seq ?_
    refine n_fld (j := 8) 1 (e_var (i := 11) rfl rfl) (e_var (i := 3) rfl rfl) rfl T.cl_Job T.na_Job_end (by decide +kernel) (by decide) ?_
    refine n_own (Os1 := [bd K T.c_Board T.c_Job ⟨b, l0, s0, js⟩ ⟨S.budget, S.patience, S.jobs.take i, 0, []⟩, inst K T.c_Job x jobKs (jobSD i { S.jb i with gone := false })]) rfl ?_
    refine n_seq ?_
    refine n_fld (j := 9) 1 (e_var (i := 12) rfl rfl) (e_var (i := 3) rfl rfl) rfl T.cl_Job T.na_Job_gone (by decide +kernel) (by decide) ?_
    refine n_own (Os1 := [bd K T.c_Board T.c_Job ⟨b, l0, s0, js⟩ ⟨S.budget, S.patience, S.jobs.take i, 0, []⟩, inst K T.c_Job x jobKs (jobSD i (S.jb i))]) rfl ?_
    refine n_own (Os1 := [bd K T.c_Board T.c_Job ⟨b, l0, s0, js⟩ ⟨S.budget, S.patience, S.jobs.take i, 0, []⟩, inst K T.c_Job x jobKs (jobSD (S.jobs.take i).length (S.jb i))]) (by rw [hli]) ?_
    refine n_appJ2 0 1 (by decide) (e_fld (e_var (i := 1) rfl rfl) (fld_bd (n := 2) 0 rfl T.cl_Board T.na_Board_jobs (by decide +kernel) rfl rfl)) (e_var (i := 3) rfl rfl) rfl rfl rfl (by show (S.jobs.take i).length < _; omega) ?_
    refine r_inv _ _ ⟨js ++ [x], rfl, rfl⟩ (.eq (.eq (.un (.un (.un (.un (.un (.un (.un (.un (.un (.un (.un .nil))))))))))))) ?_
    have e : S.jobs.take i ++ [S.jb i] = S.jobs.take (i + 1) := by
      rw [List.take_succ, Bd.jb_get hi]; rfl
    rw [← e]
    exact .cons (Oimp.refl _) .nil
  obtain ⟨js, rfl, rfl⟩ := h
  rw [List.length_map, List.take_length]
  refine n_seq ?_
  refine n_fldBd (n := 3) (S' := ⟨S.budget, S.patience, S.jobs, S.frames, []⟩) 0 (e_op (e_var (i := 0) rfl rfl) e_int (od_ixT (hth 3 _ rfl))) (e_var (i := 1) rfl rfl) rfl T.cl_Board T.na_Board_frames (by decide +kernel) rfl rfl rfl ?_
  refine n_seq ?_
  refine n_fldSp (ns := S.spent) 0 (el_cb (a_cons (e_op (e_var (i := 0) rfl rfl) e_int (od_ixT (hth 4 _ rfl))) a_nil) cl_listT) (fun p => (e_var (i := 1) rfl rfl)) rfl T.cl_Board T.na_Board_spent (by decide +kernel) (fun p => ?_)
  exact r_retN 0 (e_var (i := 1) rfl rfl) rfl (k rfl) (bd_bdx (a := ⟨b, l0, p, js⟩) (S := S)) .nil (Nat.zero_le _) (Bl.refl _)
theorem c_woken (T : Tx K mg w) {Os : List Own} {S : Bd} (ok : S.Ok) : CaN K Os (sp_woken T).sp [.d (savedD S)] (fun b => bdx K T.c_Board T.c_Job b S) Os := cn0 S ok rfl rfl rfl rfl rfl
def sp_Board_ahead (T : Tx K mg w) : Pl K (BA × Bd × PyData) := ⟨fun g => g.2.1.Ok ∧ g.2.1.spent.length ≤ 90000, fun g => [.v (.ref g.1.b), .d g.2.2], fun g => [bd K T.c_Board T.c_Job g.1 g.2.1], fun g => (g.2.1.aheadL (intD g.2.2).toNat).map partsD, fun g => [bd K T.c_Board T.c_Job g.1 g.2.1], fun g => if isWhole g.2.2 0 200 = true then none else some T.c_NoCount, fun g => [bd K T.c_Board T.c_Job g.1 g.2.1]⟩
theorem ok_Board_ahead (T : Tx K mg w) : FnOk P w K mg base (L2.CX P w) 7 T.a_Board_ahead T.fd_Board_ahead ["self", "many"] (sp_Board_ahead T).sp := by
  refine T.F_Board_ahead.okX sc_Board_ahead ((sp_Board_ahead T).len fun _ => rfl) (fun cdv A outer s H vs Q EX hr h => ?_)
  obtain ⟨⟨a, S, d⟩, B, F, hp, A0, hB, k, kx⟩ := h
  obtain ⟨ok, hsp⟩ := hp
  dsimp only at ok hsp
  have hl : a.js.length = S.jobs.length := (At.bdIn (i := 0) A0 rfl).len
  refine ⟨_, (pss_cons (ps_if (pt_not (pt_val (pe_call (ok_is_whole T) (hr.mono (by decide)) (by rfl) T.m_is_whole T.F_is_whole.kp T.b_is_whole .nil (passes_call (takes_of rfl rfl rfl rfl) (fun _ _ _ _ h => h)) (pa_cons (pv 1) (pa_cons pe_int (pa_cons (pe_glob (v := .int 200) rfl T.m_AHEAD ⟨_, rfl⟩) pa_nil)))))) (pss_one (ps_raise rfl (takes_of rfl rfl rfl rfl) (pmk_own PySem.F.excBase_ValueError T.x_NoCount T.m_NoCount T.k_NoCount (raises_own T.b_NoCount T.t_NoCount) rfl))) pss_nil) (pss_cons (ps_set (i := 2) sc_Board_ahead.nd rfl (by first | exact Or.inl rfl | exact Or.inr rfl) (pe_call (ok_woken T) (hr.mono (by decide)) (by rfl) T.m_woken T.F_woken.kp T.b_woken .nil (passes_call (takes_of rfl rfl rfl rfl) (fun _ _ _ _ h => h)) (pa_cons (pe_meth0 (pv 0) T.cl_Board T.M_Board_saved (ok_Board_saved T) (hr.mono (by decide)) T.b_Board_saved .nil (passes_call (takes_of rfl rfl rfl rfl) (fun _ _ _ _ h => h))) pa_nil))) (pss_one (ps_ret (pe_lc (own := [("turn", 3)]) rfl sc_Board_ahead.nd (pi_range1 (by rfl) T.n_range (pa_cons (pv 1) pa_nil)) (blkOk_by (own := [("turn", 3)]) (N := ["self", "many", "other", "turn"]) (sc := defScope s_Board_ahead) (by decide +kernel)) (fun _ _ _ _ _ => by exact (pg_name (i := 3) sc_Board_ahead.nd rfl (by first | exact Or.inl rfl | exact Or.inr rfl))) (fun _ _ _ _ _ => by exact pts_nil) (fun _ _ _ _ _ => by exact (pe_meth0 (pv 2) T.cl_Board T.M_Board_frame (ok_Board_frame T) (hr.mono (by decide)) T.b_Board_frame .nil passL))))))), ?_⟩
  refine run (Γ := [.v (.ref a.b), .d d, .un, .un]) (Oi := [bd K T.c_Board T.c_Job a S]) A0 rfl ?_
  refine n_seq ?_; refine (n_when (t_not (t_B (e_call (a_cons (e_var (i := 1) rfl rfl) (a_cons e_int (a_cons e_int a_nil))) c_is_whole))) (fun hb => ?_) (fun hb => ?_))
  · exact n_err kx (if_neg (by simpa using hb)) (Ole.refl _) (Bl.refl _)
  have okd : isWhole d 0 200 = true := by simpa using hb
  obtain ⟨m, rfl⟩ := isWhole_int okd
  have hm : 0 ≤ m ∧ m ≤ 200 := by simpa [isWhole] using okd
  refine n_seq ?_
  refine n_asgM (em_call (a_cons (e_meth (e_var (i := 0) rfl rfl) (ins_bd 0 rfl (by decide +kernel)) a_nil (c_Board_saved T 0 rfl ok)) a_nil) (c_woken T ok)) (fun b => ?_)
  refine n_own (Os1 := [bd K T.c_Board T.c_Job a S, bdx K T.c_Board T.c_Job b (S.frN 0)]) rfl ?_
  refine r_retL (el_lc (vs := [3]) (it_range (a_cons (e_var (i := 1) rfl rfl) a_nil) (by omega) (by omega)) (by omega) (fun _ => tg_name) (by intro i hi; exact hi)
    (fun j acc Os => acc = (S.aheadL j).map partsD ∧ Os = [bd K T.c_Board T.c_Job a S, bdx K T.c_Board T.c_Job b (S.frN j)]) ⟨rfl, rfl⟩ (fun _ _ _ _ => trivial)
    (fun j acc Os hj h => by
      obtain ⟨rfl, rfl⟩ := h
      obtain ⟨q1, q2⟩ := frN_ok ok j (by omega)
      refine ⟨true, _, t_yes, fun _ => ⟨_, _, (e_fz (el_meth (e_var (i := 2) rfl rfl) (ins_bdx 1 rfl (by decide +kernel)) a_nil (x_Board_frame T 1 rfl q1 (by omega)))), ?_, ?_⟩, fun z => by cases z⟩
      · rw [aheadL_succ, List.map_append]; rfl
      · rw [frN_succ]; rfl)
    (fun acc Os h => h)) (k (if_pos okd)) rfl (.cons (Oimp.refl _) .nil) (Bl.refl _)
theorem x_Board_aheadV (T : Tx K mg w) {Os : List Own} {b : Addr} {S : Bd} {m : Int} (i : Nat) (h : Os[i]? = some (bdx K T.c_Board T.c_Job b S)) (ok : S.Ok) (hs : S.spent.length ≤ 90000) (hm : 0 ≤ m ∧ m ≤ 200) : CaL K Os (sp_Board_ahead T).sp [.v (.ref b), .d (.int m)] ((S.aheadL m.toNat).map partsD) Os := cl_bdxR i h fun a e => by
  subst e
  exact cl1s (p := sp_Board_ahead T) i (a, S, .int m) (List.getElem?_set_self (List.getElem?_eq_some_iff.mp h).1) ⟨ok, hs⟩ (if_pos (by simp [isWhole]; omega)) rfl rfl rfl rfl
def ekD (T : Tx K mg w) : Ek → Addr
  | .over => T.c_Over
  | _ => T.c_NoNumber
def sp_Board_drop (T : Tx K mg w) : Pl K (BA × Bd × PyData) := ⟨fun g => g.2.1.Ok, fun g => [.v (.ref g.1.b), .d g.2.2], fun g => [bd K T.c_Board T.c_Job g.1 g.2.1], fun g => lstN (g.2.1.dropL (natD g.2.2)), fun g => [bd K T.c_Board T.c_Job g.1 (g.2.1.dropS (g.2.1.dropL (natD g.2.2)))], fun g => (openE g.2.1 g.2.2).map (ekO T), fun g => [bd K T.c_Board T.c_Job g.1 g.2.1]⟩
theorem ok_Board_drop (T : Tx K mg w) : FnOk P w K mg base (L2.CX P w) 4 T.a_Board_drop T.fd_Board_drop ["self", "number"] (sp_Board_drop T).sp := by
  refine T.F_Board_drop.okX sc_Board_drop ((sp_Board_drop T).len fun _ => rfl) (fun cdv A outer s H vs Q EX hr h => ?_)
  obtain ⟨⟨a, S, d⟩, B, F, hp, A0, hB, k, kx⟩ := h
  have ok : S.Ok := hp
  have hn := ok.n
  have hl : a.js.length = S.jobs.length := (At.bdIn (i := 0) A0 rfl).len
  refine ⟨_, (pss_cons (ps_expr (pe_meth (pv 0) T.cl_Board T.M_Board_need_open (ok_Board_need_open T) (hr.mono (by decide)) T.b_Board_need_open .nil (passes_call (takes_of rfl rfl rfl rfl) (fun _ _ _ _ h => h)) (pa_cons (pv 1) pa_nil))) (pss_cons (ps_set (i := 2) sc_Board_drop.nd rfl (by first | exact Or.inl rfl | exact Or.inr rfl) (pe_disp (pps_cons (pv 1) pe_bl pps_nil) (by rfl) (by rfl) (fun z => by cases z) (by decide))) (pss_cons (ps_for (passes_of rfl) rfl (pi_list (pe_slice (slK (K := K) rfl) (fldK (K := K) rfl (pv 0) rfl) (po_some (pv 1)) po_none)) (pg_name (i := 3) sc_Board_drop.nd rfl (by first | exact Or.inl rfl | exact Or.inr rfl)) (pss_one (ps_if (PW.pt (pw_and (pt_val (pe_meth0 (pv 3) T.cl_Job T.M_Job_is_open (ok_Job_is_open T) (hr.mono (by decide)) T.b_Job_is_open .nil (passes_call (takes_of rfl rfl rfl rfl) (fun _ _ _ _ h => h)))) (pw_and1 (pt_val (pe_callB (anyK (K := K) rfl rfl) (by rfl) T.n_any (by decide +kernel) (pa_cons (pe_lc (own := [("other", 4)]) rfl sc_Board_drop.nd (pi_tup (fldK (K := K) rfl (pv 3) rfl)) (blkOk_by (own := [("other", 4)]) (N := ["self", "number", "gone", "job", "other"]) (sc := defScope s_Board_drop) (by decide +kernel)) (fun _ _ _ _ _ => by exact (pg_name (i := 4) sc_Board_drop.nd rfl (by first | exact Or.inl rfl | exact Or.inr rfl))) (fun _ _ _ _ _ => by exact pts_nil) (fun _ _ _ _ _ => by exact (pe_cmp (pc_din (hu_of hr) (pv 4) (pv 2))))) pa_nil)))))) (pss_one (ps_dput (hu_of hr) (pv 2) (fldK (K := K) rfl (pv 3) rfl) pe_bl rfl)) pss_nil))) (pss_cons (ps_lock (ps_for (passes_of rfl) rfl (pi_keys (pv 2)) (pg_name (i := 4) sc_Board_drop.nd rfl (by first | exact Or.inl rfl | exact Or.inr rfl)) (pss_one (ps_fld (pe_ix (ixK (K := K) rfl) (fldK (K := K) rfl (pv 0) rfl) (pv 4) (fun _ _ => rfl)) pe_bl rfl)))) (pss_one (ps_ret (pe_callB (sortK (K := K) rfl hr.units) (by rfl) T.n_sorted (by decide +kernel) (pa_cons (pe_callTy (call_listD rfl) (by rfl) T.n_list (by decide +kernel) (pa_cons (pv 2) pa_nil)) pa_nil)))))))), ?_⟩
  refine run (Γ := [.v (.ref a.b), .d d, .un, .un, .un]) (Oi := [bd K T.c_Board T.c_Job a S]) A0 rfl ?_
  refine n_seq ?_; refine (n_dropMX (e_var (i := 0) rfl rfl) (ins_bd 0 rfl (by decide +kernel)) (a_cons (e_var (i := 1) rfl rfl) a_nil) (c_Board_need_open T 0 rfl) (fun h1 => ?_) (fun C hC => ?_))
  rotate_left
  · cases z : openE S d with
    | none => rw [z] at hC; cases hC
    | some e =>
      rw [z] at hC
      cases hC
      refine n_err kx ?_ (Ole.refl _) (Bl.refl _)
      show (openE S d).map (ekO T) = _
      rw [z]; rfl
  have ho : openE S d = none := by
    cases z : openE S d with
    | none => rfl
    | some e => rw [z] at h1; cases h1
  obtain ⟨n, rfl, hn0, hop⟩ := openE_none ho
  obtain ⟨hj, hJ⟩ := js_of hl hn0
  
  refine n_seq ?_
  refine n_asgM (em_disp (kvs := gkv [n]) (fun p => eps_cons (k := .inl (n : Int)) (e_var (i := 1) rfl rfl) e_bl eps_nil) (by show 1 ≤ 15; decide) (fun vs => by cases vs <;> rfl)) (fun pd => ?_)
  refine n_own (Os1 := [bd K T.c_Board T.c_Job a S, dK K pd (gkv (S.dropG n 0))]) rfl ?_
  refine n_seq ?_
  refine n_for (it_item (item' := fun i => .v (jr a (n + i))) (it_newV (ev_slJ 0 (e_fld (e_var (i := 0) rfl rfl) (fld_bd (n := 2) 0 rfl T.cl_Board T.na_Board_jobs (by decide +kernel) rfl rfl)) (eo_some (e_var (i := 1) rfl rfl)) rfl)) (fun i hi => by rw [List.length_drop, List.length_map] at hi; show SD.v (((a.js.map V.ref).drop n)[i]?.getD .non) = _; rw [List.getElem?_drop, List.getElem?_map, (js_of hl (show n + i < S.jobs.length by omega)).1]; rfl)) (fun _ => tg_name) (fun i Γ Os => Γ = [.v (.ref a.b), .d (.int (n : Int)), .v (.ref pd), .un, .un] ∧ Os = [bd K T.c_Board T.c_Job a S, dK K pd (gkv (S.dropG n i))]) ⟨rfl, rfl⟩ (fun _ _ _ _ => trivial) (fun B2 hB2 i Γ Os hi h => ?_) (fun Γ Os h => ?_)
  · obtain ⟨rfl, rfl⟩ := h
    rw [List.length_drop, List.length_map] at hi
    have hk : n + i < S.jobs.length := by omega
    obtain ⟨hj, hJ⟩ := js_of hl hk
    have haft := (ok.job _ _ hJ).aft
    have haftn := (ok.job _ _ hJ).aftn
    have hgl := dropG_len ok n i (by omega)
    refine n_when (b := (S.jb (n + i)).isOpen && (S.jb (n + i)).after.any fun o => decide (o ∈ S.dropG n i)) (et_is (t_and (t_B (e_meth (e_var (i := 3) rfl rfl) (ins_job 0 rfl (by assumption) (by assumption) (by decide +kernel)) a_nil (c_Job_is_open T 0 rfl (by assumption) (by assumption)))) (fun hh => (t_B (e_cb (a_cons (e_fz (el_is (es := ((S.jb (n + i)).after.map fun (o : Nat) => (lkp (gkv (S.dropG n i)) (.inl (o : Int))).isSome).map .bool) (el_lcP (vs := [4]) (it_tup (e_fld (e_var (i := 3) rfl rfl) (fld_job (n := 4) 0 rfl (by assumption) (by assumption) T.cl_Job T.na_Job_after (by decide +kernel) rfl rfl))) (by walk_at "lim") (fun _ => tg_name) (by intro i hi; exact hi) (by first | exact trivial | exact rfl | exact ⟨_, rfl⟩) (f := fun _ => true) (v := fun j => .bool (lkp (gkv (S.dropG n i)) (.inl (((S.jb (n + i)).after[j]?.getD 0 : Nat) : Int))).isSome) (fun i hi => t_yes) (fun j hj3 hf => (e_din (k := .inl ((S.jb (n + i)).after[j]?.getD 0 : Nat)) (e_is (s' := .d (.int (((S.jb (n + i)).after[j]?.getD 0 : Nat) : Int))) (e_var (i := 4) rfl rfl) (by show SD.d (((S.jb (n + i)).after.map _)[j]?.getD .none) = _; rw [List.length_map] at hj3; rw [map_getD hj3]; simp [hj3])) (e_var (i := 2) rfl rfl) (i := 1) (.inl rfl)))) (by rw [gvn_all, List.length_map, range_get (S.jb (n + i)).after (fun (o : Nat) => PyData.bool (lkp (gkv (S.dropG n i)) (.inl (o : Int))).isSome) 0, List.map_map]; rfl))) a_nil) (cd_any .dat))))) (by rw [List.any_map]; simp only [gkv_lkp]; rfl)) (fun hb => ?_) (fun hb => ?_)
    · refine n_dput (k := .inl ((n + i : Nat) : Int)) 1 e_bl (e_var (i := 2) rfl rfl) (e_fld (e_var (i := 3) rfl rfl) (fld_job (n := 0) 0 rfl (by assumption) (by assumption) T.cl_Job T.na_Job_number (by decide +kernel) rfl rfl)) rfl (by unfold gkv; rw [List.length_map]; omega) ?_
      refine r_inv _ _ ⟨rfl, rfl⟩ (.eq (.eq (.eq (.un (.un .nil))))) ?_
      have e : putS (gkv (S.dropG n i)) (.inl ((n + i : Nat) : Int)) (.d (.bool true)) = gkv (S.dropG n (i + 1)) := by
        rw [dropG_succ, dropStep, if_pos hb, gkv_put (dropG_new ok hk hb)]
      rw [← e]; exact Ole.refl _
    · refine r_inv _ _ ⟨rfl, rfl⟩ (.eq (.eq (.eq (.un (.un .nil))))) ?_
      have e : S.dropG n (i + 1) = S.dropG n i := by rw [dropG_succ, dropStep, if_neg (by rw [hb]; simp)]
      rw [e]; exact Ole.refl _
  obtain ⟨rfl, rfl⟩ := h
  rw [List.length_drop, List.length_map, hl]
  have hG : S.dropG n (S.jobs.length - n) = S.dropL n := rfl
  rw [hG]
  have hmem := dropL_mem ok hn0
  have hgl : (S.dropL n).length ≤ 10001 := by have := dropG_len ok n (S.jobs.length - n) (by omega); rw [hG] at this; omega
  refine n_seq ?_
  refine n_lock 1 rfl (fun o vs => ?_)
  refine n_own (Os1 := [bd K T.c_Board T.c_Job a (S.dropS ((S.dropL n).take 0)), dKf K pd o vs (gkv (S.dropL n))]) (by show [_, _] = [_, _]; rw [List.take_zero, dropS_nil]) ?_
  refine n_for (it_keys 1 (e_var (i := 2) rfl rfl) rfl) (fun _ => tg_name) (fun i Γ Os => Γ = [.v (.ref a.b), .d (.int (n : Int)), .v (.ref pd), .un, .un] ∧ Os = [bd K T.c_Board T.c_Job a (S.dropS ((S.dropL n).take i)), dKf K pd o vs (gkv (S.dropL n))]) ⟨rfl, rfl⟩ (fun i Γ Os h => by rw [h.2]; rfl) (fun B2 hB2 i Γ Os hi h => ?_) (fun Γ Os h => ?_)
  · obtain ⟨rfl, rfl⟩ := h
    have hi2 : i < (S.dropL n).length := by unfold gkv at hi; rw [List.length_map] at hi; exact hi
    have hkm : (S.dropL n)[i]?.getD 0 ∈ S.dropL n := by rw [List.getElem?_eq_getElem hi2]; exact List.getElem_mem hi2
    generalize hke : (S.dropL n)[i]?.getD 0 = k at hkm
    have hk := hmem k hkm
    obtain ⟨hj, _⟩ := js_of hl hk
    have hJ : (S.dropS ((S.dropL n).take i)).jobs[k]? = some ((S.dropS ((S.dropL n).take i)).jb k) := Bd.jb_get (by rw [dropS_n]; exact hk)
    refine n_gam (Γ' := [.v (.ref a.b), .d (.int (n : Int)), .v (.ref pd), .un, .d (.int (k : Int))]) (by rw [← hke]; show [_, _, _, _, SD.d (((gkv (S.dropL n)).map fun kv => keyD kv.1)[i]?.getD .none)] = _; unfold gkv; rw [List.map_map, map_getD hi2, List.getElem?_eq_getElem hi2]; rfl) ?_
    refine n_fldJob (n := 9) (k := k) (J' := { (S.dropS ((S.dropL n).take i)).jb k with gone := true }) 0 e_bl (e_op (e_fld (e_var (i := 0) rfl rfl) (fld_bd (n := 2) 0 rfl T.cl_Board T.na_Board_jobs (by decide +kernel) rfl rfl)) (e_var (i := 4) rfl rfl) (od_jobs 0 rfl (atI_nat hj))) rfl hj hJ T.cl_Job T.na_Job_gone (by decide +kernel) rfl ?_
    refine r_inv _ _ ⟨rfl, rfl⟩ (.eq (.eq (.eq (.eq (.un .nil))))) ?_
    rw [← dropS_succ S (S.dropL n) i hi2 (by rw [← hke]) hk]
    exact Ole.refl _
  obtain ⟨rfl, rfl⟩ := h
  refine n_unlock 1 rfl ?_
  have htk : (S.dropL n).take (gkv (S.dropL n)).length = S.dropL n := by unfold gkv; rw [List.length_map, List.take_length]
  rw [htk]
  refine n_own (Os1 := [bd K T.c_Board T.c_Job a (S.dropS (S.dropL n)), dK K pd (gkv (S.dropL n))]) rfl ?_
  have hls : (lstN (S.dropL n)).mergeSort (PySem.W.dataLe false id) = lstN (S.dropL n) := nats_sorted (dropL_asc ok n)
  exact r_retL (el_is (es := lstN (S.dropL n)) (el_cb (a_cons (e_is (s' := .d (.list (lstN (S.dropL n)))) (e_fz (el_is (es := lstN (S.dropL n)) (el_cb (a_cons (e_var (i := 2) rfl rfl) a_nil) (cl_listD 1 rfl (fun xs H Q h => h))) (gkv_keys _))) rfl) a_nil) (cl_sort .dat (nats_alike _) (nats_sortable _) (nats_depth _))) hls) (k (by show (openE S (.int (n : Int))).map (ekO T) = none; rw [ho]; rfl)) rfl (.cons (Oimp.refl _) .nil) (Bl.refl _)
theorem x_Board_dropV (T : Tx K mg w) {Os : List Own} {b : Addr} {S : Bd} {n : Nat} (i : Nat) (h : Os[i]? = some (bdx K T.c_Board T.c_Job b S)) (ok : S.Ok) (hn : n < S.jobs.length) (ho : (S.jb n).isOpen = true) : CaL K Os (sp_Board_drop T).sp [.v (.ref b), .d (.int (n : Int))] (lstN (S.dropL n)) (Os.set i (bdx K T.c_Board T.c_Job b (S.dropS (S.dropL n)))) := cl_bdx i h fun a e => by
  subst e
  have := cl1 (p := sp_Board_drop T) i (a, S, .int (n : Int)) (List.getElem?_set_self (List.getElem?_eq_some_iff.mp h).1) ok (by
    show (openE S (.int (n : Int))).map (ekO T) = none
    unfold openE
    rw [if_pos (by simp [isWhole]; omega), if_pos (show (S.jb (natD (.int (n : Int)))).isOpen = true from ho)]; rfl) rfl rfl rfl rfl
  rw [List.set_set] at this
  exact this
theorem x_Board_drop (T : Tx K mg w) {Os : List Own} {X : XK} {b : Addr} {S : Bd} {d : PyData} (i : Nat) (h : Os[i]? = some (bdx K T.c_Board T.c_Job b S)) (ok : S.Ok) : CaXL K Os (sp_Board_drop T).sp [.v (.ref b), .d d] X ((openE S d).map (ekO T)) (lstN (S.dropL (natD d))) (Os.set i (bdx K T.c_Board T.c_Job b (S.dropS (S.dropL (natD d))))) Os := cxl_bdx i h fun a e => by
  subst e
  have := cxl1 (p := sp_Board_drop T) (Os := Os.set i (bd K T.c_Board T.c_Job a S)) (X := X) (O' := bd K T.c_Board T.c_Job a (S.dropS (S.dropL (natD d)))) (OE := bd K T.c_Board T.c_Job a S) i (a, S, d) (List.getElem?_set_self (List.getElem?_eq_some_iff.mp h).1) ok rfl rfl rfl (fun _ => rfl) rfl rfl
  rw [List.set_set, List.set_set] at this
  exact this
end
end Cw

namespace Cw
open PySem L2

local macro_rules | `(tactic| walk_at "vw") => `(tactic| first | exact Vw.dat | exact Vw.own 0 rfl | exact Vw.own 1 rfl | exact Vw.own 2 rfl | exact Vw.own 3 rfl | exact Vw.own 4 rfl | exact Vw.own 5 rfl | exact Vw.own 6 rfl | exact Vw.own 7 rfl)
local macro_rules | `(tactic| walk_at "ar") => `(tactic| first | assumption | decide | omega)
local macro_rules | `(tactic| walk_at "ix") => `(tactic| first | assumption | rfl)
local macro_rules | `(tactic| walk_at "sh") => `(tactic| first | assumption | rfl)
local macro_rules | `(tactic| walk_at "cm") => `(tactic| first | exact Or.inr ⟨by decide, by decide⟩ | exact Or.inl ⟨by decide, by decide⟩ | (unfold CMul; omega))
local macro_rules | `(tactic| walk_at "cd") => `(tactic| first | exact ⟨by decide, by decide⟩ | exact ⟨by omega, by omega⟩)
local macro_rules | `(tactic| walk_at "lim") => `(tactic| first | assumption | omega | (simp only [List.length_append, List.length_cons, List.length_nil, List.length_replicate, List.length_map]; omega) | decide)
local macro_rules | `(tactic| walk_at "od") => `(tactic| first
  | exact od_add | exact od_sub | exact od_lt | exact od_le | exact od_gt | exact od_ge | exact od_isn | exact od_notn
  | exact od_mul (by walk_at "cm") | exact od_mod (by walk_at "ar") | exact od_fdiv (by walk_at "cd")
  | exact od_eq (by walk_at "vw") (by walk_at "vw") (by walk_at "sh") (by walk_at "sh") | exact od_l (od_ne (by walk_at "vw") (by walk_at "vw") (by walk_at "sh") (by walk_at "sh"))
  | exact od_ixT (by walk_at "ix") | exact od_ixL (by walk_at "vw") (by walk_at "ix") | exact od_addT (by walk_at "lim") | exact od_repT (by walk_at "lim") (by walk_at "lim") (by walk_at "lim")
  | exact od_jobs 0 rfl (by assumption) | exact od_ixV 1 rfl (by assumption)
  | exact od_in (by walk_at "vw") (by walk_at "vw") (by walk_at "sh") (by walk_at "sh") | exact od_nin (by walk_at "vw") (by walk_at "vw") (by walk_at "sh") (by walk_at "sh"))
local macro_rules | `(tactic| walk_at "ins") => `(tactic| first | exact ins_bd 0 rfl (by decide +kernel) | exact ins_bdx 0 rfl (by decide +kernel) | exact ins_bdx 1 rfl (by decide +kernel) | exact ins_bdx 2 rfl (by decide +kernel) | exact ins_bdx 3 rfl (by decide +kernel))
local macro_rules | `(tactic| walk_at "cb") => `(tactic| first
  | exact cd_lenT | exact cd_lenL (by walk_at "vw") | exact cd_isInt (by walk_at "vw") | exact cd_isBool (by walk_at "vw") | exact cd_isTup (by walk_at "vw") | exact cd_isLst (by walk_at "vw") | exact cd_isStr (by walk_at "vw")
  | exact cd_all (by walk_at "vw") | exact cd_any (by walk_at "vw") | exact cd_sum (by walk_at "vw") | exact cd_tupL (by walk_at "vw") | exact cl_listL (by walk_at "vw") | exact cd_lenJ 0 rfl | exact cl_spent 0 rfl | exact cd_spentT 0 rfl | exact cd_intB | exact cd_max2 | exact cd_min2)

section
variable {P : Program} {w : World} {K : Fr} {mg : Str → Option Value} {base : Heap}
def sp_l_cell_at (K : Fr) : Pm K (List Int × Nat) := pureP (fun _ => True) (fun g => [.d (lstI g.1), .d (.int (g.2 : Int))]) (fun g => .d (.int (cellAt g.1 g.2)))
theorem ok_l_cell_at (T : Tx K mg w) : FnOk P w K mg base (L2.CX P w) 1 T.a_l_cell_at T.fd_l_cell_at ["_law_script", "_law_k"] (sp_l_cell_at K).sp := by
  refine T.F_l_cell_at.okX sc_l_cell_at ((sp_l_cell_at K).len fun _ => rfl) (fun cdv A outer s H vs Q EX hr h => ?_)
  obtain ⟨⟨ns, k0⟩, B, F, hp, A0, hB, k, kx⟩ := h
  have hs1 : SeqAt.shaped (lstI ns) = true := shaped_intsI ns
  refine ⟨_, (pss_cons (ps_if (pt_cmpR op_lt (pv 1) (pe_callB (lenK (K := K) rfl) (by rfl) T.n_len (by decide +kernel) (pa_cons (pv 0) pa_nil)) (nomark _)) (pss_one (ps_ret (pe_ix (ixK (K := K) rfl) (pv 0) (pv 1) (fun _ _ => rfl)))) pss_nil) (pss_cons (ps_if (pt_cmpR (eqK (K := K) rfl hr.units) (pv 0) (pe_lst pa_nil) (nomark _)) (pss_one (ps_ret pe_int)) pss_nil) (pss_one (ps_ret (pe_op (addK (K := K) rfl) (pe_op (mulK (K := K) rfl) (pe_ix (ixK (K := K) rfl) (pv 0) (pe_op op_mod (pv 1) (pe_callB (lenK (K := K) rfl) (by rfl) T.n_len (by decide +kernel) (pa_cons (pv 0) pa_nil))) (fun _ _ => rfl)) pe_int) (pv 1)))))), ?_⟩
  refine run (Γ := [.d (lstI ns), .d (.int (k0 : Int))]) (Oi := []) A0 rfl ?_
  refine n_seq ?_; refine (n_when (t_T (e_op (e_var (i := 1) rfl rfl) (e_cb (a_cons (e_var (i := 0) rfl rfl) a_nil) (by walk_at "cb")) (by walk_at "od"))) (fun hb => ?_) (fun hb => ?_))
  · have hb : decide ((k0 : Int) < ((ns.map PyData.int).length : Int)) = true := hb
    have hk : k0 < ns.length := by rw [List.length_map] at hb; have := of_decide_eq_true hb; omega
    have hx : atI (ns.map PyData.int) (k0 : Int) = some (.int (ns[k0]?.getD 0)) := atI_nat (by rw [List.getElem?_map, List.getElem?_eq_getElem hk]; rfl)
    refine r_ret (e_op (e_var (i := 0) rfl rfl) (e_var (i := 1) rfl rfl) (by walk_at "od")) (k rfl) (congrArg (fun i => SD.d (.int i)) ?_) (Ole.refl _) (Bl.refl _)
    unfold cellAt; rw [if_pos hk]
  · have hb : decide ((k0 : Int) < ((ns.map PyData.int).length : Int)) = false := hb
    have hk : ¬ k0 < ns.length := by rw [List.length_map] at hb; have := of_decide_eq_false hb; omega
    refine n_seq ?_; refine (n_when (t_T (e_op (e_var (i := 0) rfl rfl) (e_fz (el_lst (ds := []) a_nil rfl (Nat.le_of_ble_eq_true rfl))) (by walk_at "od"))) (fun hb => ?_) (fun hb => ?_))
    · have hb : PyData.eqv (.list (ns.map .int)) (.list (([] : List Int).map .int)) = true := hb
      rw [eqv_intsL] at hb
      have e := of_decide_eq_true hb
      subst e
      refine r_ret e_int (k rfl) rfl (Ole.refl _) (Bl.refl _)
    · have hb : PyData.eqv (.list (ns.map .int)) (.list (([] : List Int).map .int)) = false := hb
      rw [eqv_intsL] at hb
      have e := of_decide_eq_false hb
      have hl : 0 < ns.length := List.length_pos_iff.mpr e
      have hl2 : (0 : Int) < ((ns.map PyData.int).length : Int) := by rw [List.length_map]; omega
      have hm : k0 % ns.length < ns.length := Nat.mod_lt _ hl
      have hx : atI (ns.map PyData.int) ((k0 : Int) % ((ns.map PyData.int).length : Int)) = some (.int (ns[k0 % ns.length]?.getD 0)) := by
        rw [List.length_map, show ((k0 : Int) % (ns.length : Int)) = ((k0 % ns.length : Nat) : Int) from (Int.natCast_emod _ _).symm]
        exact atI_nat (by rw [List.getElem?_map, List.getElem?_eq_getElem hm]; rfl)
      refine r_ret (e_op (e_op (e_op (e_var (i := 0) rfl rfl) (e_op (e_var (i := 1) rfl rfl) (e_cb (a_cons (e_var (i := 0) rfl rfl) a_nil) (by walk_at "cb")) (by walk_at "od")) (by walk_at "od")) e_int (by walk_at "od")) (e_var (i := 1) rfl rfl) (by walk_at "od")) (k rfl) (congrArg (fun i => SD.d (.int i)) ?_) (Ole.refl _) (Bl.refl _)
      unfold cellAt; rw [if_neg hk, if_neg (show ¬ ns.length = 0 by omega)]
theorem c_l_cell_at {Os : List Own} {ns : List Int} {k0 : Nat} : CaD K Os (sp_l_cell_at K).sp [.d (lstI ns), .d (.int (k0 : Int))] (.d (.int (cellAt ns k0))) Os := ca0 (ns, k0) trivial rfl rfl rfl rfl rfl
def sp_l_mixed (K : Fr) : Pm K (List Int × Nat × Int) := pureP (fun g => 0 < g.2.2) (fun g => [.d (lstI g.1), .d (.int (g.2.1 : Int)), .d (.int g.2.2)]) (fun g => .d (.int (mixI g.1 g.2.1 g.2.2)))
theorem ok_l_mixed (T : Tx K mg w) : FnOk P w K mg base (L2.CX P w) 2 T.a_l_mixed T.fd_l_mixed ["_law_script", "_law_k", "_law_many"] (sp_l_mixed K).sp := by
  refine T.F_l_mixed.okX sc_l_mixed ((sp_l_mixed K).len fun _ => rfl) (fun cdv A outer s H vs Q EX hr h => ?_)
  obtain ⟨⟨ns, k0, m⟩, B, F, hp, A0, hB, k, kx⟩ := h
  have hm : 0 < m := hp
  have hb1 := (mixD_b ns k0).1
  have hb2 := (mixD_b ns k0).2
  refine ⟨_, (pss_cons (ps_set (i := 3) sc_l_mixed.nd rfl (by first | exact Or.inl rfl | exact Or.inr rfl) (pe_op op_mod (pe_op (mulK (K := K) rfl) (pe_op (addK (K := K) rfl) (pe_op (addK (K := K) rfl) (pe_call (ok_l_cell_at T) (hr.mono (by decide)) (by rfl) T.m_l_cell_at T.F_l_cell_at.kp T.b_l_cell_at .nil passL (pa_cons (pv 0) (pa_cons (pv 1) pa_nil))) (pe_op (mulK (K := K) rfl) pe_int (pv 1))) pe_int) pe_int) pe_int)) (pss_one (ps_ret (pe_op op_mod (pe_op op_mod (pe_op (addK (K := K) rfl) (pe_op (addK (K := K) rfl) (pe_op (mulK (K := K) rfl) (pv 3) (pv 3)) (pe_op (mulK (K := K) rfl) pe_int (pv 3))) (pv 1)) pe_int) (pv 2))))), ?_⟩
  refine run (Γ := [.d (lstI ns), .d (.int (k0 : Int)), .d (.int m), .un]) (Oi := []) A0 rfl ?_
  refine n_seq ?_
  refine n_asg (e_is (s' := .d (.int (mixD ns k0))) (e_op (e_op (e_op (e_op (e_call (a_cons (e_var (i := 0) rfl rfl) (a_cons (e_var (i := 1) rfl rfl) a_nil)) c_l_cell_at) (e_op e_int (e_var (i := 1) rfl rfl) (by walk_at "od")) (by walk_at "od")) e_int (by walk_at "od")) e_int (by walk_at "od")) e_int (by walk_at "od")) rfl) ?_
  refine r_ret (e_op (e_op (e_op (e_op (e_op (e_var (i := 3) rfl rfl) (e_var (i := 3) rfl rfl) (by walk_at "od")) (e_op e_int (e_var (i := 3) rfl rfl) (by walk_at "od")) (by walk_at "od")) (e_var (i := 1) rfl rfl) (by walk_at "od")) e_int (by walk_at "od")) (e_var (i := 2) rfl rfl) (by walk_at "od")) (k rfl) rfl (Ole.refl _) (Bl.refl _)
theorem c_l_mixed {Os : List Own} {ns : List Int} {k0 : Nat} {m : Int} (h : 0 < m) : CaD K Os (sp_l_mixed K).sp [.d (lstI ns), .d (.int (k0 : Int)), .d (.int m)] (.d (.int (mixI ns k0 m))) Os := ca0 (ns, k0, m) h rfl rfl rfl rfl rfl
def sp_l_draw (K : Fr) : Pm K (List Int × Addr × Nat × Int) := ⟨fun g => 0 < g.2.2.2 ∧ g.2.2.1 ≤ 100000, fun g => [.d (lstI g.1), .v (.ref g.2.1), .d (.int g.2.2.2)], fun g => [town K g.2.1 g.2.2.1], fun g => .d (.int (mixI g.1 (g.2.2.1 + 1) g.2.2.2)), fun g => [town K g.2.1 (g.2.2.1 + 1)], fun _ => none, fun _ => []⟩
theorem ok_l_draw (T : Tx K mg w) : FnOk P w K mg base (L2.CX P w) 3 T.a_l_draw T.fd_l_draw ["_law_script", "_law_town", "_law_many"] (sp_l_draw K).sp := by
  refine T.F_l_draw.okX sc_l_draw ((sp_l_draw K).len fun _ => rfl) (fun cdv A outer s H vs Q EX hr h => ?_)
  obtain ⟨⟨ns, p, n, m⟩, B, F, hp, A0, hB, k, kx⟩ := h
  obtain ⟨hm, hn⟩ := hp
  dsimp only at hm hn
  have hr0 : (List.replicate n (PyData.int 0)).length < 1000000 := by rw [List.length_replicate]; omega
  refine ⟨_, (pss_cons (ps_expr (pe_bm PySem.F.plainAttrs_list PySem.F.slot_list_append PySem.F.type_list_append mt_append (pv 1) (pa_cons pe_int pa_nil))) (pss_one (ps_ret (pe_call (ok_l_mixed T) (hr.mono (by decide)) (by rfl) T.m_l_mixed T.F_l_mixed.kp T.b_l_mixed .nil passL (pa_cons (pv 0) (pa_cons (pe_callB (lenK (K := K) rfl) (by rfl) T.n_len (by decide +kernel) (pa_cons (pv 1) pa_nil)) (pa_cons (pv 2) pa_nil))))))), ?_⟩
  refine run (Γ := [.d (lstI ns), .v (.ref p), .d (.int m)]) (Oi := [town K p n]) A0 rfl ?_
  refine n_seq ?_
  refine n_app 0 (e_var (i := 1) rfl rfl) e_int rfl rfl hr0 ?_
  refine n_own (Os1 := [town K p (n + 1)]) (by show [lst K p (List.replicate n (.int 0) ++ [.int 0])] = _; rw [← List.replicate_succ']) ?_
  refine r_ret (e_call (a_cons (e_var (i := 0) rfl rfl) (a_cons (e_cb (a_cons (e_var (i := 1) rfl rfl) a_nil) (by walk_at "cb")) (a_cons (e_var (i := 2) rfl rfl) a_nil))) (c_l_mixed (by assumption))) (k rfl) (by rw [List.length_replicate]; rfl) (Ole.refl _) (Bl.refl _)
theorem c_l_draw {Os : List Own} {ns : List Int} {p : Addr} {n : Nat} {m : Int} (i : Nat) (h : Os[i]? = some (town K p n)) (hm : 0 < m) (hn : n ≤ 100000) : CaD K Os (sp_l_draw K).sp [.d (lstI ns), .v (.ref p), .d (.int m)] (.d (.int (mixI ns (n + 1) m))) (Os.set i (town K p (n + 1))) := ca1 i (ns, p, n, m) h ⟨hm, hn⟩ rfl rfl rfl rfl rfl
def pickD (ns : List Int) (n : Nat) (ds : List PyData) : PyData := ds[(mixI ns (n + 1) (ds.length : Int)).toNat]?.getD .none
theorem pickD_mem {ns : List Int} {n : Nat} {ds : List PyData} (h : 0 < ds.length) : pickD ns n ds ∈ ds := by
  have b := mixI_b ns (n + 1) (m := (ds.length : Int)) (by omega)
  unfold pickD
  rw [List.getElem?_eq_getElem (by omega)]
  exact List.getElem_mem _
def sp_l_pick (K : Fr) : Pm K (List Int × Addr × Nat × List PyData) := ⟨fun g => 0 < g.2.2.2.length ∧ g.2.2.1 ≤ 100000, fun g => [.d (lstI g.1), .v (.ref g.2.1), .d (.list g.2.2.2)], fun g => [town K g.2.1 g.2.2.1], fun g => .d (pickD g.1 g.2.2.1 g.2.2.2), fun g => [town K g.2.1 (g.2.2.1 + 1)], fun _ => none, fun _ => []⟩
theorem ok_l_pick (T : Tx K mg w) : FnOk P w K mg base (L2.CX P w) 4 T.a_l_pick T.fd_l_pick ["_law_script", "_law_town", "_law_some"] (sp_l_pick K).sp := by
  refine T.F_l_pick.okX sc_l_pick ((sp_l_pick K).len fun _ => rfl) (fun cdv A outer s H vs Q EX hr h => ?_)
  obtain ⟨⟨ns, p, n, ds⟩, B, F, hp, A0, hB, k, kx⟩ := h
  obtain ⟨hds, hn⟩ := hp
  dsimp only at hds hn
  have hdz : (0 : Int) < (ds.length : Int) := by omega
  have hpk : atI ds (mixI ns (n + 1) (ds.length : Int)) = some (pickD ns n ds) := by
    have b := mixI_b ns (n + 1) (m := (ds.length : Int)) hdz
    have e : mixI ns (n + 1) (ds.length : Int) = ((mixI ns (n + 1) (ds.length : Int)).toNat : Int) := by omega
    rw [e]
    refine atI_nat ?_
    unfold pickD
    rw [List.getElem?_eq_getElem (by omega)]; rfl
  refine ⟨_, (pss_one (ps_ret (pe_ix (ixK (K := K) rfl) (pv 2) (pe_call (ok_l_draw T) (hr.mono (by decide)) (by rfl) T.m_l_draw T.F_l_draw.kp T.b_l_draw .nil passL (pa_cons (pv 0) (pa_cons (pv 1) (pa_cons (pe_callB (lenK (K := K) rfl) (by rfl) T.n_len (by decide +kernel) (pa_cons (pv 2) pa_nil)) pa_nil)))) (fun _ _ => rfl)))), ?_⟩
  refine run (Γ := [.d (lstI ns), .v (.ref p), .d (.list ds)]) (Oi := [town K p n]) A0 rfl ?_
  exact r_ret (e_op (e_var (i := 2) rfl rfl) (e_call (a_cons (e_var (i := 0) rfl rfl) (a_cons (e_var (i := 1) rfl rfl) (a_cons (e_cb (a_cons (e_var (i := 2) rfl rfl) a_nil) (by walk_at "cb")) a_nil))) (c_l_draw 0 rfl (by first | assumption | decide | omega) (by first | decide | omega))) (od_ixL .dat hpk)) (k rfl) rfl (Ole.refl _) (Bl.refl _)
theorem c_l_pick {Os : List Own} {ns : List Int} {p : Addr} {n : Nat} {ds : List PyData} (i : Nat) (h : Os[i]? = some (town K p n)) (hd : 0 < ds.length) (hn : n ≤ 100000) : CaD K Os (sp_l_pick K).sp [.d (lstI ns), .v (.ref p), .d (.list ds)] (.d (pickD ns n ds)) (Os.set i (town K p (n + 1))) := ca1 i (ns, p, n, ds) h ⟨hd, hn⟩ rfl rfl rfl rfl rfl
end
end Cw

namespace Cw
open PySem L2

local macro_rules | `(tactic| walk_at "vw") => `(tactic| first | exact Vw.dat | exact Vw.own 0 rfl | exact Vw.own 1 rfl | exact Vw.own 2 rfl | exact Vw.own 3 rfl | exact Vw.own 4 rfl | exact Vw.own 5 rfl | exact Vw.own 6 rfl | exact Vw.own 7 rfl)
local macro_rules | `(tactic| walk_at "ar") => `(tactic| first | assumption | decide | omega)
local macro_rules | `(tactic| walk_at "ix") => `(tactic| first | assumption | rfl)
local macro_rules | `(tactic| walk_at "sh") => `(tactic| first | assumption | rfl)
local macro_rules | `(tactic| walk_at "cm") => `(tactic| first | exact Or.inr ⟨by decide, by decide⟩ | exact Or.inl ⟨by decide, by decide⟩ | (unfold CMul; omega))
local macro_rules | `(tactic| walk_at "cd") => `(tactic| first | exact ⟨by decide, by decide⟩ | exact ⟨by omega, by omega⟩)
local macro_rules | `(tactic| walk_at "lim") => `(tactic| first | assumption | omega | (simp only [List.length_append, List.length_cons, List.length_nil, List.length_replicate, List.length_map]; omega) | decide)
local macro_rules | `(tactic| walk_at "od") => `(tactic| first
  | exact od_add | exact od_sub | exact od_lt | exact od_le | exact od_gt | exact od_ge | exact od_isn | exact od_notn
  | exact od_mul (by walk_at "cm") | exact od_mod (by walk_at "ar") | exact od_fdiv (by walk_at "cd")
  | exact od_eq (by walk_at "vw") (by walk_at "vw") (by walk_at "sh") (by walk_at "sh") | exact od_l (od_ne (by walk_at "vw") (by walk_at "vw") (by walk_at "sh") (by walk_at "sh"))
  | exact od_ixT (by walk_at "ix") | exact od_ixL (by walk_at "vw") (by walk_at "ix") | exact od_addT (by walk_at "lim") | exact od_repT (by walk_at "lim") (by walk_at "lim") (by walk_at "lim")
  | exact od_jobs 0 rfl (by assumption) | exact od_ixV 1 rfl (by assumption)
  | exact od_in (by walk_at "vw") (by walk_at "vw") (by walk_at "sh") (by walk_at "sh") | exact od_nin (by walk_at "vw") (by walk_at "vw") (by walk_at "sh") (by walk_at "sh"))
local macro_rules | `(tactic| walk_at "ins") => `(tactic| first | exact ins_bd 0 rfl (by decide +kernel) | exact ins_bdx 0 rfl (by decide +kernel) | exact ins_bdx 1 rfl (by decide +kernel) | exact ins_bdx 2 rfl (by decide +kernel) | exact ins_bdx 3 rfl (by decide +kernel))
local macro_rules | `(tactic| walk_at "cb") => `(tactic| first
  | exact cd_lenT | exact cd_lenL (by walk_at "vw") | exact cd_isInt (by walk_at "vw") | exact cd_isBool (by walk_at "vw") | exact cd_isTup (by walk_at "vw") | exact cd_isLst (by walk_at "vw") | exact cd_isStr (by walk_at "vw")
  | exact cd_all (by walk_at "vw") | exact cd_any (by walk_at "vw") | exact cd_sum (by walk_at "vw") | exact cd_tupL (by walk_at "vw") | exact cl_listL (by walk_at "vw") | exact cd_lenJ 0 rfl | exact cl_spent 0 rfl | exact cd_spentT 0 rfl | exact cd_intB | exact cd_max2 | exact cd_min2)

section
variable {P : Program} {w : World} {K : Fr} {mg : Str → Option Value} {base : Heap}
def exA (T : Tx K mg w) : Ex → Addr
  | .noBoard => T.c_NoBoard
  | .noJob => T.c_NoJob
  | .noNum => T.c_NoNumber
  | .over => T.c_Over
  | .full => T.c_Full
  | .noCount => T.c_NoCount
  | .noJobs => T.c_NoJobs
  | .tooMany => T.c_TooMany
  | .noPlan => T.c_NoPlan
  | .noDeed => T.c_NoDeed
def exPos : Ex → Bool
  | .noBoard => true
  | .noJob => true
  | .noNum => true
  | .over => true
  | .full => true
  | .noCount => false
  | .noJobs => false
  | .tooMany => false
  | .noPlan => false
  | .noDeed => true
theorem ex_facts (T : Tx K mg w) {e : Ex} (hp : exPos e = true) : ExcC K (exA T e) ∧ kitRow K (exA T e) [T.c_NoBoard, T.c_NoJob, T.c_NoNumber, T.c_Over, T.c_Full, T.c_NoCount, T.c_NoJobs, T.c_TooMany, T.c_NoPlan, T.c_NoDeed] = rowE e := by
  cases e
  · exact ⟨T.xc_NoBoard, T.ki_NoBoard⟩
  · exact ⟨T.xc_NoJob, T.ki_NoJob⟩
  · exact ⟨T.xc_NoNumber, T.ki_NoNumber⟩
  · exact ⟨T.xc_Over, T.ki_Over⟩
  · exact ⟨T.xc_Full, T.ki_Full⟩
  · cases hp
  · cases hp
  · cases hp
  · cases hp
  · exact ⟨T.xc_NoDeed, T.ki_NoDeed⟩
def sp_l_which (T : Tx K mg w) : Pm K (Addr × Ex) := pureP (fun g => exPos g.2 = true) (fun g => [.v (.ref g.1)]) (fun g => .d (refI g.2.ix))
theorem ok_l_which (T : Tx K mg w) : FnHE P w K mg base (L2.CX P w) 1 T.a_l_which T.fd_l_which ["_law_e"] ((sp_l_which T).spE (exA T)) := by
  refine T.F_l_which.okHE sc_l_which (Pm.lenE _ _ fun _ => rfl) (fun cdv A outer s H vs Q EX p cls d hz hf hr h => ?_)
  obtain ⟨e, rfl, rfl, B, F, hp, A0, hB, k⟩ := h
  have hp : exPos e = true := hp
  obtain ⟨hxc, hkr⟩ := ex_facts T hp
  have hki : ∀ {i : Nat} {C : Addr}, [T.c_NoBoard, T.c_NoJob, T.c_NoNumber, T.c_Over, T.c_Full, T.c_NoCount, T.c_NoJobs, T.c_TooMany, T.c_NoPlan, T.c_NoDeed][i]? = some C → PySem.W.kitOne K (.ref (exA T e)) (.ref C) = some (e.ix == i) := fun {i C} hC => kit_at hkr rfl hC
  have hkv : PySem.W.kitOne K (.ref (exA T e)) (.type "ValueError") = some true := kit_V hkr rfl
  refine ⟨_, (pss_cons (ps_set (i := 1) sc_l_which.nd rfl (by first | exact Or.inl rfl | exact Or.inr rfl) (pe_lst (pa_cons (pe_callB (isEK (K := K) (D := exA T e) (a := p.1) (oe := p.2) rfl (List.mem_singleton.mpr rfl) hxc hz hf) (by rfl) T.n_isinstance (by decide +kernel) (pa_cons (pv 0) (pa_cons (pe_glob (v := .ref T.c_NoBoard) rfl T.m_NoBoard rfl) pa_nil))) (pa_cons (pe_callB (isEK (K := K) (D := exA T e) (a := p.1) (oe := p.2) rfl (List.mem_singleton.mpr rfl) hxc hz hf) (by rfl) T.n_isinstance (by decide +kernel) (pa_cons (pv 0) (pa_cons (pe_glob (v := .ref T.c_NoJob) rfl T.m_NoJob rfl) pa_nil))) (pa_cons (pe_callB (isEK (K := K) (D := exA T e) (a := p.1) (oe := p.2) rfl (List.mem_singleton.mpr rfl) hxc hz hf) (by rfl) T.n_isinstance (by decide +kernel) (pa_cons (pv 0) (pa_cons (pe_glob (v := .ref T.c_NoNumber) rfl T.m_NoNumber rfl) pa_nil))) (pa_cons (pe_callB (isEK (K := K) (D := exA T e) (a := p.1) (oe := p.2) rfl (List.mem_singleton.mpr rfl) hxc hz hf) (by rfl) T.n_isinstance (by decide +kernel) (pa_cons (pv 0) (pa_cons (pe_glob (v := .ref T.c_Over) rfl T.m_Over rfl) pa_nil))) pa_nil)))))) (pss_cons (ps_expr (pe_bm PySem.F.plainAttrs_list PySem.F.slot_list_extend PySem.F.type_list_extend mt_extend (pv 1) (pa_cons (pe_lst (pa_cons (pe_callB (isEK (K := K) (D := exA T e) (a := p.1) (oe := p.2) rfl (List.mem_singleton.mpr rfl) hxc hz hf) (by rfl) T.n_isinstance (by decide +kernel) (pa_cons (pv 0) (pa_cons (pe_glob (v := .ref T.c_Full) rfl T.m_Full rfl) pa_nil))) (pa_cons (pe_callB (isEK (K := K) (D := exA T e) (a := p.1) (oe := p.2) rfl (List.mem_singleton.mpr rfl) hxc hz hf) (by rfl) T.n_isinstance (by decide +kernel) (pa_cons (pv 0) (pa_cons (pe_glob (v := .ref T.c_NoCount) rfl T.m_NoCount rfl) pa_nil))) (pa_cons (pe_callB (isEK (K := K) (D := exA T e) (a := p.1) (oe := p.2) rfl (List.mem_singleton.mpr rfl) hxc hz hf) (by rfl) T.n_isinstance (by decide +kernel) (pa_cons (pv 0) (pa_cons (pe_glob (v := .ref T.c_NoJobs) rfl T.m_NoJobs rfl) pa_nil))) (pa_cons (pe_callB (isEK (K := K) (D := exA T e) (a := p.1) (oe := p.2) rfl (List.mem_singleton.mpr rfl) hxc hz hf) (by rfl) T.n_isinstance (by decide +kernel) (pa_cons (pv 0) (pa_cons (pe_glob (v := .ref T.c_TooMany) rfl T.m_TooMany rfl) pa_nil))) pa_nil))))) pa_nil))) (pss_cons (ps_expr (pe_bm PySem.F.plainAttrs_list PySem.F.slot_list_extend PySem.F.type_list_extend mt_extend (pv 1) (pa_cons (pe_lst (pa_cons (pe_callB (isEK (K := K) (D := exA T e) (a := p.1) (oe := p.2) rfl (List.mem_singleton.mpr rfl) hxc hz hf) (by rfl) T.n_isinstance (by decide +kernel) (pa_cons (pv 0) (pa_cons (pe_glob (v := .ref T.c_NoPlan) rfl T.m_NoPlan rfl) pa_nil))) (pa_cons (pe_callB (isEK (K := K) (D := exA T e) (a := p.1) (oe := p.2) rfl (List.mem_singleton.mpr rfl) hxc hz hf) (by rfl) T.n_isinstance (by decide +kernel) (pa_cons (pv 0) (pa_cons (pe_glob (v := .ref T.c_NoDeed) rfl T.m_NoDeed rfl) pa_nil))) pa_nil))) pa_nil))) (pss_cons (ps_if (PW.pt (pw_or (pt_cmpR (neK (K := K) rfl hr.units) (pe_bm PySem.F.plainAttrs_list PySem.F.slot_list_count PySem.F.type_list_count (countK (K := K) rfl hr.units1) (pv 1) (pa_cons pe_bl pa_nil)) pe_int (nomark _)) (pw_or1 (pt_not (pt_val (pe_callB (isEK (K := K) (D := exA T e) (a := p.1) (oe := p.2) rfl (List.mem_singleton.mpr rfl) hxc hz hf) (by rfl) T.n_isinstance (by decide +kernel) (pa_cons (pv 0) (pa_cons (pe_bltn (v := .ty "ValueError") (by rfl) T.n_ValueError (by decide +kernel) rfl) pa_nil)))))))) (pss_one (ps_ret (pe_tup (pa_cons pe_str (pa_cons (pe_un un_neg pe_int) pa_nil))))) pss_nil) (pss_one (ps_ret (pe_tup (pa_cons pe_str (pa_cons (pe_bm PySem.F.plainAttrs_list PySem.F.slot_list_index PySem.F.type_list_index (indexK (K := K) rfl hr.units1) (pv 1) (pa_cons pe_bl pa_nil)) pa_nil))))))))), ?_⟩
  refine run (Γ := [.v (.ref p.1), .un]) (Oi := []) A0 rfl ?_
  refine n_seq ?_
  refine n_asgL (el_lst (ds := [_, _, _, _]) (a_cons (e_cb (a_cons (e_var (i := 0) rfl rfl) (a_cons e_cv a_nil)) (cd_isE (b := e.ix == 0) (hki (i := 0) rfl))) (a_cons (e_cb (a_cons (e_var (i := 0) rfl rfl) (a_cons e_cv a_nil)) (cd_isE (b := e.ix == 1) (hki (i := 1) rfl))) (a_cons (e_cb (a_cons (e_var (i := 0) rfl rfl) (a_cons e_cv a_nil)) (cd_isE (b := e.ix == 2) (hki (i := 2) rfl))) (a_cons (e_cb (a_cons (e_var (i := 0) rfl rfl) (a_cons e_cv a_nil)) (cd_isE (b := e.ix == 3) (hki (i := 3) rfl))) a_nil)))) rfl (Nat.le_of_ble_eq_true rfl)) (fun po => ?_)
  refine n_seq ?_
  refine n_ext 0 (e_var (i := 1) rfl rfl) (el_lst (ds := [_, _, _, _]) (a_cons (e_cb (a_cons (e_var (i := 0) rfl rfl) (a_cons e_cv a_nil)) (cd_isE (b := e.ix == 4) (hki (i := 4) rfl))) (a_cons (e_cb (a_cons (e_var (i := 0) rfl rfl) (a_cons e_cv a_nil)) (cd_isE (b := e.ix == 5) (hki (i := 5) rfl))) (a_cons (e_cb (a_cons (e_var (i := 0) rfl rfl) (a_cons e_cv a_nil)) (cd_isE (b := e.ix == 6) (hki (i := 6) rfl))) (a_cons (e_cb (a_cons (e_var (i := 0) rfl rfl) (a_cons e_cv a_nil)) (cd_isE (b := e.ix == 7) (hki (i := 7) rfl))) a_nil)))) rfl (Nat.le_of_ble_eq_true rfl)) rfl rfl (by show 4 + 4 ≤ 1000000; decide) ?_
  refine n_seq ?_
  refine n_ext 0 (e_var (i := 1) rfl rfl) (el_lst (ds := [_, _]) (a_cons (e_cb (a_cons (e_var (i := 0) rfl rfl) (a_cons e_cv a_nil)) (cd_isE (b := e.ix == 8) (hki (i := 8) rfl))) (a_cons (e_cb (a_cons (e_var (i := 0) rfl rfl) (a_cons e_cv a_nil)) (cd_isE (b := e.ix == 9) (hki (i := 9) rfl))) a_nil)) rfl (Nat.le_of_ble_eq_true rfl)) rfl rfl (by show 8 + 2 ≤ 1000000; decide) ?_
  refine n_own (Os1 := [lst K po (Lw e)]) rfl ?_
  have hsh := lw_shaped e
  have hcn := lw_count e
  refine n_seq ?_
  refine n_when (et_is (t_or (t_T (e_op (e_countD (e_var (i := 1) rfl rfl) (lst_at (.own 0 rfl)) e_bl (.own 0 rfl) hsh (by decide +kernel)) e_int (od_l (od_ne .dat .dat rfl rfl)))) (fun hh => t_not (t_B (e_cb (a_cons (e_var (i := 0) rfl rfl) (a_cons e_cv a_nil)) (cd_isET (b := true) hkv))))) (show (!PyData.eqv (.int ((cntD (.bool true) (Lw e) : Nat) : Int)) (.int 1) || !true) = false by rw [hcn]; rfl)) (fun hb => by cases hb) (fun _ => ?_)
  exact r_ret (e_tup (ds := [_, _]) (a_cons e_str (a_cons (e_indexD (e_var (i := 1) rfl rfl) (lst_at (.own 0 rfl)) e_bl (.own 0 rfl) hsh (by decide +kernel) (lw_at e) rfl (lw_no e)) a_nil)) rfl (Nat.le_of_ble_eq_true rfl)) k rfl .nil (Bl.refl _)
inductive Th | ok (dd : Deed) | bad (i : Nat)
def badD : Nat → PyData
  | 0 => .none
  | 1 => .tuple []
  | 2 => .tuple [.str "add", .int 0]
  | 3 => .tuple [.str "frame", .int 1]
  | 4 => .tuple [.str "go"]
  | 5 => .list [.str "frame"]
  | 6 => .str "frame"
  | _ => .tuple [.str "rank", .int 0]
def thD : Th → PyData
  | .ok dd => deedD dd
  | .bad i => badD i
def thB : Th → Bool
  | .ok _ => true
  | .bad _ => false
def sp_is_deed (K : Fr) : Pm K Th := pureP (fun _ => True) (fun g => [.d (thD g)]) (fun g => .d (.bool (thB g)))
theorem ok_is_deed (T : Tx K mg w) : FnOk P w K mg base (L2.CX P w) 1 T.a_is_deed T.fd_is_deed ["thing"] (sp_is_deed K).sp := by
  refine T.F_is_deed.okX sc_is_deed ((sp_is_deed K).len fun _ => rfl) (fun cdv A outer s H vs Q EX hr h => ?_)
  obtain ⟨th, B, F, hp, A0, hB, k, kx⟩ := h
  refine ⟨_, (pss_cons (ps_if (PW.pt (pw_or (pt_not (pt_val (pe_callB (isiK (K := K) rfl) (by rfl) T.n_isinstance (by decide +kernel) (pa_cons (pv 0) (pa_cons (pe_bltn (v := .ty "tuple") (by rfl) T.n_tuple (by decide +kernel) rfl) pa_nil))))) (pw_or (pt_cmpR (eqK (K := K) rfl hr.units) (pe_callB (lenK (K := K) rfl) (by rfl) T.n_len (by decide +kernel) (pa_cons (pv 0) pa_nil)) pe_int (nomark _)) (pw_or1 (pt_not (pt_val (pe_callB (isiK (K := K) rfl) (by rfl) T.n_isinstance (by decide +kernel) (pa_cons (pe_ix (ixK (K := K) rfl) (pv 0) pe_int (fun _ _ => rfl)) (pa_cons (pe_bltn (v := .ty "str") (by rfl) T.n_str (by decide +kernel) rfl) pa_nil))))))))) (pss_one (ps_ret pe_bl)) pss_nil) (pss_one (ps_ret (pe_cmpR (eqK (K := K) rfl hr.units) (pe_callB (lenK (K := K) rfl) (by rfl) T.n_len (by decide +kernel) (pa_cons (pv 0) pa_nil)) (pe_dgetK (pe_glob (v := .ref T.d_SIZES) rfl T.m_SIZES rfl) (pe_ix (ixK (K := K) rfl) (pv 0) pe_int (fun _ _ => rfl)) pe_int ⟨rfl, rfl, rfl, rfl⟩) (nomark _))))), ?_⟩
  refine run (Γ := [.d (thD th)]) (Oi := []) A0 rfl ?_
  obtain ⟨es, n, hD⟩ := T.kd_SIZES
  cases th with
  | ok dd =>
    cases dd with
    | add r t s1 a p =>
      refine n_seq ?_; refine (n_when (b := false) (et_is (t_or (t_not (t_B (e_cb (a_cons (e_var (i := 0) rfl rfl) (a_cons e_cv a_nil)) (by walk_at "cb")))) (fun hh => (t_or (t_T (e_op (e_cb (a_cons (e_var (i := 0) rfl rfl) a_nil) (by walk_at "cb")) e_int (by walk_at "od"))) (fun hh => (t_not (t_B (e_cb (a_cons (e_op (e_var (i := 0) rfl rfl) e_int (by walk_at "od")) (a_cons e_cv a_nil)) (by walk_at "cb")))))))) (by first | rfl | decide +kernel)) (fun z => by cases z) (fun _ => ?_))
      exact r_ret (e_is (s' := .d (.bool true)) (e_op (e_cb (a_cons (e_var (i := 0) rfl rfl) a_nil) (by walk_at "cb")) (e_dgetK e_cv hD (e_op (e_var (i := 0) rfl rfl) e_int (od_ixT (d := .str "add") rfl)) e_int (.inr T.s_add)) (od_eq .dat .dat rfl rfl)) (congrArg (fun b => SD.d (.bool b)) (show PyData.eqv (.int ((6 : Nat) : Int)) (.int 6) = true by decide +kernel))) (k rfl) rfl .nil (Bl.refl _)
    | drop d =>
      refine n_seq ?_; refine (n_when (b := false) (et_is (t_or (t_not (t_B (e_cb (a_cons (e_var (i := 0) rfl rfl) (a_cons e_cv a_nil)) (by walk_at "cb")))) (fun hh => (t_or (t_T (e_op (e_cb (a_cons (e_var (i := 0) rfl rfl) a_nil) (by walk_at "cb")) e_int (by walk_at "od"))) (fun hh => (t_not (t_B (e_cb (a_cons (e_op (e_var (i := 0) rfl rfl) e_int (by walk_at "od")) (a_cons e_cv a_nil)) (by walk_at "cb")))))))) (by first | rfl | decide +kernel)) (fun z => by cases z) (fun _ => ?_))
      exact r_ret (e_is (s' := .d (.bool true)) (e_op (e_cb (a_cons (e_var (i := 0) rfl rfl) a_nil) (by walk_at "cb")) (e_dgetK e_cv hD (e_op (e_var (i := 0) rfl rfl) e_int (od_ixT (d := .str "drop") rfl)) e_int (.inr T.s_drop)) (od_eq .dat .dat rfl rfl)) (congrArg (fun b => SD.d (.bool b)) (show PyData.eqv (.int ((2 : Nat) : Int)) (.int 2) = true by decide +kernel))) (k rfl) rfl .nil (Bl.refl _)
    | rank d r =>
      refine n_seq ?_; refine (n_when (b := false) (et_is (t_or (t_not (t_B (e_cb (a_cons (e_var (i := 0) rfl rfl) (a_cons e_cv a_nil)) (by walk_at "cb")))) (fun hh => (t_or (t_T (e_op (e_cb (a_cons (e_var (i := 0) rfl rfl) a_nil) (by walk_at "cb")) e_int (by walk_at "od"))) (fun hh => (t_not (t_B (e_cb (a_cons (e_op (e_var (i := 0) rfl rfl) e_int (by walk_at "od")) (a_cons e_cv a_nil)) (by walk_at "cb")))))))) (by first | rfl | decide +kernel)) (fun z => by cases z) (fun _ => ?_))
      exact r_ret (e_is (s' := .d (.bool true)) (e_op (e_cb (a_cons (e_var (i := 0) rfl rfl) a_nil) (by walk_at "cb")) (e_dgetK e_cv hD (e_op (e_var (i := 0) rfl rfl) e_int (od_ixT (d := .str "rank") rfl)) e_int (.inr T.s_rank)) (od_eq .dat .dat rfl rfl)) (congrArg (fun b => SD.d (.bool b)) (show PyData.eqv (.int ((3 : Nat) : Int)) (.int 3) = true by decide +kernel))) (k rfl) rfl .nil (Bl.refl _)
    | frame =>
      refine n_seq ?_; refine (n_when (b := false) (et_is (t_or (t_not (t_B (e_cb (a_cons (e_var (i := 0) rfl rfl) (a_cons e_cv a_nil)) (by walk_at "cb")))) (fun hh => (t_or (t_T (e_op (e_cb (a_cons (e_var (i := 0) rfl rfl) a_nil) (by walk_at "cb")) e_int (by walk_at "od"))) (fun hh => (t_not (t_B (e_cb (a_cons (e_op (e_var (i := 0) rfl rfl) e_int (by walk_at "od")) (a_cons e_cv a_nil)) (by walk_at "cb")))))))) (by first | rfl | decide +kernel)) (fun z => by cases z) (fun _ => ?_))
      exact r_ret (e_is (s' := .d (.bool true)) (e_op (e_cb (a_cons (e_var (i := 0) rfl rfl) a_nil) (by walk_at "cb")) (e_dgetK e_cv hD (e_op (e_var (i := 0) rfl rfl) e_int (od_ixT (d := .str "frame") rfl)) e_int (.inr T.s_frame)) (od_eq .dat .dat rfl rfl)) (congrArg (fun b => SD.d (.bool b)) (show PyData.eqv (.int ((1 : Nat) : Int)) (.int 1) = true by decide +kernel))) (k rfl) rfl .nil (Bl.refl _)
  | bad i =>
    match i with
    | 0 =>
      refine n_seq ?_; refine (n_when (b := true) (et_is (t_or (b := false) (t_not (t_B (e_cb (a_cons (e_var (i := 0) rfl rfl) (a_cons e_cv a_nil)) (cd_isTup .dat)))) (fun hh => by cases hh)) (by first | rfl | decide +kernel)) (fun _ => ?_) (fun z => by cases z))
      exact r_ret e_bl (k rfl) rfl .nil (Bl.refl _)
    | 1 =>
      refine n_seq ?_; refine (n_when (b := true) (et_is (t_or (b := true) (t_not (t_B (e_cb (a_cons (e_var (i := 0) rfl rfl) (a_cons e_cv a_nil)) (cd_isTup (d := .tuple []) .dat)))) (fun _ => et_is (t_or (b := false) (t_T (e_op (e_cb (a_cons (e_var (i := 0) rfl rfl) a_nil) (cd_lenT (ds := []))) e_int (od_eq (.dat (d := .int (([] : List PyData).length : Nat))) .dat rfl rfl))) (fun hh => absurd (show PyData.eqv (.int ((0 : Nat) : Int)) (.int 0) = false from hh) (by decide +kernel))) (by decide +kernel))) (by first | rfl | decide +kernel)) (fun _ => ?_) (fun z => by cases z))
      exact r_ret e_bl (k rfl) rfl .nil (Bl.refl _)
    | 2 =>
      refine n_seq ?_; refine (n_when (b := false) (et_is (t_or (t_not (t_B (e_cb (a_cons (e_var (i := 0) rfl rfl) (a_cons e_cv a_nil)) (by walk_at "cb")))) (fun hh => (t_or (t_T (e_op (e_cb (a_cons (e_var (i := 0) rfl rfl) a_nil) (by walk_at "cb")) e_int (by walk_at "od"))) (fun hh => (t_not (t_B (e_cb (a_cons (e_op (e_var (i := 0) rfl rfl) e_int (by walk_at "od")) (a_cons e_cv a_nil)) (by walk_at "cb")))))))) (by first | rfl | decide +kernel)) (fun z => by cases z) (fun _ => ?_))
      exact r_ret (e_is (s' := .d (.bool false)) (e_op (e_cb (a_cons (e_var (i := 0) rfl rfl) a_nil) (by walk_at "cb")) (e_dgetK e_cv hD (e_op (e_var (i := 0) rfl rfl) e_int (od_ixT (d := .str "add") rfl)) e_int (.inr T.s_add)) (od_eq .dat .dat rfl rfl)) (congrArg (fun b => SD.d (.bool b)) (show PyData.eqv (.int ((2 : Nat) : Int)) (.int 6) = false by decide +kernel))) (k rfl) rfl .nil (Bl.refl _)
    | 3 =>
      refine n_seq ?_; refine (n_when (b := false) (et_is (t_or (t_not (t_B (e_cb (a_cons (e_var (i := 0) rfl rfl) (a_cons e_cv a_nil)) (by walk_at "cb")))) (fun hh => (t_or (t_T (e_op (e_cb (a_cons (e_var (i := 0) rfl rfl) a_nil) (by walk_at "cb")) e_int (by walk_at "od"))) (fun hh => (t_not (t_B (e_cb (a_cons (e_op (e_var (i := 0) rfl rfl) e_int (by walk_at "od")) (a_cons e_cv a_nil)) (by walk_at "cb")))))))) (by first | rfl | decide +kernel)) (fun z => by cases z) (fun _ => ?_))
      exact r_ret (e_is (s' := .d (.bool false)) (e_op (e_cb (a_cons (e_var (i := 0) rfl rfl) a_nil) (by walk_at "cb")) (e_dgetK e_cv hD (e_op (e_var (i := 0) rfl rfl) e_int (od_ixT (d := .str "frame") rfl)) e_int (.inr T.s_frame)) (od_eq .dat .dat rfl rfl)) (congrArg (fun b => SD.d (.bool b)) (show PyData.eqv (.int ((2 : Nat) : Int)) (.int 1) = false by decide +kernel))) (k rfl) rfl .nil (Bl.refl _)
    | 4 =>
      refine n_seq ?_; refine (n_when (b := false) (et_is (t_or (t_not (t_B (e_cb (a_cons (e_var (i := 0) rfl rfl) (a_cons e_cv a_nil)) (by walk_at "cb")))) (fun hh => (t_or (t_T (e_op (e_cb (a_cons (e_var (i := 0) rfl rfl) a_nil) (by walk_at "cb")) e_int (by walk_at "od"))) (fun hh => (t_not (t_B (e_cb (a_cons (e_op (e_var (i := 0) rfl rfl) e_int (by walk_at "od")) (a_cons e_cv a_nil)) (by walk_at "cb")))))))) (by first | rfl | decide +kernel)) (fun z => by cases z) (fun _ => ?_))
      exact r_ret (e_is (s' := .d (.bool false)) (e_op (e_cb (a_cons (e_var (i := 0) rfl rfl) a_nil) (by walk_at "cb")) (e_dgetK e_cv hD (e_op (e_var (i := 0) rfl rfl) e_int (od_ixT (d := .str "go") rfl)) e_int (.inl ⟨T.s_go, rfl⟩)) (od_eq .dat .dat rfl rfl)) (congrArg (fun b => SD.d (.bool b)) (show PyData.eqv (.int ((1 : Nat) : Int)) (.int 0) = false by decide +kernel))) (k rfl) rfl .nil (Bl.refl _)
    | 5 =>
      refine n_seq ?_; refine (n_when (b := true) (et_is (t_or (b := false) (t_not (t_B (e_cb (a_cons (e_var (i := 0) rfl rfl) (a_cons e_cv a_nil)) (cd_isTup .dat)))) (fun hh => by cases hh)) (by first | rfl | decide +kernel)) (fun _ => ?_) (fun z => by cases z))
      exact r_ret e_bl (k rfl) rfl .nil (Bl.refl _)
    | 6 =>
      refine n_seq ?_; refine (n_when (b := true) (et_is (t_or (b := false) (t_not (t_B (e_cb (a_cons (e_var (i := 0) rfl rfl) (a_cons e_cv a_nil)) (cd_isTup .dat)))) (fun hh => by cases hh)) (by first | rfl | decide +kernel)) (fun _ => ?_) (fun z => by cases z))
      exact r_ret e_bl (k rfl) rfl .nil (Bl.refl _)
    | _ + 7 =>
      refine n_seq ?_; refine (n_when (b := false) (et_is (t_or (t_not (t_B (e_cb (a_cons (e_var (i := 0) rfl rfl) (a_cons e_cv a_nil)) (by walk_at "cb")))) (fun hh => (t_or (t_T (e_op (e_cb (a_cons (e_var (i := 0) rfl rfl) a_nil) (by walk_at "cb")) e_int (by walk_at "od"))) (fun hh => (t_not (t_B (e_cb (a_cons (e_op (e_var (i := 0) rfl rfl) e_int (by walk_at "od")) (a_cons e_cv a_nil)) (by walk_at "cb")))))))) (by first | rfl | decide +kernel)) (fun z => by cases z) (fun _ => ?_))
      exact r_ret (e_is (s' := .d (.bool false)) (e_op (e_cb (a_cons (e_var (i := 0) rfl rfl) a_nil) (by walk_at "cb")) (e_dgetK e_cv hD (e_op (e_var (i := 0) rfl rfl) e_int (od_ixT (d := .str "rank") rfl)) e_int (.inr T.s_rank)) (od_eq .dat .dat rfl rfl)) (congrArg (fun b => SD.d (.bool b)) (show PyData.eqv (.int ((2 : Nat) : Int)) (.int 3) = false by decide +kernel))) (k rfl) rfl .nil (Bl.refl _)
theorem c_is_deed {Os : List Own} (th : Th) : CaD K Os (sp_is_deed K).sp [.d (thD th)] (.d (.bool (thB th))) Os := ca0 th trivial rfl rfl rfl rfl rfl
def doV (S : Bd) : Deed → PyData × Bd
  | .add r t s a p => match addE S r t s a p with
    | none => (.int S.jobs.length, S.addS (jobOf r t s a p))
    | some e => (refI (exOf e).ix, S)
  | .drop d => match openE S d with
    | none => (.list (lstN (S.dropL (natD d))), S.dropS (S.dropL (natD d)))
    | some e => (refI (exOf e).ix, S)
  | .rank d r => match rankE S d r with
    | none => (.int (S.jb (natD d)).rank, S.rankS d r)
    | some e => (refI (exOf e).ix, S)
  | .frame => (.list (S.frameR.map partD), S.frameS)
theorem dv_a0 {S : Bd} {r t s a p : PyData} (h : addE S r t s a p = none) : doV S (.add r t s a p) = (.int S.jobs.length, S.addS (jobOf r t s a p)) := by simp only [doV, h]
theorem dv_a1 {S : Bd} {r t s a p : PyData} {e : Ek} (h : addE S r t s a p = some e) : doV S (.add r t s a p) = (refI (exOf e).ix, S) := by simp only [doV, h]
theorem dv_d0 {S : Bd} {d : PyData} (h : openE S d = none) : doV S (.drop d) = (.list (lstN (S.dropL (natD d))), S.dropS (S.dropL (natD d))) := by simp only [doV, h]
theorem dv_d1 {S : Bd} {d : PyData} {e : Ek} (h : openE S d = some e) : doV S (.drop d) = (refI (exOf e).ix, S) := by simp only [doV, h]
theorem dv_r0 {S : Bd} {d r : PyData} (h : rankE S d r = none) : doV S (.rank d r) = (.int (S.jb (natD d)).rank, S.rankS d r) := by simp only [doV, h]
theorem dv_r1 {S : Bd} {d r : PyData} {e : Ek} (h : rankE S d r = some e) : doV S (.rank d r) = (refI (exOf e).ix, S) := by simp only [doV, h]
theorem ek_add {T : Tx K mg w} {S : Bd} {r t s a p : PyData} {e : Ek} (h : addE S r t s a p = some e) : ekA T e = exA T (exOf e) ∧ exPos (exOf e) = true ∧ PySem.W.exmOne K (.ref (exA T (exOf e))) (.ref T.c_WorkError) = some true := by
  have hn : e ≠ .noCount := by
    rintro rfl
    unfold addE at h
    have ha : ∀ ds : List PyData, afterE S ds ≠ some .noCount := fun ds => by
      induction ds with
      | nil => intro z; cases z
      | cons d ds ih =>
        unfold afterE
        split
        · split
          · intro z; cases z
          · exact ih
        · intro z; cases z
    by_cases z : jobOkD S.budget r t s p = true
    · rw [if_pos z] at h
      cases a with
      | tuple ds =>
        dsimp only at h
        by_cases y : ds.length ≤ 20
        · rw [if_pos y] at h
          cases q : afterE S ds with
          | none =>
            rw [q] at h
            by_cases w : S.opens.length = 20
            · rw [if_pos w] at h; cases h
            · rw [if_neg w] at h; cases h
          | some x => rw [q] at h; cases h; exact ha ds q
        · rw [if_neg y] at h; cases h
      | _ => cases h
    · rw [if_neg z] at h; cases h
  cases e
  · exact ⟨rfl, rfl, T.xw_NoJob⟩
  · exact ⟨rfl, rfl, T.xw_NoNumber⟩
  · exact ⟨rfl, rfl, T.xw_Over⟩
  · exact ⟨rfl, rfl, T.xw_Full⟩
  · exact absurd rfl hn
theorem ek_open {T : Tx K mg w} {S : Bd} {d : PyData} {e : Ek} (h : openE S d = some e) : ekO T e = exA T (exOf e) ∧ exPos (exOf e) = true ∧ PySem.W.exmOne K (.ref (exA T (exOf e))) (.ref T.c_WorkError) = some true := by
  unfold openE at h
  split at h
  · split at h
    · cases h
    · cases h; exact ⟨rfl, rfl, T.xw_Over⟩
  · cases h; exact ⟨rfl, rfl, T.xw_NoNumber⟩
theorem ek_rank {T : Tx K mg w} {S : Bd} {d r : PyData} {e : Ek} (h : rankE S d r = some e) : ekR T e = exA T (exOf e) ∧ exPos (exOf e) = true ∧ PySem.W.exmOne K (.ref (exA T (exOf e))) (.ref T.c_WorkError) = some true := by
  unfold rankE at h
  cases q : openE S d with
  | none =>
    rw [q] at h
    split at h
    · cases h
    · cases h; exact ⟨rfl, rfl, T.xw_NoJob⟩
  | some x =>
    rw [q] at h
    cases h
    obtain ⟨h1, h2, h3⟩ := ek_open (T := T) q
    exact ⟨(ek_or T q).trans h1, h2, h3⟩
def errOf (T : Tx K mg w) (S : Bd) : Deed → Option Addr
  | .add r t s a p => (addE S r t s a p).map (ekA T)
  | .drop d => (openE S d).map (ekO T)
  | .rank d r => (rankE S d r).map (ekR T)
  | .frame => none
def refB (S : Bd) : Deed → Bool
  | .add r t s a p => (addE S r t s a p).isSome
  | .drop d => (openE S d).isSome
  | .rank d r => (rankE S d r).isSome
  | .frame => false
theorem err_no {T : Tx K mg w} {S : Bd} {dd : Deed} (h : errOf T S dd = none) : refB S dd = false := by
  cases dd with
  | frame => rfl
  | _ => exact Option.isSome_eq_false_iff.mpr (Option.isNone_iff_eq_none.mpr (Option.map_eq_none_iff.mp h))
theorem err_yes {T : Tx K mg w} {S : Bd} {dd : Deed} {C : Addr} (h : errOf T S dd = some C) : refB S dd = true ∧ PySem.W.exmOne K (.ref C) (.ref T.c_WorkError) = some true ∧ (doV S dd).2 = S := by
  cases dd with
  | add r t s a p =>
    obtain ⟨e, he, rfl⟩ := Option.map_eq_some_iff.mp h
    obtain ⟨q1, _, q3⟩ := ek_add (T := T) he
    exact ⟨by show (addE S r t s a p).isSome = true; rw [he]; rfl, by rw [q1]; exact q3, by rw [dv_a1 he]⟩
  | drop d =>
    obtain ⟨e, he, rfl⟩ := Option.map_eq_some_iff.mp h
    obtain ⟨q1, _, q3⟩ := ek_open (T := T) he
    exact ⟨by show (openE S d).isSome = true; rw [he]; rfl, by rw [q1]; exact q3, by rw [dv_d1 he]⟩
  | rank d r =>
    obtain ⟨e, he, rfl⟩ := Option.map_eq_some_iff.mp h
    obtain ⟨q1, _, q3⟩ := ek_rank (T := T) he
    exact ⟨by show (rankE S d r).isSome = true; rw [he]; rfl, by rw [q1]; exact q3, by rw [dv_r1 he]⟩
  | frame => cases h
def sp_do_now (T : Tx K mg w) : Pm K (Addr × Bd × Deed) := ⟨fun g => g.2.1.Ok ∧ g.2.1.spent.length < 100000, fun g => [.v (.ref g.1), .d (deedD g.2.2)], fun g => [bdx K T.c_Board T.c_Job g.1 g.2.1], fun g => .d (doV g.2.1 g.2.2).1, fun g => [bdx K T.c_Board T.c_Job g.1 (doV g.2.1 g.2.2).2], fun g => errOf T g.2.1 g.2.2, fun g => [bdx K T.c_Board T.c_Job g.1 g.2.1]⟩
theorem ok_do_now (T : Tx K mg w) : FnOk P w K mg base (L2.CX P w) 7 T.a_do_now T.fd_do_now ["board", "deed"] (sp_do_now T).sp := by
  refine T.F_do_now.okX sc_do_now ((sp_do_now T).len fun _ => rfl) (fun cdv A outer s H vs Q EX hr h => ?_)
  obtain ⟨⟨b, S, dd⟩, B, F, hp, A0, hB, k, kx⟩ := h
  obtain ⟨ok, hsp⟩ := hp
  dsimp only at ok hsp
  refine ⟨_, (pss_cons (ps_if (pt_cmpR (eqK (K := K) rfl hr.units) (pe_ix (ixK (K := K) rfl) (pv 1) pe_int (fun _ _ => rfl)) pe_str (nomark _)) (pss_one (ps_ret (pe_meth (pv 0) T.cl_Board T.M_Board_add (ok_Board_add T) (hr.mono (by decide)) T.b_Board_add .nil (passes_call (takes_of rfl rfl rfl rfl) (fun _ _ _ _ h => h)) (pa_cons (pe_ix (ixK (K := K) rfl) (pv 1) pe_int (fun _ _ => rfl)) (pa_cons (pe_ix (ixK (K := K) rfl) (pv 1) pe_int (fun _ _ => rfl)) (pa_cons (pe_ix (ixK (K := K) rfl) (pv 1) pe_int (fun _ _ => rfl)) (pa_cons (pe_ix (ixK (K := K) rfl) (pv 1) pe_int (fun _ _ => rfl)) (pa_cons (pe_ix (ixK (K := K) rfl) (pv 1) pe_int (fun _ _ => rfl)) pa_nil)))))))) pss_nil) (pss_cons (ps_if (pt_cmpR (eqK (K := K) rfl hr.units) (pe_ix (ixK (K := K) rfl) (pv 1) pe_int (fun _ _ => rfl)) pe_str (nomark _)) (pss_one (ps_ret (pe_meth (pv 0) T.cl_Board T.M_Board_drop (ok_Board_drop T) (hr.mono (by decide)) T.b_Board_drop .nil (passes_call (takes_of rfl rfl rfl rfl) (fun _ _ _ _ h => h)) (pa_cons (pe_ix (ixK (K := K) rfl) (pv 1) pe_int (fun _ _ => rfl)) pa_nil)))) pss_nil) (pss_cons (ps_if (pt_cmpR (eqK (K := K) rfl hr.units) (pe_ix (ixK (K := K) rfl) (pv 1) pe_int (fun _ _ => rfl)) pe_str (nomark _)) (pss_one (ps_ret (pe_meth (pv 0) T.cl_Board T.M_Board_set_rank (ok_Board_set_rank T) (hr.mono (by decide)) T.b_Board_set_rank .nil (passes_call (takes_of rfl rfl rfl rfl) (fun _ _ _ _ h => h)) (pa_cons (pe_ix (ixK (K := K) rfl) (pv 1) pe_int (fun _ _ => rfl)) (pa_cons (pe_ix (ixK (K := K) rfl) (pv 1) pe_int (fun _ _ => rfl)) pa_nil))))) pss_nil) (pss_one (ps_ret (pe_meth0 (pv 0) T.cl_Board T.M_Board_frame (ok_Board_frame T) (hr.mono (by decide)) T.b_Board_frame .nil (passes_call (takes_of rfl rfl rfl rfl) (fun _ _ _ _ h => h)))))))), ?_⟩
  refine run (Γ := [.v (.ref b), .d (deedD dd)]) (Oi := [bdx K T.c_Board T.c_Job b S]) A0 rfl ?_
  cases dd with
  | add r t s1 a p =>
    refine n_seq ?_; refine (n_when (b := true) (et_is (t_T (e_op (e_op (e_var (i := 1) rfl rfl) e_int (od_ixT (d := .str "add") rfl)) e_str (od_eq .dat .dat (by decide +kernel) (by decide +kernel)))) (show PyData.eqv (.str "add") (.str "add") = true by decide +kernel)) (fun _ => ?_) (fun z => by cases z))
    refine n_retMP (e_var (i := 0) rfl rfl) (ins_bdx 0 rfl (by decide +kernel)) (a_cons (e_op (e_var (i := 1) rfl rfl) e_int (by walk_at "od")) (a_cons (e_op (e_var (i := 1) rfl rfl) e_int (by walk_at "od")) (a_cons (e_op (e_var (i := 1) rfl rfl) e_int (by walk_at "od")) (a_cons (e_op (e_var (i := 1) rfl rfl) e_int (by walk_at "od")) (a_cons (e_op (e_var (i := 1) rfl rfl) e_int (by walk_at "od")) a_nil))))) (c_Board_add T (r := r) (t := t) (st := s1) (af := a) (p := p) 0 rfl ok) (fun hn x F σ H A q => ?_) (fun Ce hC => n_err kx hC (Ole.refl _) (Bl.refl _))
    have hn : addE S r t s1 a p = none := Option.map_eq_none_iff.mp hn
    have e1 := dv_a0 hn
    exact k (show (addE S r t s1 a p).map _ = none by rw [hn]; rfl) x F H ((A.slots (Γ' := []) (σ' := []) trivial).ole (.cons (by show Oimp _ (bdx K T.c_Board T.c_Job b (doV S _).2); rw [e1]; exact Oimp.refl _) .nil)) (by show Rp K F x (.d (doV S (.add r t s1 a p)).1); rw [e1]; exact q)
  | drop d =>
    refine n_seq ?_; refine (n_when (b := false) (et_is (t_T (e_op (e_op (e_var (i := 1) rfl rfl) e_int (od_ixT (d := .str "drop") rfl)) e_str (od_eq .dat .dat (by decide +kernel) (by decide +kernel)))) (show PyData.eqv (.str "drop") (.str "add") = false by decide +kernel)) (fun z => by cases z) (fun _ => ?_))
    refine n_seq ?_; refine (n_when (b := true) (et_is (t_T (e_op (e_op (e_var (i := 1) rfl rfl) e_int (od_ixT (d := .str "drop") rfl)) e_str (od_eq .dat .dat (by decide +kernel) (by decide +kernel)))) (show PyData.eqv (.str "drop") (.str "drop") = true by decide +kernel)) (fun _ => ?_) (fun z => by cases z))
    refine n_retMPL (e_var (i := 0) rfl rfl) (ins_bdx 0 rfl (by decide +kernel)) (a_cons (e_op (e_var (i := 1) rfl rfl) e_int (by walk_at "od")) a_nil) (x_Board_drop T (d := d) 0 rfl ok) (fun hn p F σ H A => ?_) (fun Ce hC => n_err kx hC (Ole.refl _) (Bl.refl _))
    have hn : openE S d = none := Option.map_eq_none_iff.mp hn
    have e1 := dv_d0 hn
    obtain ⟨F2, _, A2, q⟩ := A.lastL
    exact k (show (openE S d).map _ = none by rw [hn]; rfl) _ F2 H ((A2.slots (Γ' := []) (σ' := []) trivial).ole (.cons (by show Oimp _ (bdx K T.c_Board T.c_Job b (doV S _).2); rw [e1]; exact Oimp.refl _) .nil)) (by show Rp K F2 _ (.d (doV S (.drop d)).1); rw [e1]; exact q)
  | rank d r =>
    refine n_seq ?_; refine (n_when (b := false) (et_is (t_T (e_op (e_op (e_var (i := 1) rfl rfl) e_int (od_ixT (d := .str "rank") rfl)) e_str (od_eq .dat .dat (by decide +kernel) (by decide +kernel)))) (show PyData.eqv (.str "rank") (.str "add") = false by decide +kernel)) (fun z => by cases z) (fun _ => ?_))
    refine n_seq ?_; refine (n_when (b := false) (et_is (t_T (e_op (e_op (e_var (i := 1) rfl rfl) e_int (od_ixT (d := .str "rank") rfl)) e_str (od_eq .dat .dat (by decide +kernel) (by decide +kernel)))) (show PyData.eqv (.str "rank") (.str "drop") = false by decide +kernel)) (fun z => by cases z) (fun _ => ?_))
    refine n_seq ?_; refine (n_when (b := true) (et_is (t_T (e_op (e_op (e_var (i := 1) rfl rfl) e_int (od_ixT (d := .str "rank") rfl)) e_str (od_eq .dat .dat (by decide +kernel) (by decide +kernel)))) (show PyData.eqv (.str "rank") (.str "rank") = true by decide +kernel)) (fun _ => ?_) (fun z => by cases z))
    refine n_retMP (e_var (i := 0) rfl rfl) (ins_bdx 0 rfl (by decide +kernel)) (a_cons (e_op (e_var (i := 1) rfl rfl) e_int (by walk_at "od")) (a_cons (e_op (e_var (i := 1) rfl rfl) e_int (by walk_at "od")) a_nil)) (c_Board_set_rank T (d := d) (rk := r) 0 rfl ok) (fun hn x F σ H A q => ?_) (fun Ce hC => n_err kx hC (Ole.refl _) (Bl.refl _))
    have hn : rankE S d r = none := Option.map_eq_none_iff.mp hn
    have e1 := dv_r0 hn
    exact k (show (rankE S d r).map _ = none by rw [hn]; rfl) x F H ((A.slots (Γ' := []) (σ' := []) trivial).ole (.cons (by show Oimp _ (bdx K T.c_Board T.c_Job b (doV S _).2); rw [e1]; exact Oimp.refl _) .nil)) (by show Rp K F x (.d (doV S (.rank d r)).1); rw [e1]; exact q)
  | frame =>
    refine n_seq ?_; refine (n_when (b := false) (et_is (t_T (e_op (e_op (e_var (i := 1) rfl rfl) e_int (od_ixT (d := .str "frame") rfl)) e_str (od_eq .dat .dat (by decide +kernel) (by decide +kernel)))) (show PyData.eqv (.str "frame") (.str "add") = false by decide +kernel)) (fun z => by cases z) (fun _ => ?_))
    refine n_seq ?_; refine (n_when (b := false) (et_is (t_T (e_op (e_op (e_var (i := 1) rfl rfl) e_int (od_ixT (d := .str "frame") rfl)) e_str (od_eq .dat .dat (by decide +kernel) (by decide +kernel)))) (show PyData.eqv (.str "frame") (.str "drop") = false by decide +kernel)) (fun z => by cases z) (fun _ => ?_))
    refine n_seq ?_; refine (n_when (b := false) (et_is (t_T (e_op (e_op (e_var (i := 1) rfl rfl) e_int (od_ixT (d := .str "frame") rfl)) e_str (od_eq .dat .dat (by decide +kernel) (by decide +kernel)))) (show PyData.eqv (.str "frame") (.str "rank") = false by decide +kernel)) (fun z => by cases z) (fun _ => ?_))
    refine n_retMPL (e_var (i := 0) rfl rfl) (ins_bdx 0 rfl (by decide +kernel)) a_nil (caL_X (x_Board_frame T 0 rfl ok hsp) _) (fun hn p F σ H A => ?_) (fun Ce hC => by cases hC)
    obtain ⟨F2, _, A2, q⟩ := A.lastL
    exact k rfl _ F2 H ((A2.slots (Γ' := []) (σ' := []) trivial).ole (.cons (Oimp.refl _) .nil)) q
theorem c_do_now (T : Tx K mg w) {Os : List Own} {X : XK} {b : Addr} {S : Bd} {dd : Deed} (i : Nat) (h : Os[i]? = some (bdx K T.c_Board T.c_Job b S)) (ok : S.Ok) (hs : S.spent.length < 100000) : CaX K Os (sp_do_now T).sp [.v (.ref b), .d (deedD dd)] X (errOf T S dd) (.d (doV S dd).1) (Os.set i (bdx K T.c_Board T.c_Job b (doV S dd).2)) Os := by
  have := cx1 (p := sp_do_now T) (X := X) (O' := bdx K T.c_Board T.c_Job b (doV S dd).2) (OE := bdx K T.c_Board T.c_Job b S) i (b, S, dd) h ⟨ok, hs⟩ rfl rfl rfl rfl rfl rfl
  rw [set_self h] at this
  exact this
def doR (S : Bd) : Th → PyData
  | .ok dd => if refB S dd = true then .str "refused" else (doV S dd).1
  | .bad _ => .none
def doS (S : Bd) : Th → Bd
  | .ok dd => (doV S dd).2
  | .bad _ => S
def doX (T : Tx K mg w) : Th → Option Addr
  | .ok _ => none
  | .bad _ => some T.c_NoDeed
def sp_do (T : Tx K mg w) : Pm K (Addr × Bd × Th) := ⟨fun g => g.2.1.Ok ∧ g.2.1.spent.length < 100000, fun g => [.v (.ref g.1), .d (thD g.2.2)], fun g => [bdx K T.c_Board T.c_Job g.1 g.2.1], fun g => .d (doR g.2.1 g.2.2), fun g => [bdx K T.c_Board T.c_Job g.1 (doS g.2.1 g.2.2)], fun g => doX T g.2.2, fun g => [bdx K T.c_Board T.c_Job g.1 g.2.1]⟩
theorem ok_do (T : Tx K mg w) : FnOk P w K mg base (L2.CX P w) 8 T.a_do T.fd_do ["board", "deed"] (sp_do T).sp := by
  refine T.F_do.okX sc_do ((sp_do T).len fun _ => rfl) (fun cdv A outer s H vs Q EX hr h => ?_)
  obtain ⟨⟨b, S, th⟩, B, F, hp, A0, hB, k, kx⟩ := h
  obtain ⟨ok, hsp⟩ := hp
  dsimp only at ok hsp
  refine ⟨_, (pss_cons (ps_if (pt_not (pt_val (pe_call (ok_is_deed T) (hr.mono (by decide)) (by rfl) T.m_is_deed T.F_is_deed.kp T.b_is_deed .nil (passes_call (takes_of rfl rfl rfl rfl) (fun _ _ _ _ h => h)) (pa_cons (pv 1) pa_nil)))) (pss_one (ps_raise rfl (takes_of rfl rfl rfl rfl) (pmk_own PySem.F.excBase_ValueError T.x_NoDeed T.m_NoDeed T.k_NoDeed (raises_own T.b_NoDeed T.t_NoDeed) rfl))) pss_nil) (pss_one (L2.ps_try_only rfl rfl ⟨rfl, by decide, .inl T.m_WorkError⟩ (takes_of rfl rfl rfl rfl) (fun W pn xe tk _ => (pss_one (ps_ret (pe_callS (ok_do_now T) (hr.mono (by decide)) (by rfl) T.m_do_now T.F_do_now.kp T.b_do_now (fun σ => passAt tk σ) (pa_cons (pv 0) (pa_cons (pv 1) pa_nil)))))) (fun a oe cls d pn hz hf => (pss_one (ps_ret pe_str)))))), ?_⟩
  refine run (Γ := [.v (.ref b), .d (thD th)]) (Oi := [bdx K T.c_Board T.c_Job b S]) A0 rfl ?_
  cases th with
  | bad i =>
    refine n_seq ?_; refine (n_when (b := true) (et_is (t_not (t_B (e_call (a_cons (e_var (i := 1) rfl rfl) a_nil) (c_is_deed (.bad i))))) rfl) (fun _ => ?_) (fun z => by cases z))
    exact n_err kx rfl (Ole.refl _) (Bl.refl _)
  | ok dd =>
    refine n_seq ?_; refine (n_when (b := false) (et_is (t_not (t_B (e_call (a_cons (e_var (i := 1) rfl rfl) a_nil) (c_is_deed (.ok dd))))) rfl) (fun z => by cases z) (fun _ => ?_))
    refine n_retCX (a_cons (e_var (i := 0) rfl rfl) (a_cons (e_var (i := 1) rfl rfl) a_nil)) (fun X => c_do_now T (dd := dd) 0 rfl ok hsp) (fun hn x F σ H A q => ?_) (fun Ce hC => ?_)
    · exact k rfl x F H (A.slots (Γ' := []) (σ' := []) trivial) (by rw [show (sp_do T).res (b, S, .ok dd) = .d (doV S dd).1 from congrArg SD.d (if_neg (by rw [err_no hn]; simp))]; exact q)
    · obtain ⟨q1, q2, q3⟩ := err_yes hC
      refine n_catchO q2 (fun ax => ?_)
      exact r_ret e_str (k rfl) (congrArg SD.d (show PyData.str "refused" = doR S (.ok dd) from (if_pos q1).symm)) (.cons (by show Oimp _ (bdx K T.c_Board T.c_Job b (doV S dd).2); rw [q3]; exact Oimp.refl _) .nil) (Bl.refl _)
theorem c_doX (T : Tx K mg w) {Os : List Own} {X : XK} {b : Addr} {S : Bd} {th : Th} (i : Nat) (h : Os[i]? = some (bdx K T.c_Board T.c_Job b S)) (ok : S.Ok) (hs : S.spent.length < 100000) : CaX K Os (sp_do T).sp [.v (.ref b), .d (thD th)] X (doX T th) (.d (doR S th)) (Os.set i (bdx K T.c_Board T.c_Job b (doS S th))) Os := by
  have := cx1 (p := sp_do T) (X := X) (O' := bdx K T.c_Board T.c_Job b (doS S th)) (OE := bdx K T.c_Board T.c_Job b S) i (b, S, th) h ⟨ok, hs⟩ rfl rfl rfl rfl rfl rfl
  rw [set_self h] at this
  exact this
theorem c_do (T : Tx K mg w) {Os : List Own} {b : Addr} {S : Bd} {dd : Deed} (i : Nat) (h : Os[i]? = some (bdx K T.c_Board T.c_Job b S)) (ok : S.Ok) (hs : S.spent.length < 100000) : CaD K Os (sp_do T).sp [.v (.ref b), .d (deedD dd)] (.d (doR S (.ok dd))) (Os.set i (bdx K T.c_Board T.c_Job b (doV S dd).2)) := ca1 (p := sp_do T) i (b, S, .ok dd) h ⟨ok, hs⟩ rfl rfl rfl rfl rfl
end
end Cw

namespace Cw
open PySem L2

local macro_rules | `(tactic| walk_at "vw") => `(tactic| first | exact Vw.dat | exact Vw.own 0 rfl | exact Vw.own 1 rfl | exact Vw.own 2 rfl | exact Vw.own 3 rfl | exact Vw.own 4 rfl | exact Vw.own 5 rfl | exact Vw.own 6 rfl | exact Vw.own 7 rfl)
local macro_rules | `(tactic| walk_at "ar") => `(tactic| first | assumption | decide | omega)
local macro_rules | `(tactic| walk_at "ix") => `(tactic| first | assumption | rfl)
local macro_rules | `(tactic| walk_at "sh") => `(tactic| first | assumption | rfl)
local macro_rules | `(tactic| walk_at "cm") => `(tactic| first | exact Or.inr ⟨by decide, by decide⟩ | exact Or.inl ⟨by decide, by decide⟩ | (unfold CMul; omega))
local macro_rules | `(tactic| walk_at "cd") => `(tactic| first | exact ⟨by decide, by decide⟩ | exact ⟨by omega, by omega⟩)
local macro_rules | `(tactic| walk_at "lim") => `(tactic| first | assumption | omega | (simp only [List.length_append, List.length_cons, List.length_nil, List.length_replicate, List.length_map]; omega) | decide)
local macro_rules | `(tactic| walk_at "od") => `(tactic| first
  | exact od_add | exact od_sub | exact od_lt | exact od_le | exact od_gt | exact od_ge | exact od_isn | exact od_notn
  | exact od_mul (by walk_at "cm") | exact od_mod (by walk_at "ar") | exact od_fdiv (by walk_at "cd")
  | exact od_eq (by walk_at "vw") (by walk_at "vw") (by walk_at "sh") (by walk_at "sh") | exact od_l (od_ne (by walk_at "vw") (by walk_at "vw") (by walk_at "sh") (by walk_at "sh"))
  | exact od_ixT (by walk_at "ix") | exact od_ixL (by walk_at "vw") (by walk_at "ix") | exact od_addT (by walk_at "lim") | exact od_repT (by walk_at "lim") (by walk_at "lim") (by walk_at "lim")
  | exact od_jobs 0 rfl (by assumption) | exact od_ixV 1 rfl (by assumption)
  | exact od_in (by walk_at "vw") (by walk_at "vw") (by walk_at "sh") (by walk_at "sh") | exact od_nin (by walk_at "vw") (by walk_at "vw") (by walk_at "sh") (by walk_at "sh"))
local macro_rules | `(tactic| walk_at "ins") => `(tactic| first | exact ins_bd 0 rfl (by decide +kernel) | exact ins_bdx 0 rfl (by decide +kernel) | exact ins_bdx 1 rfl (by decide +kernel) | exact ins_bdx 2 rfl (by decide +kernel) | exact ins_bdx 3 rfl (by decide +kernel))
local macro_rules | `(tactic| walk_at "cb") => `(tactic| first
  | exact cd_lenT | exact cd_lenL (by walk_at "vw") | exact cd_isInt (by walk_at "vw") | exact cd_isBool (by walk_at "vw") | exact cd_isTup (by walk_at "vw") | exact cd_isLst (by walk_at "vw") | exact cd_isStr (by walk_at "vw")
  | exact cd_all (by walk_at "vw") | exact cd_any (by walk_at "vw") | exact cd_sum (by walk_at "vw") | exact cd_tupL (by walk_at "vw") | exact cl_listL (by walk_at "vw") | exact cd_lenJ 0 rfl | exact cl_spent 0 rfl | exact cd_spentT 0 rfl | exact cd_intB | exact cd_max2 | exact cd_min2)

section
variable {P : Program} {w : World} {K : Fr} {mg : Str → Option Value} {base : Heap}
def sizB (ns : List Int) (n : Nat) : PyData := pickD ns n [.int 1, .int 3, .int 5, .int 10, .int 50]
def sizP (ns : List Int) (n : Nat) : PyData := pickD ns n [.int 1, .int 2, .int 3, .int 20]
theorem siz_ok (ns : List Int) (n m : Nat) : ∃ Bu Pa : Int, sizB ns n = .int Bu ∧ sizP ns m = .int Pa ∧ 1 ≤ Bu ∧ Bu ≤ 50 ∧ 1 ≤ Pa ∧ Pa ≤ 20 := by
  have h1 := pickD_mem (ns := ns) (n := n) (ds := [.int 1, .int 3, .int 5, .int 10, .int 50]) (by simp)
  have h2 := pickD_mem (ns := ns) (n := m) (ds := [.int 1, .int 2, .int 3, .int 20]) (by simp)
  simp only [List.mem_cons, List.not_mem_nil, or_false] at h1 h2
  have a : ∃ Bu : Int, sizB ns n = .int Bu ∧ 1 ≤ Bu ∧ Bu ≤ 50 := by
    rcases h1 with e | e | e | e | e
    · exact ⟨1, e, by decide, by decide⟩
    · exact ⟨3, e, by decide, by decide⟩
    · exact ⟨5, e, by decide, by decide⟩
    · exact ⟨10, e, by decide, by decide⟩
    · exact ⟨50, e, by decide, by decide⟩
  have b : ∃ Pa : Int, sizP ns m = .int Pa ∧ 1 ≤ Pa ∧ Pa ≤ 20 := by
    rcases h2 with e | e | e | e
    · exact ⟨1, e, by decide, by decide⟩
    · exact ⟨2, e, by decide, by decide⟩
    · exact ⟨3, e, by decide, by decide⟩
    · exact ⟨20, e, by decide, by decide⟩
  obtain ⟨Bu, x, y, z⟩ := a
  obtain ⟨Pa, x', y', z'⟩ := b
  exact ⟨Bu, Pa, x, x', y, z, y', z'⟩
def sp_l_sizes (K : Fr) : Pm K (List Int × Addr × Nat) := ⟨fun g => g.2.2 ≤ 90000, fun g => [.d (lstI g.1), .v (.ref g.2.1)], fun g => [town K g.2.1 g.2.2], fun g => .d (.tuple [sizB g.1 g.2.2, sizP g.1 (g.2.2 + 1)]), fun g => [town K g.2.1 (g.2.2 + 2)], fun _ => none, fun _ => []⟩
theorem ok_l_sizes (T : Tx K mg w) : FnOk P w K mg base (L2.CX P w) 5 T.a_l_sizes T.fd_l_sizes ["_law_script", "_law_town"] (sp_l_sizes K).sp := by
  refine T.F_l_sizes.okX sc_l_sizes ((sp_l_sizes K).len fun _ => rfl) (fun cdv A outer s H vs Q EX hr h => ?_)
  obtain ⟨⟨ns, p, n⟩, B, F, hp, A0, hB, k, kx⟩ := h
  have hn : n ≤ 90000 := hp
  have hn1 : n ≤ 100000 := by omega
  have hn2 : n + 1 ≤ 100000 := by omega
  refine ⟨_, (pss_one (ps_ret (pe_tup (pa_cons (pe_call (ok_l_pick T) (hr.mono (by decide)) (by rfl) T.m_l_pick T.F_l_pick.kp T.b_l_pick .nil passL (pa_cons (pv 0) (pa_cons (pv 1) (pa_cons (pe_lst (pa_cons pe_int (pa_cons pe_int (pa_cons pe_int (pa_cons pe_int (pa_cons pe_int pa_nil)))))) pa_nil)))) (pa_cons (pe_call (ok_l_pick T) (hr.mono (by decide)) (by rfl) T.m_l_pick T.F_l_pick.kp T.b_l_pick .nil passL (pa_cons (pv 0) (pa_cons (pv 1) (pa_cons (pe_lst (pa_cons pe_int (pa_cons pe_int (pa_cons pe_int (pa_cons pe_int pa_nil))))) pa_nil)))) pa_nil))))), ?_⟩
  refine run (Γ := [.d (lstI ns), .v (.ref p)]) (Oi := [town K p n]) A0 rfl ?_
  exact r_ret (e_tup (ds := [_, _]) (a_cons (e_call (a_cons (e_var (i := 0) rfl rfl) (a_cons (e_var (i := 1) rfl rfl) (a_cons (e_fz (el_lst (ds := [_, _, _, _, _]) (a_cons e_int (a_cons e_int (a_cons e_int (a_cons e_int (a_cons e_int a_nil))))) rfl (Nat.le_of_ble_eq_true rfl))) a_nil))) (c_l_pick 0 rfl (by first | assumption | decide | simp) (by first | assumption | decide | omega))) (a_cons (e_call (a_cons (e_var (i := 0) rfl rfl) (a_cons (e_var (i := 1) rfl rfl) (a_cons (e_fz (el_lst (ds := [_, _, _, _]) (a_cons e_int (a_cons e_int (a_cons e_int (a_cons e_int a_nil)))) rfl (Nat.le_of_ble_eq_true rfl))) a_nil))) (c_l_pick 0 rfl (by first | assumption | decide | simp) (by first | assumption | decide | omega))) a_nil)) rfl (Nat.le_of_ble_eq_true rfl)) (k rfl) rfl (Ole.refl _) (Bl.refl _)
theorem c_l_sizes {Os : List Own} {ns : List Int} {p : Addr} {n : Nat} (i : Nat) (h : Os[i]? = some (town K p n)) (hn : n ≤ 90000) : CaD K Os (sp_l_sizes K).sp [.d (lstI ns), .v (.ref p)] (.d (.tuple [sizB ns n, sizP ns (n + 1)])) (Os.set i (town K p (n + 2))) := ca1 i (ns, p, n) h hn rfl rfl rfl rfl rfl
def jobA1 (ns : List Int) (n M : Nat) : List Nat × Nat := if 0 < M then (if mixI ns (n + 1) 4 = 0 then ([(mixI ns (n + 2) (M : Int)).toNat], n + 2) else ([], n + 1)) else ([], n)
def jobA2 (ns : List Int) (n M : Nat) (af : List Nat) : List Nat × Nat := if 1 < M then (if mixI ns (n + 1) 9 = 0 then (af ++ [(mixI ns (n + 2) (M : Int)).toNat], n + 2) else (af, n + 1)) else (af, n)
def partsN (ns : List Int) (n : Nat) (Bu : Int) (R : Nat) : List Int := (List.range R).map fun x => 1 + mixI ns (n + 1 + x) Bu
def jobU (ns : List Int) (n : Nat) (Bu : Int) (A : List Nat × Nat) (R : Nat) : Deed × Nat :=
  (.add (.int (mixI ns (A.2 + 1 + R + 1) 5)) (pickD ns (n + 1) [.none, .none, .int (mixI ns (n + 1) 12)]) (pickD ns (n + 3) [.int 0, .int 0, .int 0, .int (mixI ns (n + 3) 10)]) (tupN A.1) (tupI (partsN ns (A.2 + 1) Bu R)), A.2 + 1 + R + 1)
def jobV (ns : List Int) (n : Nat) (Bu : Int) (A : List Nat × Nat) : Deed × Nat := jobU ns n Bu A (1 + mixI ns (A.2 + 1) 3).toNat
def jobW (ns : List Int) (n : Nat) (Bu : Int) (M : Nat) : Deed × Nat := jobV ns n Bu (jobA2 ns (jobA1 ns (n + 4) M).2 M (jobA1 ns (n + 4) M).1)
theorem jobA1_n (ns : List Int) (n M : Nat) : n ≤ (jobA1 ns n M).2 ∧ (jobA1 ns n M).2 ≤ n + 2 ∧ (jobA1 ns n M).1.length ≤ 1 ∧ ∀ o ∈ (jobA1 ns n M).1, o < M := by
  unfold jobA1
  split
  · rename_i hM
    have := mixI_b ns (n + 2) (m := (M : Int)) (by omega)
    split
    · refine ⟨by dsimp only; omega, by dsimp only; omega, by simp, fun o ho => ?_⟩
      simp at ho; omega
    · exact ⟨by dsimp only; omega, by dsimp only; omega, by simp, fun o ho => nomatch ho⟩
  · exact ⟨by dsimp only; omega, by dsimp only; omega, by simp, fun o ho => nomatch ho⟩
theorem jobA2_n (ns : List Int) (n M : Nat) (af : List Nat) : n ≤ (jobA2 ns n M af).2 ∧ (jobA2 ns n M af).2 ≤ n + 2 ∧ (jobA2 ns n M af).1.length ≤ af.length + 1 ∧ ((∀ o ∈ af, o < M) → ∀ o ∈ (jobA2 ns n M af).1, o < M) := by
  unfold jobA2
  split
  · rename_i hM
    have := mixI_b ns (n + 2) (m := (M : Int)) (by omega)
    split
    · refine ⟨by dsimp only; omega, by dsimp only; omega, by simp, fun h o ho => ?_⟩
      rcases List.mem_append.mp ho with ho | ho
      · exact h o ho
      · simp at ho; omega
    · exact ⟨by dsimp only; omega, by dsimp only; omega, by dsimp only; omega, fun h => h⟩
  · exact ⟨by dsimp only; omega, by dsimp only; omega, by dsimp only; omega, fun h => h⟩
def DeedOk (Bu : Int) (M : Nat) : Deed → Prop
  | .add r t s a p => ∃ (rk st : Int) (tm : Option Int) (af : List Nat) (ps : List Int), r = .int rk ∧ t = oD tm ∧ s = .int st ∧ a = tupN af ∧ p = tupI ps ∧ (0 ≤ rk ∧ rk ≤ 4) ∧ (∀ x, tm = some x → 0 ≤ x ∧ x ≤ 10000) ∧ (0 ≤ st ∧ st ≤ 10000) ∧ af.length ≤ 20 ∧ (∀ o ∈ af, o < M) ∧ 1 ≤ ps.length ∧ ps.length ≤ 8 ∧ ∀ p ∈ ps, 1 ≤ p ∧ p ≤ Bu
  | .drop d => ∃ k : Nat, d = .int (k : Int) ∧ k < M
  | .rank d r => ∃ (k : Nat) (rk : Int), d = .int (k : Int) ∧ k < M ∧ r = .int rk ∧ 0 ≤ rk ∧ rk ≤ 4
  | .frame => True
theorem jobW_ok (ns : List Int) (n : Nat) {Bu : Int} (M : Nat) (hB : 0 < Bu) : DeedOk Bu M (jobW ns n Bu M).1 ∧ n ≤ (jobW ns n Bu M).2 ∧ (jobW ns n Bu M).2 ≤ n + 13 := by
  have h1 := jobA1_n ns (n + 4) M
  have h2 := jobA2_n ns (jobA1 ns (n + 4) M).2 M (jobA1 ns (n + 4) M).1
  unfold jobW jobV
  generalize jobA2 ns (jobA1 ns (n + 4) M).2 M (jobA1 ns (n + 4) M).1 = A at h2
  generalize jobA1 ns (n + 4) M = A1 at h1 h2
  have hR := mixI_b ns (A.2 + 1) (m := 3) (by decide)
  generalize hRe : (1 + mixI ns (A.2 + 1) 3).toNat = R
  have hr := mixI_b ns (A.2 + 1 + R + 1) (m := 5) (by decide)
  have ht : ∃ tm : Option Int, pickD ns (n + 1) [.none, .none, .int (mixI ns (n + 1) 12)] = oD tm ∧ ∀ x, tm = some x → 0 ≤ x ∧ x ≤ 10000 := by
    have := pickD_mem (ns := ns) (n := n + 1) (ds := [.none, .none, .int (mixI ns (n + 1) 12)]) (by simp)
    have hb := mixI_b ns (n + 1) (m := 12) (by decide)
    simp only [List.mem_cons, List.not_mem_nil, or_false] at this
    rcases this with e | e | e
    · exact ⟨none, e, fun x z => nomatch z⟩
    · exact ⟨none, e, fun x z => nomatch z⟩
    · exact ⟨some _, e, fun x z => by cases z; omega⟩
  have hs : ∃ st : Int, pickD ns (n + 3) [.int 0, .int 0, .int 0, .int (mixI ns (n + 3) 10)] = .int st ∧ 0 ≤ st ∧ st ≤ 10000 := by
    have := pickD_mem (ns := ns) (n := n + 3) (ds := [.int 0, .int 0, .int 0, .int (mixI ns (n + 3) 10)]) (by simp)
    have hb := mixI_b ns (n + 3) (m := 10) (by decide)
    simp only [List.mem_cons, List.not_mem_nil, or_false] at this
    rcases this with e | e | e | e
    · exact ⟨0, e, by decide, by decide⟩
    · exact ⟨0, e, by decide, by decide⟩
    · exact ⟨0, e, by decide, by decide⟩
    · exact ⟨_, e, by omega, by omega⟩
  obtain ⟨tm, htm, hx⟩ := ht
  obtain ⟨st, hst, hs0⟩ := hs
  refine ⟨⟨_, st, tm, A.1, _, rfl, htm, hst, rfl, rfl, by omega, hx, hs0, by omega, h2.2.2.2 h1.2.2.2, ?_, ?_, fun q hq => ?_⟩, ?_, ?_⟩
  · unfold partsN; rw [List.length_map, List.length_range]; omega
  · unfold partsN; rw [List.length_map, List.length_range]; omega
  · obtain ⟨x, _, rfl⟩ := List.mem_map.mp hq
    have := mixI_b ns (A.2 + 1 + 1 + x) hB
    omega
  · show n ≤ A.2 + 1 + R + 1; omega
  · show A.2 + 1 + R + 1 ≤ n + 13; omega
def sp_l_job (K : Fr) : Pm K (List Int × Addr × Nat × Int × Nat) := ⟨fun g => g.2.2.1 ≤ 90000 ∧ 0 < g.2.2.2.1, fun g => [.d (lstI g.1), .v (.ref g.2.1), .d (.int g.2.2.2.1), .d (.int (g.2.2.2.2 : Int))], fun g => [town K g.2.1 g.2.2.1], fun g => .d (deedD (jobW g.1 g.2.2.1 g.2.2.2.1 g.2.2.2.2).1), fun g => [town K g.2.1 (jobW g.1 g.2.2.1 g.2.2.2.1 g.2.2.2.2).2], fun _ => none, fun _ => []⟩
theorem ok_l_job (T : Tx K mg w) : FnOk P w K mg base (L2.CX P w) 5 T.a_l_job T.fd_l_job ["_law_script", "_law_town", "_law_budget", "_law_many"] (sp_l_job K).sp := by
  refine T.F_l_job.okX sc_l_job ((sp_l_job K).len fun _ => rfl) (fun cdv A outer s H vs Q EX hr h => ?_)
  obtain ⟨⟨ns, p, n, Bu, M⟩, B, F, hp, A0, hB, k, kx⟩ := h
  obtain ⟨hn, hB⟩ := hp
  dsimp only at hn hB
  have hn1 : n ≤ 100000 := by omega
  have hn2 : n + 1 ≤ 100000 := by omega
  have hn3 : n + 2 ≤ 100000 := by omega
  have hn4 : n + 3 ≤ 100000 := by omega
  refine ⟨_, (pss_cons (ps_set (i := 4) sc_l_job.nd rfl (by first | exact Or.inl rfl | exact Or.inr rfl) (pe_call (ok_l_pick T) (hr.mono (by decide)) (by rfl) T.m_l_pick T.F_l_pick.kp T.b_l_pick .nil passL (pa_cons (pv 0) (pa_cons (pv 1) (pa_cons (pe_lst (pa_cons pe_non (pa_cons pe_non (pa_cons (pe_call (ok_l_draw T) (hr.mono (by decide)) (by rfl) T.m_l_draw T.F_l_draw.kp T.b_l_draw .nil passL (pa_cons (pv 0) (pa_cons (pv 1) (pa_cons pe_int pa_nil)))) pa_nil)))) pa_nil))))) (pss_cons (ps_set (i := 5) sc_l_job.nd rfl (by first | exact Or.inl rfl | exact Or.inr rfl) (pe_call (ok_l_pick T) (hr.mono (by decide)) (by rfl) T.m_l_pick T.F_l_pick.kp T.b_l_pick .nil passL (pa_cons (pv 0) (pa_cons (pv 1) (pa_cons (pe_lst (pa_cons pe_int (pa_cons pe_int (pa_cons pe_int (pa_cons (pe_call (ok_l_draw T) (hr.mono (by decide)) (by rfl) T.m_l_draw T.F_l_draw.kp T.b_l_draw .nil passL (pa_cons (pv 0) (pa_cons (pv 1) (pa_cons pe_int pa_nil)))) pa_nil))))) pa_nil))))) (pss_cons (ps_set (i := 6) sc_l_job.nd rfl (by first | exact Or.inl rfl | exact Or.inr rfl) (pe_tup pa_nil)) (pss_cons (ps_if (PW.pt (pw_and (pt_cmpR op_gt (pv 3) pe_int (nomark _)) (pw_and1 (pt_cmpR (eqK (K := K) rfl hr.units) (pe_call (ok_l_draw T) (hr.mono (by decide)) (by rfl) T.m_l_draw T.F_l_draw.kp T.b_l_draw .nil passL (pa_cons (pv 0) (pa_cons (pv 1) (pa_cons pe_int pa_nil)))) pe_int (nomark _))))) (pss_one (ps_set (i := 6) sc_l_job.nd rfl (by first | exact Or.inl rfl | exact Or.inr rfl) (pe_tup (pa_cons (pe_call (ok_l_draw T) (hr.mono (by decide)) (by rfl) T.m_l_draw T.F_l_draw.kp T.b_l_draw .nil passL (pa_cons (pv 0) (pa_cons (pv 1) (pa_cons (pv 3) pa_nil)))) pa_nil)))) pss_nil) (pss_cons (ps_if (PW.pt (pw_and (pt_cmpR op_gt (pv 3) pe_int (nomark _)) (pw_and1 (pt_cmpR (eqK (K := K) rfl hr.units) (pe_call (ok_l_draw T) (hr.mono (by decide)) (by rfl) T.m_l_draw T.F_l_draw.kp T.b_l_draw .nil passL (pa_cons (pv 0) (pa_cons (pv 1) (pa_cons pe_int pa_nil)))) pe_int (nomark _))))) (pss_one (ps_set (i := 6) sc_l_job.nd rfl (by first | exact Or.inl rfl | exact Or.inr rfl) (pe_op (addK (K := K) rfl) (pv 6) (pe_tup (pa_cons (pe_call (ok_l_draw T) (hr.mono (by decide)) (by rfl) T.m_l_draw T.F_l_draw.kp T.b_l_draw .nil passL (pa_cons (pv 0) (pa_cons (pv 1) (pa_cons (pv 3) pa_nil)))) pa_nil))))) pss_nil) (pss_cons (ps_set (i := 7) sc_l_job.nd rfl (by first | exact Or.inl rfl | exact Or.inr rfl) (pe_callTy (tupleK (K := K) rfl) (by rfl) T.n_tuple (by decide +kernel) (pa_cons (pe_lc (own := [("_law_k", 8)]) rfl sc_l_job.nd (pi_range1 (by rfl) T.n_range (pa_cons (pe_op (addK (K := K) rfl) pe_int (pe_call (ok_l_draw T) (hr.mono (by decide)) (by rfl) T.m_l_draw T.F_l_draw.kp T.b_l_draw .nil passL (pa_cons (pv 0) (pa_cons (pv 1) (pa_cons pe_int pa_nil))))) pa_nil)) (blkOk_by (own := [("_law_k", 8)]) (N := ["_law_script", "_law_town", "_law_budget", "_law_many", "_law_term", "_law_start", "_law_after", "_law_parts", "_law_k"]) (sc := defScope s_l_job) (by decide +kernel)) (fun _ _ _ _ _ => by exact (pg_name (i := 8) sc_l_job.nd rfl (by first | exact Or.inl rfl | exact Or.inr rfl))) (fun _ _ _ _ _ => by exact pts_nil) (fun _ _ _ _ _ => by exact (pe_op (addK (K := K) rfl) pe_int (pe_call (ok_l_draw T) (hr.mono (by decide)) (by rfl) T.m_l_draw T.F_l_draw.kp T.b_l_draw .nil passL (pa_cons (pv 0) (pa_cons (pv 1) (pa_cons (pv 2) pa_nil))))))) pa_nil))) (pss_one (ps_ret (pe_tup (pa_cons pe_str (pa_cons (pe_call (ok_l_draw T) (hr.mono (by decide)) (by rfl) T.m_l_draw T.F_l_draw.kp T.b_l_draw .nil passL (pa_cons (pv 0) (pa_cons (pv 1) (pa_cons pe_int pa_nil)))) (pa_cons (pv 4) (pa_cons (pv 5) (pa_cons (pv 6) (pa_cons (pv 7) pa_nil))))))))))))))), ?_⟩
  refine run (Γ := [.d (lstI ns), .v (.ref p), .d (.int Bu), .d (.int (M : Int)), .un, .un, .un, .un, .un]) (Oi := [town K p n]) A0 rfl ?_
  refine n_seq ?_; refine (n_asg (e_call (a_cons (e_var (i := 0) rfl rfl) (a_cons (e_var (i := 1) rfl rfl) (a_cons (e_fz (el_lst (ds := [_, _, _]) (a_cons e_non (a_cons e_non (a_cons (e_call (a_cons (e_var (i := 0) rfl rfl) (a_cons (e_var (i := 1) rfl rfl) (a_cons e_int a_nil))) (c_l_draw 0 rfl (by first | assumption | decide | omega) (by first | decide | omega))) a_nil))) rfl (Nat.le_of_ble_eq_true rfl))) a_nil))) (c_l_pick 0 rfl (by first | assumption | decide | simp) (by first | assumption | decide | omega))) ?_)
  refine n_seq ?_; refine (n_asg (e_call (a_cons (e_var (i := 0) rfl rfl) (a_cons (e_var (i := 1) rfl rfl) (a_cons (e_fz (el_lst (ds := [_, _, _, _]) (a_cons e_int (a_cons e_int (a_cons e_int (a_cons (e_call (a_cons (e_var (i := 0) rfl rfl) (a_cons (e_var (i := 1) rfl rfl) (a_cons e_int a_nil))) (c_l_draw 0 rfl (by first | assumption | decide | omega) (by first | decide | omega))) a_nil)))) rfl (Nat.le_of_ble_eq_true rfl))) a_nil))) (c_l_pick 0 rfl (by first | assumption | decide | simp) (by first | assumption | decide | omega))) ?_)
  refine n_seq ?_; refine (n_asg (e_tup (ds := []) a_nil rfl (Nat.le_of_ble_eq_true rfl)) ?_)
  
  refine n_seq ?_
  refine n_join [.d (lstI ns), .v (.ref p), .d (.int Bu), .d (.int (M : Int)), .d (pickD ns (n + 1) [.none, .none, .int (mixI ns (n + 1) 12)]), .d (pickD ns (n + 3) [.int 0, .int 0, .int 0, .int (mixI ns (n + 3) 10)]), .d (tupN (jobA1 ns (n + 4) M).1), .un, .un] [town K p (jobA1 ns (n + 4) M).2] ?_ (fun kk => ?_)
  rotate_left
  · by_cases hM : 0 < M
    · have hm0 : (0 : Int) < (M : Int) := by omega
      have hn5 : n + 4 ≤ 100000 := by omega
      have hn6 : n + 4 + 1 ≤ 100000 := by omega
      refine n_when (t_andT (et_is (t_T (e_op (e_var (i := 3) rfl rfl) e_int (by walk_at "od"))) (decide_eq_true (by omega))) (t_T (e_op (e_call (a_cons (e_var (i := 0) rfl rfl) (a_cons (e_var (i := 1) rfl rfl) (a_cons e_int a_nil))) (c_l_draw 0 rfl (by first | assumption | decide | omega) (by first | decide | omega))) e_int (by walk_at "od")))) (fun hb => ?_) (fun hb => ?_)
      · have hb : PyData.eqv (.int (mixI ns (n + 4 + 1) 4)) (.int 0) = true := hb
        rw [eqv_int] at hb
        have hb := of_decide_eq_true hb
        have hmb := mixI_b ns (n + 4 + 1 + 1) (m := (M : Int)) hm0
        refine n_asg (e_is (s' := .d (tupN (jobA1 ns (n + 4) M).1)) (e_tup (ds := [_]) (a_cons (e_call (a_cons (e_var (i := 0) rfl rfl) (a_cons (e_var (i := 1) rfl rfl) (a_cons (e_var (i := 3) rfl rfl) a_nil))) (c_l_draw 0 rfl (by first | assumption | decide | omega) (by first | decide | omega))) a_nil) rfl (Nat.le_of_ble_eq_true rfl)) ?_) ?_
        · unfold jobA1
          rw [if_pos hM, if_pos hb]
          show SD.d (.tuple _) = SD.d (.tuple _)
          congr 2
          simp [tupN, Int.toNat_of_nonneg hmb.1]
        · refine n_own ?_ kk
          unfold jobA1
          rw [if_pos hM, if_pos hb]; try rfl
      · have hb : PyData.eqv (.int (mixI ns (n + 4 + 1) 4)) (.int 0) = false := hb
        rw [eqv_int] at hb
        have hb := of_decide_eq_false hb
        refine n_gam (Γ' := [.d (lstI ns), .v (.ref p), .d (.int Bu), .d (.int (M : Int)), .d (pickD ns (n + 1) [.none, .none, .int (mixI ns (n + 1) 12)]), .d (pickD ns (n + 3) [.int 0, .int 0, .int 0, .int (mixI ns (n + 3) 10)]), .d (tupN (jobA1 ns (n + 4) M).1), .un, .un]) ?_ (n_own ?_ kk)
        · unfold jobA1
          rw [if_pos hM, if_neg hb]; try rfl
        · unfold jobA1
          rw [if_pos hM, if_neg hb]; try rfl
    · refine n_when (b := false) (t_andF (et_is (t_T (e_op (e_var (i := 3) rfl rfl) e_int (by walk_at "od"))) (decide_eq_false (by omega)))) (fun hb => by cases hb) (fun _ => ?_)
      refine n_gam (Γ' := [.d (lstI ns), .v (.ref p), .d (.int Bu), .d (.int (M : Int)), .d (pickD ns (n + 1) [.none, .none, .int (mixI ns (n + 1) 12)]), .d (pickD ns (n + 3) [.int 0, .int 0, .int 0, .int (mixI ns (n + 3) 10)]), .d (tupN (jobA1 ns (n + 4) M).1), .un, .un]) ?_ (n_own ?_ kk)
      · unfold jobA1
        rw [if_neg hM]; try rfl
      · unfold jobA1
        rw [if_neg hM]
        try rfl
  
  obtain ⟨A1, hA1⟩ : ∃ x, jobA1 ns (n + 4) M = x := ⟨_, rfl⟩
  have hA1n := jobA1_n ns (n + 4) M
  rw [hA1] at hA1n ⊢
  
  refine n_seq ?_
  refine n_join [.d (lstI ns), .v (.ref p), .d (.int Bu), .d (.int (M : Int)), .d (pickD ns (n + 1) [.none, .none, .int (mixI ns (n + 1) 12)]), .d (pickD ns (n + 3) [.int 0, .int 0, .int 0, .int (mixI ns (n + 3) 10)]), .d (tupN (jobA2 ns A1.2 M A1.1).1), .un, .un] [town K p (jobA2 ns A1.2 M A1.1).2] ?_ (fun kk => ?_)
  rotate_left
  · by_cases hM : 1 < M
    · have hm0 : (0 : Int) < (M : Int) := by omega
      have hn5 : A1.2 ≤ 100000 := by omega
      have hn6 : A1.2 + 1 ≤ 100000 := by omega
      refine n_when (t_andT (et_is (t_T (e_op (e_var (i := 3) rfl rfl) e_int (by walk_at "od"))) (decide_eq_true (by omega))) (t_T (e_op (e_call (a_cons (e_var (i := 0) rfl rfl) (a_cons (e_var (i := 1) rfl rfl) (a_cons e_int a_nil))) (c_l_draw 0 rfl (by first | assumption | decide | omega) (by first | decide | omega))) e_int (by walk_at "od")))) (fun hb => ?_) (fun hb => ?_)
      · have hb : PyData.eqv (.int (mixI ns (A1.2 + 1) 9)) (.int 0) = true := hb
        rw [eqv_int] at hb
        have hb := of_decide_eq_true hb
        have hmb := mixI_b ns (A1.2 + 1 + 1) (m := (M : Int)) hm0
        refine n_asg (e_is (s' := .d (tupN (jobA2 ns A1.2 M A1.1).1)) (e_op (e_var (i := 6) rfl rfl) (e_tup (ds := [_]) (a_cons (e_call (a_cons (e_var (i := 0) rfl rfl) (a_cons (e_var (i := 1) rfl rfl) (a_cons (e_var (i := 3) rfl rfl) a_nil))) (c_l_draw 0 rfl (by first | assumption | decide | omega) (by first | decide | omega))) a_nil) rfl (Nat.le_of_ble_eq_true rfl)) (by walk_at "od")) ?_) ?_
        · unfold jobA2
          rw [if_pos hM, if_pos hb]
          show SD.d (.tuple _) = SD.d (.tuple _)
          congr 2
          simp [tupN, Int.toNat_of_nonneg hmb.1]
        · refine n_own ?_ kk
          unfold jobA2
          rw [if_pos hM, if_pos hb]; try rfl
      · have hb : PyData.eqv (.int (mixI ns (A1.2 + 1) 9)) (.int 0) = false := hb
        rw [eqv_int] at hb
        have hb := of_decide_eq_false hb
        refine n_gam (Γ' := [.d (lstI ns), .v (.ref p), .d (.int Bu), .d (.int (M : Int)), .d (pickD ns (n + 1) [.none, .none, .int (mixI ns (n + 1) 12)]), .d (pickD ns (n + 3) [.int 0, .int 0, .int 0, .int (mixI ns (n + 3) 10)]), .d (tupN (jobA2 ns A1.2 M A1.1).1), .un, .un]) ?_ (n_own ?_ kk)
        · unfold jobA2
          rw [if_pos hM, if_neg hb]; try rfl
        · unfold jobA2
          rw [if_pos hM, if_neg hb]; try rfl
    · refine n_when (b := false) (t_andF (et_is (t_T (e_op (e_var (i := 3) rfl rfl) e_int (by walk_at "od"))) (decide_eq_false (by omega)))) (fun hb => by cases hb) (fun _ => ?_)
      refine n_gam (Γ' := [.d (lstI ns), .v (.ref p), .d (.int Bu), .d (.int (M : Int)), .d (pickD ns (n + 1) [.none, .none, .int (mixI ns (n + 1) 12)]), .d (pickD ns (n + 3) [.int 0, .int 0, .int 0, .int (mixI ns (n + 3) 10)]), .d (tupN (jobA2 ns A1.2 M A1.1).1), .un, .un]) ?_ (n_own ?_ kk)
      · unfold jobA2
        rw [if_neg hM]; try rfl
      · unfold jobA2
        rw [if_neg hM]
        try rfl
  
  obtain ⟨A, hA⟩ : ∃ x, jobA2 ns A1.2 M A1.1 = x := ⟨_, rfl⟩
  have hAn := jobA2_n ns A1.2 M A1.1
  rw [hA] at hAn ⊢
  have hn7 : A.2 ≤ 100000 := by omega
  obtain ⟨R, hR, hR1, hR3⟩ : ∃ R : Nat, 1 + mixI ns (A.2 + 1) 3 = (R : Int) ∧ 1 ≤ R ∧ R ≤ 3 := by
    have := mixI_b ns (A.2 + 1) (m := 3) (by decide)
    exact ⟨(1 + mixI ns (A.2 + 1) 3).toNat, by omega, by omega, by omega⟩
  have eR : (1 + mixI ns (A.2 + 1) 3).toNat = R := by omega
  have eW : jobW ns n Bu M = jobU ns n Bu A R := by
    unfold jobW jobV
    rw [hA1, hA, eR]
  refine n_seq ?_
  refine n_asg (e_is (s' := .d (tupI (partsN ns (A.2 + 1) Bu R))) (e_cb (a_cons (e_fz (el_lc (vs := [8]) (it_range (a_cons (e_is (s' := .d (.int (R : Int))) (e_op e_int (e_call (a_cons (e_var (i := 0) rfl rfl) (a_cons (e_var (i := 1) rfl rfl) (a_cons e_int a_nil))) (c_l_draw 0 rfl (by first | assumption | decide | omega) (by first | decide | omega))) (by walk_at "od")) (congrArg (fun i => SD.d (.int i)) hR)) a_nil) (by omega) (by omega)) (by omega) (fun _ => tg_name) (by intro i hi; exact hi)
        (fun j acc Os => acc = (List.range j).map (fun x => PyData.int (1 + mixI ns (A.2 + 1 + 1 + x) Bu)) ∧ Os = [town K p (A.2 + 1 + j)]) ⟨rfl, rfl⟩ (fun _ _ _ _ => trivial)
        (fun j acc Os hj h => by
          obtain ⟨rfl, rfl⟩ := h
          have hn3 : A.2 + 1 + j ≤ 100000 := by omega
          refine ⟨true, _, t_yes, fun _ => ⟨_, _, (e_op e_int (e_call (a_cons (e_var (i := 0) rfl rfl) (a_cons (e_var (i := 1) rfl rfl) (a_cons (e_var (i := 2) rfl rfl) a_nil))) (c_l_draw 0 rfl (by first | assumption | decide | omega) (by first | decide | omega))) (by walk_at "od")), ?_, rfl⟩, fun z => by cases z⟩
          rw [List.range_succ, List.map_append]
          show _ = _ ++ [PyData.int (1 + mixI ns (A.2 + 1 + 1 + j) Bu)]
          rw [show A.2 + 1 + 1 + j = A.2 + 1 + j + 1 by omega])
        (fun acc Os h => h))) a_nil) (cd_tupL .dat)) (by unfold tupI partsN; rw [List.map_map, Int.toNat_natCast]; rfl)) ?_
  refine n_own (Os1 := [town K p (A.2 + 1 + R)]) (by rw [Int.toNat_natCast]) ?_
  have hn8 : A.2 + 1 + R ≤ 100000 := by omega
  exact r_ret (e_tup (ds := [_, _, _, _, _, _]) (a_cons e_str (a_cons (e_call (a_cons (e_var (i := 0) rfl rfl) (a_cons (e_var (i := 1) rfl rfl) (a_cons e_int a_nil))) (c_l_draw 0 rfl (by first | assumption | decide | omega) (by first | decide | omega))) (a_cons (e_var (i := 4) rfl rfl) (a_cons (e_var (i := 5) rfl rfl) (a_cons (e_var (i := 6) rfl rfl) (a_cons (e_var (i := 7) rfl rfl) a_nil)))))) rfl (Nat.le_of_ble_eq_true rfl)) (k rfl) (by show _ = SD.d (deedD (jobW ns n Bu M).1); rw [eW]; rfl) (.cons (by show Oimp _ (town K p (jobW ns n Bu M).2); rw [eW]; exact Oimp.refl _) .nil) (Bl.refl _)
theorem c_l_job {Os : List Own} {ns : List Int} {p : Addr} {n M : Nat} {Bu : Int} (i : Nat) (h : Os[i]? = some (town K p n)) (hn : n ≤ 90000) (hB : 0 < Bu) : CaD K Os (sp_l_job K).sp [.d (lstI ns), .v (.ref p), .d (.int Bu), .d (.int (M : Int))] (.d (deedD (jobW ns n Bu M).1)) (Os.set i (town K p (jobW ns n Bu M).2)) := ca1 i (ns, p, n, Bu, M) h ⟨hn, hB⟩ rfl rfl rfl rfl rfl
def deedW (ns : List Int) (n : Nat) (Bu : Int) (M : Nat) : Deed × Nat := if mixI ns (n + 1) 10 < 4 ∨ M = 0 then jobW ns (n + 1) Bu M else if mixI ns (n + 1) 10 = 4 then (.drop (.int (mixI ns (n + 2) (M : Int))), n + 2) else if mixI ns (n + 1) 10 = 5 then (.rank (.int (mixI ns (n + 2) (M : Int))) (.int (mixI ns (n + 3) 5)), n + 3) else (.frame, n + 1)
theorem deedW_ok (ns : List Int) (n : Nat) {Bu : Int} (M : Nat) (hB : 0 < Bu) : DeedOk Bu M (deedW ns n Bu M).1 ∧ n ≤ (deedW ns n Bu M).2 ∧ (deedW ns n Bu M).2 ≤ n + 14 := by
  unfold deedW
  by_cases hc : mixI ns (n + 1) 10 < 4 ∨ M = 0
  · rw [if_pos hc]
    obtain ⟨a, b, c⟩ := jobW_ok ns (n + 1) M hB
    exact ⟨a, by omega, by omega⟩
  · rw [if_neg hc]
    have hm0 : (0 : Int) < (M : Int) := by omega
    have h2 := mixI_b ns (n + 2) hm0
    have h3 := mixI_b ns (n + 3) (m := 5) (by decide)
    split
    · exact ⟨⟨(mixI ns (n + 2) (M : Int)).toNat, by rw [Int.toNat_of_nonneg h2.1], by omega⟩, by dsimp only; omega, by dsimp only; omega⟩
    · split
      · exact ⟨⟨(mixI ns (n + 2) (M : Int)).toNat, _, by rw [Int.toNat_of_nonneg h2.1], by omega, rfl, by omega, by omega⟩, by dsimp only; omega, by dsimp only; omega⟩
      · exact ⟨trivial, by dsimp only; omega, by dsimp only; omega⟩
def sp_l_deed (K : Fr) : Pm K (List Int × Addr × Nat × Int × Nat) := ⟨fun g => g.2.2.1 ≤ 80000 ∧ 0 < g.2.2.2.1, fun g => [.d (lstI g.1), .v (.ref g.2.1), .d (.int g.2.2.2.1), .d (.int (g.2.2.2.2 : Int))], fun g => [town K g.2.1 g.2.2.1], fun g => .d (deedD (deedW g.1 g.2.2.1 g.2.2.2.1 g.2.2.2.2).1), fun g => [town K g.2.1 (deedW g.1 g.2.2.1 g.2.2.2.1 g.2.2.2.2).2], fun _ => none, fun _ => []⟩
theorem ok_l_deed (T : Tx K mg w) : FnOk P w K mg base (L2.CX P w) 6 T.a_l_deed T.fd_l_deed ["_law_script", "_law_town", "_law_budget", "_law_many"] (sp_l_deed K).sp := by
  refine T.F_l_deed.okX sc_l_deed ((sp_l_deed K).len fun _ => rfl) (fun cdv A outer s H vs Q EX hr h => ?_)
  obtain ⟨⟨ns, p, n, Bu, M⟩, B, F, hp, A0, hB, k, kx⟩ := h
  obtain ⟨hn, hB⟩ := hp
  dsimp only at hn hB
  have hn1 : n ≤ 100000 := by omega
  refine ⟨_, (pss_cons (ps_set (i := 4) sc_l_deed.nd rfl (by first | exact Or.inl rfl | exact Or.inr rfl) (pe_call (ok_l_draw T) (hr.mono (by decide)) (by rfl) T.m_l_draw T.F_l_draw.kp T.b_l_draw .nil passL (pa_cons (pv 0) (pa_cons (pv 1) (pa_cons pe_int pa_nil))))) (pss_cons (ps_if (PW.pt (pw_or (pt_cmpR op_lt (pv 4) pe_int (nomark _)) (pw_or1 (pt_cmpR (eqK (K := K) rfl hr.units) (pv 3) pe_int (nomark _))))) (pss_one (ps_ret (pe_call (ok_l_job T) (hr.mono (by decide)) (by rfl) T.m_l_job T.F_l_job.kp T.b_l_job .nil passL (pa_cons (pv 0) (pa_cons (pv 1) (pa_cons (pv 2) (pa_cons (pv 3) pa_nil))))))) pss_nil) (pss_cons (ps_if (pt_cmpR (eqK (K := K) rfl hr.units) (pv 4) pe_int (nomark _)) (pss_one (ps_ret (pe_tup (pa_cons pe_str (pa_cons (pe_call (ok_l_draw T) (hr.mono (by decide)) (by rfl) T.m_l_draw T.F_l_draw.kp T.b_l_draw .nil passL (pa_cons (pv 0) (pa_cons (pv 1) (pa_cons (pv 3) pa_nil)))) pa_nil))))) pss_nil) (pss_cons (ps_if (pt_cmpR (eqK (K := K) rfl hr.units) (pv 4) pe_int (nomark _)) (pss_one (ps_ret (pe_tup (pa_cons pe_str (pa_cons (pe_call (ok_l_draw T) (hr.mono (by decide)) (by rfl) T.m_l_draw T.F_l_draw.kp T.b_l_draw .nil passL (pa_cons (pv 0) (pa_cons (pv 1) (pa_cons (pv 3) pa_nil)))) (pa_cons (pe_call (ok_l_draw T) (hr.mono (by decide)) (by rfl) T.m_l_draw T.F_l_draw.kp T.b_l_draw .nil passL (pa_cons (pv 0) (pa_cons (pv 1) (pa_cons pe_int pa_nil)))) pa_nil)))))) pss_nil) (pss_one (ps_ret (pe_tup (pa_cons pe_str pa_nil)))))))), ?_⟩
  refine run (Γ := [.d (lstI ns), .v (.ref p), .d (.int Bu), .d (.int (M : Int)), .un]) (Oi := [town K p n]) A0 rfl ?_
  refine n_seq ?_; refine (n_asg (e_call (a_cons (e_var (i := 0) rfl rfl) (a_cons (e_var (i := 1) rfl rfl) (a_cons e_int a_nil))) (c_l_draw 0 rfl (by first | assumption | decide | omega) (by first | decide | omega))) ?_)
  have hkb := mixI_b ns (n + 1) (m := 10) (by decide)
  have hn2 : n + 1 ≤ 90000 := by omega
  refine n_seq ?_
  refine n_when (t_or (t_T (e_op (e_var (i := 4) rfl rfl) e_int (by walk_at "od"))) (fun hh => (t_T (e_op (e_var (i := 3) rfl rfl) e_int (by walk_at "od"))))) (fun hb => ?_) (fun hb => ?_)
  · have hb : (decide (mixI ns (n + 1) 10 < 4) || PyData.eqv (.int (M : Int)) (.int 0)) = true := hb
    have hc : mixI ns (n + 1) 10 < 4 ∨ M = 0 := by
      rw [eqv_int] at hb
      rcases Bool.or_eq_true_iff.mp hb with z | z
      · exact .inl (of_decide_eq_true z)
      · exact .inr (by have := of_decide_eq_true z; omega)
    have eW : deedW ns n Bu M = jobW ns (n + 1) Bu M := by unfold deedW; rw [if_pos hc]
    exact r_ret (e_call (a_cons (e_var (i := 0) rfl rfl) (a_cons (e_var (i := 1) rfl rfl) (a_cons (e_var (i := 2) rfl rfl) (a_cons (e_var (i := 3) rfl rfl) a_nil)))) (c_l_job 0 rfl hn2 hB)) (k rfl) (by show _ = SD.d (deedD (deedW ns n Bu M).1); rw [eW]) (.cons (by show Oimp _ (town K p (deedW ns n Bu M).2); rw [eW]; exact Oimp.refl _) .nil) (Bl.refl _)
  have hb : (decide (mixI ns (n + 1) 10 < 4) || PyData.eqv (.int (M : Int)) (.int 0)) = false := hb
  obtain ⟨hb1, hb2⟩ := Bool.or_eq_false_iff.mp hb
  rw [eqv_int] at hb2
  have hb1 := of_decide_eq_false hb1
  have hb2 := of_decide_eq_false hb2
  have hc : ¬ (mixI ns (n + 1) 10 < 4 ∨ M = 0) := by omega
  have hm0 : (0 : Int) < (M : Int) := by omega
  have hn3 : n + 1 ≤ 100000 := by omega
  have hn4 : n + 1 + 1 ≤ 100000 := by omega
  refine n_seq ?_
  refine n_when (t_T (e_op (e_var (i := 4) rfl rfl) e_int (by walk_at "od"))) (fun h4 => ?_) (fun h4 => ?_)
  · have h4 : PyData.eqv (.int (mixI ns (n + 1) 10)) (.int 4) = true := h4
    rw [eqv_int] at h4
    have h4 := of_decide_eq_true h4
    have hmb := mixI_b ns (n + 1 + 1) (m := (M : Int)) hm0
    have eW : deedW ns n Bu M = (.drop (.int (mixI ns (n + 2) (M : Int))), n + 2) := by unfold deedW; rw [if_neg hc, if_pos h4]
    exact r_ret (e_tup (ds := [_, _]) (a_cons e_str (a_cons (e_call (a_cons (e_var (i := 0) rfl rfl) (a_cons (e_var (i := 1) rfl rfl) (a_cons (e_var (i := 3) rfl rfl) a_nil))) (c_l_draw 0 rfl (by first | assumption | decide | omega) (by first | decide | omega))) a_nil)) rfl (Nat.le_of_ble_eq_true rfl)) (k rfl) (by show _ = SD.d (deedD (deedW ns n Bu M).1); rw [eW]; try rfl) (.cons (by show Oimp _ (town K p (deedW ns n Bu M).2); rw [eW]; exact Oimp.refl _) .nil) (Bl.refl _)
  have h4 : PyData.eqv (.int (mixI ns (n + 1) 10)) (.int 4) = false := h4
  rw [eqv_int] at h4
  have h4 := of_decide_eq_false h4
  refine n_seq ?_
  refine n_when (t_T (e_op (e_var (i := 4) rfl rfl) e_int (by walk_at "od"))) (fun h5 => ?_) (fun h5 => ?_)
  · have h5 : PyData.eqv (.int (mixI ns (n + 1) 10)) (.int 5) = true := h5
    rw [eqv_int] at h5
    have h5 := of_decide_eq_true h5
    have eW : deedW ns n Bu M = (.rank (.int (mixI ns (n + 2) (M : Int))) (.int (mixI ns (n + 3) 5)), n + 3) := by unfold deedW; rw [if_neg hc, if_neg h4, if_pos h5]
    exact r_ret (e_tup (ds := [_, _, _]) (a_cons e_str (a_cons (e_call (a_cons (e_var (i := 0) rfl rfl) (a_cons (e_var (i := 1) rfl rfl) (a_cons (e_var (i := 3) rfl rfl) a_nil))) (c_l_draw 0 rfl (by first | assumption | decide | omega) (by first | decide | omega))) (a_cons (e_call (a_cons (e_var (i := 0) rfl rfl) (a_cons (e_var (i := 1) rfl rfl) (a_cons e_int a_nil))) (c_l_draw 0 rfl (by first | assumption | decide | omega) (by first | decide | omega))) a_nil))) rfl (Nat.le_of_ble_eq_true rfl)) (k rfl) (by show _ = SD.d (deedD (deedW ns n Bu M).1); rw [eW]; try rfl) (.cons (by show Oimp _ (town K p (deedW ns n Bu M).2); rw [eW]; exact Oimp.refl _) .nil) (Bl.refl _)
  have h5 : PyData.eqv (.int (mixI ns (n + 1) 10)) (.int 5) = false := h5
  rw [eqv_int] at h5
  have h5 := of_decide_eq_false h5
  have eW : deedW ns n Bu M = (.frame, n + 1) := by unfold deedW; rw [if_neg hc, if_neg h4, if_neg h5]
  exact r_ret (e_tup (ds := [_]) (a_cons e_str a_nil) rfl (Nat.le_of_ble_eq_true rfl)) (k rfl) (by show _ = SD.d (deedD (deedW ns n Bu M).1); rw [eW]; try rfl) (.cons (by show Oimp _ (town K p (deedW ns n Bu M).2); rw [eW]; exact Oimp.refl _) .nil) (Bl.refl _)
theorem c_l_deed {Os : List Own} {ns : List Int} {p : Addr} {n M : Nat} {Bu : Int} (i : Nat) (h : Os[i]? = some (town K p n)) (hn : n ≤ 80000) (hB : 0 < Bu) : CaD K Os (sp_l_deed K).sp [.d (lstI ns), .v (.ref p), .d (.int Bu), .d (.int (M : Int))] (.d (deedD (deedW ns n Bu M).1)) (Os.set i (town K p (deedW ns n Bu M).2)) := ca1 i (ns, p, n, Bu, M) h ⟨hn, hB⟩ rfl rfl rfl rfl rfl
def isAddB : Deed → Bool
  | .add _ _ _ _ _ => true
  | _ => false
theorem jobOf_n (rk st : Int) (tm : Option Int) (af : List Nat) (ps : List Int) : jobOf (.int rk) (oD tm) (.int st) (.tuple (af.map fun (n : Nat) => .int (n : Int))) (tupI ps) = ⟨rk, tm, st, af, ps, 0, 0, none, false⟩ := jobOf_mk rk st tm af ps
inductive Did (S : Bd) (dd : Deed) : Prop
  | added (rk st : Int) (tm : Option Int) (af : List Nat) (ps : List Int) (e : dd = .add (.int rk) (oD tm) (.int st) (tupN af) (tupI ps)) (v : doV S dd = (.int S.jobs.length, S.addS ⟨rk, tm, st, af, ps, 0, 0, none, false⟩)) (b : (0 ≤ rk ∧ rk ≤ 4) ∧ ∀ x, tm = some x → 0 ≤ x ∧ x ≤ 10000)
  | refused (rk st : Int) (tm : Option Int) (af : List Nat) (ps : List Int) (e : dd = .add (.int rk) (oD tm) (.int st) (tupN af) (tupI ps)) (i : Nat) (v : doV S dd = (refI i, S))
  | other (a : isAddB dd = false) (n : (doV S dd).2.jobs.length = S.jobs.length) (s : ∀ k, k < S.jobs.length → ((doV S dd).2.jb k).after = (S.jb k).after ∧ ((doV S dd).2.jb k).term = (S.jb k).term)
structure DoOk (S : Bd) (dd : Deed) : Prop where
  ok : (doV S dd).2.Ok
  bu : (doV S dd).2.budget = S.budget
  pa : (doV S dd).2.patience = S.patience
  sp : (doV S dd).2.spent.length ≤ S.spent.length + 1
  n : (doV S dd).2.jobs.length ≤ S.jobs.length + 1
  n0 : S.jobs.length ≤ (doV S dd).2.jobs.length
  did : Did S dd
theorem rankS_N (S : Bd) (k : Nat) (r : Int) : S.rankS (.int (k : Int)) (.int r) = S.rankN k r := by
  unfold Bd.rankS Bd.rankN
  rw [show natD (.int (k : Int)) = k from Int.toNat_natCast k]; rfl
theorem doV_ok {S : Bd} {dd : Deed} (ok : S.Ok) (hn : S.jobs.length < 10000) (hs : S.spent.length < 100000) (hd : DeedOk S.budget S.jobs.length dd) : DoOk S dd := by
  cases dd with
  | add r t s a p =>
    obtain ⟨rk, st, tm, af, ps, rfl, rfl, rfl, rfl, rfl, h1, h2, h3, h4⟩ := hd
    cases h : addE S (.int rk) (oD tm) (.int st) (tupN af) (tupI ps) with
    | none =>
      have e := dv_a0 h
      rw [jobOf_mk] at e
      have o := add_ok ok hn h
      rw [jobOf_n] at o
      refine ⟨by rw [e]; exact o, by rw [e]; rfl, by rw [e]; rfl, by rw [e]; exact Nat.le_succ _, by rw [e]; unfold Bd.addS; simp, by rw [e]; unfold Bd.addS; simp, .added rk st tm af ps rfl e ⟨h1, h2⟩⟩
    | some x =>
      have e := dv_a1 h
      exact ⟨by rw [e]; exact ok, by rw [e], by rw [e], by rw [e]; exact Nat.le_succ _, by rw [e]; exact Nat.le_succ _, by rw [e]; exact Nat.le_refl _, .refused rk st tm af ps rfl _ e⟩
  | drop d =>
    obtain ⟨k, rfl, hk⟩ := hd
    cases h : openE S (.int (k : Int)) with
    | none =>
      have e := dv_d0 h
      refine ⟨by rw [e]; exact drop_ok ok _, by rw [e]; rfl, by rw [e]; rfl, by rw [e]; exact Nat.le_succ _, by rw [e]; dsimp only; rw [dropS_n]; exact Nat.le_succ _, by rw [e]; dsimp only; rw [dropS_n]; exact Nat.le_refl _, .other rfl (by rw [e]; exact dropS_n _ _) fun j hj => ?_⟩
      rw [e]
      dsimp only
      rw [dropS_jb S _ hj]
      split <;> exact ⟨rfl, rfl⟩
    | some x =>
      have e := dv_d1 h
      exact ⟨by rw [e]; exact ok, by rw [e], by rw [e], by rw [e]; exact Nat.le_succ _, by rw [e]; exact Nat.le_succ _, by rw [e]; exact Nat.le_refl _, .other rfl (by rw [e]) fun j hj => by rw [e]; exact ⟨rfl, rfl⟩⟩
  | rank d r =>
    obtain ⟨k, rk, rfl, hk, rfl, h0, h4⟩ := hd
    cases h : rankE S (.int (k : Int)) (.int rk) with
    | none =>
      have e := dv_r0 h
      rw [rankS_N] at e
      have en : (S.rankN k rk).jobs.length = S.jobs.length := by unfold Bd.rankN; simp
      refine ⟨by rw [e]; exact rankN_ok ok _ hk, by rw [e]; rfl, by rw [e]; rfl, by rw [e]; exact Nat.le_succ _, by rw [e]; dsimp only; rw [en]; exact Nat.le_succ _, by rw [e]; dsimp only; rw [en]; exact Nat.le_refl _, .other rfl (by rw [e]; exact en) fun j hj => ?_⟩
      rw [e]
      dsimp only
      rw [rankN_jb S _ j hk]
      split
      · rename_i z; subst z; exact ⟨rfl, rfl⟩
      · exact ⟨rfl, rfl⟩
    | some x =>
      have e := dv_r1 h
      exact ⟨by rw [e]; exact ok, by rw [e], by rw [e], by rw [e]; exact Nat.le_succ _, by rw [e]; exact Nat.le_succ _, by rw [e]; exact Nat.le_refl _, .other rfl (by rw [e]) fun j hj => by rw [e]; exact ⟨rfl, rfl⟩⟩
  | frame =>
    have e : doV S .frame = (.list (S.frameR.map partD), S.frameS) := rfl
    refine ⟨by rw [e]; exact frame_ok ok hs, by rw [e]; rfl, by rw [e]; rfl, by rw [e]; dsimp only; rw [frame_splen]; exact Nat.le_refl _, by rw [e]; dsimp only; rw [frame_len ok]; exact Nat.le_succ _, by rw [e]; dsimp only; rw [frame_len ok]; exact Nat.le_refl _, .other rfl (by rw [e]; exact frame_len ok) fun j hj => ?_⟩
    rw [e]
    dsimp only
    obtain ⟨a, f, i, q⟩ := frame_same ok hj
    rw [q]; exact ⟨rfl, rfl⟩
theorem jobs_map {S S' : Bd} {β : Type} (f : Jb → β) (n : S'.jobs.length = S.jobs.length) (s : ∀ k, k < S.jobs.length → f (S'.jb k) = f (S.jb k)) : S'.jobs.map f = S.jobs.map f := by
  refine List.ext_getElem? fun i => ?_
  rw [List.getElem?_map, List.getElem?_map]
  by_cases h : i < S.jobs.length
  · rw [Bd.jb_get h, Bd.jb_get (S := S') (by omega)]
    exact congrArg some (s i h)
  · rw [List.getElem?_eq_none (by omega), List.getElem?_eq_none (by omega)]
theorem bd_ok {Bu Pa : Int} (h1 : 1 ≤ Bu ∧ Bu ≤ 50) (h2 : 1 ≤ Pa ∧ Pa ≤ 20) : (Bd.mk Bu Pa [] 0 []).Ok := ⟨h1, h2, fun k J e => by simp at e, Nat.zero_le _, Int.le_refl _, Nat.zero_le _⟩

end
end Cw

namespace Cw
open PySem L2

local macro_rules | `(tactic| walk_at "vw") => `(tactic| first | exact Vw.dat | exact Vw.own 0 rfl | exact Vw.own 1 rfl | exact Vw.own 2 rfl | exact Vw.own 3 rfl | exact Vw.own 4 rfl | exact Vw.own 5 rfl | exact Vw.own 6 rfl | exact Vw.own 7 rfl)
local macro_rules | `(tactic| walk_at "ar") => `(tactic| first | assumption | decide | omega)
local macro_rules | `(tactic| walk_at "ix") => `(tactic| first | assumption | rfl)
local macro_rules | `(tactic| walk_at "sh") => `(tactic| first | assumption | rfl)
local macro_rules | `(tactic| walk_at "cm") => `(tactic| first | exact Or.inr ⟨by decide, by decide⟩ | exact Or.inl ⟨by decide, by decide⟩ | (unfold CMul; omega))
local macro_rules | `(tactic| walk_at "cd") => `(tactic| first | exact ⟨by decide, by decide⟩ | exact ⟨by omega, by omega⟩)
local macro_rules | `(tactic| walk_at "lim") => `(tactic| first | assumption | omega | (simp only [List.length_append, List.length_cons, List.length_nil, List.length_replicate, List.length_map]; omega) | decide)
local macro_rules | `(tactic| walk_at "od") => `(tactic| first
  | exact od_add | exact od_sub | exact od_lt | exact od_le | exact od_gt | exact od_ge | exact od_isn | exact od_notn
  | exact od_mul (by walk_at "cm") | exact od_mod (by walk_at "ar") | exact od_fdiv (by walk_at "cd")
  | exact od_eq (by walk_at "vw") (by walk_at "vw") (by walk_at "sh") (by walk_at "sh") | exact od_l (od_ne (by walk_at "vw") (by walk_at "vw") (by walk_at "sh") (by walk_at "sh"))
  | exact od_ixT (by walk_at "ix") | exact od_ixL (by walk_at "vw") (by walk_at "ix") | exact od_addT (by walk_at "lim") | exact od_repT (by walk_at "lim") (by walk_at "lim") (by walk_at "lim")
  | exact od_jobs 0 rfl (by assumption) | exact od_ixV 1 rfl (by assumption)
  | exact od_in (by walk_at "vw") (by walk_at "vw") (by walk_at "sh") (by walk_at "sh") | exact od_nin (by walk_at "vw") (by walk_at "vw") (by walk_at "sh") (by walk_at "sh"))
local macro_rules | `(tactic| walk_at "ins") => `(tactic| first | exact ins_bd 0 rfl (by decide +kernel) | exact ins_bdx 0 rfl (by decide +kernel) | exact ins_bdx 1 rfl (by decide +kernel) | exact ins_bdx 2 rfl (by decide +kernel) | exact ins_bdx 3 rfl (by decide +kernel))
local macro_rules | `(tactic| walk_at "cb") => `(tactic| first
  | exact cd_lenT | exact cd_lenL (by walk_at "vw") | exact cd_isInt (by walk_at "vw") | exact cd_isBool (by walk_at "vw") | exact cd_isTup (by walk_at "vw") | exact cd_isLst (by walk_at "vw") | exact cd_isStr (by walk_at "vw")
  | exact cd_all (by walk_at "vw") | exact cd_any (by walk_at "vw") | exact cd_sum (by walk_at "vw") | exact cd_tupL (by walk_at "vw") | exact cl_listL (by walk_at "vw") | exact cd_lenJ 0 rfl | exact cl_spent 0 rfl | exact cd_spentT 0 rfl | exact cd_intB | exact cd_max2 | exact cd_min2)

section
variable {P : Program} {w : World} {K : Fr} {mg : Str → Option Value} {base : Heap}
structure MA where
  m : Addr
  l : Addr
  u : Addr
  js : List Addr
def mkv (a : MA) (S : Bd) : List (Key × SD) := [(.inr "budget", .d (.int S.budget)), (.inr "patience", .d (.int S.patience)), (.inr "jobs", .v (.ref a.l)), (.inr "now", .d (.int S.frames)), (.inr "used", .v (.ref a.u))]
def jkv (J : Jb) : List (Key × SD) := [(.inr "rank", .d (.int J.rank)), (.inr "term", .d (oD J.term)), (.inr "start", .d (.int J.start)), (.inr "after", .d (tupN J.after)), (.inr "parts", .d (tupI J.parts)), (.inr "at", .d (.int (J.at_ : Int))), (.inr "idle", .d (.int J.idle)), (.inr "end", .d (oD J.fin)), (.inr "gone", .d (.bool J.gone))]
def mdl (K : Fr) (a : MA) (S : Bd) : List Own := dK K a.m (mkv a S) :: lstV a.l (a.js.map V.ref) :: lst K a.u (S.spent.map .int) :: dks K a.js (S.jobs.map jkv)
theorem mkv_nd (a : MA) (S : Bd) : ((mkv a S).map Prod.fst).Nodup := (by decide +kernel : ([.inr "budget", .inr "patience", .inr "jobs", .inr "now", .inr "used"] : List Key).Nodup)
theorem jkv_nd (J : Jb) : ((jkv J).map Prod.fst).Nodup := (by decide +kernel : ([.inr "rank", .inr "term", .inr "start", .inr "after", .inr "parts", .inr "at", .inr "idle", .inr "end", .inr "gone"] : List Key).Nodup)
theorem mk_get {a : MA} {S : Bd} {k : Key} {s : SD} (j : Nat) (h : (mkv a S)[j]? = some (k, s)) : lkp (mkv a S) k = some s := lkp_ix (mkv_nd a S) h
theorem jk_get {J : Jb} {k : Key} {s : SD} (j : Nat) (h : (jkv J)[j]? = some (k, s)) : lkp (jkv J) k = some s := lkp_ix (jkv_nd J) h
theorem mk_put {a : MA} {S S' : Bd} {k : Key} {s : SD} (j : Nat) (h : ((mkv a S).map Prod.fst)[j]? = some k) (e : (mkv a S).set j (k, s) = mkv a S') : putS (mkv a S) k s = mkv a S' := (putS_ix s (mkv_nd a S) h).trans e
theorem jk_put {J J' : Jb} {k : Key} {s : SD} (j : Nat) (h : ((jkv J).map Prod.fst)[j]? = some k) (e : (jkv J).set j (k, s) = jkv J') : putS (jkv J) k s = jkv J' := (putS_ix s (jkv_nd J) h).trans e
structure MOk (a : MA) (S : Bd) : Prop where
  ok : S.Ok
  l : a.js.length = S.jobs.length
def TmB (S : Bd) : Prop := ∀ k x, (S.jb k).term = some x → x ≤ 10000
theorem mdl_row {K : Fr} {a : MA} {S : Bd} (hl : a.js.length = S.jobs.length) {k : Nat} (h : k < S.jobs.length) : (dks K a.js (S.jobs.map jkv))[k]? = some (dK K (a.js[k]?.getD 0) (jkv (S.jb k))) := by
  rw [dks_at (by rw [List.length_map]; exact hl) (by rw [List.length_map]; exact h), List.getElem?_map, Bd.jb_get h]; rfl
theorem mdl_put {K : Fr} {a : MA} {S : Bd} (hl : a.js.length = S.jobs.length) {k : Nat} (h : k < S.jobs.length) (J : Jb) : (mdl K a S).set (k + 3) (dK K (a.js[k]?.getD 0) (jkv J)) = mdl K a (S.set k J) := by
  show (_ :: _ :: _ :: (dks K a.js (S.jobs.map jkv)).set k (dK K (a.js[k]?.getD 0) (jkv J))) = _
  rw [dks_set (by rw [List.length_map]; exact hl) (by rw [List.length_map]; exact h), ← List.map_set]; rfl
theorem js_ix {a : MA} {S : Bd} (hl : a.js.length = S.jobs.length) {k : Nat} (h : k < S.jobs.length) : atI (a.js.map V.ref) (k : Int) = some (V.ref (a.js[k]?.getD 0)) := atI_nat (by rw [List.getElem?_map, List.getElem?_eq_getElem (by omega)]; rfl)
theorem js_it {a : MA} {i : Nat} (h : i < a.js.length) : (a.js.map V.ref)[i]?.getD V.non = V.ref (a.js[i]?.getD 0) := by rw [List.getElem?_map, List.getElem?_eq_getElem h]; rfl
theorem ole_pre : ∀ (L R : List Own), Ole (L ++ R) L
  | [], R => .nil
  | O :: L, R => .cons (Oimp.refl O) (ole_pre L R)
def termM (t : Option Int) : Int := t.getD 99999
theorem tm_ix2 (t : Option Int) : atI [oD t, .int 99999] (if isNone (oD t) = true then 1 else 0) = some (.int (termM t)) := by cases t <;> rfl
def Bd.keyM (S : Bd) (k : Nat) : PyData := .tuple [.int (raisedI (S.jb k) S.frames S.patience), .int (termM (S.jb k).term), .int (k : Int)]
theorem le3 (a b c a' b' c' : Int) : PySem.W.dataLe false id (.tuple [.int a, .int b, .int c]) (.tuple [.int a', .int b', .int c']) = decide (a < a' ∨ (a = a' ∧ (b < b' ∨ (b = b' ∧ c ≤ c')))) := by
  have e3 : ∀ (a b c a' b' c' : Int), PySem.W.dataLt (.tuple [.int a, .int b, .int c]) (.tuple [.int a', .int b', .int c']) = decide (a < a' ∨ (a = a' ∧ (b < b' ∨ (b = b' ∧ c < c')))) := by
    intro a b c a' b' c'
    rw [PySem.W.dataLt_tuple, PySem.W.dataLt_cons (by simp [PySem.W.alike]), PySem.W.dataLt_cons (by simp [PySem.W.alike]), PySem.W.dataLt_cons (by simp [PySem.W.alike])]
    have e : PyProof.Rows.lexLt PyProof.Rows.itemOrd (PySem.W.keyToksAll []) (PySem.W.keyToksAll []) = false := PyProof.Rows.lex_irrefl _
    rw [e, PySem.W.dataLt_int, PySem.W.dataLt_int, PySem.W.dataLt_int]
    simp only [PyData.eqv, beq_iff_eq]
    by_cases h1 : a = a' <;> by_cases h2 : b = b' <;> by_cases h3 : c = c' <;> simp [h1, h2, h3]
  show (!PySem.W.dataLt (.tuple [.int a', .int b', .int c']) (.tuple [.int a, .int b, .int c])) = _
  rw [e3]
  by_cases h : a < a' ∨ (a = a' ∧ (b < b' ∨ (b = b' ∧ c ≤ c')))
  · rw [decide_eq_true h, decide_eq_false (by omega)]; rfl
  · rw [decide_eq_false h, decide_eq_true (by omega)]; rfl
theorem term_lt {x y : Option Int} (hx : ∀ v, x = some v → v ≤ 10000) (hy : ∀ v, y = some v → v ≤ 10000) : (termM x < termM y ↔ termK x < termK y) ∧ (termM x = termM y ↔ termK x = termK y) := by
  unfold termM termK
  cases x with
  | none => cases y with
    | none => simp
    | some v => have := hy v rfl; simp only [Option.getD_none, Option.getD_some]; constructor <;> constructor <;> intro h <;> omega
  | some u => cases y with
    | none => have := hx u rfl; simp only [Option.getD_none, Option.getD_some]; constructor <;> constructor <;> intro h <;> omega
    | some v => simp
theorem leM_eq {S : Bd} (h : TmB S) : (fun k l => PySem.W.dataLe false id (S.keyM k) (S.keyM l)) = S.leK := by
  funext k l
  rw [leK_eq]
  show PySem.W.dataLe false id (S.keyM k) (S.keyM l) = _
  unfold Bd.keyM
  rw [le3]
  obtain ⟨h1, h2⟩ := term_lt (h k) (h l)
  simp only [h1, h2, Int.ofNat_le]
theorem keysM_sorted {S : Bd} (h : TmB S) : (S.ready.map S.keyM).mergeSort (PySem.W.dataLe false id) = S.order.map S.keyM := by
  have := (List.map_mergeSort (f := S.keyM) (r := fun k l => PySem.W.dataLe false id (S.keyM k) (S.keyM l)) (s := PySem.W.dataLe false id) (l := S.ready) (fun a _ b _ => rfl)).symm
  rw [this, leM_eq h]; rfl
theorem keysM_alike (S : Bd) (ls : List Nat) : PySem.W.AllAlike (ls.map S.keyM) := PySem.W.AllAlike.of fun a b => by simp [Bd.keyM, PySem.W.alike, PySem.W.alikeAll]
theorem keysM_sortable (S : Bd) (ls : List Nat) : PySem.W.Sortable (ls.map S.keyM) := PySem.W.Sortable.tuples fun b => ⟨_, _, rfl⟩
theorem keysM_depth (S : Bd) (l : List Nat) : ∀ d, d ∈ l.map S.keyM → d.depth ≤ 60 := fun d hd => by
  obtain ⟨k, _, rfl⟩ := List.mem_map.mp hd
  simp [Bd.keyM, PyData.depth, PyData.depthAll]
theorem tmB_step {S : Bd} (h : TmB S) (k : Nat) (hk : k < S.jobs.length) : TmB (S.step k) := fun l x hx => by
  rw [jb_step S k l hk] at hx
  split at hx
  · exact h k x hx
  · exact h l x hx
theorem ready_succ (S : Bd) (i : Nat) : ((List.range (i + 1)).filter fun k => S.rdy (S.jb k)).map S.keyM = ((List.range i).filter fun k => S.rdy (S.jb k)).map S.keyM ++ (if S.rdy (S.jb i) = true then [S.keyM i] else []) := by
  rw [List.range_succ, List.filter_append, List.map_append]
  congr 1
  by_cases h : S.rdy (S.jb i) = true
  · rw [if_pos h]; simp [List.filter_cons, h]
  · rw [if_neg h]; simp [List.filter_cons, h]

def sp_l_new (K : Fr) : Pg K (Int × Int) (Addr × Addr × Addr) := ⟨fun _ => True, fun g => [.d (.int g.1), .d (.int g.2)], fun _ => [], fun _ _ => True, fun _ y => .v (.ref y.1), fun g y => mdl K ⟨y.1, y.2.1, y.2.2, []⟩ ⟨g.1, g.2, [], 0, []⟩⟩
theorem ok_l_new (T : Tx K mg w) : FnOk P w K mg base (L2.CX P w) 1 T.a_l_new T.fd_l_new ["_law_budget", "_law_patience"] (sp_l_new K).sp := by
  refine T.F_l_new.okX sc_l_new ((sp_l_new K).len fun _ => rfl) (fun cdv A outer s H vs Q EX hr h => ?_)
  obtain ⟨⟨Bu, Pa⟩, B, F, hp, A0, hB, k, kx⟩ := h
  refine ⟨_, (pss_one (ps_ret (pe_disp (pps_cons pe_str (pv 0) (pps_cons pe_str (pv 1) (pps_cons pe_str (pe_lst pa_nil) (pps_cons pe_str pe_int (pps_cons pe_str (pe_lst pa_nil) pps_nil))))) (by rfl) (by rfl) (fun z => by cases z) (by decide)))), ?_⟩
  refine run (Γ := [.d (.int Bu), .d (.int Pa)]) (Oi := []) A0 rfl ?_
  refine r_retDisp (i := 0) (fun p => epg_d (k := .inr "budget") e_str (e_var (i := 0) rfl rfl) (epg_d (k := .inr "patience") e_str (e_var (i := 1) rfl rfl) (epg_l (k := .inr "jobs") e_str (el_lst (ds := []) a_nil rfl (Nat.le_of_ble_eq_true rfl)) (fun l => epg_d (k := .inr "now") e_str e_int (epg_l (k := .inr "used") e_str (el_lst (ds := []) a_nil rfl (Nat.le_of_ble_eq_true rfl)) (fun u => epg_nil)))))) (fun p y => rfl) (fun p y => (by show 5 ≤ 15; decide)) (fun p y => (by decide +kernel : ([.inr "budget", .inr "patience", .inr "jobs", .inr "now", .inr "used"] : List Key).Nodup)) (fun p y F H A => ?_) (Bl.refl _)
  obtain ⟨l, u, _⟩ := y
  exact k (p, l, u) trivial (.ref p) F H (A.ole (.cons (Oimp.refl _) (.cons lst_V (.cons (Oimp.refl _) .nil)))) rfl
def sp_l_open (K : Fr) : Pm K (Addr × Jb) := roP (fun _ => True) (fun g => [.v (.ref g.1)]) (fun g => dK K g.1 (jkv g.2)) (fun g => .d (.bool g.2.isOpen))
theorem ok_l_open (T : Tx K mg w) : FnOk P w K mg base (L2.CX P w) 1 T.a_l_open T.fd_l_open ["_law_job_here"] (sp_l_open K).sp := by
  refine T.F_l_open.okX sc_l_open ((sp_l_open K).len fun _ => rfl) (fun cdv A outer s H vs Q EX hr h => ?_)
  obtain ⟨⟨x, J⟩, B, F, hp, A0, hB, k, kx⟩ := h
  refine ⟨_, (pss_one (ps_ret (pe_and (pe_cmpR op_isn (pe_dget (hu_of hr) (pv 0) pe_str (fun _ _ => rfl)) pe_non (nomark _)) (pe_one (pe_not (pe_dget (hu_of hr) (pv 0) pe_str (fun _ _ => rfl))))))), ?_⟩
  refine run (Γ := [.v (.ref x)]) (Oi := [dK K x (jkv J)]) A0 rfl ?_
  exact r_ret (e_andV (e_op (e_dget (k := .inr "end") (kvs := jkv J) (i := 0) (e_var (i := 0) rfl rfl) e_str (.inl rfl) (jk_get 7 rfl) rfl) e_non od_isn) (fun hh => e_notV (e_dget (k := .inr "gone") (kvs := jkv J) (i := 0) (e_var (i := 0) rfl rfl) e_str (.inl rfl) (jk_get 8 rfl) rfl))) (k rfl) rfl (Ole.refl _) (Bl.refl _)
theorem c_l_open {Os : List Own} {x : Addr} {J : Jb} (i : Nat) (h : Os[i]? = some (dK K x (jkv J))) : CaD K Os (sp_l_open K).sp [.v (.ref x)] (.d (.bool J.isOpen)) Os := ca1s i (x, J) h trivial rfl rfl rfl rfl rfl
def sp_l_ready (K : Fr) : Pm K (MA × Bd × Nat) := ⟨fun g => MOk g.1 g.2.1 ∧ g.2.2 < g.2.1.jobs.length, fun g => [.v (.ref g.1.m), .v (.ref (g.1.js[g.2.2]?.getD 0))], fun g => mdl K g.1 g.2.1, fun g => .d (.bool (g.2.1.rdy (g.2.1.jb g.2.2))), fun g => mdl K g.1 g.2.1, fun _ => none, fun _ => []⟩
theorem ok_l_ready (T : Tx K mg w) : FnOk P w K mg base (L2.CX P w) 2 T.a_l_ready T.fd_l_ready ["_law_model", "_law_job_here"] (sp_l_ready K).sp := by
  refine T.F_l_ready.okX sc_l_ready ((sp_l_ready K).len fun _ => rfl) (fun cdv A outer s H vs Q EX hr h => ?_)
  obtain ⟨⟨a, S, n⟩, B, F, hp, A0, hB, k, kx⟩ := h
  obtain ⟨⟨ok, hl⟩, hn⟩ := hp
  dsimp only at ok hl hn
  have hjn := ok.n
  have hrow := mdl_row (K := K) hl hn
  have okJ := ok.job n _ (Bd.jb_get hn)
  have haft := okJ.aftn
  refine ⟨_, (pss_cons (ps_if (PW.pt (pw_or (pt_not (pt_val (pe_call (ok_l_open T) (hr.mono (by decide)) (by rfl) T.m_l_open T.F_l_open.kp T.b_l_open .nil passL (pa_cons (pv 1) pa_nil)))) (pw_or1 (pt_cmpR op_gt (pe_dget (hu_of hr) (pv 1) pe_str (fun _ _ => rfl)) (pe_dget (hu_of hr) (pv 0) pe_str (fun _ _ => rfl)) (nomark _))))) (pss_one (ps_ret pe_bl)) pss_nil) (pss_one (ps_ret (pe_callB (allK (K := K) rfl rfl) (by rfl) T.n_all (by decide +kernel) (pa_cons (pe_lc (own := [("_law_other", 2)]) rfl sc_l_ready.nd (pi_tup (pe_dget (hu_of hr) (pv 1) pe_str (fun _ _ => rfl))) (blkOk_by (own := [("_law_other", 2)]) (N := ["_law_model", "_law_job_here", "_law_other"]) (sc := defScope s_l_ready) (by decide +kernel)) (fun _ _ _ _ _ => by exact (pg_name (i := 2) sc_l_ready.nd rfl (by first | exact Or.inl rfl | exact Or.inr rfl))) (fun _ _ _ _ _ => by exact pts_nil) (fun _ _ _ _ _ => by exact (pe_cmpR op_notn (pe_dget (hu_of hr) (pe_ix (ixK (K := K) rfl) (pe_dget (hu_of hr) (pv 0) pe_str (fun _ _ => rfl)) (pv 2) (fun _ _ => rfl)) pe_str (fun _ _ => rfl)) pe_non (nomark _)))) pa_nil))))), ?_⟩
  refine run (Γ := [.v (.ref a.m), .v (.ref (a.js[n]?.getD 0)), .un]) (Oi := (mdl K a S)) A0 rfl ?_
  refine n_seq ?_; refine (n_when (b := !(S.jb n).isOpen || decide (S.frames < (S.jb n).start)) (t_or (t_not (t_B (e_call (a_cons (e_var (i := 1) rfl rfl) a_nil) (c_l_open (n + 3) hrow)))) (fun hh => t_T (e_op (e_dget (k := .inr "start") (kvs := jkv (S.jb n)) (i := n + 3) (e_var (i := 1) rfl rfl) e_str (.inl hrow) (jk_get 2 rfl) rfl) (e_dget (k := .inr "now") (kvs := mkv a S) (i := 0) (e_var (i := 0) rfl rfl) e_str (.inl rfl) (mk_get 3 rfl) rfl) od_gt))) (fun hb => ?_) (fun hb => ?_))
  · refine r_ret e_bl (k rfl) (congrArg (fun b => SD.d (.bool b)) ?_) (Ole.refl _) (Bl.refl _)
    show false = S.rdy (S.jb n)
    unfold Bd.rdy
    revert hb; cases (S.jb n).isOpen <;> cases decide (S.frames < (S.jb n).start) <;> simp
  · refine r_ret (e_cb (a_cons (e_is (s' := .d (.list (((S.jb n).after.map fun o => !isNone (oD (S.jb o).fin)).map .bool))) (e_fz (el_lcP (vs := [2]) (it_item (item' := fun j => .d (.int ((((S.jb n).after[j]?.getD 0 : Nat)) : Int))) (it_tup (e_dget (k := .inr "after") (kvs := jkv (S.jb n)) (i := n + 3) (e_var (i := 1) rfl rfl) e_str (.inl hrow) (jk_get 3 rfl) rfl)) (fun j hj => by rw [List.length_map] at hj; show SD.d (((S.jb n).after.map _)[j]?.getD .none) = _; rw [map_getD hj]; simp [hj])) (by walk_at "lim") (fun _ => tg_name) (by intro i hi; exact hi) (by first | exact trivial | exact rfl | exact ⟨_, rfl⟩) (f := fun _ => true) (v := fun j => .bool (!isNone (oD (S.jb ((S.jb n).after[j]?.getD 0)).fin))) (fun i hi => t_yes) (fun jx hi hf => by
            rw [List.length_map] at hi
            have ho : (S.jb n).after[jx]?.getD 0 < S.jobs.length := by
              rw [List.getElem?_eq_getElem hi]; exact Nat.lt_trans (okJ.aft _ (List.getElem_mem hi)) hn
            have hrow2 := mdl_row (K := K) hl ho
            exact (e_op (e_dget (k := .inr "end") (kvs := jkv (S.jb ((S.jb n).after[jx]?.getD 0))) (i := (S.jb n).after[jx]?.getD 0 + 3) (e_op (e_dget (k := .inr "jobs") (kvs := mkv a S) (i := 0) (e_var (i := 0) rfl rfl) e_str (.inl rfl) (mk_get 2 rfl) rfl) (e_var (i := 2) rfl rfl) (od_ixV (y := V.ref (a.js[(S.jb n).after[jx]?.getD 0]?.getD 0)) 1 rfl (js_ix hl ho))) e_str (.inl hrow2) (jk_get 7 rfl) rfl) e_non od_notn)))) (by
      rw [gvn_all, List.length_map]; exact congrArg (fun l => SD.d (.list l)) (any_after (S.jb n).after (fun o => !isNone (oD (S.jb o).fin))))) a_nil) (cd_all .dat)) (k rfl) (congrArg (fun b => SD.d (.bool b)) ?_) (Ole.refl _) (Bl.refl _)
    show _ = S.rdy (S.jb n)
    unfold Bd.rdy
    rw [List.all_map]
    revert hb; cases (S.jb n).isOpen <;> cases decide (S.frames < (S.jb n).start) <;> simp <;> rfl
theorem c_l_ready {P : List Own} {a : MA} {S : Bd} {n : Nat} (h : MOk a S) (hn : n < S.jobs.length) : CaD K (P ++ mdl K a S) (sp_l_ready K).sp [.v (.ref a.m), .v (.ref (a.js[n]?.getD 0))] (.d (.bool (S.rdy (S.jb n)))) (P ++ mdl K a S) := caR (a, S, n) ⟨h, hn⟩ rfl rfl rfl rfl rfl
def sp_l_raised (K : Fr) : Pm K (MA × Bd × Nat) := ⟨fun g => MOk g.1 g.2.1 ∧ g.2.2 < g.2.1.jobs.length, fun g => [.v (.ref g.1.m), .v (.ref (g.1.js[g.2.2]?.getD 0))], fun g => mdl K g.1 g.2.1, fun g => .d (.int (raisedI (g.2.1.jb g.2.2) g.2.1.frames g.2.1.patience)), fun g => mdl K g.1 g.2.1, fun _ => none, fun _ => []⟩
theorem ok_l_raised (T : Tx K mg w) : FnOk P w K mg base (L2.CX P w) 1 T.a_l_raised T.fd_l_raised ["_law_model", "_law_job_here"] (sp_l_raised K).sp := by
  refine T.F_l_raised.okX sc_l_raised ((sp_l_raised K).len fun _ => rfl) (fun cdv A outer s H vs Q EX hr h => ?_)
  obtain ⟨⟨a, S, n⟩, B, F, hp, A0, hB, k, kx⟩ := h
  obtain ⟨⟨ok, hl⟩, hn⟩ := hp
  dsimp only at ok hl hn
  have hpa := ok.pa
  have hrow := mdl_row (K := K) hl hn
  refine ⟨_, (pss_cons (ps_set (i := 2) sc_l_raised.nd rfl (by first | exact Or.inl rfl | exact Or.inr rfl) (pe_and (pe_cmpR op_notn (pe_dget (hu_of hr) (pv 1) pe_str (fun _ _ => rfl)) pe_non (nomark _)) (pe_one (pe_cmpR op_lt (pe_dget (hu_of hr) (pv 1) pe_str (fun _ _ => rfl)) (pe_dget (hu_of hr) (pv 0) pe_str (fun _ _ => rfl)) (nomark _))))) (pss_one (ps_ret (pe_op op_sub (pe_op op_sub (pe_dget (hu_of hr) (pv 1) pe_str (fun _ _ => rfl)) (pe_op op_fdiv (pe_dget (hu_of hr) (pv 1) pe_str (fun _ _ => rfl)) (pe_dget (hu_of hr) (pv 0) pe_str (fun _ _ => rfl)))) (pe_op (mulK (K := K) rfl) pe_int (pe_callTy cr_int (by rfl) T.n_int (by decide +kernel) (pa_cons (pv 2) pa_nil))))))), ?_⟩
  refine run (Γ := [.v (.ref a.m), .v (.ref (a.js[n]?.getD 0)), .un]) (Oi := (mdl K a S)) A0 rfl ?_
  refine n_seq ?_
  refine n_asg (e_is (s' := .d (.bool (lateB (S.jb n).term S.frames))) (e_andV (a := !isNone (oD (S.jb n).term)) (b := lateB (S.jb n).term S.frames) (e_op (e_dget (k := .inr "term") (kvs := jkv (S.jb n)) (i := n + 3) (e_var (i := 1) rfl rfl) e_str (.inl hrow) (jk_get 1 rfl) rfl) e_non od_notn) (fun hh => (show E K _ _ _ (.d (.bool (lateB (S.jb n).term S.frames))) _ from by
      cases ht : (S.jb n).term with
      | none => rw [ht] at hh; cases hh
      | some t => exact e_op (e_is (s' := .d (.int t)) (e_dget (k := .inr "term") (kvs := jkv (S.jb n)) (i := n + 3) (e_var (i := 1) rfl rfl) e_str (.inl hrow) (jk_get 1 rfl) rfl) (by rw [ht]; rfl)) (e_dget (k := .inr "now") (kvs := mkv a S) (i := 0) (e_var (i := 0) rfl rfl) e_str (.inl rfl) (mk_get 3 rfl) rfl) od_lt))) (congrArg (fun b => SD.d (.bool b)) (by cases (S.jb n).term <;> rfl))) ?_
  exact r_ret (e_op (e_op (e_dget (k := .inr "rank") (kvs := jkv (S.jb n)) (i := n + 3) (e_var (i := 1) rfl rfl) e_str (.inl hrow) (jk_get 0 rfl) rfl) (e_op (e_dget (k := .inr "idle") (kvs := jkv (S.jb n)) (i := n + 3) (e_var (i := 1) rfl rfl) e_str (.inl hrow) (jk_get 6 rfl) rfl) (e_dget (k := .inr "patience") (kvs := mkv a S) (i := 0) (e_var (i := 0) rfl rfl) e_str (.inl rfl) (mk_get 1 rfl) rfl) (od_fdiv ⟨by omega, by omega⟩)) od_sub) (e_op e_int (e_cb (a_cons (e_var (i := 2) rfl rfl) a_nil) cd_intB) (od_mul (Or.inl ⟨by decide, by decide⟩))) od_sub) (k rfl) rfl (Ole.refl _) (Bl.refl _)
theorem c_l_raised {P : List Own} {a : MA} {S : Bd} {n : Nat} (h : MOk a S) (hn : n < S.jobs.length) : CaD K (P ++ mdl K a S) (sp_l_raised K).sp [.v (.ref a.m), .v (.ref (a.js[n]?.getD 0))] (.d (.int (raisedI (S.jb n) S.frames S.patience))) (P ++ mdl K a S) := caR (a, S, n) ⟨h, hn⟩ rfl rfl rfl rfl rfl
def sp_l_order (K : Fr) : Pl K (MA × Bd) := ⟨fun g => MOk g.1 g.2 ∧ TmB g.2, fun g => [.v (.ref g.1.m)], fun g => mdl K g.1 g.2, fun g => lstN g.2.order, fun g => mdl K g.1 g.2, fun _ => none, fun _ => []⟩
theorem ok_l_order (T : Tx K mg w) : FnOk P w K mg base (L2.CX P w) 3 T.a_l_order T.fd_l_order ["_law_model"] (sp_l_order K).sp := by
  refine T.F_l_order.okX sc_l_order ((sp_l_order K).len fun _ => rfl) (fun cdv A outer s H vs Q EX hr h => ?_)
  obtain ⟨⟨a, S⟩, B, F, hp, A0, hB, k, kx⟩ := h
  obtain ⟨⟨ok, hl⟩, htm⟩ := hp
  dsimp only at ok hl htm
  have hjn := ok.n
  have hon := order_len S
  refine ⟨_, (pss_cons (ps_set (i := 1) sc_l_order.nd rfl (by first | exact Or.inl rfl | exact Or.inr rfl) (pe_lst pa_nil)) (pss_cons (ps_for (passes_of rfl) rfl (pi_enum (by rfl) T.n_enumerate (pa_cons (pe_dget (hu_of hr) (pv 0) pe_str (fun _ _ => rfl)) pa_nil)) (tgK (K := K) 2 rfl rfl (pgs_cons (pg_name (i := 2) sc_l_order.nd rfl (by first | exact Or.inl rfl | exact Or.inr rfl)) (pgs_cons (pg_name (i := 3) sc_l_order.nd rfl (by first | exact Or.inl rfl | exact Or.inr rfl)) pgs_nil))) (pss_one (ps_if (pt_val (pe_call (ok_l_ready T) (hr.mono (by decide)) (by rfl) T.m_l_ready T.F_l_ready.kp T.b_l_ready .nil passL (pa_cons (pv 0) (pa_cons (pv 3) pa_nil)))) (pss_cons (ps_set (i := 4) sc_l_order.nd rfl (by first | exact Or.inl rfl | exact Or.inr rfl) (pe_ix (ixK (K := K) rfl) (pe_lst (pa_cons (pe_dget (hu_of hr) (pv 3) pe_str (fun _ _ => rfl)) (pa_cons pe_int pa_nil))) (pe_callTy cr_int (by rfl) T.n_int (by decide +kernel) (pa_cons (pe_cmpR op_isn (pe_dget (hu_of hr) (pv 3) pe_str (fun _ _ => rfl)) pe_non (nomark _)) pa_nil)) (fun _ _ => rfl))) (pss_one (ps_expr (pe_bm PySem.F.plainAttrs_list PySem.F.slot_list_append PySem.F.type_list_append mt_append (pv 1) (pa_cons (pe_tup (pa_cons (pe_call (ok_l_raised T) (hr.mono (by decide)) (by rfl) T.m_l_raised T.F_l_raised.kp T.b_l_raised .nil passL (pa_cons (pv 0) (pa_cons (pv 3) pa_nil))) (pa_cons (pv 4) (pa_cons (pv 2) pa_nil)))) pa_nil))))) pss_nil))) (pss_one (ps_ret (pe_lc (own := [("_law_row", 5)]) rfl sc_l_order.nd (pi_list (pe_callB (sortK (K := K) rfl hr.units) (by rfl) T.n_sorted (by decide +kernel) (pa_cons (pv 1) pa_nil))) (blkOk_by (own := [("_law_row", 5)]) (N := ["_law_model", "_law_rows", "_law_number", "_law_job_here", "_law_term", "_law_row"]) (sc := defScope s_l_order) (by decide +kernel)) (fun _ _ _ _ _ => by exact (pg_name (i := 5) sc_l_order.nd rfl (by first | exact Or.inl rfl | exact Or.inr rfl))) (fun _ _ _ _ _ => by exact pts_nil) (fun _ _ _ _ _ => by exact (pe_ix (ixK (K := K) rfl) (pv 5) pe_int (fun _ _ => rfl)))))))), ?_⟩
  refine run (Γ := [.v (.ref a.m), .un, .un, .un, .un, .un]) (Oi := (mdl K a S)) A0 rfl ?_
  refine n_seq ?_
  refine n_asgL (el_lst (ds := []) a_nil rfl (Nat.le_of_ble_eq_true rfl)) (fun pr => ?_)
  refine n_front ?_
  refine n_own (Os1 := (lst K pr (((List.range 0).filter fun k => S.rdy (S.jb k)).map S.keyM) :: mdl K a S)) rfl ?_
  refine n_seq ?_
  refine n_forE (a := 2) (b := 3) 2 (a_cons (e_dget (k := .inr "jobs") (kvs := mkv a S) (i := 1) (e_var (i := 0) rfl rfl) e_str (.inl rfl) (mk_get 2 rfl) rfl) a_nil) rfl (fun i Γ Os => Γ = [.v (.ref a.m), .v (.ref pr), .un, .un, .un, .un] ∧ Os = (lst K pr (((List.range i).filter fun k => S.rdy (S.jb k)).map S.keyM) :: mdl K a S)) ⟨rfl, rfl⟩ (fun i Γ Os h => by rw [h.2]; rfl) (fun B2 hB2 i Γ Os hi h => ?_) (fun Γ Os h => ?_)
  · obtain ⟨rfl, rfl⟩ := h
    rw [List.length_map] at hi
    have hn : i < S.jobs.length := by omega
    have hrow := mdl_row (K := K) hl hn
    have hpl : (((List.range i).filter fun k => S.rdy (S.jb k)).map S.keyM).length < 1000000 := by
      rw [List.length_map]; exact Nat.lt_of_le_of_lt (List.length_filter_le _ _) (by rw [List.length_range]; omega)
    refine n_gam (Γ' := [.v (.ref a.m), .v (.ref pr), .d (.int (i : Int)), .v (.ref (a.js[i]?.getD 0)), .un, .un]) (by rw [js_it hi]; rfl) ?_
    have es := ready_succ S i
    refine n_when (b := S.rdy (S.jb i)) (t_B (e_call (a_cons (e_var (i := 0) rfl rfl) (a_cons (e_var (i := 3) rfl rfl) a_nil)) (c_l_ready (P := [_]) ⟨ok, hl⟩ hn))) (fun hb => ?_) (fun hb => ?_)
    · rw [if_pos hb] at es
      refine n_own (Os1 := (lst K pr (((List.range i).filter fun k => S.rdy (S.jb k)).map S.keyM) :: mdl K a S)) rfl ?_
      refine n_seq ?_
      refine n_asg (e_op (e_fz (el_lst (ds := [oD (S.jb i).term, .int 99999]) (a_cons (e_dget (k := .inr "term") (kvs := jkv (S.jb i)) (i := i + 4) (e_var (i := 3) rfl rfl) e_str (.inl hrow) (jk_get 1 rfl) rfl) (a_cons e_int a_nil)) rfl (Nat.le_of_ble_eq_true rfl))) (e_cb (a_cons (e_op (e_dget (k := .inr "term") (kvs := jkv (S.jb i)) (i := i + 4) (e_var (i := 3) rfl rfl) e_str (.inl hrow) (jk_get 1 rfl) rfl) e_non od_isn) a_nil) cd_intB) (od_ixL .dat (tm_ix2 _))) ?_
      refine n_app (d := S.keyM i) 0 (e_var (i := 1) rfl rfl) (e_tup (ds := [_, _, _]) (a_cons (e_call (a_cons (e_var (i := 0) rfl rfl) (a_cons (e_var (i := 3) rfl rfl) a_nil)) (c_l_raised (P := [_]) ⟨ok, hl⟩ hn)) (a_cons (e_var (i := 4) rfl rfl) (a_cons (e_var (i := 2) rfl rfl) a_nil))) rfl (Nat.le_of_ble_eq_true rfl)) rfl rfl hpl ?_
      refine r_inv _ _ ⟨rfl, rfl⟩ (.eq (.eq (.un (.un (.un (.eq .nil)))))) ?_
      rw [es]; exact Ole.refl _
    · rw [if_neg (by rw [hb]; exact Bool.false_ne_true), List.append_nil] at es
      refine r_inv _ _ ⟨rfl, rfl⟩ (.eq (.eq (.un (.un (.eq (.eq .nil)))))) ?_
      rw [es]; exact Ole.refl _
  obtain ⟨rfl, rfl⟩ := h
  rw [List.length_map, hl]
  refine n_fz 0 1 rfl rfl ?_
  refine n_own (Os1 := mdl K a S) rfl ?_
  refine r_retL (el_lcP (vs := [5]) (it_item (item' := fun j => .d (S.keyM (S.order[j]?.getD 0))) (it_list (e_is (s' := .d (.list (S.order.map S.keyM))) (e_fz (el_cb (a_cons (e_var (i := 1) rfl rfl) a_nil) (cl_sort .dat (keysM_alike S _) (keysM_sortable S _) (keysM_depth S _)))) (by rw [show (List.range S.jobs.length).filter (fun k => S.rdy (S.jb k)) = S.ready from rfl, keysM_sorted htm]))) (fun j hj => by rw [List.length_map] at hj; show SD.d ((S.order.map S.keyM)[j]?.getD .none) = _; rw [map_getD hj]; simp [hj])) (by walk_at "lim") (fun _ => tg_name) (by intro i hi; exact hi) (by first | exact trivial | exact rfl | exact ⟨_, rfl⟩) (f := fun _ => true) (v := fun j => .int ((S.order[j]?.getD 0 : Nat) : Int)) (fun i hi => t_yes) (fun i hi hf => (e_op (e_var (i := 5) rfl rfl) e_int (od_ixT (d := .int ((S.order[i]?.getD 0 : Nat) : Int)) rfl)))) (k rfl) ?_ (Ole.refl _) (Bl.refl _)
  rw [gvn_all, List.length_map, range_get S.order (fun (n : Nat) => PyData.int (n : Int)) 0]; rfl
theorem c_l_order {P : List Own} {a : MA} {S : Bd} (h : MOk a S) (ht : TmB S) : CaL K (P ++ mdl K a S) (sp_l_order K).sp [.v (.ref a.m)] (lstN S.order) (P ++ mdl K a S) := clR (a, S) ⟨h, ht⟩ rfl rfl rfl rfl rfl
end
end Cw

namespace Cw
open PySem L2

local macro_rules | `(tactic| walk_at "vw") => `(tactic| first | exact Vw.dat | exact Vw.own 0 rfl | exact Vw.own 1 rfl | exact Vw.own 2 rfl | exact Vw.own 3 rfl | exact Vw.own 4 rfl | exact Vw.own 5 rfl | exact Vw.own 6 rfl | exact Vw.own 7 rfl)
local macro_rules | `(tactic| walk_at "ar") => `(tactic| first | assumption | decide | omega)
local macro_rules | `(tactic| walk_at "ix") => `(tactic| first | assumption | rfl)
local macro_rules | `(tactic| walk_at "sh") => `(tactic| first | assumption | rfl)
local macro_rules | `(tactic| walk_at "cm") => `(tactic| first | exact Or.inr ⟨by decide, by decide⟩ | exact Or.inl ⟨by decide, by decide⟩ | (unfold CMul; omega))
local macro_rules | `(tactic| walk_at "cd") => `(tactic| first | exact ⟨by decide, by decide⟩ | exact ⟨by omega, by omega⟩)
local macro_rules | `(tactic| walk_at "lim") => `(tactic| first | assumption | omega | (simp only [List.length_append, List.length_cons, List.length_nil, List.length_replicate, List.length_map]; omega) | decide)
local macro_rules | `(tactic| walk_at "od") => `(tactic| first
  | exact od_add | exact od_sub | exact od_lt | exact od_le | exact od_gt | exact od_ge | exact od_isn | exact od_notn
  | exact od_mul (by walk_at "cm") | exact od_mod (by walk_at "ar") | exact od_fdiv (by walk_at "cd")
  | exact od_eq (by walk_at "vw") (by walk_at "vw") (by walk_at "sh") (by walk_at "sh") | exact od_l (od_ne (by walk_at "vw") (by walk_at "vw") (by walk_at "sh") (by walk_at "sh"))
  | exact od_ixT (by walk_at "ix") | exact od_ixL (by walk_at "vw") (by walk_at "ix") | exact od_addT (by walk_at "lim") | exact od_repT (by walk_at "lim") (by walk_at "lim") (by walk_at "lim")
  | exact od_jobs 0 rfl (by assumption) | exact od_ixV 1 rfl (by assumption)
  | exact od_in (by walk_at "vw") (by walk_at "vw") (by walk_at "sh") (by walk_at "sh") | exact od_nin (by walk_at "vw") (by walk_at "vw") (by walk_at "sh") (by walk_at "sh"))
local macro_rules | `(tactic| walk_at "ins") => `(tactic| first | exact ins_bd 0 rfl (by decide +kernel) | exact ins_bdx 0 rfl (by decide +kernel) | exact ins_bdx 1 rfl (by decide +kernel) | exact ins_bdx 2 rfl (by decide +kernel) | exact ins_bdx 3 rfl (by decide +kernel))
local macro_rules | `(tactic| walk_at "cb") => `(tactic| first
  | exact cd_lenT | exact cd_lenL (by walk_at "vw") | exact cd_isInt (by walk_at "vw") | exact cd_isBool (by walk_at "vw") | exact cd_isTup (by walk_at "vw") | exact cd_isLst (by walk_at "vw") | exact cd_isStr (by walk_at "vw")
  | exact cd_all (by walk_at "vw") | exact cd_any (by walk_at "vw") | exact cd_sum (by walk_at "vw") | exact cd_tupL (by walk_at "vw") | exact cl_listL (by walk_at "vw") | exact cd_lenJ 0 rfl | exact cl_spent 0 rfl | exact cd_spentT 0 rfl | exact cd_intB | exact cd_max2 | exact cd_min2)

section
variable {P : Program} {w : World} {K : Fr} {mg : Str → Option Value} {base : Heap}
def sp_l_frame (K : Fr) : Pl K (MA × Bd) := ⟨fun g => MOk g.1 g.2 ∧ TmB g.2 ∧ g.2.spent.length < 100000, fun g => [.v (.ref g.1.m)], fun g => mdl K g.1 g.2, fun g => g.2.frameR.map partD, fun g => mdl K g.1 g.2.frameS, fun _ => none, fun _ => []⟩
theorem ok_l_frame (T : Tx K mg w) : FnOk P w K mg base (L2.CX P w) 4 T.a_l_frame T.fd_l_frame ["_law_model"] (sp_l_frame K).sp := by
  refine T.F_l_frame.okX sc_l_frame ((sp_l_frame K).len fun _ => rfl) (fun cdv A outer s H vs Q EX hr h => ?_)
  obtain ⟨⟨a, S⟩, B, F, hp, A0, hB, k, kx⟩ := h
  obtain ⟨⟨ok, hl⟩, htm0, hsp⟩ := hp
  dsimp only at ok hl htm0 hsp
  have hn := ok.n
  have hon := order_len S
  refine ⟨_, (pss_cons (ps_set (i := 1) sc_l_frame.nd rfl (by first | exact Or.inl rfl | exact Or.inr rfl) (pe_dget (hu_of hr) (pv 0) pe_str (fun _ _ => rfl))) (pss_cons (ps_set (i := 2) sc_l_frame.nd rfl (by first | exact Or.inl rfl | exact Or.inr rfl) (pe_call (ok_l_order T) (hr.mono (by decide)) (by rfl) T.m_l_order T.F_l_order.kp T.b_l_order .nil passL (pa_cons (pv 0) pa_nil))) (pss_cons (ps_set (i := 3) sc_l_frame.nd rfl (by first | exact Or.inl rfl | exact Or.inr rfl) (pe_dget (hu_of hr) (pv 0) pe_str (fun _ _ => rfl))) (pss_cons (ps_set (i := 4) sc_l_frame.nd rfl (by first | exact Or.inl rfl | exact Or.inr rfl) (pe_lst pa_nil)) (pss_cons (ps_set (i := 5) sc_l_frame.nd rfl (by first | exact Or.inl rfl | exact Or.inr rfl) pe_bl) (pss_cons (ps_while (passes_of rfl) (pt_val (pv 5)) (pss_cons (ps_setLc (i := 7) (own := [("_law_number", 8)]) rfl sc_l_frame.nd rfl rfl (sw_true rfl rfl rfl (by decide +kernel)) (pi_list (pe_call (ok_l_order T) (hr.mono (by decide)) (by rfl) T.m_l_order T.F_l_order.kp T.b_l_order .nil passL (pa_cons (pv 0) pa_nil))) (blkOk_by (own := [("_law_number", 8)]) (N := ["_law_model", "_law_jobs", "_law_first", "_law_left", "_law_made", "_law_going", "_law_ran", "_law_fit", "_law_number", "_law_job_here", "_law_part"]) (sc := defScope s_l_frame) (by decide +kernel)) (fun _ _ _ _ _ => by exact (pg_name (i := 8) sc_l_frame.nd rfl (by first | exact Or.inl rfl | exact Or.inr rfl))) (fun _ _ _ _ _ => by exact (pts_one (pt_cmpR op_le (pe_ix (ixK (K := K) rfl) (pe_dget (hu_of hr) (pe_ix (ixK (K := K) rfl) (pv 1) (pv 8) (fun _ _ => rfl)) pe_str (fun _ _ => rfl)) (pe_dget (hu_of hr) (pe_ix (ixK (K := K) rfl) (pv 1) (pv 8) (fun _ _ => rfl)) pe_str (fun _ _ => rfl)) (fun _ _ => rfl)) (pv 3) (nomark _)))) (fun _ _ _ _ _ => by exact (pv 8))) (pss_cons (ps_set (i := 5) sc_l_frame.nd rfl (by first | exact Or.inl rfl | exact Or.inr rfl) (pe_cmpR (neK (K := K) rfl hr.units) (pv 7) (pe_lst pa_nil) (nomark _))) (pss_one (ps_if (pt_val (pv 5)) (pss_cons (ps_set (i := 9) sc_l_frame.nd rfl (by first | exact Or.inl rfl | exact Or.inr rfl) (pe_ix (ixK (K := K) rfl) (pv 1) (pe_ix (ixK (K := K) rfl) (pv 7) pe_int (fun _ _ => rfl)) (fun _ _ => rfl))) (pss_cons (ps_expr (pe_bm PySem.F.plainAttrs_list PySem.F.slot_list_append PySem.F.type_list_append mt_append (pv 4) (pa_cons (pe_tup (pa_cons (pe_ix (ixK (K := K) rfl) (pv 7) pe_int (fun _ _ => rfl)) (pa_cons (pe_dget (hu_of hr) (pv 9) pe_str (fun _ _ => rfl)) pa_nil))) pa_nil))) (pss_cons (ps_set (i := 3) sc_l_frame.nd rfl (by first | exact Or.inl rfl | exact Or.inr rfl) (pe_op op_sub (pv 3) (pe_ix (ixK (K := K) rfl) (pe_dget (hu_of hr) (pv 9) pe_str (fun _ _ => rfl)) (pe_dget (hu_of hr) (pv 9) pe_str (fun _ _ => rfl)) (fun _ _ => rfl)))) (pss_cons (ps_dput (hu_of hr) (pv 9) pe_str (pe_op (addK (K := K) rfl) (pe_dget (hu_of hr) (pv 9) pe_str (fun _ _ => rfl)) pe_int) rfl) (pss_one (ps_if (pt_cmpR (eqK (K := K) rfl hr.units) (pe_dget (hu_of hr) (pv 9) pe_str (fun _ _ => rfl)) (pe_callB (lenK (K := K) rfl) (by rfl) T.n_len (by decide +kernel) (pa_cons (pe_dget (hu_of hr) (pv 9) pe_str (fun _ _ => rfl)) pa_nil)) (nomark _)) (pss_one (ps_dput (hu_of hr) (pv 9) pe_str (pe_dget (hu_of hr) (pv 0) pe_str (fun _ _ => rfl)) rfl)) pss_nil)))))) pss_nil))))) (pss_cons (ps_setLc (i := 6) (own := [("_law_number", 8), ("_law_part", 10)]) rfl sc_l_frame.nd rfl rfl (sw_true rfl rfl rfl (by decide +kernel)) (pi_list (pv 4)) (blkOk_by (own := [("_law_number", 8), ("_law_part", 10)]) (N := ["_law_model", "_law_jobs", "_law_first", "_law_left", "_law_made", "_law_going", "_law_ran", "_law_fit", "_law_number", "_law_job_here", "_law_part"]) (sc := defScope s_l_frame) (by decide +kernel)) (fun _ _ _ _ _ => by exact (tgK (K := K) 2 rfl rfl (pgs_cons (pg_name (i := 8) sc_l_frame.nd rfl (by first | exact Or.inl rfl | exact Or.inr rfl)) (pgs_cons (pg_name (i := 10) sc_l_frame.nd rfl (by first | exact Or.inl rfl | exact Or.inr rfl)) pgs_nil)))) (fun _ _ _ _ _ => by exact pts_nil) (fun _ _ _ _ _ => by exact (pv 8))) (pss_cons (ps_for (passes_of rfl) rfl (pi_enum (by rfl) T.n_enumerate (pa_cons (pv 1) pa_nil)) (tgK (K := K) 2 rfl rfl (pgs_cons (pg_name (i := 8) sc_l_frame.nd rfl (by first | exact Or.inl rfl | exact Or.inr rfl)) (pgs_cons (pg_name (i := 9) sc_l_frame.nd rfl (by first | exact Or.inl rfl | exact Or.inr rfl)) pgs_nil))) (pss_one (ps_if (pt_cmpR (inK (K := K) rfl hr.units1) (pv 8) (pv 6) (by rfl)) (pss_one (ps_dput (hu_of hr) (pv 9) pe_str pe_int rfl)) (pss_one (ps_if (pt_cmpR (inK (K := K) rfl hr.units1) (pv 8) (pv 2) (by rfl)) (pss_one (ps_dput (hu_of hr) (pv 9) pe_str (pe_op (addK (K := K) rfl) (pe_dget (hu_of hr) (pv 9) pe_str (fun _ _ => rfl)) pe_int) rfl)) pss_nil))))) (pss_cons (ps_dput (hu_of hr) (pv 0) pe_str (pe_op (addK (K := K) rfl) (pe_dget (hu_of hr) (pv 0) pe_str (fun _ _ => rfl)) pe_int) rfl) (pss_cons (ps_expr (pe_bm PySem.F.plainAttrs_list PySem.F.slot_list_append PySem.F.type_list_append mt_append (pe_dget (hu_of hr) (pv 0) pe_str (fun _ _ => rfl)) (pa_cons (pe_op op_sub (pe_dget (hu_of hr) (pv 0) pe_str (fun _ _ => rfl)) (pv 3)) pa_nil))) (pss_one (ps_ret (pv 4))))))))))))), ?_⟩
  refine run (Γ := [.v (.ref a.m), .un, .un, .un, .un, .un, .un, .un, .un, .un, .un]) (Oi := (mdl K a S)) A0 rfl ?_
  refine n_seq ?_
  refine n_asg (e_dget (k := .inr "jobs") (kvs := mkv a S) (i := 0) (e_var (i := 0) rfl rfl) e_str (.inl rfl) (mk_get 2 rfl) rfl) ?_
  refine n_seq ?_
  refine n_asg (e_fz (el_call (a_cons (e_var (i := 0) rfl rfl) a_nil) (c_l_order (P := []) ⟨ok, hl⟩ htm0))) ?_
  refine n_own (Os1 := mdl K a S) rfl ?_
  refine n_seq ?_
  refine n_asg (e_dget (k := .inr "budget") (kvs := mkv a S) (i := 0) (e_var (i := 0) rfl rfl) e_str (.inl rfl) (mk_get 0 rfl) rfl) ?_
  refine n_seq ?_
  refine n_asgL (el_lst (ds := []) a_nil rfl (Nat.le_of_ble_eq_true rfl)) (fun pm => ?_)
  refine n_front ?_
  refine n_seq ?_
  refine n_asg e_bl ?_
  refine n_seq ?_
  refine n_while (fun m Γ Os => ∃ S1 r mm gb, Rn S S1 r mm ∧ TmB S1 ∧ m = (if gb = true then S1.left + 1 else 0) ∧ mm.length + S1.left ≤ S.left ∧ (gb = false → S1.fits r = []) ∧ Γ = [.v (.ref a.m), .v (.ref a.l), .d (.list (lstN S.order)), .d (.int r), .v (.ref pm), .d (.bool gb), .un, .un, .un, .un, .un] ∧ Os = (lst K pm (mm.map partD) :: mdl K a S1)) (S.left + 1) ⟨S, S.budget, [], true, rn_0 ok, htm0, rfl, by simp, (fun z => by cases z), rfl, rfl⟩ ?_
  rintro m Γ Os ⟨S1, r, mm, gb, rn, htm, hm, hlen, hgb, rfl, rfl⟩
  have ok1 := rn.ok
  have al := rn.al
  have hl1 : a.js.length = S1.jobs.length := by rw [hl, al.n]
  have hn1 := ok1.n
  have hleft := left_le ok
  have hon1 := order_len S1
  have hol1 : (lstN S1.order).length ≤ 1000000 := by unfold lstN; rw [List.length_map]; omega
  refine ⟨gb, _, t_B (e_var (i := 5) rfl rfl), fun hb => ?_, fun hb => ?_⟩
  · subst hb
    have hs1 : SeqAt.shaped (.list (lstN (S1.fits r))) = true := shaped_ints _
    refine n_seq ?_
    refine n_asg (e_is (s' := .d (.list (lstN (S1.fits r)))) (e_fz (el_lcP (vs := [8]) (it_item (item' := fun j => .d (.int ((S1.order[j]?.getD 0 : Nat) : Int))) (it_list (e_fz (el_call (a_cons (e_var (i := 0) rfl rfl) a_nil) (c_l_order (P := [_]) ⟨ok1, hl1⟩ htm)))) (fun j hj => by unfold lstN at hj; rw [List.length_map] at hj; show SD.d ((S1.order.map _)[j]?.getD .none) = _; rw [map_getD hj]; simp [hj])) (by walk_at "lim") (fun _ => tg_name) (by intro i hi; exact hi) (by first | exact trivial | exact rfl | exact ⟨_, rfl⟩) (f := fun j => decide ((S1.jb (S1.order[j]?.getD 0)).part ≤ r)) (v := fun j => .int ((S1.order[j]?.getD 0 : Nat) : Int)) (fun jx hi => by
            unfold lstN at hi
            rw [List.length_map] at hi
            have ho := mem_order.mp (List.getElem_mem hi)
            rw [← show S1.order[jx]?.getD 0 = S1.order[jx] by rw [List.getElem?_eq_getElem hi]; rfl] at ho
            have hrow := mdl_row (K := K) hl1 ho.1
            have hpt := part_at (ok1.job _ _ (Bd.jb_get ho.1)) (rdy_open ho.2).1
            exact (t_T (e_op (e_op (e_dget (k := .inr "parts") (kvs := jkv (S1.jb (S1.order[jx]?.getD 0))) (i := S1.order[jx]?.getD 0 + 4) (e_op (e_var (i := 1) rfl rfl) (e_var (i := 8) rfl rfl) (od_ixV (y := V.ref (a.js[S1.order[jx]?.getD 0]?.getD 0)) 2 rfl (js_ix hl1 ho.1))) e_str (.inl hrow) (jk_get 4 rfl) rfl) (e_dget (k := .inr "at") (kvs := jkv (S1.jb (S1.order[jx]?.getD 0))) (i := S1.order[jx]?.getD 0 + 4) (e_op (e_var (i := 1) rfl rfl) (e_var (i := 8) rfl rfl) (od_ixV (y := V.ref (a.js[S1.order[jx]?.getD 0]?.getD 0)) 2 rfl (js_ix hl1 ho.1))) e_str (.inl hrow) (jk_get 5 rfl) rfl) (od_ixT hpt)) (e_var (i := 3) rfl rfl) (by walk_at "od")))) (fun jx hi hf => by
            unfold lstN at hi
            rw [List.length_map] at hi
            have ho := mem_order.mp (List.getElem_mem hi)
            rw [← show S1.order[jx]?.getD 0 = S1.order[jx] by rw [List.getElem?_eq_getElem hi]; rfl] at ho
            have hrow := mdl_row (K := K) hl1 ho.1
            have hpt := part_at (ok1.job _ _ (Bd.jb_get ho.1)) (rdy_open ho.2).1
            exact (e_var (i := 8) rfl rfl)))) (congrArg (fun l => SD.d (.list l)) (by
      unfold lstN gvn
      rw [List.length_map, range_getF S1.order (fun k => decide ((S1.jb k).part ≤ r)) (fun (n : Nat) => PyData.int (n : Int)) 0]; rfl))) ?_
    refine n_own (Os1 := (lst K pm (mm.map partD) :: mdl K a S1)) rfl ?_
    refine n_seq ?_
    refine n_asg (e_is (s' := .d (.bool (!(S1.fits r).isEmpty))) (e_op (e_var (i := 7) rfl rfl) (e_fz (el_lst (ds := []) a_nil rfl (Nat.le_of_ble_eq_true rfl))) (od_l (od_ne .dat .dat hs1 rfl))) (by rw [eqv_nil]; unfold lstN; rw [List.isEmpty_map])) ?_
    cases hf : S1.fits r with
    | nil =>
      refine n_when (b := false) (t_B (e_var (i := 5) rfl rfl)) (fun z => by cases z) (fun _ => ?_)
      refine r_inv _ _ ⟨0, by rw [hm]; exact Nat.succ_pos _, S1, r, mm, false, rn, htm, rfl, hlen, fun _ => hf, rfl, rfl⟩ (.eq (.eq (.eq (.eq (.eq (.eq (.eq (.un (.eq (.eq (.eq .nil))))))))))) (Ole.refl _)
    | cons k o =>
      refine n_when (b := true) (t_B (e_var (i := 5) rfl rfl)) (fun _ => ?_) (fun z => by cases z)
      have hk := fits_mem.mp (by rw [hf]; simp : k ∈ S1.fits r)
      obtain ⟨lt1, rd⟩ := mem_order.mp hk.1
      have okJ := ok1.job k _ (Bd.jb_get lt1)
      have hpt := part_at okJ (rdy_open rd).1
      have hparts := okJ.len
      have rn2 := rn_step rn hf
      have hl2s := step_left ok1 hk.1
      have hmm : mm.length ≤ 100000 := by omega
      have hrow := mdl_row (K := K) hl1 lt1
      have hf0 : atI (lstN (k :: o)) 0 = some (.int (k : Int)) := at0
      refine n_seq ?_
      refine n_asg (e_op (e_var (i := 1) rfl rfl) (e_op (e_var (i := 7) rfl rfl) e_int (od_ixL .dat hf0)) (od_ixV (y := V.ref (a.js[k]?.getD 0)) 2 rfl (js_ix hl1 lt1))) ?_
      refine n_seq ?_
      refine n_app (d := partD (k, (S1.jb k).at_)) 0 (e_var (i := 4) rfl rfl) (e_tup (ds := [_, _]) (a_cons (e_op (e_var (i := 7) rfl rfl) e_int (od_ixL .dat hf0)) (a_cons (e_dget (k := .inr "at") (kvs := jkv (S1.jb k)) (i := k + 4) (e_var (i := 9) rfl rfl) e_str (.inl hrow) (jk_get 5 rfl) rfl) a_nil)) rfl (Nat.le_of_ble_eq_true rfl)) rfl rfl (by rw [List.length_map]; omega) ?_
      refine n_own (Os1 := (lst K pm ((mm ++ [(k, (S1.jb k).at_)]).map partD) :: mdl K a S1)) (by show (lst K pm (mm.map partD ++ [_]) :: _) = _; rw [List.map_append]; rfl) ?_
      refine n_seq ?_
      refine n_asg (e_op (e_var (i := 3) rfl rfl) (e_op (e_dget (k := .inr "parts") (kvs := jkv (S1.jb k)) (i := k + 4) (e_var (i := 9) rfl rfl) e_str (.inl hrow) (jk_get 4 rfl) rfl) (e_dget (k := .inr "at") (kvs := jkv (S1.jb k)) (i := k + 4) (e_var (i := 9) rfl rfl) e_str (.inl hrow) (jk_get 5 rfl) rfl) (od_ixT hpt)) od_sub) ?_
      refine n_seq ?_
      refine n_dput (k := .inr "at") (kvs := jkv (S1.jb k)) (k + 4) (s := .d (.int (((S1.jb k).at_ + 1 : Nat) : Int))) (e_op (e_dget (k := .inr "at") (kvs := jkv (S1.jb k)) (i := k + 4) (e_var (i := 9) rfl rfl) e_str (.inl hrow) (jk_get 5 rfl) rfl) e_int od_add) (e_var (i := 9) rfl rfl) e_str hrow (by show 9 < 1000000; decide) ?_
      refine n_own (Os1 := (lst K pm ((mm ++ [(k, (S1.jb k).at_)]).map partD) :: mdl K a (S1.set k { S1.jb k with at_ := (S1.jb k).at_ + 1 }))) (by
        show (_ :: (mdl K a S1).set (k + 3) _) = _
        rw [jk_put (J := (S1.jb k)) (k := .inr "at") (s := .d (.int (((S1.jb k).at_ + 1 : Nat) : Int))) (J' := { (S1.jb k) with at_ := (S1.jb k).at_ + 1 }) 5 rfl rfl, mdl_put hl1 lt1]) ?_
      have hl2 : a.js.length = (S1.set k { (S1.jb k) with at_ := (S1.jb k).at_ + 1 }).jobs.length := by rw [hl1]; unfold Bd.set; simp
      have lt2 : k < (S1.set k { (S1.jb k) with at_ := (S1.jb k).at_ + 1 }).jobs.length := by unfold Bd.set; simpa using lt1
      have hjb2 : (S1.set k { (S1.jb k) with at_ := (S1.jb k).at_ + 1 }).jb k = { (S1.jb k) with at_ := (S1.jb k).at_ + 1 } := by unfold Bd.set Bd.jb; dsimp only; rw [List.getElem?_set_self lt1]; rfl
      have hrow2 := mdl_row (K := K) hl2 lt2
      rw [hjb2] at hrow2
      have eg : S1.step k = (S1.set k { (S1.jb k) with at_ := (S1.jb k).at_ + 1 }).set k ((S1.jb k).go S1.frames) := by unfold Bd.step Bd.set; rw [List.set_set]
      refine n_join [.v (.ref a.m), .v (.ref a.l), .d (.list (lstN S.order)), .d (.int (r - (S1.jb k).part)), .v (.ref pm), .d (.bool true), .un, .un, .un, .un, .un] (lst K pm ((mm ++ [(k, (S1.jb k).at_)]).map partD) :: mdl K a (S1.step k)) ?_ (fun kk => ?_)
      · refine r_inv _ _ ⟨(S1.step k).left + 1, by rw [hm]; exact Nat.succ_lt_succ hl2s, S1.step k, r - (S1.jb k).part, _, true, rn2, tmB_step htm k lt1, rfl, by rw [List.length_append, List.length_singleton]; omega, (fun z => by cases z), rfl, rfl⟩ (Wk.refl _) (Ole.refl _)
      refine n_when (b := decide ((S1.jb k).at_ + 1 = (S1.jb k).parts.length)) (et_is (t_T (e_op (e_dget (k := .inr "at") (kvs := jkv { S1.jb k with at_ := (S1.jb k).at_ + 1 }) (i := k + 4) (e_var (i := 9) rfl rfl) e_str (.inl hrow2) (jk_get 5 rfl) rfl) (e_cb (a_cons (e_dget (k := .inr "parts") (kvs := jkv { S1.jb k with at_ := (S1.jb k).at_ + 1 }) (i := k + 4) (e_var (i := 9) rfl rfl) e_str (.inl hrow2) (jk_get 4 rfl) rfl) a_nil) cd_lenT) (od_eq .dat .dat rfl rfl))) (by
        rw [eqv_int, List.length_map]
        show decide ((((S1.jb k).at_ + 1 : Nat) : Int) = ((S1.jb k).parts.length : Int)) = _
        by_cases z : (S1.jb k).at_ + 1 = (S1.jb k).parts.length
        · rw [decide_eq_true z, decide_eq_true (by omega)]
        · rw [decide_eq_false z, decide_eq_false (by omega)])) (fun hb => ?_) (fun hb => ?_)
      · have hb := of_decide_eq_true hb
        refine n_dput (k := .inr "end") (kvs := jkv { (S1.jb k) with at_ := (S1.jb k).at_ + 1 }) (s := .d (.int S1.frames)) (k + 4) (e_dget (k := .inr "now") (kvs := mkv a (S1.set k { S1.jb k with at_ := (S1.jb k).at_ + 1 })) (i := 1) (e_var (i := 0) rfl rfl) e_str (.inl rfl) (mk_get 3 rfl) rfl) (e_var (i := 9) rfl rfl) e_str hrow2 (by show 9 < 1000000; decide) ?_
        refine n_own (Os1 := (lst K pm ((mm ++ [(k, (S1.jb k).at_)]).map partD) :: mdl K a (S1.step k))) (by
          show (_ :: (mdl K a (S1.set k _)).set (k + 3) _) = _
          rw [jk_put (J := { (S1.jb k) with at_ := (S1.jb k).at_ + 1 }) (k := .inr "end") (s := .d (.int S1.frames)) (J' := (S1.jb k).go S1.frames) 7 rfl (by unfold Jb.go; rw [if_pos (by omega)]; rfl), mdl_put hl2 lt2, ← eg]) ?_
        exact n_weak (.eq (.eq (.eq (.eq (.eq (.eq (.eq (.un (.eq (.un (.eq .nil))))))))))) kk
      · have hb := of_decide_eq_false hb
        refine n_own (Os1 := (lst K pm ((mm ++ [(k, (S1.jb k).at_)]).map partD) :: mdl K a (S1.step k))) (by
          have : S1.step k = S1.set k { (S1.jb k) with at_ := (S1.jb k).at_ + 1 } := by unfold Bd.step Jb.go; rw [if_neg (by omega)]
          rw [this]) ?_
        exact n_weak (.eq (.eq (.eq (.eq (.eq (.eq (.eq (.un (.eq (.un (.eq .nil))))))))))) kk
  subst hb
  have hrun := rn_end rn (hgb rfl)
  have hm1 : mm.length ≤ 100000 := by omega
  have hn1 := ok1.n
  refine n_seq ?_
  refine n_asg (e_fz (el_is (es := lstN (mm.map (·.1))) (el_lcP (vs := [8, 10]) (it_item (item' := fun i => .d (partD (mm[i]?.getD (0, 0)))) (it_own 0 (e_var (i := 4) rfl rfl) rfl) (fun i hi => by show SD.d ((mm.map partD)[i]?.getD .none) = _; rw [List.length_map] at hi; rw [map_getD hi]; simp [hi])) (by walk_at "lim") (fun _ => (tg_tup (tgs_cons tg_name (tgs_cons tg_name tgs_nil)) rfl)) (by intro i hi; exact hi) (by first | exact trivial | exact rfl | exact ⟨_, rfl⟩) (f := fun _ => true) (v := fun i => .int ((mm[i]?.getD (0, 0)).1 : Int)) (fun i hi => t_yes) (fun i hi hf => (e_var (i := 8) rfl rfl))) (by
    rw [gvn_all, List.length_map, range_get mm (fun p => PyData.int (p.1 : Int)) (0, 0)]
    unfold lstN; rw [List.map_map]; rfl))) ?_
  have hs1 := shaped_ints (mm.map (·.1))
  have hs2 := shaped_ints S.order
  refine n_seq ?_
  refine n_forE (a := 8) (b := 9) 2 (a_cons (e_var (i := 1) rfl rfl) a_nil) rfl (fun i Γ Os => Γ = [.v (.ref a.m), .v (.ref a.l), .d (.list (lstN S.order)), .d (.int r), .v (.ref pm), .d (.bool false), .d (.list (lstN (mm.map (·.1)))), .un, .un, .un, .un] ∧ Os = (lst K pm (mm.map partD) :: mdl K a { S1 with jobs := (S1.jobs.mapIdx fun k J => if k < i then idleM (mm.map (·.1)) S.order k J else J) })) ⟨rfl, ?_⟩ (fun i Γ Os h => by rw [h.2]; rfl) (fun B2 hB2 i Γ Os hi h => ?_) (fun Γ Os h => ?_)
  · rw [upto0 S1.jobs (idleM (mm.map (·.1)) S.order)]
  · obtain ⟨rfl, rfl⟩ := h
    rw [List.length_map] at hi
    have hi2 : i < S1.jobs.length := by omega
    have hJ0 := Bd.jb_get hi2
    obtain ⟨SI, hSI⟩ : ∃ X, ({ S1 with jobs := (S1.jobs.mapIdx fun k J => if k < i then idleM (mm.map (·.1)) S.order k J else J) } : Bd) = X := ⟨_, rfl⟩
    have hnI : SI.jobs.length = S1.jobs.length := by rw [← hSI]; simp
    have hlI : a.js.length = SI.jobs.length := by rw [hnI]; exact hl1
    have hjI : SI.jb i = (S1.jb i) := by
      rw [← hSI]
      show (((S1.jobs.mapIdx fun k J => if k < i then idleM (mm.map (·.1)) S.order k J else J))[i]?).getD jb0 = _
      rw [upto_at S1.jobs (idleM (mm.map (·.1)) S.order), hJ0]; rfl
    have hset : SI.set i (idleM (mm.map (·.1)) S.order i (S1.jb i)) = { S1 with jobs := (S1.jobs.mapIdx fun k J => if k < i + 1 then idleM (mm.map (·.1)) S.order k J else J) } := by
      rw [← hSI]
      unfold Bd.set
      dsimp only
      rw [upto_set S1.jobs (idleM (mm.map (·.1)) S.order) i _ hJ0]
    rw [hSI]
    have hrow := mdl_row (K := K) hlI (show i < SI.jobs.length by omega)
    rw [hjI] at hrow
    refine n_gam (Γ' := [.v (.ref a.m), .v (.ref a.l), .d (.list (lstN S.order)), .d (.int r), .v (.ref pm), .d (.bool false), .d (.list (lstN (mm.map (·.1)))), .un, .d (.int (i : Int)), .v (.ref (a.js[i]?.getD 0)), .un]) (by rw [js_it hi]; rfl) ?_
    have hmi : inD (.int (i : Int)) (lstN (mm.map (·.1))) = decide (i ∈ mm.map (·.1)) := inD_ints _ _
    have hmo : inD (.int (i : Int)) (lstN S.order) = decide (i ∈ S.order) := inD_ints _ _
    refine n_if (t_T (e_op (e_var (i := 8) rfl rfl) (e_var (i := 6) rfl rfl) (by walk_at "od"))) (fun hb => ?_) (fun hb => ?_)
    · have hm : i ∈ mm.map (·.1) := of_decide_eq_true (hmi.symm.trans hb)
      refine n_dput (k := .inr "idle") (kvs := jkv (S1.jb i)) (i + 4) e_int (e_var (i := 9) rfl rfl) e_str hrow (by show 9 < 1000000; decide) ?_
      refine r_inv _ _ ⟨rfl, rfl⟩ (.eq (.eq (.eq (.eq (.eq (.eq (.eq (.eq (.un (.un (.eq .nil))))))))))) ?_
      show Ole (_ :: (mdl K a SI).set (i + 3) _) _
      rw [jk_put (J := (S1.jb i)) (k := .inr "idle") (s := .d (.int 0)) (J' := idleM (mm.map (·.1)) S.order i (S1.jb i)) 6 rfl (by unfold idleM; rw [if_pos hm]; rfl), mdl_put hlI (by omega), hset]
      exact Ole.refl _
    · have hm : i ∉ mm.map (·.1) := of_decide_eq_false (hmi.symm.trans hb)
      refine n_when (t_T (e_op (e_var (i := 8) rfl rfl) (e_var (i := 2) rfl rfl) (by walk_at "od"))) (fun hb => ?_) (fun hb => ?_)
      · have hm2 : i ∈ S.order := of_decide_eq_true (hmo.symm.trans hb)
        refine n_dput (k := .inr "idle") (kvs := jkv (S1.jb i)) (i + 4) (e_op (e_dget (k := .inr "idle") (kvs := jkv (S1.jb i)) (i := i + 4) (e_var (i := 9) rfl rfl) e_str (.inl hrow) (jk_get 6 rfl) rfl) e_int od_add) (e_var (i := 9) rfl rfl) e_str hrow (by show 9 < 1000000; decide) ?_
        refine r_inv _ _ ⟨rfl, rfl⟩ (.eq (.eq (.eq (.eq (.eq (.eq (.eq (.eq (.un (.un (.eq .nil))))))))))) ?_
        show Ole (_ :: (mdl K a SI).set (i + 3) _) _
        rw [jk_put (J := (S1.jb i)) (k := .inr "idle") (s := .d (.int ((S1.jb i).idle + 1))) (J' := idleM (mm.map (·.1)) S.order i (S1.jb i)) 6 rfl (by unfold idleM; rw [if_neg hm, if_pos hm2]; rfl), mdl_put hlI (by omega), hset]
        exact Ole.refl _
      · have hm2 : i ∉ S.order := of_decide_eq_false (hmo.symm.trans hb)
        refine r_inv _ _ ⟨rfl, rfl⟩ (.eq (.eq (.eq (.eq (.eq (.eq (.eq (.eq (.un (.un (.eq .nil))))))))))) ?_
        have e4 : idleM (mm.map (·.1)) S.order i (S1.jb i) = (S1.jb i) := by unfold idleM; rw [if_neg hm, if_neg hm2]
        have e5 : SI.set i (S1.jb i) = SI := by
          unfold Bd.set
          rw [← hjI, set_self (Bd.jb_get (show i < SI.jobs.length by omega))]
        rw [← hset, e4, e5]; exact Ole.refl _
  obtain ⟨rfl, rfl⟩ := h
  rw [upto_end S1.jobs (idleM (mm.map (·.1)) S.order) _ (by rw [List.length_map, hl1]; exact Nat.le_refl _)]
  obtain ⟨SJ, hSJ⟩ : ∃ X, ({ S1 with jobs := S1.jobs.mapIdx (idleM (mm.map (·.1)) S.order) } : Bd) = X := ⟨_, rfl⟩
  have hfrJ : SJ.frames = S1.frames := by rw [← hSJ]
  have hbuJ : SJ.budget = S1.budget := by rw [← hSJ]
  have hspJ : SJ.spent = S1.spent := by rw [← hSJ]
  rw [hSJ]
  have hsp1 : (SJ.spent.map PyData.int).length < 1000000 := by rw [List.length_map, hspJ, al.sp]; omega
  refine n_seq ?_
  refine n_dput (k := .inr "now") (kvs := mkv a SJ) 1 (e_op (e_dget (k := .inr "now") (kvs := mkv a SJ) (i := 1) (e_var (i := 0) rfl rfl) e_str (.inl rfl) (mk_get 3 rfl) rfl) e_int od_add) (e_var (i := 0) rfl rfl) e_str rfl (by show 5 < 1000000; decide) ?_
  refine n_own (Os1 := (lst K pm (mm.map partD) :: mdl K a { SJ with frames := SJ.frames + 1 })) (by
    show (_ :: dK K a.m (putS (mkv a SJ) _ _) :: _) = _
    rw [mk_put (a := a) (S := SJ) (k := .inr "now") (s := .d (.int (SJ.frames + 1))) (S' := { SJ with frames := SJ.frames + 1 }) 3 rfl rfl]; rfl) ?_
  refine n_seq ?_
  refine n_app (d := .int (SJ.budget - r)) 3 (e_dget (k := .inr "used") (kvs := mkv a { SJ with frames := SJ.frames + 1 }) (i := 1) (e_var (i := 0) rfl rfl) e_str (.inl rfl) (mk_get 4 rfl) rfl) (e_op (e_dget (k := .inr "budget") (kvs := mkv a { SJ with frames := SJ.frames + 1 }) (i := 1) (e_var (i := 0) rfl rfl) e_str (.inl rfl) (mk_get 0 rfl) rfl) (e_var (i := 3) rfl rfl) od_sub) rfl rfl hsp1 ?_
  have e5 : ({ SJ with frames := SJ.frames + 1, spent := SJ.spent ++ [SJ.budget - r] } : Bd) = S.frameS := by
    unfold Bd.frameS
    rw [hrun, ← hSJ]
    dsimp only
    rw [al.bu, al.pa, al.fr, al.sp]
  refine n_own (Os1 := (lst K pm (mm.map partD) :: mdl K a S.frameS)) (by
    rw [← e5]
    show (_ :: _ :: _ :: lst K a.u (SJ.spent.map PyData.int ++ [_]) :: _) = (_ :: _ :: _ :: lst K a.u ((SJ.spent ++ [_]).map PyData.int) :: _)
    rw [List.map_append]; rfl) ?_
  refine n_back ?_
  exact r_retO (mdl K a S.frameS).length (e_var (i := 4) rfl rfl) (by rw [List.getElem?_append_right (Nat.le_refl _), Nat.sub_self]; rfl) (k rfl) (by show _ = S.frameR.map partD; rw [frameR_of hrun]) (ole_pre _ _) (Nat.le_refl _) (Bl.refl _)
theorem c_l_frame {P : List Own} {a : MA} {S : Bd} (h : MOk a S) (ht : TmB S) (hs : S.spent.length < 100000) : CaL K (P ++ mdl K a S) (sp_l_frame K).sp [.v (.ref a.m)] (S.frameR.map partD) (P ++ mdl K a S.frameS) := clR (a, S) ⟨h, ht, hs⟩ rfl rfl rfl rfl rfl
end
end Cw

namespace Cw
open PySem L2

local macro_rules | `(tactic| walk_at "vw") => `(tactic| first | exact Vw.dat | exact Vw.own 0 rfl | exact Vw.own 1 rfl | exact Vw.own 2 rfl | exact Vw.own 3 rfl | exact Vw.own 4 rfl | exact Vw.own 5 rfl | exact Vw.own 6 rfl | exact Vw.own 7 rfl)
local macro_rules | `(tactic| walk_at "ar") => `(tactic| first | assumption | decide | omega)
local macro_rules | `(tactic| walk_at "ix") => `(tactic| first | assumption | rfl)
local macro_rules | `(tactic| walk_at "sh") => `(tactic| first | assumption | rfl)
local macro_rules | `(tactic| walk_at "cm") => `(tactic| first | exact Or.inr ⟨by decide, by decide⟩ | exact Or.inl ⟨by decide, by decide⟩ | (unfold CMul; omega))
local macro_rules | `(tactic| walk_at "cd") => `(tactic| first | exact ⟨by decide, by decide⟩ | exact ⟨by omega, by omega⟩)
local macro_rules | `(tactic| walk_at "lim") => `(tactic| first | assumption | omega | (simp only [List.length_append, List.length_cons, List.length_nil, List.length_replicate, List.length_map]; omega) | decide)
local macro_rules | `(tactic| walk_at "od") => `(tactic| first
  | exact od_add | exact od_sub | exact od_lt | exact od_le | exact od_gt | exact od_ge | exact od_isn | exact od_notn
  | exact od_mul (by walk_at "cm") | exact od_mod (by walk_at "ar") | exact od_fdiv (by walk_at "cd")
  | exact od_eq (by walk_at "vw") (by walk_at "vw") (by walk_at "sh") (by walk_at "sh") | exact od_l (od_ne (by walk_at "vw") (by walk_at "vw") (by walk_at "sh") (by walk_at "sh"))
  | exact od_ixT (by walk_at "ix") | exact od_ixL (by walk_at "vw") (by walk_at "ix") | exact od_addT (by walk_at "lim") | exact od_repT (by walk_at "lim") (by walk_at "lim") (by walk_at "lim")
  | exact od_jobs 0 rfl (by assumption) | exact od_ixV 1 rfl (by assumption)
  | exact od_in (by walk_at "vw") (by walk_at "vw") (by walk_at "sh") (by walk_at "sh") | exact od_nin (by walk_at "vw") (by walk_at "vw") (by walk_at "sh") (by walk_at "sh"))
local macro_rules | `(tactic| walk_at "ins") => `(tactic| first | exact ins_bd 0 rfl (by decide +kernel) | exact ins_bdx 0 rfl (by decide +kernel) | exact ins_bdx 1 rfl (by decide +kernel) | exact ins_bdx 2 rfl (by decide +kernel) | exact ins_bdx 3 rfl (by decide +kernel))
local macro_rules | `(tactic| walk_at "cb") => `(tactic| first
  | exact cd_lenT | exact cd_lenL (by walk_at "vw") | exact cd_isInt (by walk_at "vw") | exact cd_isBool (by walk_at "vw") | exact cd_isTup (by walk_at "vw") | exact cd_isLst (by walk_at "vw") | exact cd_isStr (by walk_at "vw")
  | exact cd_all (by walk_at "vw") | exact cd_any (by walk_at "vw") | exact cd_sum (by walk_at "vw") | exact cd_tupL (by walk_at "vw") | exact cl_listL (by walk_at "vw") | exact cd_lenJ 0 rfl | exact cl_spent 0 rfl | exact cd_spentT 0 rfl | exact cd_intB | exact cd_max2 | exact cd_min2)

section
variable {P : Program} {w : World} {K : Fr} {mg : Str → Option Value} {base : Heap}
theorem jobOkD_is {bu rk st : Int} {t : PyData} {ps : List Int} (h1 : 0 ≤ rk ∧ rk ≤ 4) (ht : (isNone t || isWhole t 0 10000) = true) (h3 : 0 ≤ st ∧ st ≤ 10000) (h8 : 1 ≤ ps.length) (h9 : ps.length ≤ 8) (hp : ∀ p ∈ ps, 1 ≤ p ∧ p ≤ bu) : jobOkD bu (.int rk) t (.int st) (tupI ps) = true := by
  unfold jobOkD
  rw [ht, arePartsI h8 h9 hp]
  have a : isWhole (.int rk) 0 4 = true := by simp [isWhole]; omega
  have b : isWhole (.int st) 0 10000 = true := by simp [isWhole]; omega
  rw [a, b]; rfl
theorem tupN_inj {l m : List Nat} (h : tupN l = tupN m) : l = m := by
  have h : l.map (fun (n : Nat) => PyData.int (n : Int)) = m.map (fun (n : Nat) => PyData.int (n : Int)) := PyData.tuple.inj h
  exact List.map_inj_right (fun a b e => by have := PyData.int.inj e; omega) |>.mp h
theorem tupI_inj {l m : List Int} (h : tupI l = tupI m) : l = m := by
  have h : l.map PyData.int = m.map PyData.int := PyData.tuple.inj h
  exact List.map_inj_right (fun a b e => PyData.int.inj e) |>.mp h
def sp_l_add (K : Fr) : Pg K (MA × Bd × Int × Option Int × Int × List Nat × List Int) (List Addr) := ⟨fun g => MOk g.1 g.2.1 ∧ DeedOk g.2.1.budget g.2.1.jobs.length (.add (.int g.2.2.1) (oD g.2.2.2.1) (.int g.2.2.2.2.1) (tupN g.2.2.2.2.2.1) (tupI g.2.2.2.2.2.2)),
  fun g => [.v (.ref g.1.m), .d (.tuple [.str "add", .int g.2.2.1, oD g.2.2.2.1, .int g.2.2.2.2.1, tupN g.2.2.2.2.2.1, tupI g.2.2.2.2.2.2])], fun g => mdl K g.1 g.2.1,
  fun g y => y.length = (doV g.2.1 (.add (.int g.2.2.1) (oD g.2.2.2.1) (.int g.2.2.2.2.1) (tupN g.2.2.2.2.2.1) (tupI g.2.2.2.2.2.2))).2.jobs.length,
  fun g _ => .d (doV g.2.1 (.add (.int g.2.2.1) (oD g.2.2.2.1) (.int g.2.2.2.2.1) (tupN g.2.2.2.2.2.1) (tupI g.2.2.2.2.2.2))).1,
  fun g y => mdl K { g.1 with js := y } (doV g.2.1 (.add (.int g.2.2.1) (oD g.2.2.2.1) (.int g.2.2.2.2.1) (tupN g.2.2.2.2.2.1) (tupI g.2.2.2.2.2.2))).2⟩
theorem ok_l_add (T : Tx K mg w) : FnOk P w K mg base (L2.CX P w) 2 T.a_l_add T.fd_l_add ["_law_model", "_law_deed_here"] (sp_l_add K).sp := by
  refine T.F_l_add.okX sc_l_add ((sp_l_add K).len fun _ => rfl) (fun cdv A outer s H vs Q EX hr h => ?_)
  obtain ⟨⟨a, S, rk, tm, st, af, ps⟩, B, F, hp, A0, hB, k, kx⟩ := h
  obtain ⟨⟨ok, hl⟩, hd⟩ := hp
  dsimp only at ok hl hd
  obtain ⟨rk', st', tm', af', ps', q1, q2, q3, q4, q5, h1, h2, h3, h10, h12, h8, h9, h11⟩ := hd
  cases q1; cases q3
  have q2 : tm = tm' := by cases tm <;> cases tm' <;> cases q2 <;> rfl
  subst q2
  have q4 : af = af' := tupN_inj q4
  subst q4
  have q5 : ps = ps' := tupI_inj q5
  subst q5
  have hjn := ok.n
  refine ⟨_, (pss_cons (ps_set (i := 2) sc_l_add.nd rfl (by first | exact Or.inl rfl | exact Or.inr rfl) (pe_dget (hu_of hr) (pv 0) pe_str (fun _ _ => rfl))) (pss_cons (ps_for (passes_of rfl) rfl (pi_tup (pe_ix (ixK (K := K) rfl) (pv 1) pe_int (fun _ _ => rfl))) (pg_name (i := 3) sc_l_add.nd rfl (by first | exact Or.inl rfl | exact Or.inr rfl)) (pss_one (ps_if (pt_val (pe_dget (hu_of hr) (pe_ix (ixK (K := K) rfl) (pv 2) (pv 3) (fun _ _ => rfl)) pe_str (fun _ _ => rfl))) (pss_one (ps_ret (pe_tup (pa_cons pe_str (pa_cons pe_int pa_nil))))) pss_nil))) (pss_cons (ps_if (pt_cmpR (eqK (K := K) rfl hr.units) (pe_callB (lenK (K := K) rfl) (by rfl) T.n_len (by decide +kernel) (pa_cons (pe_lc (own := [("_law_job_here", 4)]) rfl sc_l_add.nd (pi_list (pv 2)) (blkOk_by (own := [("_law_job_here", 4)]) (N := ["_law_model", "_law_deed_here", "_law_jobs", "_law_number", "_law_job_here"]) (sc := defScope s_l_add) (by decide +kernel)) (fun _ _ _ _ _ => by exact (pg_name (i := 4) sc_l_add.nd rfl (by first | exact Or.inl rfl | exact Or.inr rfl))) (fun _ _ _ _ _ => by exact (pts_one (pt_val (pe_call (ok_l_open T) (hr.mono (by decide)) (by rfl) T.m_l_open T.F_l_open.kp T.b_l_open .nil passL (pa_cons (pv 4) pa_nil))))) (fun _ _ _ _ _ => by exact (pv 4))) pa_nil)) pe_int (nomark _)) (pss_one (ps_ret (pe_tup (pa_cons pe_str (pa_cons pe_int pa_nil))))) pss_nil) (pss_cons (ps_set (i := 4) sc_l_add.nd rfl (by first | exact Or.inl rfl | exact Or.inr rfl) (pe_disp (pps_cons pe_str (pe_ix (ixK (K := K) rfl) (pv 1) pe_int (fun _ _ => rfl)) (pps_cons pe_str (pe_ix (ixK (K := K) rfl) (pv 1) pe_int (fun _ _ => rfl)) (pps_cons pe_str (pe_ix (ixK (K := K) rfl) (pv 1) pe_int (fun _ _ => rfl)) (pps_cons pe_str (pe_ix (ixK (K := K) rfl) (pv 1) pe_int (fun _ _ => rfl)) (pps_cons pe_str (pe_ix (ixK (K := K) rfl) (pv 1) pe_int (fun _ _ => rfl)) pps_nil))))) (by rfl) (by rfl) (fun z => by cases z) (by decide))) (pss_cons (ps_expr (pe_dupd (pv 4) (pe_disp (pps_cons pe_str pe_int (pps_cons pe_str pe_int (pps_cons pe_str pe_non (pps_cons pe_str pe_bl pps_nil)))) (by rfl) (by rfl) (fun z => by cases z) (by decide)) ⟨rfl, rfl, rfl, rfl⟩)) (pss_cons (ps_expr (pe_bm PySem.F.plainAttrs_list PySem.F.slot_list_append PySem.F.type_list_append mt_append (pv 2) (pa_cons (pv 4) pa_nil))) (pss_one (ps_ret (pe_op op_sub (pe_callB (lenK (K := K) rfl) (by rfl) T.n_len (by decide +kernel) (pa_cons (pv 2) pa_nil)) pe_int))))))))), ?_⟩
  refine run (Γ := [.v (.ref a.m), .d (.tuple [.str "add", .int rk, oD tm, .int st, tupN af, tupI ps]), .un, .un, .un]) (Oi := (mdl K a S)) A0 rfl ?_
  refine n_seq ?_
  refine n_asg (e_dget (k := .inr "jobs") (kvs := mkv a S) (i := 0) (e_var (i := 0) rfl rfl) e_str (.inl rfl) (mk_get 2 rfl) rfl) ?_
  have e0 : addE S (.int rk) (oD tm) (.int st) (tupN af) (tupI ps) = (afterE S (af.map fun (n : Nat) => PyData.int (n : Int))).or (if S.opens.length = 20 then some .full else none) := by
    unfold addE
    rw [if_pos (jobOkD_is h1 (term_ok h2) h3 h8 h9 h11)]
    show (if (af.map fun (n : Nat) => PyData.int (n : Int)).length ≤ 20 then _ else _) = _
    rw [if_pos (by rw [List.length_map]; exact h10)]
  refine n_seq ?_
  refine n_for (it_item (item' := fun i => .d (.int (((af[i]?.getD 0) : Nat) : Int))) (it_tup (e_op (e_var (i := 1) rfl rfl) e_int (od_ixT (d := tupN af) rfl))) (fun i hi => by rw [List.length_map] at hi; show SD.d ((af.map _)[i]?.getD .none) = _; rw [map_getD hi]; simp [hi])) (fun _ => tg_name) (fun i Γ Os => afterE S (af.map fun (n : Nat) => PyData.int (n : Int)) = afterE S ((af.drop i).map fun (n : Nat) => PyData.int (n : Int)) ∧ Γ = [.v (.ref a.m), .d (.tuple [.str "add", .int rk, oD tm, .int st, tupN af, tupI ps]), .v (.ref a.l), .un, .un] ∧ Os = mdl K a S) ⟨rfl, rfl, rfl⟩ (fun _ _ _ _ => trivial) (fun B2 hB2 i Γ Os hi h => ?_) (fun Γ Os h => ?_)
  · obtain ⟨ha, rfl, rfl⟩ := h
    rw [List.length_map] at hi
    have hd : af.drop i = (af[i]?.getD 0) :: af.drop (i + 1) := by rw [List.drop_eq_getElem_cons hi, List.getElem?_eq_getElem hi]; rfl
    rw [hd, List.map_cons] at ha
    have hom : (af[i]?.getD 0) ∈ af := by rw [List.getElem?_eq_getElem hi]; exact List.getElem_mem hi
    obtain ⟨q, hq⟩ : ∃ q, (af[i]?.getD 0) = q := ⟨_, rfl⟩
    rw [hq] at ha hom ⊢
    have hql := h12 q hom
    have hrow := mdl_row (K := K) hl hql
    have okd : isWhole (.int (q : Int)) 0 ((S.jobs.length : Int) - 1) = true := by simp [isWhole]; omega
    refine n_when (b := (S.jb q).gone) (t_B (e_dget (k := .inr "gone") (kvs := jkv (S.jb q)) (i := q + 3) (e_op (e_var (i := 2) rfl rfl) (e_var (i := 3) rfl rfl) (od_ixV (y := V.ref (a.js[q]?.getD 0)) 1 rfl (js_ix hl hql))) e_str (.inl hrow) (jk_get 8 rfl) rfl)) (fun hb => ?_) (fun hb => ?_)
    · have ea : addE S (.int rk) (oD tm) (.int st) (tupN af) (tupI ps) = some .over := by
        rw [e0, ha]
        unfold afterE
        rw [if_pos okd, if_pos (show (S.jb (natD (.int (q : Int)))).gone = true from hb)]; rfl
      have ev := dv_a1 ea
      exact r_ret (e_tup (ds := [.str "refused", .int 3]) (a_cons e_str (a_cons e_int a_nil)) rfl (Nat.le_of_ble_eq_true rfl)) (k a.js (by show a.js.length = (doV S _).2.jobs.length; rw [ev]; exact hl)) (by show _ = SD.d (doV S _).1; rw [ev]; rfl) (by show Ole _ (mdl K a (doV S _).2); rw [ev]; exact Ole.refl _) hB2
    · refine r_inv _ _ ⟨?_, rfl, rfl⟩ (.eq (.eq (.eq (.un (.eq .nil))))) (Ole.refl _)
      rw [ha]
      show afterE S (PyData.int (q : Int) :: (af.drop (i + 1)).map _) = _
      rw [afterE, if_pos okd, if_neg (show ¬ (S.jb (natD (.int (q : Int)))).gone = true from by rw [show (S.jb (natD (.int (q : Int)))).gone = false from hb]; simp)]
  obtain ⟨ha, rfl, rfl⟩ := h
  rw [List.length_map, List.drop_length] at ha
  have ha : afterE S (af.map fun (n : Nat) => PyData.int (n : Int)) = none := ha
  rw [ha] at e0
  refine n_seq ?_
  refine n_when (b := decide (S.opens.length = 20)) (et_is (t_T (e_op (e_lenV (ev_is (zs := S.opens.map fun k => V.ref (a.js[k]?.getD 0)) (ev_lcP (vs := [4]) (it_item (item' := fun j => .v (V.ref (a.js[j]?.getD 0))) (it_ownV 1 (e_var (i := 2) rfl rfl) rfl) (fun j hj => by rw [List.length_map] at hj; rw [js_it hj])) (by walk_at "lim") (fun _ => tg_name) (by intro i hi; exact hi) (by first | exact trivial | exact rfl | exact ⟨_, rfl⟩) (f := fun k => (S.jb k).isOpen) (v := fun k => V.ref (a.js[k]?.getD 0)) (fun jx hi => by
            rw [List.length_map] at hi
            have hrow := mdl_row (K := K) hl (show jx < S.jobs.length by omega)
            exact (t_B (e_call (a_cons (e_var (i := 4) rfl rfl) a_nil) (c_l_open (jx + 3) hrow)))) (fun jx hi hf => by
            rw [List.length_map] at hi
            have hrow := mdl_row (K := K) hl (show jx < S.jobs.length by omega)
            exact (e_var (i := 4) rfl rfl))) (by rw [List.length_map, hl]; rfl))) e_int (od_eq .dat .dat rfl rfl))) (by
    rw [eqv_int, List.length_map]
    by_cases z : S.opens.length = 20
    · rw [decide_eq_true z, decide_eq_true (by omega)]
    · rw [decide_eq_false z, decide_eq_false (by omega)])) (fun hb => ?_) (fun hb => ?_)
  · have hb := of_decide_eq_true hb
    have ea : addE S (.int rk) (oD tm) (.int st) (tupN af) (tupI ps) = some .full := by rw [e0, if_pos hb]; rfl
    have ev := dv_a1 ea
    exact r_ret (e_tup (ds := [.str "refused", .int 4]) (a_cons e_str (a_cons e_int a_nil)) rfl (Nat.le_of_ble_eq_true rfl)) (k a.js (by show a.js.length = (doV S _).2.jobs.length; rw [ev]; exact hl)) (by show _ = SD.d (doV S _).1; rw [ev]; rfl) (by show Ole _ (mdl K a (doV S _).2); rw [ev]; exact Ole.refl _) (Bl.refl _)
  have hb := of_decide_eq_false hb
  have ea : addE S (.int rk) (oD tm) (.int st) (tupN af) (tupI ps) = none := by rw [e0, if_neg hb]; rfl
  have ev := dv_a0 ea
  rw [jobOf_mk] at ev
  refine n_seq ?_
  refine n_asgM (em_disp (kvs := [(.inr "rank", .d (.int rk)), (.inr "term", .d (oD tm)), (.inr "start", .d (.int st)), (.inr "after", .d (tupN af)), (.inr "parts", .d (tupI ps))]) (fun p => eps_cons (k := .inr "rank") e_str (e_op (e_var (i := 1) rfl rfl) e_int (od_ixT (d := .int rk) rfl)) (eps_cons (k := .inr "term") e_str (e_op (e_var (i := 1) rfl rfl) e_int (od_ixT (d := oD tm) rfl)) (eps_cons (k := .inr "start") e_str (e_op (e_var (i := 1) rfl rfl) e_int (od_ixT (d := .int st) rfl)) (eps_cons (k := .inr "after") e_str (e_op (e_var (i := 1) rfl rfl) e_int (od_ixT (d := tupN af) rfl)) (eps_cons (k := .inr "parts") e_str (e_op (e_var (i := 1) rfl rfl) e_int (od_ixT (d := tupI ps) rfl)) eps_nil))))) (by show 5 ≤ 15; decide) (fun vs => mergeK_nd (by show ([.inr "rank", .inr "term", .inr "start", .inr "after", .inr "parts"] : List Key).Nodup; decide +kernel) vs)) (fun x => ?_)
  refine n_front ?_
  refine n_seq ?_
  refine n_dupd (more := [(.inr "at", .d (.int 0)), (.inr "idle", .d (.int 0)), (.inr "end", .d .none), (.inr "gone", .d (.bool false))]) 0 (e_var (i := 4) rfl rfl) rfl (em_disp (kvs := [(.inr "at", .d (.int 0)), (.inr "idle", .d (.int 0)), (.inr "end", .d .none), (.inr "gone", .d (.bool false))]) (fun p => eps_cons (k := .inr "at") e_str e_int (eps_cons (k := .inr "idle") e_str e_int (eps_cons (k := .inr "end") e_str e_non (eps_cons (k := .inr "gone") e_str e_bl eps_nil)))) (by show 4 ≤ 15; decide) (fun vs => mergeK_nd (by show ([.inr "at", .inr "idle", .inr "end", .inr "gone"] : List Key).Nodup; decide +kernel) vs)) rfl (by show 5 + 4 ≤ 1000; decide) (by show ([.inr "rank", .inr "term", .inr "start", .inr "after", .inr "parts", .inr "at", .inr "idle", .inr "end", .inr "gone"] : List Key).Nodup; decide +kernel) ?_
  refine n_own (Os1 := dK K x (jkv (⟨rk, tm, st, af, ps, 0, 0, none, false⟩ : Jb)) :: mdl K a S) rfl ?_
  refine n_seq ?_
  refine n_appV 2 (e_var (i := 2) rfl rfl) (e_var (i := 4) rfl rfl) rfl rfl (by rw [List.length_map]; omega) ?_
  refine n_back ?_
  refine n_own (Os1 := mdl K { a with js := a.js ++ [x] } (S.addS (⟨rk, tm, st, af, ps, 0, 0, none, false⟩ : Jb))) (by
    show (_ :: lstV a.l (a.js.map V.ref ++ [V.ref x]) :: _ :: (dks K a.js (S.jobs.map jkv) ++ [dK K x (jkv (⟨rk, tm, st, af, ps, 0, 0, none, false⟩ : Jb))])) = _
    rw [dks_app (by rw [List.length_map]; exact hl)]
    show _ = (_ :: lstV a.l ((a.js ++ [x]).map V.ref) :: _ :: dks K (a.js ++ [x]) ((S.jobs ++ [(⟨rk, tm, st, af, ps, 0, 0, none, false⟩ : Jb)]).map jkv))
    rw [List.map_append, List.map_append]; rfl) ?_
  refine r_ret (e_is (s' := .d (.int (S.jobs.length : Int))) (e_op (e_cb (a_cons (e_var (i := 2) rfl rfl) a_nil) (cd_lenO 1 rfl)) e_int od_sub) ?_) (k (a.js ++ [x]) ?_) (by show _ = SD.d (doV S _).1; rw [ev]) (by show Ole _ (mdl K { a with js := a.js ++ [x] } (doV S _).2); rw [ev]; exact Ole.refl _) (Bl.refl _)
  · show SD.d (.int ((((a.js ++ [x]).map V.ref).length : Int) - 1)) = _
    rw [List.length_map, List.length_append, List.length_singleton, hl]
    congr 2; omega
  · show (a.js ++ [x]).length = (doV S _).2.jobs.length
    rw [ev, List.length_append, hl]
    show _ = (S.jobs ++ [_]).length
    rw [List.length_append]; rfl
theorem c_l_add {P : List Own} {a : MA} {S : Bd} {rk st : Int} {tm : Option Int} {af : List Nat} {ps : List Int} (h : MOk a S) (hd : DeedOk S.budget S.jobs.length (.add (.int rk) (oD tm) (.int st) (tupN af) (tupI ps))) : CaG K (P ++ mdl K a S) (sp_l_add K).sp [.v (.ref a.m), .d (.tuple [.str "add", .int rk, oD tm, .int st, tupN af, tupI ps])] (fun y : List Addr => y.length = (doV S (.add (.int rk) (oD tm) (.int st) (tupN af) (tupI ps))).2.jobs.length) (fun _ => .d (doV S (.add (.int rk) (oD tm) (.int st) (tupN af) (tupI ps))).1) (fun y => P ++ mdl K { a with js := y } (doV S (.add (.int rk) (oD tm) (.int st) (tupN af) (tupI ps))).2) := cgR (p := sp_l_add K) (a, S, rk, tm, st, af, ps) ⟨h, hd⟩ rfl rfl
def sp_l_drop (K : Fr) : Pl K (MA × Bd × Nat) := ⟨fun g => MOk g.1 g.2.1 ∧ g.2.2 < g.2.1.jobs.length, fun g => [.v (.ref g.1.m), .d (.int (g.2.2 : Int))], fun g => mdl K g.1 g.2.1, fun g => lstN (g.2.1.dropL g.2.2), fun g => mdl K g.1 (g.2.1.dropS (g.2.1.dropL g.2.2)), fun _ => none, fun _ => []⟩
theorem ok_l_drop (T : Tx K mg w) : FnOk P w K mg base (L2.CX P w) 2 T.a_l_drop T.fd_l_drop ["_law_model", "_law_number"] (sp_l_drop K).sp := by
  refine T.F_l_drop.okX sc_l_drop ((sp_l_drop K).len fun _ => rfl) (fun cdv A outer s H vs Q EX hr h => ?_)
  obtain ⟨⟨a, S, n⟩, B, F, hp, A0, hB, k, kx⟩ := h
  obtain ⟨⟨ok, hl⟩, hn⟩ := hp
  dsimp only at ok hl hn
  have hjn := ok.n
  refine ⟨_, (pss_cons (ps_set (i := 2) sc_l_drop.nd rfl (by first | exact Or.inl rfl | exact Or.inr rfl) (pe_lst (pa_cons (pv 1) pa_nil))) (pss_cons (ps_for (passes_of rfl) rfl (pi_enum (by rfl) T.n_enumerate (pa_cons (pe_dget (hu_of hr) (pv 0) pe_str (fun _ _ => rfl)) pa_nil)) (tgK (K := K) 2 rfl rfl (pgs_cons (pg_name (i := 3) sc_l_drop.nd rfl (by first | exact Or.inl rfl | exact Or.inr rfl)) (pgs_cons (pg_name (i := 4) sc_l_drop.nd rfl (by first | exact Or.inl rfl | exact Or.inr rfl)) pgs_nil))) (pss_one (ps_if (PW.pt (pw_and (pt_val (pe_call (ok_l_open T) (hr.mono (by decide)) (by rfl) T.m_l_open T.F_l_open.kp T.b_l_open .nil passL (pa_cons (pv 4) pa_nil))) (pw_and (pt_val (pe_callB (anyK (K := K) rfl rfl) (by rfl) T.n_any (by decide +kernel) (pa_cons (pe_lc (own := [("_law_one", 5)]) rfl sc_l_drop.nd (pi_tup (pe_dget (hu_of hr) (pv 4) pe_str (fun _ _ => rfl))) (blkOk_by (own := [("_law_one", 5)]) (N := ["_law_model", "_law_number", "_law_gone", "_law_other", "_law_job_here", "_law_one"]) (sc := defScope s_l_drop) (by decide +kernel)) (fun _ _ _ _ _ => by exact (pg_name (i := 5) sc_l_drop.nd rfl (by first | exact Or.inl rfl | exact Or.inr rfl))) (fun _ _ _ _ _ => by exact pts_nil) (fun _ _ _ _ _ => by exact (pe_cmpR (inK (K := K) rfl hr.units1) (pv 5) (pv 2) (by rfl)))) pa_nil))) (pw_and1 (pt_cmpR (ninK (K := K) rfl hr.units1) (pv 3) (pv 2) (by rfl)))))) (pss_one (ps_expr (pe_bm PySem.F.plainAttrs_list PySem.F.slot_list_append PySem.F.type_list_append mt_append (pv 2) (pa_cons (pv 3) pa_nil)))) pss_nil))) (pss_cons (ps_for (passes_of rfl) rfl (pi_list (pv 2)) (pg_name (i := 3) sc_l_drop.nd rfl (by first | exact Or.inl rfl | exact Or.inr rfl)) (pss_one (ps_dput (hu_of hr) (pe_ix (ixK (K := K) rfl) (pe_dget (hu_of hr) (pv 0) pe_str (fun _ _ => rfl)) (pv 3) (fun _ _ => rfl)) pe_str pe_bl rfl))) (pss_one (ps_ret (pe_callB (sortK (K := K) rfl hr.units) (by rfl) T.n_sorted (by decide +kernel) (pa_cons (pv 2) pa_nil))))))), ?_⟩
  refine run (Γ := [.v (.ref a.m), .d (.int (n : Int)), .un, .un, .un, .un]) (Oi := (mdl K a S)) A0 rfl ?_
  refine n_seq ?_
  refine n_asgL (el_lst (ds := [_]) (a_cons (e_var (i := 1) rfl rfl) a_nil) rfl (Nat.le_of_ble_eq_true rfl)) (fun pg => ?_)
  refine n_front ?_
  refine n_own (Os1 := (lst K pg (lstN ((List.range 0).foldl (fun g k => if (S.jb k).isOpen = true then dueF S g k else g) [n])) :: mdl K a S)) rfl ?_
  refine n_seq ?_
  refine n_forE (a := 3) (b := 4) 2 (a_cons (e_dget (k := .inr "jobs") (kvs := mkv a S) (i := 1) (e_var (i := 0) rfl rfl) e_str (.inl rfl) (mk_get 2 rfl) rfl) a_nil) rfl (fun i Γ Os => Γ = [.v (.ref a.m), .d (.int (n : Int)), .v (.ref pg), .un, .un, .un] ∧ Os = (lst K pg (lstN ((List.range i).foldl (fun g k => if (S.jb k).isOpen = true then dueF S g k else g) [n])) :: mdl K a S)) ⟨rfl, rfl⟩ (fun i Γ Os h => by rw [h.2]; rfl) (fun B2 hB2 i Γ Os hi h => ?_) (fun Γ Os h => ?_)
  · obtain ⟨rfl, rfl⟩ := h
    rw [List.length_map] at hi
    have hk : i < S.jobs.length := by omega
    have okJ := ok.job i _ (Bd.jb_get hk)
    have haft := okJ.aftn
    have hrow := mdl_row (K := K) hl hk
    have eg := due_upto ok hn i (by omega)
    have hlen := dropG_len ok n (i - n) (by omega)
    rw [← eg] at hlen
    refine n_gam (Γ' := [.v (.ref a.m), .d (.int (n : Int)), .v (.ref pg), .d (.int (i : Int)), .v (.ref (a.js[i]?.getD 0)), .un]) (by rw [js_it hi]; rfl) ?_
    have es : (List.range (i + 1)).foldl (fun g k => if (S.jb k).isOpen = true then dueF S g k else g) [n] = (if (S.jb i).isOpen = true then dueF S ((List.range i).foldl (fun g k => if (S.jb k).isOpen = true then dueF S g k else g) [n]) i else (List.range i).foldl (fun g k => if (S.jb k).isOpen = true then dueF S g k else g) [n]) := by rw [List.range_succ, List.foldl_append]; rfl
    rw [es]
    generalize (List.range i).foldl (fun g k => if (S.jb k).isOpen = true then dueF S g k else g) [n] = g0 at hlen eg ⊢
    have hsd : SeqAt.shaped (.list (lstN g0)) = true := shaped_ints _
    have hin : ∀ x : Nat, inD (.int (x : Int)) (lstN g0) = decide (x ∈ g0) := fun x => inD_ints _ _
    refine n_when (b := ((S.jb i).isOpen && (((S.jb i).after.any fun o => decide (o ∈ g0)) && !decide (i ∈ g0)))) (t_and (t_B (e_call (a_cons (e_var (i := 4) rfl rfl) a_nil) (c_l_open (i + 4) hrow))) (fun hh => t_and (t_B (e_is (s' := .d (.bool ((S.jb i).after.any fun o => decide (o ∈ g0)))) (e_cb (a_cons (e_is (s' := .d (.list (((S.jb i).after.map fun o => decide (o ∈ g0)).map .bool))) (e_fz (el_lcP (vs := [5]) (it_item (item' := fun j => .d (.int ((((S.jb i).after[j]?.getD 0 : Nat)) : Int))) (it_tup (e_dget (k := .inr "after") (kvs := jkv (S.jb i)) (i := i + 4) (e_var (i := 4) rfl rfl) e_str (.inl hrow) (jk_get 3 rfl) rfl)) (fun j hj => by rw [List.length_map] at hj; show SD.d (((S.jb i).after.map _)[j]?.getD .none) = _; rw [map_getD hj]; simp [hj])) (by walk_at "lim") (fun _ => tg_name) (by intro i hi; exact hi) (by first | exact trivial | exact rfl | exact ⟨_, rfl⟩) (f := fun _ => true) (v := fun j => .bool (decide (((S.jb i).after[j]?.getD 0) ∈ g0))) (fun i hi => t_yes) (fun jx hi hf => (e_is (s' := .d (.bool (decide (((S.jb i).after[jx]?.getD 0) ∈ g0)))) (e_op (e_var (i := 5) rfl rfl) (e_var (i := 2) rfl rfl) (od_in .dat (.own 0 rfl) rfl hsd)) (congrArg (fun x => SD.d (.bool x)) (hin _)))))) (by rw [gvn_all, List.length_map]; exact congrArg (fun l => SD.d (.list l)) (any_after (S.jb i).after (fun o => decide (o ∈ g0))))) a_nil) (cd_any .dat)) (by rw [List.any_map]; rfl))) (fun hh => et_is (t_T (e_op (e_var (i := 3) rfl rfl) (e_var (i := 2) rfl rfl) (od_nin .dat (.own 0 rfl) rfl hsd))) (congrArg not (hin i))))) (fun hb => ?_) (fun hb => ?_)
    · refine n_app (d := .int (i : Int)) 0 (e_var (i := 2) rfl rfl) (e_var (i := 3) rfl rfl) rfl rfl (by unfold lstN; rw [List.length_map]; omega) ?_
      refine r_inv _ _ ⟨rfl, rfl⟩ (.eq (.eq (.eq (.un (.un (.eq .nil)))))) ?_
      simp only [Bool.and_eq_true, Bool.not_eq_true', decide_eq_false_iff_not] at hb
      rw [if_pos hb.1, dueF, if_pos (by rw [hb.2.1, decide_eq_false hb.2.2]; rfl)]
      show Ole (lst K pg (lstN g0 ++ [_]) :: _) _
      unfold lstN
      rw [List.map_append]; exact Ole.refl _
    · refine r_inv _ _ ⟨rfl, rfl⟩ (.eq (.eq (.eq (.un (.un (.eq .nil)))))) ?_
      have e3 : (if (S.jb i).isOpen = true then dueF S g0 i else g0) = g0 := by
        unfold dueF
        revert hb
        cases (S.jb i).isOpen <;> cases ((S.jb i).after.any fun o => decide (o ∈ g0)) <;> cases decide (i ∈ g0) <;> simp
      rw [e3]; exact Ole.refl _
  obtain ⟨rfl, rfl⟩ := h
  rw [List.length_map, hl, due_upto ok hn _ (Nat.le_refl _), show S.dropG n (S.jobs.length - n) = S.dropL n from rfl]
  refine n_fz 0 2 rfl rfl ?_
  obtain ⟨gg, hg⟩ : ∃ gg, S.dropL n = gg := ⟨_, rfl⟩
  have hmem := dropL_mem ok hn
  have hasc := dropL_asc ok n
  rw [hg] at hmem hasc ⊢
  refine n_own (Os1 := mdl K a (S.dropS (gg.take 0))) (by rw [List.take_zero, dropS_nil]; rfl) ?_
  refine n_seq ?_
  refine n_for (it_item (item' := fun j => .d (.int ((gg[j]?.getD 0 : Nat) : Int))) (it_list (e_var (i := 2) rfl rfl)) (fun j hj => by unfold lstN at hj; rw [List.length_map] at hj; show SD.d ((gg.map _)[j]?.getD .none) = _; rw [map_getD hj]; simp [hj])) (fun _ => tg_name) (fun j Γ Os => Γ = [.v (.ref a.m), .d (.int (n : Int)), .d (.list (lstN gg)), .un, .un, .un] ∧ Os = mdl K a (S.dropS (gg.take j))) ⟨rfl, rfl⟩ (fun _ _ _ _ => trivial) (fun B2 hB2 j Γ Os hj h => ?_) (fun Γ Os h => ?_)
  · obtain ⟨rfl, rfl⟩ := h
    unfold lstN at hj
    rw [List.length_map] at hj
    obtain ⟨q, hq⟩ : ∃ q, gg[j]?.getD 0 = q := ⟨_, rfl⟩
    have hqm : q ∈ gg := by rw [← hq, List.getElem?_eq_getElem hj]; exact List.getElem_mem hj
    have hql := hmem q hqm
    rw [hq]
    have hl2 : a.js.length = (S.dropS (gg.take j)).jobs.length := by rw [dropS_n]; exact hl
    have lt2 : q < (S.dropS (gg.take j)).jobs.length := by rw [dropS_n]; exact hql
    have hrow := mdl_row (K := K) hl2 lt2
    refine n_dput (k := .inr "gone") (kvs := jkv ((S.dropS (gg.take j)).jb q)) (q + 3) e_bl (e_op (e_dget (k := .inr "jobs") (kvs := mkv a (S.dropS (gg.take j))) (i := 0) (e_var (i := 0) rfl rfl) e_str (.inl rfl) (mk_get 2 rfl) rfl) (e_var (i := 3) rfl rfl) (od_ixV (y := V.ref (a.js[q]?.getD 0)) 1 rfl (js_ix hl2 lt2))) e_str hrow (by show 9 < 1000000; decide) ?_
    refine r_inv _ _ ⟨rfl, rfl⟩ (.eq (.eq (.eq (.un (.eq (.eq .nil)))))) ?_
    rw [jk_put (J := (S.dropS (gg.take j)).jb q) (k := .inr "gone") (s := .d (.bool true)) (J' := { (S.dropS (gg.take j)).jb q with gone := true }) 8 rfl rfl, mdl_put hl2 lt2]
    rw [show (S.dropS (gg.take j)).set q { (S.dropS (gg.take j)).jb q with gone := true } = S.dropS (gg.take (j + 1)) from dropS_succ S gg j hj hq hql]
    exact Ole.refl _
  obtain ⟨rfl, rfl⟩ := h
  rw [show (lstN gg).length = gg.length by unfold lstN; rw [List.length_map], List.take_length]
  exact r_retL (el_is (es := lstN gg) (el_cb (a_cons (e_var (i := 2) rfl rfl) a_nil) (cl_sort .dat (nats_alike _) (nats_sortable _) (nats_depth _))) (nats_sorted hasc)) (k rfl) (by rw [← hg]; rfl) (by show Ole _ (mdl K a (S.dropS (S.dropL n))); rw [hg]; exact Ole.refl _) (Bl.refl _)
theorem c_l_drop {P : List Own} {a : MA} {S : Bd} {n : Nat} (h : MOk a S) (hn : n < S.jobs.length) : CaL K (P ++ mdl K a S) (sp_l_drop K).sp [.v (.ref a.m), .d (.int (n : Int))] (lstN (S.dropL n)) (P ++ mdl K a (S.dropS (S.dropL n))) := clR (a, S, n) ⟨h, hn⟩ rfl rfl rfl rfl rfl
end
end Cw

namespace Cw
open PySem L2

local macro_rules | `(tactic| walk_at "vw") => `(tactic| first | exact Vw.dat | exact Vw.own 0 rfl | exact Vw.own 1 rfl | exact Vw.own 2 rfl | exact Vw.own 3 rfl | exact Vw.own 4 rfl | exact Vw.own 5 rfl | exact Vw.own 6 rfl | exact Vw.own 7 rfl)
local macro_rules | `(tactic| walk_at "ar") => `(tactic| first | assumption | decide | omega)
local macro_rules | `(tactic| walk_at "ix") => `(tactic| first | assumption | rfl)
local macro_rules | `(tactic| walk_at "sh") => `(tactic| first | assumption | rfl)
local macro_rules | `(tactic| walk_at "cm") => `(tactic| first | exact Or.inr ⟨by decide, by decide⟩ | exact Or.inl ⟨by decide, by decide⟩ | (unfold CMul; omega))
local macro_rules | `(tactic| walk_at "cd") => `(tactic| first | exact ⟨by decide, by decide⟩ | exact ⟨by omega, by omega⟩)
local macro_rules | `(tactic| walk_at "lim") => `(tactic| first | assumption | omega | (simp only [List.length_append, List.length_cons, List.length_nil, List.length_replicate, List.length_map]; omega) | decide)
local macro_rules | `(tactic| walk_at "od") => `(tactic| first
  | exact od_add | exact od_sub | exact od_lt | exact od_le | exact od_gt | exact od_ge | exact od_isn | exact od_notn
  | exact od_mul (by walk_at "cm") | exact od_mod (by walk_at "ar") | exact od_fdiv (by walk_at "cd")
  | exact od_eq (by walk_at "vw") (by walk_at "vw") (by walk_at "sh") (by walk_at "sh") | exact od_l (od_ne (by walk_at "vw") (by walk_at "vw") (by walk_at "sh") (by walk_at "sh"))
  | exact od_ixT (by walk_at "ix") | exact od_ixL (by walk_at "vw") (by walk_at "ix") | exact od_addT (by walk_at "lim") | exact od_repT (by walk_at "lim") (by walk_at "lim") (by walk_at "lim")
  | exact od_jobs 0 rfl (by assumption) | exact od_ixV 1 rfl (by assumption)
  | exact od_in (by walk_at "vw") (by walk_at "vw") (by walk_at "sh") (by walk_at "sh") | exact od_nin (by walk_at "vw") (by walk_at "vw") (by walk_at "sh") (by walk_at "sh"))
local macro_rules | `(tactic| walk_at "ins") => `(tactic| first | exact ins_bd 0 rfl (by decide +kernel) | exact ins_bdx 0 rfl (by decide +kernel) | exact ins_bdx 1 rfl (by decide +kernel) | exact ins_bdx 2 rfl (by decide +kernel) | exact ins_bdx 3 rfl (by decide +kernel))
local macro_rules | `(tactic| walk_at "cb") => `(tactic| first
  | exact cd_lenT | exact cd_lenL (by walk_at "vw") | exact cd_isInt (by walk_at "vw") | exact cd_isBool (by walk_at "vw") | exact cd_isTup (by walk_at "vw") | exact cd_isLst (by walk_at "vw") | exact cd_isStr (by walk_at "vw")
  | exact cd_all (by walk_at "vw") | exact cd_any (by walk_at "vw") | exact cd_sum (by walk_at "vw") | exact cd_tupL (by walk_at "vw") | exact cl_listL (by walk_at "vw") | exact cd_lenJ 0 rfl | exact cl_spent 0 rfl | exact cd_spentT 0 rfl | exact cd_intB | exact cd_max2 | exact cd_min2)

section
variable {P : Program} {w : World} {K : Fr} {mg : Str → Option Value} {base : Heap}
def sp_l_own (K : Fr) : Pg K (MA × Bd × Deed) (List Addr) := ⟨fun g => MOk g.1 g.2.1 ∧ TmB g.2.1 ∧ g.2.1.spent.length < 100000 ∧ DeedOk g.2.1.budget g.2.1.jobs.length g.2.2, fun g => [.v (.ref g.1.m), .d (deedD g.2.2)], fun g => mdl K g.1 g.2.1, fun g y => y.length = (doV g.2.1 g.2.2).2.jobs.length, fun g _ => .d (doV g.2.1 g.2.2).1, fun g y => mdl K { g.1 with js := y } (doV g.2.1 g.2.2).2⟩
theorem ok_l_own (T : Tx K mg w) : FnOk P w K mg base (L2.CX P w) 5 T.a_l_own T.fd_l_own ["_law_model", "_law_deed_here"] (sp_l_own K).sp := by
  refine T.F_l_own.okX sc_l_own ((sp_l_own K).len fun _ => rfl) (fun cdv A outer s H vs Q EX hr h => ?_)
  obtain ⟨⟨a, S, dd⟩, B, F, hp, A0, hB, k, kx⟩ := h
  obtain ⟨⟨ok, hl⟩, htm, hsp, hd⟩ := hp
  dsimp only at ok hl htm hsp hd
  refine ⟨_, (pss_cons (ps_if (pt_cmpR (eqK (K := K) rfl hr.units) (pe_ix (ixK (K := K) rfl) (pv 1) pe_int (fun _ _ => rfl)) pe_str (nomark _)) (pss_one (ps_ret (pe_call (ok_l_add T) (hr.mono (by decide)) (by rfl) T.m_l_add T.F_l_add.kp T.b_l_add .nil passL (pa_cons (pv 0) (pa_cons (pv 1) pa_nil))))) pss_nil) (pss_cons (ps_if (pt_cmpR (eqK (K := K) rfl hr.units) (pe_ix (ixK (K := K) rfl) (pv 1) pe_int (fun _ _ => rfl)) pe_str (nomark _)) (pss_one (ps_ret (pe_call (ok_l_frame T) (hr.mono (by decide)) (by rfl) T.m_l_frame T.F_l_frame.kp T.b_l_frame .nil passL (pa_cons (pv 0) pa_nil)))) pss_nil) (pss_cons (ps_set (i := 2) sc_l_own.nd rfl (by first | exact Or.inl rfl | exact Or.inr rfl) (pe_ix (ixK (K := K) rfl) (pe_dget (hu_of hr) (pv 0) pe_str (fun _ _ => rfl)) (pe_ix (ixK (K := K) rfl) (pv 1) pe_int (fun _ _ => rfl)) (fun _ _ => rfl))) (pss_cons (ps_if (pt_not (pt_val (pe_call (ok_l_open T) (hr.mono (by decide)) (by rfl) T.m_l_open T.F_l_open.kp T.b_l_open .nil passL (pa_cons (pv 2) pa_nil)))) (pss_one (ps_ret (pe_tup (pa_cons pe_str (pa_cons pe_int pa_nil))))) pss_nil) (pss_cons (ps_if (pt_cmpR (eqK (K := K) rfl hr.units) (pe_ix (ixK (K := K) rfl) (pv 1) pe_int (fun _ _ => rfl)) pe_str (nomark _)) (pss_one (ps_ret (pe_call (ok_l_drop T) (hr.mono (by decide)) (by rfl) T.m_l_drop T.F_l_drop.kp T.b_l_drop .nil passL (pa_cons (pv 0) (pa_cons (pe_ix (ixK (K := K) rfl) (pv 1) pe_int (fun _ _ => rfl)) pa_nil))))) pss_nil) (pss_cons (ps_set (i := 3) sc_l_own.nd rfl (by first | exact Or.inl rfl | exact Or.inr rfl) (pe_dget (hu_of hr) (pv 2) pe_str (fun _ _ => rfl))) (pss_cons (ps_dput (hu_of hr) (pv 2) pe_str (pe_ix (ixK (K := K) rfl) (pv 1) pe_int (fun _ _ => rfl)) rfl) (pss_one (ps_ret (pv 3)))))))))), ?_⟩
  refine run (Γ := [.v (.ref a.m), .d (deedD dd), .un, .un]) (Oi := (mdl K a S)) A0 rfl ?_
  have kk := k
  clear k
  cases dd with
  | add r t s1 af0 p =>
    have hd0 := hd
    obtain ⟨rk, st, tm, af, ps, rfl, rfl, rfl, rfl, rfl, _⟩ := hd
    refine n_seq ?_; refine (n_when (b := true) (et_is (t_T (e_op (e_op (e_var (i := 1) rfl rfl) e_int (od_ixT (d := .str "add") rfl)) e_str (od_eq .dat .dat (by decide +kernel) (by decide +kernel)))) (show PyData.eqv (.str "add") (.str "add") = true by decide +kernel)) (fun _ => ?_) (fun z => by cases z))
    exact r_retG (a_cons (e_var (i := 0) rfl rfl) (a_cons (e_var (i := 1) rfl rfl) a_nil)) (c_l_add (P := []) ⟨ok, hl⟩ hd0) (fun y hy => ⟨_, _, kk y hy, rfl, Ole.refl _⟩) (Bl.refl _)
  | frame =>
    refine n_seq ?_; refine (n_when (b := false) (et_is (t_T (e_op (e_op (e_var (i := 1) rfl rfl) e_int (od_ixT (d := .str "frame") rfl)) e_str (od_eq .dat .dat (by decide +kernel) (by decide +kernel)))) (show PyData.eqv (.str "frame") (.str "add") = false by decide +kernel)) (fun z => by cases z) (fun _ => ?_))
    refine n_seq ?_; refine (n_when (b := true) (et_is (t_T (e_op (e_op (e_var (i := 1) rfl rfl) e_int (od_ixT (d := .str "frame") rfl)) e_str (od_eq .dat .dat (by decide +kernel) (by decide +kernel)))) (show PyData.eqv (.str "frame") (.str "frame") = true by decide +kernel)) (fun _ => ?_) (fun z => by cases z))
    exact r_ret (e_fz (el_call (a_cons (e_var (i := 0) rfl rfl) a_nil) (c_l_frame (P := []) ⟨ok, hl⟩ htm hsp))) (kk a.js (by show a.js.length = S.frameS.jobs.length; rw [frame_len ok]; exact hl)) rfl (Ole.refl _) (Bl.refl _)
  | drop d =>
    obtain ⟨k, rfl, hk⟩ := hd
    refine n_seq ?_; refine (n_when (b := false) (et_is (t_T (e_op (e_op (e_var (i := 1) rfl rfl) e_int (od_ixT (d := .str "drop") rfl)) e_str (od_eq .dat .dat (by decide +kernel) (by decide +kernel)))) (show PyData.eqv (.str "drop") (.str "add") = false by decide +kernel)) (fun z => by cases z) (fun _ => ?_))
    refine n_seq ?_; refine (n_when (b := false) (et_is (t_T (e_op (e_op (e_var (i := 1) rfl rfl) e_int (od_ixT (d := .str "drop") rfl)) e_str (od_eq .dat .dat (by decide +kernel) (by decide +kernel)))) (show PyData.eqv (.str "drop") (.str "frame") = false by decide +kernel)) (fun z => by cases z) (fun _ => ?_))
    have hrow := mdl_row (K := K) hl hk
    refine n_seq ?_
    refine n_asg (e_op (e_dget (k := .inr "jobs") (kvs := mkv a S) (i := 0) (e_var (i := 0) rfl rfl) e_str (.inl rfl) (mk_get 2 rfl) rfl) (e_op (e_var (i := 1) rfl rfl) e_int (od_ixT (d := .int (k : Int)) rfl)) (od_ixV (y := V.ref (a.js[k]?.getD 0)) 1 rfl (js_ix hl hk))) ?_
    refine n_seq ?_
    refine n_when (b := !(S.jb k).isOpen) (t_not (t_B (e_call (a_cons (e_var (i := 2) rfl rfl) a_nil) (c_l_open (k + 3) hrow)))) (fun hb => ?_) (fun hb => ?_)
    · have ho : openE S (.int (k : Int)) = some .over := by
        unfold openE
        rw [if_pos (by simp [isWhole]; omega), show natD (.int (k : Int)) = k from Int.toNat_natCast k, if_neg (by simpa using hb)]
      have ev : doV S (.drop (.int (k : Int))) = (refI 3, S) := dv_d1 ho
      exact r_ret (e_tup (ds := [.str "refused", .int 3]) (a_cons e_str (a_cons e_int a_nil)) rfl (Nat.le_of_ble_eq_true rfl)) (kk a.js (by show a.js.length = (doV S _).2.jobs.length; rw [ev]; exact hl)) (by show _ = SD.d (doV S _).1; rw [ev]; rfl) (by show Ole _ (mdl K a (doV S _).2); rw [ev]; exact Ole.refl _) (Bl.refl _)
    have ho : openE S (.int (k : Int)) = none := by
      unfold openE
      rw [if_pos (by simp [isWhole]; omega), show natD (.int (k : Int)) = k from Int.toNat_natCast k, if_pos (by simpa using hb)]
  
    have ev := dv_d0 ho
    rw [show natD (.int (k : Int)) = k from Int.toNat_natCast k] at ev
    refine n_seq ?_; refine (n_when (b := true) (et_is (t_T (e_op (e_op (e_var (i := 1) rfl rfl) e_int (od_ixT (d := .str "drop") rfl)) e_str (od_eq .dat .dat (by decide +kernel) (by decide +kernel)))) (show PyData.eqv (.str "drop") (.str "drop") = true by decide +kernel)) (fun _ => ?_) (fun z => by cases z))
    exact r_ret (e_fz (el_call (a_cons (e_var (i := 0) rfl rfl) (a_cons (e_op (e_var (i := 1) rfl rfl) e_int (od_ixT (d := .int (k : Int)) rfl)) a_nil)) (c_l_drop (P := []) ⟨ok, hl⟩ hk))) (kk a.js (by show a.js.length = (doV S _).2.jobs.length; rw [ev]; dsimp only; rw [dropS_n]; exact hl)) (by show _ = SD.d (doV S _).1; rw [ev]) (by show Ole _ (mdl K a (doV S _).2); rw [ev]; exact Ole.refl _) (Bl.refl _)
  | rank d r =>
    obtain ⟨k, rk, rfl, hk, rfl, hr0, hr4⟩ := hd
    refine n_seq ?_; refine (n_when (b := false) (et_is (t_T (e_op (e_op (e_var (i := 1) rfl rfl) e_int (od_ixT (d := .str "rank") rfl)) e_str (od_eq .dat .dat (by decide +kernel) (by decide +kernel)))) (show PyData.eqv (.str "rank") (.str "add") = false by decide +kernel)) (fun z => by cases z) (fun _ => ?_))
    refine n_seq ?_; refine (n_when (b := false) (et_is (t_T (e_op (e_op (e_var (i := 1) rfl rfl) e_int (od_ixT (d := .str "rank") rfl)) e_str (od_eq .dat .dat (by decide +kernel) (by decide +kernel)))) (show PyData.eqv (.str "rank") (.str "frame") = false by decide +kernel)) (fun z => by cases z) (fun _ => ?_))
    have hrow := mdl_row (K := K) hl hk
    refine n_seq ?_
    refine n_asg (e_op (e_dget (k := .inr "jobs") (kvs := mkv a S) (i := 0) (e_var (i := 0) rfl rfl) e_str (.inl rfl) (mk_get 2 rfl) rfl) (e_op (e_var (i := 1) rfl rfl) e_int (od_ixT (d := .int (k : Int)) rfl)) (od_ixV (y := V.ref (a.js[k]?.getD 0)) 1 rfl (js_ix hl hk))) ?_
    refine n_seq ?_
    refine n_when (b := !(S.jb k).isOpen) (t_not (t_B (e_call (a_cons (e_var (i := 2) rfl rfl) a_nil) (c_l_open (k + 3) hrow)))) (fun hb => ?_) (fun hb => ?_)
    · have ho : openE S (.int (k : Int)) = some .over := by
        unfold openE
        rw [if_pos (by simp [isWhole]; omega), show natD (.int (k : Int)) = k from Int.toNat_natCast k, if_neg (by simpa using hb)]
      have ev : doV S (.rank (.int (k : Int)) (.int rk)) = (refI 3, S) := dv_r1 (by unfold rankE; rw [ho]; rfl)
      exact r_ret (e_tup (ds := [.str "refused", .int 3]) (a_cons e_str (a_cons e_int a_nil)) rfl (Nat.le_of_ble_eq_true rfl)) (kk a.js (by show a.js.length = (doV S _).2.jobs.length; rw [ev]; exact hl)) (by show _ = SD.d (doV S _).1; rw [ev]; rfl) (by show Ole _ (mdl K a (doV S _).2); rw [ev]; exact Ole.refl _) (Bl.refl _)
    have ho : openE S (.int (k : Int)) = none := by
      unfold openE
      rw [if_pos (by simp [isWhole]; omega), show natD (.int (k : Int)) = k from Int.toNat_natCast k, if_pos (by simpa using hb)]
  
    have hre : rankE S (.int (k : Int)) (.int rk) = none := by
      unfold rankE
      rw [ho, if_pos (by simp [isWhole]; omega)]; rfl
    have ev := dv_r0 hre
    rw [rankS_N, show natD (.int (k : Int)) = k from Int.toNat_natCast k] at ev
    refine n_seq ?_; refine (n_when (b := false) (et_is (t_T (e_op (e_op (e_var (i := 1) rfl rfl) e_int (od_ixT (d := .str "rank") rfl)) e_str (od_eq .dat .dat (by decide +kernel) (by decide +kernel)))) (show PyData.eqv (.str "rank") (.str "drop") = false by decide +kernel)) (fun z => by cases z) (fun _ => ?_))
    refine n_seq ?_
    refine n_asg (e_dget (k := .inr "rank") (kvs := jkv (S.jb k)) (i := k + 3) (e_var (i := 2) rfl rfl) e_str (.inl hrow) (jk_get 0 rfl) rfl) ?_
    refine n_seq ?_
    refine n_dput (k := .inr "rank") (kvs := jkv (S.jb k)) (k + 3) (e_op (e_var (i := 1) rfl rfl) e_int (od_ixT (d := .int rk) rfl)) (e_var (i := 2) rfl rfl) e_str hrow (by show 9 < 1000000; decide) ?_
    refine n_own (Os1 := mdl K a (S.rankN k rk)) (by
      rw [jk_put (J := S.jb k) (k := .inr "rank") (s := .d (.int rk)) (J' := { S.jb k with rank := rk }) 0 rfl rfl, mdl_put hl hk]; rfl) ?_
    exact r_ret (e_var (i := 3) rfl rfl) (kk a.js (by show a.js.length = (doV S _).2.jobs.length; rw [ev]; show _ = (S.rankN k rk).jobs.length; unfold Bd.rankN; simpa using hl)) (by show _ = SD.d (doV S _).1; rw [ev]) (by show Ole _ (mdl K a (doV S _).2); rw [ev]; exact Ole.refl _) (Bl.refl _)
theorem c_l_own {P : List Own} {a : MA} {S : Bd} {dd : Deed} (h : MOk a S) (ht : TmB S) (hs : S.spent.length < 100000) (hd : DeedOk S.budget S.jobs.length dd) : CaG K (P ++ mdl K a S) (sp_l_own K).sp [.v (.ref a.m), .d (deedD dd)] (fun y : List Addr => y.length = (doV S dd).2.jobs.length) (fun _ => .d (doV S dd).1) (fun y => P ++ mdl K { a with js := y } (doV S dd).2) := cgR (p := sp_l_own K) (a, S, dd) ⟨h, ht, hs, hd⟩ rfl rfl
theorem tmB_do {S : Bd} {dd : Deed} (ok : S.Ok) (hn : S.jobs.length < 10000) (hs : S.spent.length < 100000) (hd : DeedOk S.budget S.jobs.length dd) (h : TmB S) : TmB (doV S dd).2 := by
  have hD := doV_ok ok hn hs hd
  intro k x hx
  cases hD.did with
  | added rk st tm af ps e v bb =>
    rw [v] at hx
    rw [jb_add] at hx
    split at hx
    · exact h k x hx
    · split at hx
      · exact (bb.2 x hx).2
      · cases hx
  | refused rk st tm af ps e i' v => rw [v] at hx; exact h k x hx
  | other a n0 s =>
    by_cases z : k < S.jobs.length
    · rw [(s k z).2] at hx; exact h k x hx
    · have e : (doV S dd).2.jb k = jb0 := by unfold Bd.jb; rw [List.getElem?_eq_none (by omega)]; rfl
      rw [e] at hx; cases hx
end
end Cw

namespace Cw
open PySem L2

local macro_rules | `(tactic| walk_at "vw") => `(tactic| first | exact Vw.dat | exact Vw.own 0 rfl | exact Vw.own 1 rfl | exact Vw.own 2 rfl | exact Vw.own 3 rfl | exact Vw.own 4 rfl | exact Vw.own 5 rfl | exact Vw.own 6 rfl | exact Vw.own 7 rfl)
local macro_rules | `(tactic| walk_at "ar") => `(tactic| first | assumption | decide | omega)
local macro_rules | `(tactic| walk_at "ix") => `(tactic| first | assumption | rfl)
local macro_rules | `(tactic| walk_at "sh") => `(tactic| first | assumption | rfl)
local macro_rules | `(tactic| walk_at "cm") => `(tactic| first | exact Or.inr ⟨by decide, by decide⟩ | exact Or.inl ⟨by decide, by decide⟩ | (unfold CMul; omega))
local macro_rules | `(tactic| walk_at "cd") => `(tactic| first | exact ⟨by decide, by decide⟩ | exact ⟨by omega, by omega⟩)
local macro_rules | `(tactic| walk_at "lim") => `(tactic| first | assumption | omega | (simp only [List.length_append, List.length_cons, List.length_nil, List.length_replicate, List.length_map]; omega) | decide)
local macro_rules | `(tactic| walk_at "od") => `(tactic| first
  | exact od_add | exact od_sub | exact od_lt | exact od_le | exact od_gt | exact od_ge | exact od_isn | exact od_notn
  | exact od_mul (by walk_at "cm") | exact od_mod (by walk_at "ar") | exact od_fdiv (by walk_at "cd")
  | exact od_eq (by walk_at "vw") (by walk_at "vw") (by walk_at "sh") (by walk_at "sh") | exact od_l (od_ne (by walk_at "vw") (by walk_at "vw") (by walk_at "sh") (by walk_at "sh"))
  | exact od_ixT (by walk_at "ix") | exact od_ixL (by walk_at "vw") (by walk_at "ix") | exact od_addT (by walk_at "lim") | exact od_repT (by walk_at "lim") (by walk_at "lim") (by walk_at "lim")
  | exact od_jobs 0 rfl (by assumption) | exact od_ixV 1 rfl (by assumption)
  | exact od_in (by walk_at "vw") (by walk_at "vw") (by walk_at "sh") (by walk_at "sh") | exact od_nin (by walk_at "vw") (by walk_at "vw") (by walk_at "sh") (by walk_at "sh"))
local macro_rules | `(tactic| walk_at "ins") => `(tactic| first | exact ins_bd 0 rfl (by decide +kernel) | exact ins_bdx 0 rfl (by decide +kernel) | exact ins_bdx 1 rfl (by decide +kernel) | exact ins_bdx 2 rfl (by decide +kernel) | exact ins_bdx 3 rfl (by decide +kernel))
local macro_rules | `(tactic| walk_at "cb") => `(tactic| first
  | exact cd_lenT | exact cd_lenL (by walk_at "vw") | exact cd_isInt (by walk_at "vw") | exact cd_isBool (by walk_at "vw") | exact cd_isTup (by walk_at "vw") | exact cd_isLst (by walk_at "vw") | exact cd_isStr (by walk_at "vw")
  | exact cd_all (by walk_at "vw") | exact cd_any (by walk_at "vw") | exact cd_sum (by walk_at "vw") | exact cd_tupL (by walk_at "vw") | exact cl_listL (by walk_at "vw") | exact cd_lenJ 0 rfl | exact cl_spent 0 rfl | exact cd_spentT 0 rfl | exact cd_intB | exact cd_max2 | exact cd_min2)

section
variable {P : Program} {w : World} {K : Fr} {mg : Str → Option Value} {base : Heap}
/-- .. not raising, one of ours handed in -/
theorem cp1 {K : Fr} {Os : List Own} {ss : List SD} {G α : Type} {p : Px K G α} {O : Own} {O' : α → Own} {new : α → List Own} (i : Nat) (g : G) (hi : Os[i]? = some O) (hp : p.pre g) (he : p.err g = none) (ha : p.args g = ss) (ho : p.own g = [O]) (hq : ∀ y, p.out g y = O' y :: new y) : CaG K Os p.sp ss (p.ok g) (p.res g) (fun y => Os.set i (O' y) ++ new y) := fun X B F Γ σ H xs A r Q k => by
  obtain ⟨B', e, A0, back⟩ := (A.slots r).call1 hi
  refine ⟨g, B', F, hp, by rw [ha, ho]; exact A0, e, fun _ y hy x F' H' A' q => ?_, fun C c => by rw [he] at c; cases c⟩
  rw [hq] at A'
  have A2 := back A'
  have e2 : Same F F' := by rw [← e]; exact A'.bs
  exact k y hy x F' H' (A2.slots (A.sl.mono e2)) e2 q
def rb (S : Bd) (D : List Deed) : Bd := D.foldl (fun S d => (doV S d).2) S
def rtR : Bd → List Deed → List PyData
  | _, [] => []
  | S, d :: D => doR S (.ok d) :: rtR (doV S d).2 D
theorem rb_app (S : Bd) (D : List Deed) (d : Deed) : rb S (D ++ [d]) = (doV (rb S D) d).2 := by unfold rb; rw [List.foldl_append]; rfl
theorem rt_app : ∀ (S : Bd) (D : List Deed) (d : Deed), rtR S (D ++ [d]) = rtR S D ++ [doR (rb S D) (.ok d)]
  | S, [], d => rfl
  | S, x :: D, d => by
    show _ :: rtR _ (D ++ [d]) = _
    rw [rt_app]; rfl
theorem rt_len : ∀ (S : Bd) (D : List Deed), (rtR S D).length = D.length
  | S, [] => rfl
  | S, d :: D => by show (rtR _ D).length + 1 = _; rw [rt_len]; rfl
theorem take_succ' {α : Type} (l : List α) {i : Nat} (h : i < l.length) : l.take (i + 1) = l.take i ++ [l[i]] := by rw [List.take_succ, List.getElem?_eq_getElem h]; rfl
inductive Rg | ok (pd : Addr) (Bu Pa : Int) (ds : List Deed) | noBoard (d1 d2 d3 : PyData) | noList (Bu Pa : Int) (ds : List PyData) | bad (Bu Pa : Int) (ths : List Th)
def SzOk (Bu Pa : Int) : Prop := 1 ≤ Bu ∧ Bu ≤ 50 ∧ 1 ≤ Pa ∧ Pa ≤ 20
def RunOk (S : Bd) (ds : List Deed) : Prop := ∀ j, (rb S (ds.take j)).Ok ∧ (rb S (ds.take j)).spent.length ≤ 1000
def Rg.pre : Rg → Prop
  | .ok _ Bu Pa ds => SzOk Bu Pa ∧ RunOk ⟨Bu, Pa, [], 0, []⟩ ds ∧ ds.length ≤ 1000
  | .noBoard d1 d2 _ => (isWhole d1 1 50 && isWhole d2 1 20) = false
  | .noList Bu Pa _ => SzOk Bu Pa
  | .bad Bu Pa ths => SzOk Bu Pa ∧ ths.length ≤ 1000 ∧ (ths.map thB).all id = false
def Rg.args : Rg → List SD
  | .ok pd Bu Pa ds => [.d (.int Bu), .d (.int Pa), .v (.ref pd)]
  | .noBoard d1 d2 d3 => [.d d1, .d d2, .d d3]
  | .noList Bu Pa ds => [.d (.int Bu), .d (.int Pa), .d (.tuple ds)]
  | .bad Bu Pa ths => [.d (.int Bu), .d (.int Pa), .d (.list (ths.map thD))]
def Rg.err (T : Tx K mg w) : Rg → Option Addr
  | .ok _ _ _ _ => none
  | .noBoard _ _ _ => some T.c_NoBoard
  | _ => some T.c_NoDeed
def Rg.out (T : Tx K mg w) (y : Addr × Addr × Addr) : Rg → List Own
  | .ok pd Bu Pa ds => [lst K pd (ds.map deedD), bdx K T.c_Board T.c_Job y.1 (rb ⟨Bu, Pa, [], 0, []⟩ ds), lst K y.2.1 (rtR ⟨Bu, Pa, [], 0, []⟩ ds), tupO y.2.2 [.ref y.1, .ref y.2.1]]
  | _ => []
def Rg.own (K : Fr) : Rg → List Own
  | .ok pd _ _ ds => [lst K pd (ds.map deedD)]
  | _ => []
theorem Rg.args_len (g : Rg) : g.args.length = 3 := by cases g <;> rfl
theorem c_Board_initX (T : Tx K mg w) {Os Os2 : List Own} {X : XK} {x : Addr} {d1 d2 : PyData} (h : (isWhole d1 1 50 && isWhole d2 1 20) = false) : CaX K (Os ++ [inst K T.c_Board x [] []]) (sp_Board_init T).sp [.v (.ref x), .d d1, .d d2] X (some T.c_NoBoard) (.d .none) Os2 (Os ++ [inst K T.c_Board x [] []]) := by
  have := cx1 (p := sp_Board_init T) (X := X) (Os := Os ++ [inst K T.c_Board x [] []]) (O' := bdx K T.c_Board T.c_Job x ⟨intD d1, intD d2, [], 0, []⟩) (OE := inst K T.c_Board x [] []) Os.length (x, d1, d2) (by simp) trivial rfl rfl rfl rfl rfl (show (if (isWhole d1 1 50 && isWhole d2 1 20) = true then none else some T.c_NoBoard) = some T.c_NoBoard by rw [if_neg (by rw [h]; simp)])
  rw [List.set_append_right _ _ (Nat.le_refl _), Nat.sub_self, List.set_append_right _ _ (Nat.le_refl _), Nat.sub_self] at this
  exact fun B F Γ σ H xs A r Q k1 k2 => this B F Γ σ H xs A r Q (fun z => by cases z) k2
theorem all_ok (ds : List Deed) : (List.range ds.length).map (fun k => PyData.bool (thB ((ds.map Th.ok)[k]?.getD (.bad 0)))) = ((ds.map Th.ok).map thB).map .bool := by
  have := range_get (ds.map Th.ok) (fun t => PyData.bool (thB t)) (.bad 0)
  rw [List.length_map] at this
  rw [this]
  simp only [List.map_map]
  rfl
def sp_run (T : Tx K mg w) : Px K Rg (Addr × Addr × Addr) := ⟨Rg.pre, Rg.args, Rg.own K, fun _ _ => True, fun _ y => .v (.ref y.2.2), fun g y => g.out T y, Rg.err T, fun _ => []⟩
theorem ok_run (T : Tx K mg w) : FnOk P w K mg base (L2.CX P w) 9 T.a_run T.fd_run ["budget", "patience", "deeds"] (sp_run T).sp := by
  refine T.F_run.okX sc_run ((sp_run T).len Rg.args_len) (fun cdv A outer s H vs Q EX hr h => ?_)
  obtain ⟨rg, B, F, hp, A0, hB, k, kx⟩ := h
  refine ⟨_, (pss_cons (ps_set (i := 3) sc_run.nd rfl (by first | exact Or.inl rfl | exact Or.inr rfl) (pe_make T.mk_Board (ok_Board_init T) (hr.mono (by decide)) (by rfl) T.m_Board T.b_Board_init .nil (passes_call (takes_of rfl rfl rfl rfl) (fun _ _ _ _ h => h)) (pa_cons (pv 0) (pa_cons (pv 1) pa_nil)))) (pss_cons (ps_if (PW.pt (pw_or (pt_not (pt_val (pe_callB (isiK (K := K) rfl) (by rfl) T.n_isinstance (by decide +kernel) (pa_cons (pv 2) (pa_cons (pe_bltn (v := .ty "list") (by rfl) T.n_list (by decide +kernel) rfl) pa_nil))))) (pw_or1 (pt_not (pt_val (pe_callB (allK (K := K) rfl rfl) (by rfl) T.n_all (by decide +kernel) (pa_cons (pe_lc (own := [("deed", 4)]) rfl sc_run.nd (pi_list (pv 2)) (blkOk_by (own := [("deed", 4)]) (N := ["budget", "patience", "deeds", "board", "deed"]) (sc := defScope s_run) (by decide +kernel)) (fun _ _ _ _ _ => by exact (pg_name (i := 4) sc_run.nd rfl (by first | exact Or.inl rfl | exact Or.inr rfl))) (fun _ _ _ _ _ => by exact pts_nil) (fun _ _ _ _ _ => by exact (pe_call (ok_is_deed T) (hr.mono (by decide)) (by rfl) T.m_is_deed T.F_is_deed.kp T.b_is_deed .nil passL (pa_cons (pv 4) pa_nil)))) pa_nil))))))) (pss_one (ps_raise rfl (takes_of rfl rfl rfl rfl) (pmk_own PySem.F.excBase_ValueError T.x_NoDeed T.m_NoDeed T.k_NoDeed (raises_own T.b_NoDeed T.t_NoDeed) rfl))) pss_nil) (pss_one (ps_ret (pe_tup (pa_cons (pv 3) (pa_cons (pe_lc (own := [("deed", 4)]) rfl sc_run.nd (pi_list (pv 2)) (blkOk_by (own := [("deed", 4)]) (N := ["budget", "patience", "deeds", "board", "deed"]) (sc := defScope s_run) (by decide +kernel)) (fun _ _ _ _ _ => by exact (pg_name (i := 4) sc_run.nd rfl (by first | exact Or.inl rfl | exact Or.inr rfl))) (fun _ _ _ _ _ => by exact pts_nil) (fun _ _ _ _ _ => by exact (pe_call (ok_do T) (hr.mono (by decide)) (by rfl) T.m_do T.F_do.kp T.b_do .nil passL (pa_cons (pv 3) (pa_cons (pv 4) pa_nil))))) pa_nil))))))), ?_⟩
  refine run (Γ := (rg.args ++ [.un, .un])) (Oi := (rg.own K)) A0 (by cases rg <;> rfl) ?_
  cases rg with
  | noBoard d1 d2 d3 =>
    refine n_seq ?_
    exact n_mkP (a_cons (e_var (i := 0) rfl rfl) (a_cons (e_var (i := 1) rfl rfl) a_nil)) (fun x => c_Board_initX (Os2 := []) T (d1 := d1) (d2 := d2) hp) (n_err kx rfl (Ole.refl _) (Bl.refl _))
  | noList Bu Pa ds =>
    have hz : SzOk Bu Pa := hp
    obtain ⟨hB1, hB2, hP1, hP2⟩ := hz
    refine n_seq ?_
    refine n_asgM (e_make (a_cons (e_var (i := 0) rfl rfl) (a_cons (e_var (i := 1) rfl rfl) a_nil)) (fun x => c_Board_init T (i1 := Bu) (i2 := Pa) (by simp [isWhole]; omega))) (fun b => ?_)
    refine n_own (Os1 := [bdx K T.c_Board T.c_Job b (⟨Bu, Pa, [], 0, []⟩ : Bd)]) rfl ?_
    refine n_seq ?_; refine (n_when (b := true) (et_is (t_or (b := false) (t_not (t_B (e_cb (a_cons (e_var (i := 2) rfl rfl) (a_cons e_cv a_nil)) (cd_isLst .dat)))) (fun hh => by cases hh)) rfl) (fun _ => ?_) (fun z => by cases z))
    exact n_err kx rfl .nil (Bl.refl _)
  | bad Bu Pa ths =>
    obtain ⟨hz, hlen, hall⟩ := hp
    obtain ⟨hB1, hB2, hP1, hP2⟩ := hz
    refine n_seq ?_
    refine n_asgM (e_make (a_cons (e_var (i := 0) rfl rfl) (a_cons (e_var (i := 1) rfl rfl) a_nil)) (fun x => c_Board_init T (i1 := Bu) (i2 := Pa) (by simp [isWhole]; omega))) (fun b => ?_)
    refine n_own (Os1 := [bdx K T.c_Board T.c_Job b (⟨Bu, Pa, [], 0, []⟩ : Bd)]) rfl ?_
    refine n_seq ?_; refine (n_when (b := true) (et_is (t_or (t_not (t_B (e_cb (a_cons (e_var (i := 2) rfl rfl) (a_cons e_cv a_nil)) (cd_isLst .dat)))) (fun _ => t_not (t_B (e_cb (a_cons (e_is (s' := .d (.list ((ths.map thB).map .bool))) (e_fz (el_lcP (vs := [4]) (it_item (item' := fun k => .d (thD (ths[k]?.getD (.bad 0)))) (it_list (e_var (i := 2) rfl rfl)) (fun k hk => by rw [List.length_map] at hk; show SD.d ((ths.map thD)[k]?.getD .none) = _; rw [map_getD hk, List.getElem?_eq_getElem hk]; rfl)) (by rw [List.length_map]; omega) (fun _ => tg_name) (by intro i hi; exact hi) (by first | exact trivial | exact rfl | exact ⟨_, rfl⟩) (f := fun _ => true) (v := fun k => .bool (thB (ths[k]?.getD (.bad 0)))) (fun i hi => t_yes) (fun i hi hf => (e_call (a_cons (e_var (i := 4) rfl rfl) a_nil) (c_is_deed (ths[i]?.getD (.bad 0))))))) (by rw [gvn_all, List.length_map, range_get ths (fun t => PyData.bool (thB t)) (.bad 0), List.map_map]; rfl)) a_nil) (cd_all .dat))))) (by show (!true || !((ths.map thB).all id)) = true; rw [hall]; rfl)) (fun _ => ?_) (fun z => by cases z))
    exact n_err kx rfl .nil (Bl.refl _)
  | ok pd Bu Pa ds =>
    obtain ⟨hz, hok, hlen⟩ := hp
    have hall : ((ds.map Th.ok).map thB).all id = true := by
      rw [List.all_eq_true]
      intro b hb
      obtain ⟨t, ht, rfl⟩ := List.mem_map.mp hb
      obtain ⟨d, _, rfl⟩ := List.mem_map.mp ht
      rfl
    obtain ⟨hB1, hB2, hP1, hP2⟩ := hz
    refine n_seq ?_
    refine n_asgM (e_make (a_cons (e_var (i := 0) rfl rfl) (a_cons (e_var (i := 1) rfl rfl) a_nil)) (fun x => c_Board_init T (i1 := Bu) (i2 := Pa) (by simp [isWhole]; omega))) (fun b => ?_)
    refine n_own (Os1 := [lst K pd (ds.map deedD), bdx K T.c_Board T.c_Job b (⟨Bu, Pa, [], 0, []⟩ : Bd)]) rfl ?_
    refine n_seq ?_; refine (n_when (b := false) (et_is (t_or (t_not (t_B (e_cb (a_cons (e_var (i := 2) rfl rfl) (a_cons e_cv a_nil)) (cd_isLst (.own 0 rfl))))) (fun _ => t_not (t_B (e_cb (a_cons (e_is (s' := .d (.list (((ds.map Th.ok).map thB).map .bool))) (e_fz (el_lcP (vs := [4]) (it_item (item' := fun k => .d (thD ((ds.map Th.ok)[k]?.getD (.bad 0)))) (it_own 0 (e_var (i := 2) rfl rfl) rfl) (fun k hk => by rw [List.length_map] at hk; show SD.d ((ds.map deedD)[k]?.getD .none) = _; rw [map_getD hk, List.getElem?_map, List.getElem?_eq_getElem hk]; rfl)) (by rw [List.length_map]; omega) (fun _ => tg_name) (by intro i hi; exact hi) (by first | exact trivial | exact rfl | exact ⟨_, rfl⟩) (f := fun _ => true) (v := fun k => .bool (thB ((ds.map Th.ok)[k]?.getD (.bad 0)))) (fun i hi => t_yes) (fun i hi hf => (e_call (a_cons (e_var (i := 4) rfl rfl) a_nil) (c_is_deed ((ds.map Th.ok)[i]?.getD (.bad 0))))))) (by rw [gvn_all, List.length_map]; exact congrArg (fun l => SD.d (.list l)) (all_ok ds))) a_nil) (cd_all .dat))))) (by show (!true || !(((ds.map Th.ok).map thB).all id)) = false; rw [hall]; rfl)) (fun z => by cases z) (fun _ => ?_))
    exact r_retTup (xs := fun y : Addr × Unit => [.ref b, .ref y.1]) (eag_E (ss := fun y : Addr × Unit => [.v (.ref y.1)]) (e_var (i := 3) rfl rfl) (eag_M (β := Unit) (O := fun l => lst K l (rtR (⟨Bu, Pa, [], 0, []⟩ : Bd) ds)) (ss := fun _ _ => []) (Os' := fun l _ => [lst K pd (ds.map deedD), bdx K T.c_Board T.c_Job b (rb (⟨Bu, Pa, [], 0, []⟩ : Bd) ds), lst K l (rtR (⟨Bu, Pa, [], 0, []⟩ : Bd) ds)]) (em_lst (el_lc (vs := [4]) (it_own 0 (e_var (i := 2) rfl rfl) rfl) (by rw [List.length_map]; omega) (fun _ => tg_name) (by intro i hi; exact hi)
        (fun j acc Os => acc = rtR (⟨Bu, Pa, [], 0, []⟩ : Bd) (ds.take j) ∧ Os = [lst K pd (ds.map deedD), bdx K T.c_Board T.c_Job b (rb (⟨Bu, Pa, [], 0, []⟩ : Bd) (ds.take j))]) ⟨rfl, rfl⟩ (fun j acc Os h => by obtain ⟨_, rfl⟩ := h; rfl)
        (fun j acc Os hj h => by
          obtain ⟨rfl, rfl⟩ := h
          rw [List.length_map] at hj
          refine ⟨true, _, t_yes, fun _ => ⟨_, _, (e_call (a_cons (e_var (i := 3) rfl rfl) (a_cons (e_is (s' := .d (deedD ds[j])) (e_var (i := 4) rfl rfl) (by show SD.d ((ds.map deedD)[j]?.getD .none) = _; rw [map_getD hj])) a_nil)) (c_do T (S := rb (⟨Bu, Pa, [], 0, []⟩ : Bd) (ds.take j)) 1 rfl (hok j).1 (by have := (hok j).2; omega))), ?_, ?_⟩, fun z => by cases z⟩
          · rw [take_succ' _ hj, rt_app]
          · rw [take_succ' _ hj, rb_app]; rfl)
        (fun acc Os h => by
          obtain ⟨rfl, rfl⟩ := h
          rw [List.length_map, List.take_length]
          exact ⟨rfl, rfl⟩))) (fun _ => eag_nil))) (fun _ => by show 2 ≤ 1000000; decide) (fun p y F H A => k rfl ⟨b, y.1, p⟩ trivial _ F H A rfl) (Bl.refl _)
theorem c_run (T : Tx K mg w) {Os : List Own} {pd : Addr} {Bu Pa : Int} {ds : List Deed} (i : Nat) (hi : Os[i]? = some (lst K pd (ds.map deedD))) (h : SzOk Bu Pa) (hr : RunOk ⟨Bu, Pa, [], 0, []⟩ ds) (hl : ds.length ≤ 1000) : CaG K Os (sp_run T).sp [.d (.int Bu), .d (.int Pa), .v (.ref pd)] (fun _ : Addr × Addr × Addr => True) (fun y => .v (.ref y.2.2)) (fun y => Os.set i (lst K pd (ds.map deedD)) ++ [bdx K T.c_Board T.c_Job y.1 (rb ⟨Bu, Pa, [], 0, []⟩ ds), lst K y.2.1 (rtR ⟨Bu, Pa, [], 0, []⟩ ds), tupO y.2.2 [.ref y.1, .ref y.2.1]]) := cp1 (p := sp_run T) (O' := fun _ => lst K pd (ds.map deedD)) i (.ok pd Bu Pa ds) hi ⟨h, hr, hl⟩ rfl rfl rfl fun _ => rfl
theorem c_runX (T : Tx K mg w) {Os Os2 : List Own} {X : XK} {C : Addr} {s : SD} (rg : Rg) (h : rg.pre) (he : rg.err T = some C) (ho : rg.own K = []) : CaX K Os (sp_run T).sp rg.args X (some C) s Os2 Os := cp0X (p := sp_run T) rg h he rfl ho rfl
inductive Ag | d (b : Addr) (S : Bd) (th : Th) | r (rg : Rg)
def Rg.isOk : Rg → Bool
  | .ok _ _ _ _ => true
  | _ => false
def Rg.ix : Rg → Nat
  | .noBoard _ _ _ => 0
  | _ => 9
def Ag.pre : Ag → Prop
  | .d _ S _ => S.Ok ∧ S.spent.length < 100000
  | .r rg => rg.pre ∧ rg.isOk ≠ true
def Ag.args : Ag → List SD
  | .d b _ th => [.d (.int 1), .v (.ref b), .d (thD th), .d .none]
  | .r rg => .d (.int 0) :: rg.args
def Ag.own (T : Tx K mg w) : Ag → List Own
  | .d b S _ => [bdx K T.c_Board T.c_Job b S]
  | .r _ => []
def askR (S : Bd) : Th → PyData
  | .ok dd => doR S (.ok dd)
  | .bad _ => refI 9
def Ag.res : Ag → SD
  | .d _ S th => .d (askR S th)
  | .r rg => .d (refI rg.ix)
def Ag.out (T : Tx K mg w) : Ag → List Own
  | .d b S th => [bdx K T.c_Board T.c_Job b (doS S th)]
  | .r _ => []
theorem Ag.args_len (g : Ag) : g.args.length = 4 := by
  cases g with
  | d b S th => rfl
  | r rg => show rg.args.length + 1 = 4; rw [Rg.args_len]
def sp_l_asked (T : Tx K mg w) : Pm K Ag := ⟨Ag.pre, Ag.args, Ag.own T, Ag.res, Ag.out T, fun _ => none, fun _ => []⟩
theorem ok_l_asked (T : Tx K mg w) : FnOk P w K mg base (L2.CX P w) 10 T.a_l_asked T.fd_l_asked ["_law_what", "_law_one", "_law_other", "_law_third"] (sp_l_asked T).sp := by
  refine T.F_l_asked.okX sc_l_asked ((sp_l_asked T).len Ag.args_len) (fun cdv A outer s H vs Q EX hr h => ?_)
  obtain ⟨ag, B, F, hp, A0, hB, k, kx⟩ := h
  refine ⟨_, (pss_one (L2.ps_try_as (i := 4) rfl rfl sc_l_asked.nd rfl rfl ⟨rfl, by decide, .inl T.m_WorkError⟩ (takes_of rfl rfl rfl rfl) (fun W pn xe tk _ => (pss_cons (ps_if (pt_cmpR (eqK (K := K) rfl hr.units) (pv 0) pe_int (nomark _)) (pss_one (ps_ret (pe_callS (ok_run T) (hr.mono (by decide)) (by rfl) T.m_run T.F_run.kp T.b_run (fun σ => passAt tk σ) (pa_cons (pv 1) (pa_cons (pv 2) (pa_cons (pv 3) pa_nil)))))) pss_nil) (pss_one (ps_ret (pe_callS (ok_do T) (hr.mono (by decide)) (by rfl) T.m_do T.F_do.kp T.b_do (fun σ => passAt tk σ) (pa_cons (pv 1) (pa_cons (pv 2) pa_nil))))))) (fun a oe cls d pn hz hf => (pss_one (ps_ret (pe_callHE (ok_l_which T) (roomHE hr (by decide)) List.mem_cons_self rfl hz hf (by rfl) T.m_l_which T.F_l_which.kp T.b_l_which (pa_cons (pv 4) pa_nil))))))), ?_⟩
  refine run (Γ := (ag.args ++ [.un])) (Oi := (ag.own T)) A0 (by cases ag with | d b S th => rfl | r rg => cases rg <;> rfl) ?_
  cases ag with
  | d b S th =>
    obtain ⟨ok, hsp⟩ := hp
    refine n_seq ?_; refine (n_when (b := false) (et_is (t_T (e_op (e_var (i := 0) rfl rfl) e_int (by walk_at "od"))) (by decide +kernel)) (fun z => by cases z) (fun _ => ?_))
    refine n_retCX (a_cons (e_var (i := 1) rfl rfl) (a_cons (e_var (i := 2) rfl rfl) a_nil)) (fun X => c_doX T (th := th) 0 rfl ok hsp) (fun hn x F σ H A q => ?_) (fun Ce hC => ?_)
    · cases th with
      | bad i => cases hn
      | ok dd => exact k rfl x F H (A.slots (Γ' := []) (σ' := []) trivial) q
    · cases th with
      | ok dd => cases hC
      | bad i =>
        cases hC
        refine n_catch T.xw_NoDeed (fun ax => ?_)
        exact r_ret (e_callHE (a_cons (e_var (i := 4) rfl rfl) a_nil) (caE (Ex.noDeed) rfl rfl rfl rfl rfl)) (k rfl) rfl (Ole.refl _) (Bl.refl _)
  | r rg =>
    obtain ⟨hp, hne⟩ := hp
    cases rg with
    | ok pd Bu Pa ds => exact absurd rfl hne
    | noBoard d1 d2 d3 =>
      refine n_seq ?_; refine (n_when (b := true) (et_is (t_T (e_op (e_var (i := 0) rfl rfl) e_int (by walk_at "od"))) (by decide +kernel)) (fun _ => ?_) (fun z => by cases z))
      refine n_retCX (s := .un) (Os2 := []) (a_cons (e_var (i := 1) rfl rfl) (a_cons (e_var (i := 2) rfl rfl) (a_cons (e_var (i := 3) rfl rfl) a_nil))) (fun X => c_runX T (.noBoard d1 d2 d3) hp rfl rfl) (fun hn => by cases hn) (fun Ce hC => ?_)
      cases hC
      refine n_catch T.xw_NoBoard (fun ax => ?_)
      exact r_ret (e_callHE (a_cons (e_var (i := 4) rfl rfl) a_nil) (caE (Ex.noBoard) rfl rfl rfl rfl rfl)) (k rfl) rfl (Ole.refl _) (Bl.refl _)
    | noList Bu Pa ds =>
      refine n_seq ?_; refine (n_when (b := true) (et_is (t_T (e_op (e_var (i := 0) rfl rfl) e_int (by walk_at "od"))) (by decide +kernel)) (fun _ => ?_) (fun z => by cases z))
      refine n_retCX (s := .un) (Os2 := []) (a_cons (e_var (i := 1) rfl rfl) (a_cons (e_var (i := 2) rfl rfl) (a_cons (e_var (i := 3) rfl rfl) a_nil))) (fun X => c_runX T (.noList Bu Pa ds) hp rfl rfl) (fun hn => by cases hn) (fun Ce hC => ?_)
      cases hC
      refine n_catch T.xw_NoDeed (fun ax => ?_)
      exact r_ret (e_callHE (a_cons (e_var (i := 4) rfl rfl) a_nil) (caE (Ex.noDeed) rfl rfl rfl rfl rfl)) (k rfl) rfl (Ole.refl _) (Bl.refl _)
    | bad Bu Pa ths =>
      refine n_seq ?_; refine (n_when (b := true) (et_is (t_T (e_op (e_var (i := 0) rfl rfl) e_int (by walk_at "od"))) (by decide +kernel)) (fun _ => ?_) (fun z => by cases z))
      refine n_retCX (s := .un) (Os2 := []) (a_cons (e_var (i := 1) rfl rfl) (a_cons (e_var (i := 2) rfl rfl) (a_cons (e_var (i := 3) rfl rfl) a_nil))) (fun X => c_runX T (.bad Bu Pa ths) hp rfl rfl) (fun hn => by cases hn) (fun Ce hC => ?_)
      cases hC
      refine n_catch T.xw_NoDeed (fun ax => ?_)
      exact r_ret (e_callHE (a_cons (e_var (i := 4) rfl rfl) a_nil) (caE (Ex.noDeed) rfl rfl rfl rfl rfl)) (k rfl) rfl (Ole.refl _) (Bl.refl _)
theorem c_ask1 (T : Tx K mg w) {Os : List Own} {b : Addr} {S : Bd} {th : Th} (i : Nat) (h : Os[i]? = some (bdx K T.c_Board T.c_Job b S)) (ok : S.Ok) (hs : S.spent.length < 100000) : CaD K Os (sp_l_asked T).sp [.d (.int 1), .v (.ref b), .d (thD th), .d .none] (.d (askR S th)) (Os.set i (bdx K T.c_Board T.c_Job b (doS S th))) := ca1 (p := sp_l_asked T) i (.d b S th) h ⟨ok, hs⟩ rfl rfl rfl rfl rfl
theorem c_ask0 (T : Tx K mg w) {Os : List Own} (rg : Rg) (h : rg.pre) (he : rg.isOk ≠ true) : CaD K Os (sp_l_asked T).sp (.d (.int 0) :: rg.args) (.d (refI rg.ix)) Os := ca0 (p := sp_l_asked T) (.r rg) ⟨h, he⟩ rfl rfl rfl rfl rfl
end
end Cw

namespace Cw
open PySem L2

local macro_rules | `(tactic| walk_at "vw") => `(tactic| first | exact Vw.dat | exact Vw.own 0 rfl | exact Vw.own 1 rfl | exact Vw.own 2 rfl | exact Vw.own 3 rfl | exact Vw.own 4 rfl | exact Vw.own 5 rfl | exact Vw.own 6 rfl | exact Vw.own 7 rfl)
local macro_rules | `(tactic| walk_at "ar") => `(tactic| first | assumption | decide | omega)
local macro_rules | `(tactic| walk_at "ix") => `(tactic| first | assumption | rfl)
local macro_rules | `(tactic| walk_at "sh") => `(tactic| first | assumption | rfl)
local macro_rules | `(tactic| walk_at "cm") => `(tactic| first | exact Or.inr ⟨by decide, by decide⟩ | exact Or.inl ⟨by decide, by decide⟩ | (unfold CMul; omega))
local macro_rules | `(tactic| walk_at "cd") => `(tactic| first | exact ⟨by decide, by decide⟩ | exact ⟨by omega, by omega⟩)
local macro_rules | `(tactic| walk_at "lim") => `(tactic| first | assumption | omega | (simp only [List.length_append, List.length_cons, List.length_nil, List.length_replicate, List.length_map]; omega) | decide)
local macro_rules | `(tactic| walk_at "od") => `(tactic| first
  | exact od_add | exact od_sub | exact od_lt | exact od_le | exact od_gt | exact od_ge | exact od_isn | exact od_notn
  | exact od_mul (by walk_at "cm") | exact od_mod (by walk_at "ar") | exact od_fdiv (by walk_at "cd")
  | exact od_eq (by walk_at "vw") (by walk_at "vw") (by walk_at "sh") (by walk_at "sh") | exact od_l (od_ne (by walk_at "vw") (by walk_at "vw") (by walk_at "sh") (by walk_at "sh"))
  | exact od_ixT (by walk_at "ix") | exact od_ixL (by walk_at "vw") (by walk_at "ix") | exact od_addT (by walk_at "lim") | exact od_repT (by walk_at "lim") (by walk_at "lim") (by walk_at "lim")
  | exact od_jobs 0 rfl (by assumption) | exact od_ixV 1 rfl (by assumption)
  | exact od_in (by walk_at "vw") (by walk_at "vw") (by walk_at "sh") (by walk_at "sh") | exact od_nin (by walk_at "vw") (by walk_at "vw") (by walk_at "sh") (by walk_at "sh"))
local macro_rules | `(tactic| walk_at "ins") => `(tactic| first | exact ins_bd 0 rfl (by decide +kernel) | exact ins_bdx 0 rfl (by decide +kernel) | exact ins_bdx 1 rfl (by decide +kernel) | exact ins_bdx 2 rfl (by decide +kernel) | exact ins_bdx 3 rfl (by decide +kernel))
local macro_rules | `(tactic| walk_at "cb") => `(tactic| first
  | exact cd_lenT | exact cd_lenL (by walk_at "vw") | exact cd_isInt (by walk_at "vw") | exact cd_isBool (by walk_at "vw") | exact cd_isTup (by walk_at "vw") | exact cd_isLst (by walk_at "vw") | exact cd_isStr (by walk_at "vw")
  | exact cd_all (by walk_at "vw") | exact cd_any (by walk_at "vw") | exact cd_sum (by walk_at "vw") | exact cd_tupL (by walk_at "vw") | exact cl_listL (by walk_at "vw") | exact cd_lenJ 0 rfl | exact cl_spent 0 rfl | exact cd_spentT 0 rfl | exact cd_intB | exact cd_max2 | exact cd_min2)

section
variable {P : Program} {w : World} {K : Fr} {mg : Str → Option Value} {base : Heap}
theorem DeedOk.mono {Bu : Int} {M M' : Nat} {dd : Deed} (h : DeedOk Bu M dd) (e : M ≤ M') : DeedOk Bu M' dd := by
  cases dd with
  | add r t s a p =>
    obtain ⟨rk, st, tm, af, ps, h1, h2, h3, h4, h5, h6, h7, h8, h9, h10, h11⟩ := h
    exact ⟨rk, st, tm, af, ps, h1, h2, h3, h4, h5, h6, h7, h8, h9, fun o ho => by have := h10 o ho; omega, h11⟩
  | drop d => obtain ⟨k, h1, h2⟩ := h; exact ⟨k, h1, by omega⟩
  | rank d r => obtain ⟨k, rk, h1, h2, h3⟩ := h; exact ⟨k, rk, h1, by omega, h3⟩
  | frame => trivial
theorem shaped_refI (n : Nat) : SeqAt.shaped (refI n) = true := shaped_T (n := 0) fun d hd => by
  simp at hd
  rcases hd with rfl | rfl
  · exact ⟨by decide +kernel, by simp [PyData.depth]⟩
  · exact lay_int _
theorem shaped_doV (S : Bd) (dd : Deed) : SeqAt.shaped (doV S dd).1 = true := by
  cases dd with
  | add r t s a p =>
    cases h : addE S r t s a p with
    | none => rw [dv_a0 h]; rfl
    | some e => rw [dv_a1 h]; exact shaped_refI _
  | drop d =>
    cases h : openE S d with
    | none => rw [dv_d0 h]; exact shaped_ints _
    | some e => rw [dv_d1 h]; exact shaped_refI _
  | rank d r =>
    cases h : rankE S d r with
    | none => rw [dv_r0 h]; rfl
    | some e => rw [dv_r1 h]; exact shaped_refI _
  | frame => exact shaped_parts _
theorem eqv_sh {d : PyData} (h : SeqAt.shaped d = true) : PyData.eqv d d = true := SeqAt.eqv_refl _ (SeqAt.canLay_of_shaped h)
theorem lay_bool (b : Bool) : (PyData.bool b).canLay0 = true ∧ (PyData.bool b).depth ≤ 0 := ⟨by simp [PyData.canLay0], by simp [PyData.depth]⟩
theorem lay_le' {d : PyData} {m n : Nat} (h : d.canLay0 = true ∧ d.depth ≤ m) (e : m ≤ n) : d.canLay0 = true ∧ d.depth ≤ n := ⟨h.1, Nat.le_trans h.2 e⟩
theorem lay_rowD (J : Jb) : (rowD J).canLay0 = true ∧ (rowD J).depth ≤ 2 := lay_T fun d hd => by
  simp at hd
  rcases hd with rfl | rfl | rfl | rfl | rfl | rfl | rfl | rfl | rfl
  · exact lay_le' (lay_int _) (by decide)
  · exact lay_le' (lay_oD _) (by decide)
  · exact lay_le' (lay_int _) (by decide)
  · exact lay_T (lay_map (fun n => lay_int _) _)
  · exact lay_T (lay_map (fun n => lay_int _) _)
  · exact lay_le' (lay_int _) (by decide)
  · exact lay_le' (lay_int _) (by decide)
  · exact lay_le' (lay_oD _) (by decide)
  · exact lay_le' (lay_bool _) (by decide)
theorem lay_saved (S : Bd) : (savedD S).canLay0 = true ∧ (savedD S).depth ≤ 4 := lay_T fun d hd => by
  simp at hd
  rcases hd with rfl | rfl | rfl | rfl | rfl
  · exact lay_le' (lay_int _) (by decide)
  · exact lay_le' (lay_int _) (by decide)
  · exact lay_T (lay_map (fun J => lay_rowD J) _)
  · exact lay_le' (lay_int _) (by decide)
  · exact lay_le' (lay_T (lay_map (fun n => lay_int _) _)) (by decide)
theorem shaped_of_lay {d : PyData} {n : Nat} (h : d.canLay0 = true ∧ d.depth ≤ n) (hn : n ≤ 64 := by decide) : SeqAt.shaped d = true := by
  unfold SeqAt.shaped
  simp only [Bool.and_eq_true, decide_eq_true_eq]
  exact ⟨h.1, Nat.le_trans h.2 hn⟩
theorem shaped_saved (S : Bd) : SeqAt.shaped (savedD S) = true := shaped_of_lay (lay_saved S)
theorem sum_le8 : ∀ l : List Nat, (∀ x ∈ l, x ≤ 8) → l.sum ≤ 8 * l.length
  | [], _ => by simp
  | x :: l, h => by
    have a := h x (by simp)
    have b := sum_le8 l fun y hy => h y (by simp [hy])
    rw [List.sum_cons, List.length_cons]; omega
theorem left_le8 {S : Bd} (ok : S.Ok) : S.left ≤ 8 * S.jobs.length := by
  have := sum_le8 (S.jobs.map Jb.left) fun x hx => by
    obtain ⟨J, hJ, rfl⟩ := List.mem_map.mp hx
    obtain ⟨k, hk⟩ := List.getElem?_of_mem hJ
    have := (ok.job k J hk).len
    unfold Jb.left; omega
  rw [List.length_map] at this
  exact this
theorem frameR_len {S : Bd} (ok : S.Ok) : S.frameR.length ≤ 8 * S.jobs.length := by
  have a := (run_facts ok).left
  have b := left_le8 ok
  unfold Bd.frameR; omega
def oddL : List Deed := [.drop .none, .rank (.int 99) (.int 0), .add (.int 9) .none (.int 0) (.tuple []) (.tuple [.int 1]), .add (.int 0) .none (.int 0) (.tuple [.int 99]) (.tuple [.int 1])]
theorem n_joinT {K : Fr} {B : Hp × Hp} {Γ : List SD} {Os : List Own} {nx bk ct : L2.St → Hp → Prop} {rt : VK} {α : Type} {t : TS} (Γ' : α → List SD) (Os' : α → List Own) (ok : α → Prop) (k : ∀ y, ok y → N K B (Γ' y) (Os' y) nx) (h : (∀ y, ok y → N K B (Γ' y) (Os' y) nx) → N K B Γ Os (t ⟨nx, rt, bk, ct⟩)) : N K B Γ Os (t ⟨nx, rt, bk, ct⟩) := h k
theorem el_catO {K : Fr} {Γ : List SD} {Os Os1 : List Own} {ta tb : TE} {ds es : List PyData} {p : Addr} (i : Nat) (h : E K Γ Os ta (.v (.ref p)) Os1) (hi : Os1[i]? = some (lst K p ds)) (hb : ∀ _ : Unit, EL K Γ Os1 tb es Os1) (_ : True = True) (hl : ds.length + es.length ≤ 1000000) : EL K Γ Os (tOp (addU K) ta tb) (ds ++ es) Os1 := fun B F σ H A Q k =>
  h B F σ H A _ fun x F1 H1 A1 e1 q1 => hb () B F1 σ H1 A1 _ fun q F2 H2 A2 e2 => by
    have lt := (List.getElem?_eq_some_iff.mp hi).1
    have hp : (Os1 ++ [lst K q es])[i]? = some (lst K p ds) := by rw [List.getElem?_append_left lt]; exact hi
    have hq : (Os1 ++ [lst K q es])[Os1.length]? = some (lst K q es) := by simp
    refine ol_cat hp hq hl B F2 Γ σ H2 x (.ref q) A2 (q1.mono e2) rfl Q fun r F3 H3 A3 e3 => k r F3 H3 ?_ ((e1.trans e2).trans e3)
    exact A3.mv (Oo := Os1) (j := Os1.length + 1) (O1 := lst K r (ds ++ es)) (by rw [List.append_assoc]; exact ole_app Os1 _) (by rw [List.append_assoc]; simp) (by omega)
theorem odd_in : ∀ dd ∈ oddL, inD (deedD dd) (oddL.map deedD) = true := by
  intro dd h
  simp only [oddL, List.mem_cons, List.not_mem_nil, or_false] at h
  rcases h with rfl | rfl | rfl | rfl <;> decide +kernel
theorem odd_sh : ∀ dd ∈ oddL, SeqAt.shaped (deedD dd) = true := by
  intro dd h
  simp only [oddL, List.mem_cons, List.not_mem_nil, or_false] at h
  rcases h with rfl | rfl | rfl | rfl <;> decide +kernel
theorem odds_sh : SeqAt.shaped (.list (oddL.map deedD)) = true := by decide +kernel
theorem odd_do {S : Bd} (hn : S.jobs.length ≤ 90) : ∀ dd ∈ oddL, refB S dd = true ∧ (doV S dd).2 = S := by
  intro dd h
  simp only [oddL, List.mem_cons, List.not_mem_nil, or_false] at h
  rcases h with rfl | rfl | rfl | rfl
  · have e : openE S .none = some .noNum := by unfold openE; rw [if_neg (by simp [isWhole])]
    exact ⟨by show (openE S .none).isSome = true; rw [e]; rfl, by rw [dv_d1 e]⟩
  · have e0 : openE S (.int 99) = some .noNum := by unfold openE; rw [if_neg (by simp [isWhole]; omega)]
    have e : rankE S (.int 99) (.int 0) = some .noNum := by unfold rankE; rw [e0]; rfl
    exact ⟨by show (rankE S (.int 99) (.int 0)).isSome = true; rw [e]; rfl, by rw [dv_r1 e]⟩
  · have e : addE S (.int 9) .none (.int 0) (.tuple []) (.tuple [.int 1]) = some .noJob := by unfold addE; rw [if_neg (by unfold jobOkD; simp [isWhole])]
    exact ⟨by show (addE S (.int 9) .none (.int 0) (.tuple []) (.tuple [.int 1])).isSome = true; rw [e]; rfl, by rw [dv_a1 e]⟩
  · have ea : afterE S [.int 99] = some .noNum := by unfold afterE; rw [if_neg (by simp [isWhole]; omega)]
    have e : ∃ e, addE S (.int 0) .none (.int 0) (.tuple [.int 99]) (.tuple [.int 1]) = some e := by
      unfold addE
      split
      · dsimp only
        rw [if_pos (by decide), ea]
        exact ⟨_, rfl⟩
      · exact ⟨_, rfl⟩
    obtain ⟨e, he⟩ := e
    exact ⟨by show (addE S (.int 0) .none (.int 0) (.tuple [.int 99]) (.tuple [.int 1])).isSome = true; rw [he]; rfl, by rw [dv_a1 he]⟩
theorem eqvT (a b : PyData) (as bs : List PyData) : PyData.eqv (.tuple (a :: as)) (.tuple (b :: bs)) = (PyData.eqv a b && PyData.eqv (.tuple as) (.tuple bs)) := by simp [PyData.eqv, PyData.eqvAll]
theorem strne {a b : Str} {as bs : List PyData} (h : PyData.eqv (.str a) (.str b) = false) : PyData.eqv (.tuple (.str a :: as)) (.tuple (.str b :: bs)) = false := by rw [eqvT, h]; rfl
theorem deed_in {Bu : Int} {M : Nat} (hM : M ≤ 90) {dd : Deed} (h : DeedOk Bu M dd) : inD (deedD dd) (oddL.map deedD) = false := by
  unfold inD oddL
  simp only [List.map_cons, List.map_nil, List.any_cons, List.any_nil, Bool.or_false, Bool.or_eq_false_iff]
  cases dd with
  | add r t s a p =>
    obtain ⟨rk, st, tm, af, ps, rfl, rfl, rfl, rfl, rfl, h1, h2, h3, h8, h12, h9, h10, h11⟩ := h
    refine ⟨strne (by decide +kernel), strne (by decide +kernel), ?_, ?_⟩
    · rw [deedD, deedD, eqvT, eqvT, eqv_int, decide_eq_false (by omega)]; simp
    · rw [deedD, deedD, eqvT, eqvT, eqvT, eqvT, eqvT]
      have : PyData.eqv (.tuple [.int 99]) (tupN af) = false := by
        cases af with
        | nil => simp [tupN, PyData.eqv, PyData.eqvAll]
        | cons x af =>
          have hx := h12 x (by simp)
          show PyData.eqv (.tuple [.int 99]) (.tuple (.int (x : Int) :: af.map _)) = false
          rw [eqvT, eqv_int, decide_eq_false (by omega)]; rfl
      rw [this]
      simp
  | drop d =>
    obtain ⟨k, rfl, hk⟩ := h
    refine ⟨by rw [deedD, deedD, eqvT, eqvT]; simp [PyData.eqv], strne (by decide +kernel), strne (by decide +kernel), strne (by decide +kernel)⟩
  | rank d r =>
    obtain ⟨k, rk, rfl, hk, rfl, h1, h2⟩ := h
    refine ⟨strne (by decide +kernel), by rw [deedD, deedD, eqvT, eqvT, eqv_int, decide_eq_false (by omega)]; simp, strne (by decide +kernel), strne (by decide +kernel)⟩
  | frame =>
    refine ⟨strne (by decide +kernel), strne (by decide +kernel), strne (by decide +kernel), strne (by decide +kernel)⟩
theorem lay_oDd (t : Option Int) : (oD t).canLay0 = true ∧ (oD t).depth ≤ 1 := lay_le' (lay_oD t) (by decide)
theorem lay_strd (s : Str) (h : (PyData.str s).canLay0 = true) : (PyData.str s).canLay0 = true ∧ (PyData.str s).depth ≤ 1 := ⟨h, by simp [PyData.depth]⟩
theorem deed_sh {Bu : Int} {M : Nat} {dd : Deed} (h : DeedOk Bu M dd) : SeqAt.shaped (deedD dd) = true := by
  have hi : ∀ i : Int, (PyData.int i).canLay0 = true ∧ (PyData.int i).depth ≤ 1 := fun i => lay_le' (lay_int i) (by decide)
  cases dd with
  | add r t s a p =>
    obtain ⟨rk, st, tm, af, ps, rfl, rfl, rfl, rfl, rfl, _⟩ := h
    refine shaped_T (n := 1) fun d hd => ?_
    simp at hd
    rcases hd with rfl | rfl | rfl | rfl | rfl | rfl
    · exact lay_strd _ (by decide +kernel)
    · exact hi _
    · exact lay_oDd _
    · exact hi _
    · exact lay_T (lay_map (fun n => lay_int _) _)
    · exact lay_T (lay_map (fun n => lay_int _) _)
  | drop d =>
    obtain ⟨k, rfl, _⟩ := h
    refine shaped_T (n := 1) fun d hd => ?_
    simp at hd
    rcases hd with rfl | rfl
    · exact lay_strd _ (by decide +kernel)
    · exact hi _
  | rank d r =>
    obtain ⟨k, rk, rfl, _, rfl, _⟩ := h
    refine shaped_T (n := 1) fun d hd => ?_
    simp at hd
    rcases hd with rfl | rfl | rfl
    · exact lay_strd _ (by decide +kernel)
    · exact hi _
    · exact hi _
  | frame => decide +kernel
theorem after_over (S : Bd) : ∀ af : List Nat, (∀ o ∈ af, o < S.jobs.length) → afterE S (af.map fun (n : Nat) => PyData.int (n : Int)) = none ∨ afterE S (af.map fun (n : Nat) => PyData.int (n : Int)) = some .over
  | [], _ => .inl rfl
  | x :: af, h => by
    have hx := h x (by simp)
    rw [List.map_cons, afterE, if_pos (by simp [isWhole]; omega)]
    split
    · exact .inr rfl
    · exact after_over S af fun o ho => h o (by simp [ho])
theorem ref_told {S : Bd} {dd : Deed} (h : DeedOk S.budget S.jobs.length dd) : (refB S dd = true ∧ ((doV S dd).1 = refI 3 ∨ (doV S dd).1 = refI 4)) ∨ (refB S dd = false ∧ inD (doV S dd).1 [refI 3, refI 4] = false) := by
  have ni : ∀ i : Int, inD (.int i) [refI 3, refI 4] = false := fun i => by simp [inD, refI, PyData.eqv]
  have nl : ∀ l, inD (.list l) [refI 3, refI 4] = false := fun i => by simp [inD, refI, PyData.eqv]
  have ho : ∀ k : Nat, k < S.jobs.length → openE S (.int (k : Int)) = none ∨ openE S (.int (k : Int)) = some .over := fun k hk => by
    unfold openE
    rw [if_pos (by simp [isWhole]; omega)]
    split
    · exact .inl rfl
    · exact .inr rfl
  cases dd with
  | add r t s a p =>
    obtain ⟨rk, st, tm, af, ps, rfl, rfl, rfl, rfl, rfl, h1, h2, h3, h8, h12, h9, h10, h11⟩ := h
    have e0 : addE S (.int rk) (oD tm) (.int st) (tupN af) (tupI ps) = (afterE S (af.map fun (n : Nat) => PyData.int (n : Int))).or (if S.opens.length = 20 then some .full else none) := by
      unfold addE
      rw [if_pos (jobOkD_is h1 (term_ok h2) h3 h9 h10 h11)]
      show (if (af.map fun (n : Nat) => PyData.int (n : Int)).length ≤ 20 then _ else _) = _
      rw [if_pos (by rw [List.length_map]; exact h8)]
    rcases after_over S af h12 with e | e
    · rw [e] at e0
      by_cases z : S.opens.length = 20
      · rw [if_pos z] at e0
        have e1 : addE S (.int rk) (oD tm) (.int st) (tupN af) (tupI ps) = some .full := e0
        exact .inl ⟨by show (addE S _ _ _ _ _).isSome = true; rw [e1]; rfl, .inr (by rw [dv_a1 e1]; rfl)⟩
      · rw [if_neg z] at e0
        have e1 : addE S (.int rk) (oD tm) (.int st) (tupN af) (tupI ps) = none := e0
        exact .inr ⟨by show (addE S _ _ _ _ _).isSome = false; rw [e1]; rfl, by rw [dv_a0 e1]; exact ni _⟩
    · rw [e] at e0
      have e1 : addE S (.int rk) (oD tm) (.int st) (tupN af) (tupI ps) = some .over := e0
      exact .inl ⟨by show (addE S _ _ _ _ _).isSome = true; rw [e1]; rfl, .inl (by rw [dv_a1 e1]; rfl)⟩
  | drop d =>
    obtain ⟨k, rfl, hk⟩ := h
    rcases ho k hk with e | e
    · exact .inr ⟨by show (openE S _).isSome = false; rw [e]; rfl, by rw [dv_d0 e]; exact nl _⟩
    · exact .inl ⟨by show (openE S _).isSome = true; rw [e]; rfl, .inl (by rw [dv_d1 e]; rfl)⟩
  | rank d r =>
    obtain ⟨k, rk, rfl, hk, rfl, h1, h2⟩ := h
    rcases ho k hk with e | e
    · have e1 : rankE S (.int (k : Int)) (.int rk) = none := by unfold rankE; rw [e, if_pos (by simp [isWhole]; omega)]; rfl
      exact .inr ⟨by show (rankE S _ _).isSome = false; rw [e1]; rfl, by rw [dv_r0 e1]; exact ni _⟩
    · have e1 : rankE S (.int (k : Int)) (.int rk) = some .over := by unfold rankE; rw [e]; rfl
      exact .inl ⟨by show (rankE S _ _).isSome = true; rw [e1]; rfl, .inl (by rw [dv_r1 e1]; rfl)⟩
  | frame => exact .inr ⟨rfl, nl _⟩
theorem ref_in {S : Bd} {dd : Deed} (h : DeedOk S.budget S.jobs.length dd) : inD (doV S dd).1 [refI 3, refI 4] = refB S dd := by
  rcases ref_told h with ⟨a, b | b⟩ | ⟨a, b⟩
  · rw [a, b]; decide +kernel
  · rw [a, b]; decide +kernel
  · rw [a, b]
theorem lay_doR (S : Bd) (dd : Deed) : (doR S (.ok dd)).canLay0 = true ∧ (doR S (.ok dd)).depth ≤ 2 := by
  by_cases z : refB S dd = true
  · rw [show doR S (.ok dd) = .str "refused" from if_pos z]; exact ⟨by decide +kernel, by simp [PyData.depth]⟩
  · rw [show doR S (.ok dd) = (doV S dd).1 from if_neg z]
    cases dd with
    | add r t s a p =>
      cases h : addE S r t s a p with
      | none => rw [dv_a0 h]; exact lay_le' (lay_int _) (by decide)
      | some e => exact absurd (by show (addE S r t s a p).isSome = true; rw [h]; rfl) z
    | drop d =>
      cases h : openE S d with
      | none => rw [dv_d0 h]; exact lay_le' (lay_L (lay_map (fun n => lay_int _) _)) (by decide)
      | some e => exact absurd (by show (openE S d).isSome = true; rw [h]; rfl) z
    | rank d r =>
      cases h : rankE S d r with
      | none => rw [dv_r0 h]; exact lay_le' (lay_int _) (by decide)
      | some e => exact absurd (by show (rankE S d r).isSome = true; rw [h]; rfl) z
    | frame => exact lay_parts _
theorem shaped_rt (S : Bd) (D : List Deed) : SeqAt.shaped (.list (rtR S D)) = true := shaped_L (n := 2) (by
  induction D generalizing S with
  | nil => intro d hd; cases hd
  | cons x D ih =>
    intro d hd
    rcases List.mem_cons.mp hd with e | e
    · rw [e]; exact lay_doR S x
    · exact ih _ d e)
structure Run19 (S0 : Bd) (D : List Deed) (i : Nat) : Prop where
  ok : ∀ j, (rb S0 (D.take j)).Ok ∧ (rb S0 (D.take j)).spent.length ≤ i
  bu : (rb S0 D).budget = S0.budget
  n : (rb S0 D).jobs.length ≤ i
  l : D.length = i
  tm : TmB (rb S0 D)
theorem Run19.all {S0 : Bd} {D : List Deed} {i : Nat} (h : Run19 S0 D i) : (rb S0 D).Ok ∧ (rb S0 D).spent.length ≤ i := by
  have := h.ok D.length
  rwa [List.take_length] at this
theorem Run19.add {S0 : Bd} {D : List Deed} {i : Nat} (h : Run19 S0 D i) {dd : Deed} (hi : i ≤ 80) (hd : DeedOk (rb S0 D).budget (rb S0 D).jobs.length dd ∨ dd ∈ oddL) : Run19 S0 (D ++ [dd]) (i + 1) := by
  obtain ⟨a1, a2⟩ := h.all
  have hn := h.n
  have hl := h.l
  have key : (doV (rb S0 D) dd).2.Ok ∧ (doV (rb S0 D) dd).2.spent.length ≤ i + 1 ∧ (doV (rb S0 D) dd).2.budget = (rb S0 D).budget ∧ (doV (rb S0 D) dd).2.jobs.length ≤ i + 1 ∧ TmB (doV (rb S0 D) dd).2 := by
    rcases hd with hd | hd
    · have hD := doV_ok a1 (by omega) (by omega) hd
      exact ⟨hD.ok, by have := hD.sp; omega, hD.bu, by have := hD.n; omega, tmB_do a1 (by omega) (by omega) hd h.tm⟩
    · rw [(odd_do (by omega) dd hd).2]
      exact ⟨a1, by omega, rfl, by omega, h.tm⟩
  obtain ⟨k1, k2, k3, k4, k5⟩ := key
  refine ⟨fun j => ?_, by rw [rb_app, k3]; exact h.bu, by rw [rb_app]; exact k4, by rw [List.length_append, hl]; rfl, by rw [rb_app]; exact k5⟩
  by_cases z : j ≤ D.length
  · rw [List.take_append_of_le_length z]; exact ⟨(h.ok j).1, Nat.le_succ_of_le (h.ok j).2⟩
  · rw [List.take_of_length_le (by rw [List.length_append, List.length_singleton]; omega), rb_app]
    exact ⟨k1, k2⟩
theorem ok_law (T : Tx K mg w) : FnOk P w K mg base (L2.CX P w) 11 T.a_law T.fd_law ["_law_script"] (spL K).sp := by
  refine T.F_law.okX sc_law ((spL K).len fun _ => rfl) (fun cdv A outer s H vs Q EX hr h => ?_)
  obtain ⟨ns, B, F, hp, A0, hB, k, kx⟩ := h
  refine ⟨_, (pss_cons (ps_set (i := 1) sc_law.nd rfl (by first | exact Or.inl rfl | exact Or.inr rfl) (pe_lst pa_nil)) (pss_cons (ps_asg (pe_call (ok_l_sizes T) (hr.mono (by decide)) (by rfl) T.m_l_sizes T.F_l_sizes.kp T.b_l_sizes .nil passL (pa_cons (pv 0) (pa_cons (pv 1) pa_nil))) (tgK (K := K) 2 rfl rfl (pgs_cons (pg_name (i := 8) sc_law.nd rfl (by first | exact Or.inl rfl | exact Or.inr rfl)) (pgs_cons (pg_name (i := 9) sc_law.nd rfl (by first | exact Or.inl rfl | exact Or.inr rfl)) pgs_nil)))) (pss_cons (ps_set (i := 2) sc_law.nd rfl (by first | exact Or.inl rfl | exact Or.inr rfl) (pe_call (ok_l_new T) (hr.mono (by decide)) (by rfl) T.m_l_new T.F_l_new.kp T.b_l_new .nil passL (pa_cons (pv 8) (pa_cons (pv 9) pa_nil)))) (pss_cons (ps_set (i := 3) sc_law.nd rfl (by first | exact Or.inl rfl | exact Or.inr rfl) (pe_lst pa_nil)) (pss_cons (ps_set (i := 4) sc_law.nd rfl (by first | exact Or.inl rfl | exact Or.inr rfl) (pe_lst pa_nil)) (pss_cons (ps_for (passes_of rfl) rfl (pi_range1 (by rfl) T.n_range (pa_cons (pe_call (ok_l_draw T) (hr.mono (by decide)) (by rfl) T.m_l_draw T.F_l_draw.kp T.b_l_draw .nil passL (pa_cons (pv 0) (pa_cons (pv 1) (pa_cons pe_int pa_nil)))) pa_nil)) (pg_name (i := 5) sc_law.nd rfl (by first | exact Or.inl rfl | exact Or.inr rfl)) (pss_cons (ps_set (i := 10) sc_law.nd rfl (by first | exact Or.inl rfl | exact Or.inr rfl) (pe_call (ok_l_deed T) (hr.mono (by decide)) (by rfl) T.m_l_deed T.F_l_deed.kp T.b_l_deed .nil passL (pa_cons (pv 0) (pa_cons (pv 1) (pa_cons (pv 8) (pa_cons (pe_callB (lenK (K := K) rfl) (by rfl) T.n_len (by decide +kernel) (pa_cons (pe_dget (hu_of hr) (pv 2) pe_str (fun _ _ => rfl)) pa_nil)) pa_nil)))))) (pss_cons (ps_set (i := 11) sc_law.nd rfl (by first | exact Or.inl rfl | exact Or.inr rfl) (pe_lst (pa_cons (pe_tup (pa_cons pe_str (pa_cons pe_non pa_nil))) (pa_cons (pe_tup (pa_cons pe_str (pa_cons pe_int (pa_cons pe_int pa_nil)))) (pa_cons (pe_tup (pa_cons pe_str (pa_cons pe_int (pa_cons pe_non (pa_cons pe_int (pa_cons (pe_tup pa_nil) (pa_cons (pe_tup (pa_cons pe_int pa_nil)) pa_nil))))))) (pa_cons (pe_tup (pa_cons pe_str (pa_cons pe_int (pa_cons pe_non (pa_cons pe_int (pa_cons (pe_tup (pa_cons pe_int pa_nil)) (pa_cons (pe_tup (pa_cons pe_int pa_nil)) pa_nil))))))) pa_nil)))))) (pss_cons (ps_if (pt_cmpR (eqK (K := K) rfl hr.units) (pe_call (ok_l_draw T) (hr.mono (by decide)) (by rfl) T.m_l_draw T.F_l_draw.kp T.b_l_draw .nil passL (pa_cons (pv 0) (pa_cons (pv 1) (pa_cons pe_int pa_nil)))) pe_int (nomark _)) (pss_one (ps_set (i := 10) sc_law.nd rfl (by first | exact Or.inl rfl | exact Or.inr rfl) (pe_call (ok_l_pick T) (hr.mono (by decide)) (by rfl) T.m_l_pick T.F_l_pick.kp T.b_l_pick .nil passL (pa_cons (pv 0) (pa_cons (pv 1) (pa_cons (pv 11) pa_nil)))))) pss_nil) (pss_cons (ps_set (i := 12) sc_law.nd rfl (by first | exact Or.inl rfl | exact Or.inr rfl) pe_str) (pss_cons (ps_if (pt_cmpR (ninK (K := K) rfl hr.units1) (pv 10) (pv 11) (by rfl)) (pss_one (ps_set (i := 12) sc_law.nd rfl (by first | exact Or.inl rfl | exact Or.inr rfl) (pe_call (ok_l_own T) (hr.mono (by decide)) (by rfl) T.m_l_own T.F_l_own.kp T.b_l_own .nil passL (pa_cons (pv 2) (pa_cons (pv 10) pa_nil))))) pss_nil) (pss_cons (ps_if (pt_cmpR (inDTK (K := K) rfl hr.units1) (pv 12) (pe_tup (pa_cons (pe_tup (pa_cons pe_str (pa_cons pe_int pa_nil))) (pa_cons (pe_tup (pa_cons pe_str (pa_cons pe_int pa_nil))) pa_nil))) (by rfl)) (pss_one (ps_set (i := 12) sc_law.nd rfl (by first | exact Or.inl rfl | exact Or.inr rfl) pe_str)) pss_nil) (pss_cons (ps_expr (pe_bm PySem.F.plainAttrs_list PySem.F.slot_list_append PySem.F.type_list_append mt_append (pv 3) (pa_cons (pv 10) pa_nil))) (pss_one (ps_expr (pe_bm PySem.F.plainAttrs_list PySem.F.slot_list_append PySem.F.type_list_append mt_append (pv 4) (pa_cons (pv 12) pa_nil)))))))))))) (pss_cons (ps_asg (pe_call (ok_run T) (hr.mono (by decide)) (by rfl) T.m_run T.F_run.kp T.b_run .nil passL (pa_cons (pv 8) (pa_cons (pv 9) (pa_cons (pv 3) pa_nil)))) (tgK (K := K) 2 rfl rfl (pgs_cons (pg_name (i := 13) sc_law.nd rfl (by first | exact Or.inl rfl | exact Or.inr rfl)) (pgs_cons (pg_name (i := 12) sc_law.nd rfl (by first | exact Or.inl rfl | exact Or.inr rfl)) pgs_nil)))) (pss_cons (ps_set (i := 6) sc_law.nd rfl (by first | exact Or.inl rfl | exact Or.inr rfl) (pe_make T.mk_Board (ok_Board_init T) (hr.mono (by decide)) (by rfl) T.m_Board T.b_Board_init .nil passL (pa_cons (pv 8) (pa_cons (pv 9) pa_nil)))) (pss_cons (ps_if (PW.pt (pw_or (pt_cmpR (neK (K := K) rfl hr.units) (pv 12) (pv 4) (nomark _)) (pw_or (pt_cmpR (neK (K := K) rfl hr.units) (pe_lc (own := [("_law_deed_here", 10)]) rfl sc_law.nd (pi_list (pv 3)) (blkOk_by (own := [("_law_deed_here", 10)]) (N := ["_law_script", "_law_town", "_law_model", "_law_deeds", "_law_due", "_law_k", "_law_other", "_law_bad", "_law_budget", "_law_patience", "_law_deed_here", "_law_odd", "_law_told", "_law_board"]) (sc := defScope s_law) (by decide +kernel)) (fun _ _ _ _ _ => by exact (pg_name (i := 10) sc_law.nd rfl (by first | exact Or.inl rfl | exact Or.inr rfl))) (fun _ _ _ _ _ => by exact pts_nil) (fun _ _ _ _ _ => by exact (pe_call (ok_l_asked T) (hr.mono (by decide)) (by rfl) T.m_l_asked T.F_l_asked.kp T.b_l_asked .nil passL (pa_cons pe_int (pa_cons (pv 6) (pa_cons (pv 10) (pa_cons pe_non pa_nil))))))) (pv 4) (nomark _)) (pw_or1 (pt_cmpR (neK (K := K) rfl hr.units) (pe_meth0 (pv 6) T.cl_Board T.M_Board_saved (ok_Board_saved T) (hr.mono (by decide)) T.b_Board_saved .nil passL) (pe_meth0 (pv 13) T.cl_Board T.M_Board_saved (ok_Board_saved T) (hr.mono (by decide)) T.b_Board_saved .nil passL) (nomark _)))))) (pss_one (ps_ret pe_bl)) pss_nil) (pss_cons (ps_set (i := 7) sc_law.nd rfl (by first | exact Or.inl rfl | exact Or.inr rfl) (pe_call (ok_l_pick T) (hr.mono (by decide)) (by rfl) T.m_l_pick T.F_l_pick.kp T.b_l_pick .nil passL (pa_cons (pv 0) (pa_cons (pv 1) (pa_cons (pe_lst (pa_cons pe_non (pa_cons (pe_tup pa_nil) (pa_cons (pe_tup (pa_cons pe_str (pa_cons pe_int pa_nil))) (pa_cons (pe_tup (pa_cons pe_str (pa_cons pe_int pa_nil))) (pa_cons (pe_tup (pa_cons pe_str pa_nil)) (pa_cons (pe_lst (pa_cons pe_str pa_nil)) (pa_cons pe_str (pa_cons (pe_tup (pa_cons pe_str (pa_cons pe_int pa_nil))) pa_nil))))))))) pa_nil))))) (pss_cons (ps_if (PW.pt (pw_or (pt_cmpR (neK (K := K) rfl hr.units) (pe_call (ok_l_asked T) (hr.mono (by decide)) (by rfl) T.m_l_asked T.F_l_asked.kp T.b_l_asked .nil passL (pa_cons pe_int (pa_cons (pv 6) (pa_cons (pv 7) (pa_cons pe_non pa_nil))))) (pe_tup (pa_cons pe_str (pa_cons pe_int pa_nil))) (nomark _)) (pw_or1 (pt_cmpR (neK (K := K) rfl hr.units) (pe_meth0 (pv 6) T.cl_Board T.M_Board_saved (ok_Board_saved T) (hr.mono (by decide)) T.b_Board_saved .nil passL) (pe_meth0 (pv 13) T.cl_Board T.M_Board_saved (ok_Board_saved T) (hr.mono (by decide)) T.b_Board_saved .nil passL) (nomark _))))) (pss_one (ps_ret pe_bl)) pss_nil) (pss_cons (ps_if (pt_cmpR (neK (K := K) rfl hr.units) (pe_call (ok_l_asked T) (hr.mono (by decide)) (by rfl) T.m_l_asked T.F_l_asked.kp T.b_l_asked .nil passL (pa_cons pe_int (pa_cons (pv 8) (pa_cons (pv 9) (pa_cons (pe_op (addK (K := K) rfl) (pv 3) (pe_lst (pa_cons (pv 7) pa_nil))) pa_nil))))) (pe_tup (pa_cons pe_str (pa_cons pe_int pa_nil))) (nomark _)) (pss_one (ps_ret pe_bl)) pss_nil) (pss_cons (ps_if (pt_cmpR (neK (K := K) rfl hr.units) (pe_call (ok_l_asked T) (hr.mono (by decide)) (by rfl) T.m_l_asked T.F_l_asked.kp T.b_l_asked .nil passL (pa_cons pe_int (pa_cons (pv 8) (pa_cons (pv 9) (pa_cons (pe_callTy (tupleK (K := K) rfl) (by rfl) T.n_tuple (by decide +kernel) (pa_cons (pv 3) pa_nil)) pa_nil))))) (pe_tup (pa_cons pe_str (pa_cons pe_int pa_nil))) (nomark _)) (pss_one (ps_ret pe_bl)) pss_nil) (pss_one (ps_ret (pe_cmpR (eqK (K := K) rfl hr.units) (pe_call (ok_l_asked T) (hr.mono (by decide)) (by rfl) T.m_l_asked T.F_l_asked.kp T.b_l_asked .nil passL (pa_cons pe_int (pa_cons pe_int (pa_cons pe_int (pa_cons pe_non pa_nil))))) (pe_tup (pa_cons pe_str (pa_cons pe_int pa_nil))) (nomark _))))))))))))))))), ?_⟩
  refine run (Γ := [.d (lstI ns), .un, .un, .un, .un, .un, .un, .un, .un, .un, .un, .un, .un, .un]) (Oi := []) A0 rfl ?_
  refine n_seq ?_
  refine n_asgL (el_lst (ds := []) a_nil rfl (Nat.le_of_ble_eq_true rfl)) (fun tp => ?_)
  refine n_own (Os1 := [town K tp 0]) rfl ?_
  obtain ⟨Bu, Pa, hBu, hPa, hB1, hB2, hP1, hP2⟩ := siz_ok ns 0 1
  have hB0 : 0 < Bu := by omega
  refine n_seq ?_
  refine n_asgT (e_is (s' := .d (.tuple [.int Bu, .int Pa])) (e_call (a_cons (e_var (i := 0) rfl rfl) (a_cons (e_var (i := 1) rfl rfl) a_nil)) (c_l_sizes 0 rfl (by decide))) (by show SD.d (.tuple [sizB ns 0, sizP ns 1]) = _; rw [hBu, hPa])) ((fun _ => (tg_tup (tgs_cons tg_name (tgs_cons tg_name tgs_nil)) rfl)) 0) ?_
  refine n_gam (Γ' := [.d (lstI ns), .v (.ref tp), .un, .un, .un, .un, .un, .un, .d (.int Bu), .d (.int Pa), .un, .un, .un, .un]) rfl ?_
  refine n_own (Os1 := [town K tp 2]) rfl ?_
  refine n_seq ?_
  refine n_asgG (a_cons (e_var (i := 8) rfl rfl) (a_cons (e_var (i := 9) rfl rfl) a_nil)) (cgR (p := sp_l_new K) (L := [_]) (Bu, Pa) trivial rfl rfl) (fun y _ => ?_)
  obtain ⟨m, l, u⟩ := y
  obtain ⟨B9, hB9⟩ : ∃ S, (⟨Bu, Pa, [], 0, []⟩ : Bd) = S := ⟨_, rfl⟩
  refine n_own (Os1 := (town K tp 2 :: mdl K ⟨m, l, u, []⟩ B9)) (by rw [← hB9]; rfl) ?_
  refine n_seq ?_
  refine n_asgL (el_lst (ds := []) a_nil rfl (Nat.le_of_ble_eq_true rfl)) (fun pd => ?_)
  refine n_front ?_
  refine n_seq ?_
  refine n_asgL (el_lst (ds := []) a_nil rfl (Nat.le_of_ble_eq_true rfl)) (fun pu => ?_)
  refine n_front ?_
  have okB : B9.Ok := by rw [← hB9]; exact bd_ok ⟨hB1, hB2⟩ ⟨hP1, hP2⟩
  have hbu9 : B9.budget = Bu := by rw [← hB9]
  have r0 : Run19 B9 [] 0 := ⟨fun j => by rw [List.take_nil]; exact ⟨okB, by rw [← hB9]; exact Nat.le_refl _⟩, rfl, by rw [← hB9]; exact Nat.le_refl _, rfl, by rw [← hB9]; exact fun k x hx => by cases hx⟩
  obtain ⟨M, hM, hM2⟩ : ∃ M : Nat, mixI ns 3 21 = (M : Int) ∧ M ≤ 20 := by
    have := mixI_b ns 3 (m := 21) (by decide)
    exact ⟨(mixI ns 3 21).toNat, by omega, by omega⟩
  refine n_seq ?_
  refine n_for (it_range (a_cons (e_is (s' := .d (.int (M : Int))) (e_call (a_cons (e_var (i := 0) rfl rfl) (a_cons (e_var (i := 1) rfl rfl) (a_cons e_int a_nil))) (c_l_draw 2 rfl (by decide) (by decide))) (congrArg (fun i => SD.d (.int i)) hM)) a_nil) (by omega) (by omega)) (fun _ => tg_name) (fun i Γ Os => ∃ (n : Nat) (a : MA) (D : List Deed), n ≤ 3 + 17 * i ∧ Run19 B9 D i ∧ a.js.length = (rb B9 D).jobs.length ∧ Γ = [.d (lstI ns), .v (.ref tp), .v (.ref a.m), .v (.ref pd), .v (.ref pu), .un, .un, .un, .d (.int Bu), .d (.int Pa), .un, .un, .un, .un] ∧ Os = (lst K pu (rtR B9 D) :: lst K pd (D.map deedD) :: town K tp n :: mdl K a (rb B9 D))) ⟨3, ⟨m, l, u, []⟩, [], by omega, r0, by rw [← hB9]; rfl, rfl, rfl⟩ (fun _ _ _ _ => trivial) (fun B2 hB2' i Γ Os hi h => ?_) (fun Γ Os h => ?_)
  · obtain ⟨n, a, D, hn, hR, hl, rfl, rfl⟩ := h
    have hi20 : i < 20 := by omega
    have hn1 : n ≤ 80000 := by omega
    obtain ⟨ok, hsp⟩ := hR.all
    have hjn := hR.n
    have htm := hR.tm
    obtain ⟨hd, hn2, hn3⟩ := deedW_ok ns n (Bu := Bu) (rb B9 D).jobs.length hB0
    refine n_seq ?_
    refine n_asg (e_is (s' := .d (deedD (deedW ns n Bu (rb B9 D).jobs.length).1)) (e_call (a_cons (e_var (i := 0) rfl rfl) (a_cons (e_var (i := 1) rfl rfl) (a_cons (e_var (i := 8) rfl rfl) (a_cons (e_is (s' := .d (.int ((rb B9 D).jobs.length : Int))) (e_cb (a_cons (e_dget (k := .inr "jobs") (kvs := mkv a (rb B9 D)) (i := 3) (e_var (i := 2) rfl rfl) e_str (.inl rfl) (mk_get 2 rfl) rfl) a_nil) (cd_lenO 4 rfl)) (by rw [List.length_map, hl])) a_nil)))) (c_l_deed 2 rfl hn1 hB0)) rfl) ?_
    generalize deedW ns n Bu (rb B9 D).jobs.length = dw at hd hn2 hn3
    obtain ⟨d1, n'⟩ := dw
    have hn3 : n' ≤ n + 14 := hn3
    have hd : DeedOk (rb B9 D).budget (rb B9 D).jobs.length d1 := by rw [hR.bu, hbu9]; exact hd
    refine n_own (Os1 := (lst K pu (rtR B9 D) :: lst K pd (D.map deedD) :: town K tp n' :: mdl K a (rb B9 D))) rfl ?_
    refine n_seq ?_
    refine n_asg (e_is (s' := .d (.list (oddL.map deedD))) (e_fz (el_lst (ds := [_, _, _, _]) (a_cons (e_tup (ds := [_, _]) (a_cons e_str (a_cons e_non a_nil)) rfl (Nat.le_of_ble_eq_true rfl)) (a_cons (e_tup (ds := [_, _, _]) (a_cons e_str (a_cons e_int (a_cons e_int a_nil))) rfl (Nat.le_of_ble_eq_true rfl)) (a_cons (e_tup (ds := [_, _, _, _, _, _]) (a_cons e_str (a_cons e_int (a_cons e_non (a_cons e_int (a_cons (e_tup (ds := []) a_nil rfl (Nat.le_of_ble_eq_true rfl)) (a_cons (e_tup (ds := [_]) (a_cons e_int a_nil) rfl (Nat.le_of_ble_eq_true rfl)) a_nil)))))) rfl (Nat.le_of_ble_eq_true rfl)) (a_cons (e_tup (ds := [_, _, _, _, _, _]) (a_cons e_str (a_cons e_int (a_cons e_non (a_cons e_int (a_cons (e_tup (ds := [_]) (a_cons e_int a_nil) rfl (Nat.le_of_ble_eq_true rfl)) (a_cons (e_tup (ds := [_]) (a_cons e_int a_nil) rfl (Nat.le_of_ble_eq_true rfl)) a_nil)))))) rfl (Nat.le_of_ble_eq_true rfl)) a_nil)))) rfl (Nat.le_of_ble_eq_true rfl))) rfl) ?_
    refine n_seq ?_
    refine n_joinT (fun y : Nat × Deed => [.d (lstI ns), .v (.ref tp), .v (.ref a.m), .v (.ref pd), .v (.ref pu), .d (.int (i : Int)), .un, .un, .d (.int Bu), .d (.int Pa), .d (deedD y.2), .d (.list (oddL.map deedD)), .un, .un]) (fun y => (lst K pu (rtR B9 D) :: lst K pd (D.map deedD) :: town K tp y.1 :: mdl K a (rb B9 D))) (fun y => y.1 ≤ n' + 2 ∧ (DeedOk (rb B9 D).budget (rb B9 D).jobs.length y.2 ∨ y.2 ∈ oddL)) (fun y hy => ?_) (fun kk => ?_)
    rotate_left
    · refine n_when (b := PyData.eqv (.int (mixI ns (n' + 1) 9)) (.int 0)) (t_T (e_op (e_call (a_cons (e_var (i := 0) rfl rfl) (a_cons (e_var (i := 1) rfl rfl) (a_cons e_int a_nil))) (c_l_draw 2 rfl (by decide) (by omega))) e_int (od_eq .dat .dat rfl rfl))) (fun hb => ?_) (fun hb => ?_)
      · obtain ⟨dq, hq, hqe⟩ : ∃ dq ∈ oddL, deedD dq = pickD ns (n' + 1) (oddL.map deedD) := List.mem_map.mp (pickD_mem (by decide))
        refine n_asg (e_is (s' := .d (deedD dq)) (e_call (a_cons (e_var (i := 0) rfl rfl) (a_cons (e_var (i := 1) rfl rfl) (a_cons (e_var (i := 11) rfl rfl) a_nil))) (c_l_pick 2 rfl (by decide) (by omega))) (congrArg SD.d hqe.symm)) ?_
        exact n_own rfl (kk (n' + 2, dq) ⟨Nat.le_refl _, .inr hq⟩)
      · exact n_own rfl (kk (n' + 1, d1) ⟨Nat.le_succ _, .inl hd⟩)
    obtain ⟨n2, dd⟩ := y
    obtain ⟨hn22, hdd⟩ := hy
    dsimp only at hn22 hdd ⊢
    have RN := hR.add (by omega) hdd
    refine n_seq ?_
    refine n_asg e_str ?_
    refine n_seq ?_
    rcases hdd with hdd | hdd
    · have hnin := deed_in (by omega) hdd
      have hshd := deed_sh hdd
      have hri := ref_in hdd
      have hshv := shaped_doV (rb B9 D) dd
      refine n_when (b := true) (et_is (t_T (e_op (e_var (i := 10) rfl rfl) (e_var (i := 11) rfl rfl) (od_nin .dat .dat hshd odds_sh))) (by rw [hnin]; rfl)) (fun _ => ?_) (fun z => by cases z)
      refine n_asgG (a_cons (e_var (i := 2) rfl rfl) (a_cons (e_var (i := 10) rfl rfl) a_nil)) (c_l_own (P := [_, _, _]) ⟨ok, hl⟩ htm (by omega) hdd) (fun y hy => ?_)
      have hlN : ({ a with js := y } : MA).js.length = (rb B9 (D ++ [dd])).jobs.length := by rw [rb_app]; exact hy
      have hS : (doV (rb B9 D) dd).2 = (doV (rb B9 D) dd).2 := rfl
      refine n_own (Os1 := (lst K pu (rtR B9 D) :: lst K pd (D.map deedD) :: town K tp n2 :: mdl K { a with js := y } (doV (rb B9 D) dd).2)) rfl ?_
      refine n_seq ?_
      by_cases hb : refB (rb B9 D) dd = true
      · refine n_when (b := true) (et_is (t_T (e_op (e_var (i := 12) rfl rfl) (e_tup (ds := [refI 3, refI 4]) (a_cons (e_tup (ds := [_, _]) (a_cons e_str (a_cons e_int a_nil)) rfl (Nat.le_of_ble_eq_true rfl)) (a_cons (e_tup (ds := [_, _]) (a_cons e_str (a_cons e_int a_nil)) rfl (Nat.le_of_ble_eq_true rfl)) a_nil)) rfl (Nat.le_of_ble_eq_true rfl)) (od_inDT .dat .dat hshv (by decide +kernel)))) (by rw [hri, hb])) (fun _ => ?_) (fun z => by cases z)
        refine n_asg e_str ?_
        refine n_seq ?_
        refine n_app (d := deedD dd) 1 (e_var (i := 3) rfl rfl) (e_var (i := 10) rfl rfl) rfl rfl (by rw [List.length_map, hR.l]; omega) ?_
        refine n_app (d := doR (rb B9 D) (.ok dd)) 0 (e_var (i := 4) rfl rfl) (e_is (s' := .d (doR (rb B9 D) (.ok dd))) (e_var (i := 12) rfl rfl) (congrArg SD.d (if_pos hb).symm)) rfl rfl (by rw [rt_len, hR.l]; omega) ?_
        refine r_inv _ _ ⟨n2, { a with js := y }, D ++ [dd], by omega, RN, hlN, rfl, rfl⟩ (.eq (.eq (.eq (.eq (.eq (.un (.eq (.eq (.eq (.eq (.un (.un (.un (.eq .nil)))))))))))))) ?_
        rw [rb_app, rt_app, List.map_append, hS]; exact Ole.refl _
      · refine n_when (b := false) (et_is (t_T (e_op (e_var (i := 12) rfl rfl) (e_tup (ds := [refI 3, refI 4]) (a_cons (e_tup (ds := [_, _]) (a_cons e_str (a_cons e_int a_nil)) rfl (Nat.le_of_ble_eq_true rfl)) (a_cons (e_tup (ds := [_, _]) (a_cons e_str (a_cons e_int a_nil)) rfl (Nat.le_of_ble_eq_true rfl)) a_nil)) rfl (Nat.le_of_ble_eq_true rfl)) (od_inDT .dat .dat hshv (by decide +kernel)))) (by rw [hri]; simpa using hb)) (fun z => by cases z) (fun _ => ?_)
        refine n_seq ?_
        refine n_app (d := deedD dd) 1 (e_var (i := 3) rfl rfl) (e_var (i := 10) rfl rfl) rfl rfl (by rw [List.length_map, hR.l]; omega) ?_
        refine n_app (d := doR (rb B9 D) (.ok dd)) 0 (e_var (i := 4) rfl rfl) (e_is (s' := .d (doR (rb B9 D) (.ok dd))) (e_var (i := 12) rfl rfl) (congrArg SD.d (if_neg hb).symm)) rfl rfl (by rw [rt_len, hR.l]; omega) ?_
        refine r_inv _ _ ⟨n2, { a with js := y }, D ++ [dd], by omega, RN, hlN, rfl, rfl⟩ (.eq (.eq (.eq (.eq (.eq (.un (.eq (.eq (.eq (.eq (.un (.un (.un (.eq .nil)))))))))))))) ?_
        rw [rb_app, rt_app, List.map_append, hS]; exact Ole.refl _
    · have hin := odd_in dd hdd
      have hshd := odd_sh dd hdd
      obtain ⟨hb, hS⟩ := odd_do (S := (rb B9 D)) (by omega) dd hdd
      have hlN : a.js.length = (rb B9 (D ++ [dd])).jobs.length := by rw [rb_app, hS]; exact hl
      refine n_when (b := false) (et_is (t_T (e_op (e_var (i := 10) rfl rfl) (e_var (i := 11) rfl rfl) (od_nin .dat .dat hshd odds_sh))) (by rw [hin]; rfl)) (fun z => by cases z) (fun _ => ?_)
      refine n_seq ?_
      refine n_when (b := false) (et_is (t_T (e_op (e_var (i := 12) rfl rfl) (e_tup (ds := [refI 3, refI 4]) (a_cons (e_tup (ds := [_, _]) (a_cons e_str (a_cons e_int a_nil)) rfl (Nat.le_of_ble_eq_true rfl)) (a_cons (e_tup (ds := [_, _]) (a_cons e_str (a_cons e_int a_nil)) rfl (Nat.le_of_ble_eq_true rfl)) a_nil)) rfl (Nat.le_of_ble_eq_true rfl)) (od_inDT .dat .dat (by decide +kernel) (by decide +kernel)))) (by decide +kernel)) (fun z => by cases z) (fun _ => ?_)
      refine n_seq ?_
      refine n_app (d := deedD dd) 1 (e_var (i := 3) rfl rfl) (e_var (i := 10) rfl rfl) rfl rfl (by rw [List.length_map, hR.l]; omega) ?_
      refine n_app (d := doR (rb B9 D) (.ok dd)) 0 (e_var (i := 4) rfl rfl) (e_is (s' := .d (doR (rb B9 D) (.ok dd))) (e_var (i := 12) rfl rfl) (congrArg SD.d (if_pos hb).symm)) rfl rfl (by rw [rt_len, hR.l]; omega) ?_
      refine r_inv _ _ ⟨n2, a, D ++ [dd], by omega, RN, hlN, rfl, rfl⟩ (.eq (.eq (.eq (.eq (.eq (.un (.eq (.eq (.eq (.eq (.un (.un (.un (.eq .nil)))))))))))))) ?_
      rw [rb_app, rt_app, List.map_append, hS]; exact Ole.refl _
  obtain ⟨n, a, D, hn, hR, hl, rfl, rfl⟩ := h
  have hsz : SzOk Bu Pa := ⟨hB1, hB2, hP1, hP2⟩
  have hDl := hR.l
  have hML : M ≤ 20 := hM2
  have hok := hR.ok
  obtain ⟨okF, hspF⟩ := hR.all
  have hsh := shaped_rt B9 D
  have hsv := shaped_saved (rb B9 D)
  refine n_ole (Os' := [lst K pu (rtR B9 D), lst K pd (D.map deedD), town K tp n]) (.cons (Oimp.refl _) (.cons (Oimp.refl _) (.cons (Oimp.refl _) .nil))) ?_
  refine n_fz 0 4 rfl rfl ?_
  refine n_own (Os1 := [lst K pd (D.map deedD), town K tp n]) rfl ?_
  have hRO : RunOk ⟨Bu, Pa, [], 0, []⟩ D := fun j => by rw [hB9]; exact ⟨(hok j).1, by have := (hok j).2; omega⟩
  refine n_gam (Γ' := [.d (lstI ns), .v (.ref tp), .v (.ref a.m), .v (.ref pd), .d (.list (rtR B9 D)), .un, .un, .un, .d (.int Bu), .d (.int Pa), .un, .un, .un, .un]) rfl ?_
  refine n_weak (Γ' := [.d (lstI ns), .v (.ref tp), .un, .v (.ref pd), .d (.list (rtR B9 D)), .un, .un, .un, .d (.int Bu), .d (.int Pa), .un, .un, .un, .un]) (.eq (.eq (.un (.eq (.eq (.eq (.eq (.eq (.eq (.eq (.eq (.eq (.eq (.eq .nil)))))))))))))) ?_
  refine n_seq ?_
  refine n_asgG2 4 (fun y : Addr × Addr × Addr => y.2.2) (fun y => .ref y.1) (fun y => .ref y.2.1) (a_cons (e_var (i := 8) rfl rfl) (a_cons (e_var (i := 9) rfl rfl) (a_cons (e_var (i := 3) rfl rfl) a_nil))) (c_run T 0 rfl hsz hRO (by omega)) (fun _ => rfl) (fun _ => rfl) (fun y _ => ?_)
  obtain ⟨b, pl, pt⟩ := y
  rw [hB9]
  refine n_ole (Os' := [lst K pd (D.map deedD), town K tp n, bdx K T.c_Board T.c_Job b (rb B9 D), lst K pl (rtR B9 D)]) (.cons (Oimp.refl _) (.cons (Oimp.refl _) (.cons (Oimp.refl _) (.cons (Oimp.refl _) .nil)))) ?_
  refine n_seq ?_
  refine n_asgM (e_make (a_cons (e_var (i := 8) rfl rfl) (a_cons (e_var (i := 9) rfl rfl) a_nil)) (fun x => c_Board_init T (i1 := Bu) (i2 := Pa) (by simp [isWhole]; omega))) (fun b2 => ?_)
  refine n_own (Os1 := [lst K pd (D.map deedD), town K tp n, bdx K T.c_Board T.c_Job b (rb B9 D), lst K pl (rtR B9 D), bdx K T.c_Board T.c_Job b2 B9]) (by rw [← hB9]; rfl) ?_
  refine n_seq ?_
  refine n_when (b := false) (t_orF (et_is (t_T (e_op (e_var (i := 12) rfl rfl) (e_var (i := 4) rfl rfl) (od_l (od_ne (.own 3 rfl) .dat hsh hsh)))) (by rw [eqv_sh hsh]; rfl)) (t_orF (et_is (t_T (e_op (e_is (s' := .d (.list (rtR B9 D))) (e_fz (el_lc (vs := [10]) (it_own 0 (e_var (i := 3) rfl rfl) rfl) (by rw [List.length_map]; omega) (fun _ => tg_name) (by intro i hi; exact hi)
      (fun j acc Os => acc = rtR B9 (D.take j) ∧ Os = [lst K pd (D.map deedD), town K tp n, bdx K T.c_Board T.c_Job b (rb B9 D), lst K pl (rtR B9 D), bdx K T.c_Board T.c_Job b2 (rb B9 (D.take j))]) ⟨rfl, rfl⟩ (fun j acc Os h => by obtain ⟨_, rfl⟩ := h; rfl)
      (fun j acc Os hj h => by
        obtain ⟨rfl, rfl⟩ := h
        rw [List.length_map] at hj
        refine ⟨true, _, t_yes, fun _ => ⟨_, _, (e_call (a_cons e_int (a_cons (e_var (i := 6) rfl rfl) (a_cons (e_is (s' := .d (thD (.ok D[j]))) (e_var (i := 10) rfl rfl) (by show SD.d ((D.map deedD)[j]?.getD .none) = _; rw [map_getD hj]; rfl)) (a_cons e_non a_nil)))) (c_ask1 T (S := rb B9 (D.take j)) (th := .ok D[j]) 4 rfl (hok j).1 (by have := (hok j).2; omega))), ?_, ?_⟩, fun z => by cases z⟩
        · rw [take_succ' _ hj, rt_app]; rfl
        · rw [take_succ' _ hj, rb_app]; rfl)
      (fun acc Os h => by
        obtain ⟨rfl, rfl⟩ := h
        rw [List.length_map, List.take_length]
        exact ⟨rfl, rfl⟩))) rfl) (e_var (i := 4) rfl rfl) (od_l (od_ne .dat .dat hsh hsh)))) (by rw [eqv_sh hsh]; rfl)) (et_is (t_T (e_op (e_meth (e_var (i := 6) rfl rfl) (ins_bdx 4 rfl (by decide +kernel)) a_nil (x_Board_saved T 4 rfl okF)) (e_meth (e_var (i := 13) rfl rfl) (ins_bdx 2 rfl (by decide +kernel)) a_nil (x_Board_saved T 2 rfl okF)) (od_l (od_ne .dat .dat hsv hsv)))) (by rw [eqv_sh hsv]; rfl)))) (fun z => by cases z) (fun _ => ?_)
  obtain ⟨i8, hi8, hbe⟩ : ∃ i, i < 8 ∧ badD i = pickD ns n ((List.range 8).map badD) := by
    obtain ⟨i, hi, he⟩ := List.mem_map.mp (pickD_mem (ns := ns) (n := n) (ds := (List.range 8).map badD) (by decide))
    exact ⟨i, List.mem_range.mp hi, he⟩
  have hn9 : n ≤ 90000 := by omega
  refine n_seq ?_
  refine n_asg (e_is (s' := .d (badD i8)) (e_call (a_cons (e_var (i := 0) rfl rfl) (a_cons (e_var (i := 1) rfl rfl) (a_cons (e_is (s' := .d (.list ((List.range 8).map badD))) (e_fz (el_lst (ds := [_, _, _, _, _, _, _, _]) (a_cons e_non (a_cons (e_tup (ds := []) a_nil rfl (Nat.le_of_ble_eq_true rfl)) (a_cons (e_tup (ds := [_, _]) (a_cons e_str (a_cons e_int a_nil)) rfl (Nat.le_of_ble_eq_true rfl)) (a_cons (e_tup (ds := [_, _]) (a_cons e_str (a_cons e_int a_nil)) rfl (Nat.le_of_ble_eq_true rfl)) (a_cons (e_tup (ds := [_]) (a_cons e_str a_nil) rfl (Nat.le_of_ble_eq_true rfl)) (a_cons (e_fz (el_lst (ds := [_]) (a_cons e_str a_nil) rfl (Nat.le_of_ble_eq_true rfl))) (a_cons e_str (a_cons (e_tup (ds := [_, _]) (a_cons e_str (a_cons e_int a_nil)) rfl (Nat.le_of_ble_eq_true rfl)) a_nil)))))))) rfl (Nat.le_of_ble_eq_true rfl))) rfl) a_nil))) (c_l_pick 1 rfl (by decide) (by omega))) (congrArg SD.d hbe.symm)) ?_
  refine n_own (Os1 := [lst K pd (D.map deedD), town K tp (n + 1), bdx K T.c_Board T.c_Job b (rb B9 D), lst K pl (rtR B9 D), bdx K T.c_Board T.c_Job b2 (rb B9 D)]) rfl ?_
  refine n_seq ?_
  refine n_when (b := false) (t_orF (et_is (t_T (e_op (e_is (s' := .d (refI 9)) (e_call (a_cons e_int (a_cons (e_var (i := 6) rfl rfl) (a_cons (e_is (s' := .d (thD (.bad i8))) (e_var (i := 7) rfl rfl) rfl) (a_cons e_non a_nil)))) (c_ask1 T (th := .bad i8) 4 rfl okF (by omega))) rfl) (e_is (s' := .d (refI 9)) (e_tup (ds := [_, _]) (a_cons e_str (a_cons e_int a_nil)) rfl (Nat.le_of_ble_eq_true rfl)) rfl) (od_l (od_ne .dat .dat (shaped_refI 9) (shaped_refI 9))))) (by rw [eqv_sh (shaped_refI 9)]; rfl)) (et_is (t_T (e_op (e_meth (e_var (i := 6) rfl rfl) (ins_bdx 4 rfl (by decide +kernel)) a_nil (x_Board_saved T 4 rfl okF)) (e_meth (e_var (i := 13) rfl rfl) (ins_bdx 2 rfl (by decide +kernel)) a_nil (x_Board_saved T 2 rfl okF)) (od_l (od_ne .dat .dat hsv hsv)))) (by show (!PyData.eqv (savedD (rb B9 D)) (savedD (rb B9 D))) = false; rw [eqv_sh hsv]; rfl))) (fun z => by cases z) (fun _ => ?_)
  have hp1 : Rg.pre (.bad Bu Pa (D.map Th.ok ++ [.bad i8])) := ⟨hsz, by rw [List.length_append, List.length_map, List.length_singleton]; omega, by rw [List.map_append, List.all_append]; simp [thB]⟩
  refine n_seq ?_
  refine n_when (b := false) (et_is (t_T (e_op (e_is (s' := .d (refI 9)) (e_call (a_cons e_int (a_cons (e_var (i := 8) rfl rfl) (a_cons (e_var (i := 9) rfl rfl) (a_cons (e_is (s' := .d (.list ((D.map Th.ok ++ [Th.bad i8]).map thD))) (e_fz (el_catO 0 (e_var (i := 3) rfl rfl) rfl (fun q => (el_lst (ds := [_]) (a_cons (e_var (i := 7) rfl rfl) a_nil) rfl (Nat.le_of_ble_eq_true rfl))) rfl (by rw [List.length_map]; show _ + 1 ≤ 1000000; omega))) (by rw [List.map_append, List.map_map]; rfl)) a_nil)))) (c_ask0 T (.bad Bu Pa (D.map Th.ok ++ [.bad i8])) hp1 (by simp [Rg.isOk]))) rfl) (e_is (s' := .d (refI 9)) (e_tup (ds := [_, _]) (a_cons e_str (a_cons e_int a_nil)) rfl (Nat.le_of_ble_eq_true rfl)) rfl) (od_l (od_ne .dat .dat (shaped_refI 9) (shaped_refI 9))))) (by rw [eqv_sh (shaped_refI 9)]; rfl)) (fun z => by cases z) (fun _ => ?_)
  refine n_seq ?_
  refine n_when (b := false) (et_is (t_T (e_op (e_is (s' := .d (refI 9)) (e_call (a_cons e_int (a_cons (e_var (i := 8) rfl rfl) (a_cons (e_var (i := 9) rfl rfl) (a_cons (e_cb (a_cons (e_var (i := 3) rfl rfl) a_nil) (cd_tupL (.own 0 rfl))) a_nil)))) (c_ask0 T (.noList Bu Pa (D.map deedD)) hsz (by simp [Rg.isOk]))) rfl) (e_is (s' := .d (refI 9)) (e_tup (ds := [_, _]) (a_cons e_str (a_cons e_int a_nil)) rfl (Nat.le_of_ble_eq_true rfl)) rfl) (od_l (od_ne .dat .dat (shaped_refI 9) (shaped_refI 9))))) (by rw [eqv_sh (shaped_refI 9)]; rfl)) (fun z => by cases z) (fun _ => ?_)
  exact r_ret (e_is (s' := .d (.bool true)) (e_op (e_is (s' := .d (refI 0)) (e_call (a_cons e_int (a_cons e_int (a_cons e_int (a_cons e_non a_nil)))) (c_ask0 T (.noBoard (.int 0) (.int 1) .none) (by show (isWhole (.int 0) 1 50 && isWhole (.int 1) 1 20) = false; decide) (by simp [Rg.isOk]))) rfl) (e_is (s' := .d (refI 0)) (e_tup (ds := [_, _]) (a_cons e_str (a_cons e_int a_nil)) rfl (Nat.le_of_ble_eq_true rfl)) rfl) (od_eq .dat .dat (shaped_refI 0) (shaped_refI 0))) (by rw [eqv_sh (shaped_refI 0)])) (k rfl) rfl .nil (Bl.refl _)
end
end Cw

namespace Cw
open PySem L2
theorem all_mk {l : PySem.W.OpenLaw} {w : World} {K : PySem.W.Frag} {h : Heap} {mg : Str → Option Value} {fa C_Job C_Board f_is_whole f_are_parts f_need_rank f_need_job f_Job_init f_Job_is_open f_Job_is_late f_Job_raised f_Job_key f_Board_init f_Board_open_jobs f_Board_need f_Board_is_ready f_Board_in_order f_Board_order f_Board_frame f_Board_add f_Board_waited f_Board_used f_Board_now f_Board_is_late f_Board_need_open f_Board_set_rank f_Board_saved f_woken f_Board_ahead f_Board_drop f_l_cell_at f_l_mixed f_l_draw f_l_pick f_l_which f_is_deed f_do_now f_do f_l_sizes f_l_job f_l_deed f_l_new f_l_open f_l_ready f_l_raised f_l_order f_l_frame f_l_add f_l_drop f_l_own f_run f_l_asked f_law E_NoJob E_NoBoard E_NoNumber E_Over E_Full E_NoCount E_NoJobs E_TooMany E_NoPlan E_NoDeed E_WorkError D_SIZES : Addr} (X : K.In h) (G : h.Ns mainGlobals mg) (hfa : mg "law" = some (.ref fa))
    {od0 od1 od2 od3 od4 od5 od6 od7 od8 od9 od10 od11 od12 od13 od14 od15 od16 od17 od18 od19 od20 od21 od22 od23 od24 od25 od26 od27 od28 od29 od30 od31 od32 od33 od34 od35 od36 od37 od38 od39 od40 od41 od42 od43 od44 od45 od46 od47 od48 od49 an0 an1 an2 an3 an4 an5 an6 an7 an8 an9 an10 an11 an12 an13 an14 an15 an16 an17 an18 an19 an20 an21 an22 an23 an24 an25 an26 an27 an28 an29 an30 an31 an32 an33 an34 an35 an36 an37 an38 an39 an40 an41 an42 an43 an44 an45 an46 an47 an48 an49 : Option Addr} {sl0 sl1 sl2 sl3 sl4 sl5 sl6 sl7 sl8 sl9 sl10 sl11 sl12 sl13 sl14 sl15 sl16 sl17 sl18 sl19 sl20 sl21 sl22 sl23 sl24 sl25 sl26 sl27 sl28 sl29 sl30 sl31 sl32 sl33 sl34 sl35 sl36 sl37 sl38 sl39 sl40 sl41 sl42 sl43 sl44 sl45 sl46 sl47 sl48 sl49 : Array (Option Value)} {oc0 kV0 dc0 pm0 cd0 ct0 oc1 kV1 dc1 pm1 cd1 ct1 oc2 kV2 dc2 pm2 cd2 ct2 oc3 kV3 dc3 pm3 cd3 ct3 oc4 kV4 dc4 pm4 cd4 ct4 oc5 kV5 dc5 pm5 cd5 ct5 oc6 kV6 dc6 pm6 cd6 ct6 oc7 kV7 dc7 pm7 cd7 ct7 oc8 kV8 dc8 pm8 cd8 ct8 oc9 kV9 dc9 pm9 cd9 ct9 oc10 kV10 dc10 pm10 cd10 ct10 oc11 kV11 dc11 pm11 cd11 ct11 oc12 kV12 dc12 pm12 cd12 ct12 oc13 kV13 dc13 pm13 cd13 ct13 oc14 kV14 dc14 pm14 cd14 ct14 oc15 kV15 dc15 pm15 cd15 ct15 oc16 kV16 dc16 pm16 cd16 ct16 oc17 kV17 dc17 pm17 cd17 ct17 oc18 kV18 dc18 pm18 cd18 ct18 oc19 kV19 dc19 pm19 cd19 ct19 oc20 kV20 dc20 pm20 cd20 ct20 oc21 kV21 dc21 pm21 cd21 ct21 oc22 kV22 dc22 pm22 cd22 ct22 oc23 kV23 dc23 pm23 cd23 ct23 oc24 kV24 dc24 pm24 cd24 ct24 oc25 kV25 dc25 pm25 cd25 ct25 oc26 kV26 dc26 pm26 cd26 ct26 oc27 kV27 dc27 pm27 cd27 ct27 oc28 kV28 dc28 pm28 cd28 ct28 oc29 kV29 dc29 pm29 cd29 ct29 oc30 kV30 dc30 pm30 cd30 ct30 oc31 kV31 dc31 pm31 cd31 ct31 oc32 kV32 dc32 pm32 cd32 ct32 oc33 kV33 dc33 pm33 cd33 ct33 oc34 kV34 dc34 pm34 cd34 ct34 oc35 kV35 dc35 pm35 cd35 ct35 oc36 kV36 dc36 pm36 cd36 ct36 oc37 kV37 dc37 pm37 cd37 ct37 oc38 kV38 dc38 pm38 cd38 ct38 oc39 kV39 dc39 pm39 cd39 ct39 oc40 kV40 dc40 pm40 cd40 ct40 oc41 kV41 dc41 pm41 cd41 ct41 oc42 kV42 dc42 pm42 cd42 ct42 oc43 kV43 dc43 pm43 cd43 ct43 oc44 kV44 dc44 pm44 cd44 ct44 oc45 kV45 dc45 pm45 cd45 ct45 oc46 kV46 dc46 pm46 cd46 ct46 oc47 kV47 dc47 pm47 cd47 ct47 oc48 kV48 dc48 pm48 cd48 ct48 oc49 kV49 dc49 pm49 cd49 ct49 : Value} {tk_PARTS tk_RANKS tk_FRAMES tk_RAISED tk_BUDGET tk_PATIENCE tk_JOBS tk_AHEAD tkS_add tkS_drop tkS_rank tkS_frame : Tok} {esS : Array DictEntry} {nS : Nat}
    (aC_Job : PySem.W.nsIn K mainGlobals "Job" = some (some (.ref C_Job)))
    (pg_Job : PySem.W.plainGet K C_Job Str.empty = true)
    (hd_Job : PySem.W.hasDictIn K C_Job = true)
    (po_Job : PySem.W.plainOver K C_Job = true)
    (sa_Job : PySem.W.findIn K (.ref C_Job) "__setattr__" = some (some (.builtin "object.__setattr__")))
    (mk_Job : PySem.W.makesIn K C_Job = true)
    (kc_Job : PySem.W.keepIn K (.ref C_Job) = true)
    (n_Job_number : PySem.W.findIn K (.ref C_Job) "number" = some none)
    (n_Job_rank : PySem.W.findIn K (.ref C_Job) "rank" = some none)
    (n_Job_term : PySem.W.findIn K (.ref C_Job) "term" = some none)
    (n_Job_start : PySem.W.findIn K (.ref C_Job) "start" = some none)
    (n_Job_after : PySem.W.findIn K (.ref C_Job) "after" = some none)
    (n_Job_parts : PySem.W.findIn K (.ref C_Job) "parts" = some none)
    (n_Job_at : PySem.W.findIn K (.ref C_Job) "at" = some none)
    (n_Job_idle : PySem.W.findIn K (.ref C_Job) "idle" = some none)
    (n_Job_end : PySem.W.findIn K (.ref C_Job) "end" = some none)
    (n_Job_gone : PySem.W.findIn K (.ref C_Job) "gone" = some none)
    (aC_Board : PySem.W.nsIn K mainGlobals "Board" = some (some (.ref C_Board)))
    (pg_Board : PySem.W.plainGet K C_Board Str.empty = true)
    (hd_Board : PySem.W.hasDictIn K C_Board = true)
    (po_Board : PySem.W.plainOver K C_Board = true)
    (sa_Board : PySem.W.findIn K (.ref C_Board) "__setattr__" = some (some (.builtin "object.__setattr__")))
    (mk_Board : PySem.W.makesIn K C_Board = true)
    (kc_Board : PySem.W.keepIn K (.ref C_Board) = true)
    (n_Board_budget : PySem.W.findIn K (.ref C_Board) "budget" = some none)
    (n_Board_patience : PySem.W.findIn K (.ref C_Board) "patience" = some none)
    (n_Board_jobs : PySem.W.findIn K (.ref C_Board) "jobs" = some none)
    (n_Board_frames : PySem.W.findIn K (.ref C_Board) "frames" = some none)
    (n_Board_spent : PySem.W.findIn K (.ref C_Board) "spent" = some none)
    (a_is_whole : PySem.W.nsIn K mainGlobals "is_whole" = some (some (.ref f_is_whole)))
    (l_is_whole : K.lookup f_is_whole = some ⟨oc0, od0, .func (PySem.W.fnOf "is_whole" "is_whole" (defArgs s_is_whole) (defBody s_is_whole) (defScope s_is_whole) .none kV0 dc0 pm0 an0 cd0 ct0), sl0⟩)
    (c_is_whole : PySem.W.codeIn K cd0 "is_whole" = true)
    (k_is_whole : PySem.W.keepIn K (.ref f_is_whole) = true)
    (a_are_parts : PySem.W.nsIn K mainGlobals "are_parts" = some (some (.ref f_are_parts)))
    (l_are_parts : K.lookup f_are_parts = some ⟨oc1, od1, .func (PySem.W.fnOf "are_parts" "are_parts" (defArgs s_are_parts) (defBody s_are_parts) (defScope s_are_parts) .none kV1 dc1 pm1 an1 cd1 ct1), sl1⟩)
    (c_are_parts : PySem.W.codeIn K cd1 "are_parts" = true)
    (k_are_parts : PySem.W.keepIn K (.ref f_are_parts) = true)
    (a_need_rank : PySem.W.nsIn K mainGlobals "need_rank" = some (some (.ref f_need_rank)))
    (l_need_rank : K.lookup f_need_rank = some ⟨oc2, od2, .func (PySem.W.fnOf "need_rank" "need_rank" (defArgs s_need_rank) (defBody s_need_rank) (defScope s_need_rank) .none kV2 dc2 pm2 an2 cd2 ct2), sl2⟩)
    (c_need_rank : PySem.W.codeIn K cd2 "need_rank" = true)
    (k_need_rank : PySem.W.keepIn K (.ref f_need_rank) = true)
    (a_need_job : PySem.W.nsIn K mainGlobals "need_job" = some (some (.ref f_need_job)))
    (l_need_job : K.lookup f_need_job = some ⟨oc3, od3, .func (PySem.W.fnOf "need_job" "need_job" (defArgs s_need_job) (defBody s_need_job) (defScope s_need_job) .none kV3 dc3 pm3 an3 cd3 ct3), sl3⟩)
    (c_need_job : PySem.W.codeIn K cd3 "need_job" = true)
    (k_need_job : PySem.W.keepIn K (.ref f_need_job) = true)
    (a_Job_init : PySem.W.findIn K (.ref C_Job) "__init__" = some (some (.ref f_Job_init)))
    (i_Job_init : PySem.W.isFn K (.ref f_Job_init) = true)
    (l_Job_init : K.lookup f_Job_init = some ⟨oc4, od4, .func (PySem.W.fnOf "__init__" "Job.__init__" (defArgs s_Job_init) (defBody s_Job_init) (defScope s_Job_init) .none kV4 dc4 pm4 an4 cd4 ct4), sl4⟩)
    (c_Job_init : PySem.W.codeIn K cd4 "Job.__init__" = true)
    (k_Job_init : PySem.W.keepIn K (.ref f_Job_init) = true)
    (a_Job_is_open : PySem.W.findIn K (.ref C_Job) "is_open" = some (some (.ref f_Job_is_open)))
    (i_Job_is_open : PySem.W.isFn K (.ref f_Job_is_open) = true)
    (l_Job_is_open : K.lookup f_Job_is_open = some ⟨oc5, od5, .func (PySem.W.fnOf "is_open" "Job.is_open" (defArgs s_Job_is_open) (defBody s_Job_is_open) (defScope s_Job_is_open) .none kV5 dc5 pm5 an5 cd5 ct5), sl5⟩)
    (c_Job_is_open : PySem.W.codeIn K cd5 "Job.is_open" = true)
    (k_Job_is_open : PySem.W.keepIn K (.ref f_Job_is_open) = true)
    (a_Job_is_late : PySem.W.findIn K (.ref C_Job) "is_late" = some (some (.ref f_Job_is_late)))
    (i_Job_is_late : PySem.W.isFn K (.ref f_Job_is_late) = true)
    (l_Job_is_late : K.lookup f_Job_is_late = some ⟨oc6, od6, .func (PySem.W.fnOf "is_late" "Job.is_late" (defArgs s_Job_is_late) (defBody s_Job_is_late) (defScope s_Job_is_late) .none kV6 dc6 pm6 an6 cd6 ct6), sl6⟩)
    (c_Job_is_late : PySem.W.codeIn K cd6 "Job.is_late" = true)
    (k_Job_is_late : PySem.W.keepIn K (.ref f_Job_is_late) = true)
    (a_Job_raised : PySem.W.findIn K (.ref C_Job) "raised" = some (some (.ref f_Job_raised)))
    (i_Job_raised : PySem.W.isFn K (.ref f_Job_raised) = true)
    (l_Job_raised : K.lookup f_Job_raised = some ⟨oc7, od7, .func (PySem.W.fnOf "raised" "Job.raised" (defArgs s_Job_raised) (defBody s_Job_raised) (defScope s_Job_raised) .none kV7 dc7 pm7 an7 cd7 ct7), sl7⟩)
    (c_Job_raised : PySem.W.codeIn K cd7 "Job.raised" = true)
    (k_Job_raised : PySem.W.keepIn K (.ref f_Job_raised) = true)
    (a_Job_key : PySem.W.findIn K (.ref C_Job) "key" = some (some (.ref f_Job_key)))
    (i_Job_key : PySem.W.isFn K (.ref f_Job_key) = true)
    (l_Job_key : K.lookup f_Job_key = some ⟨oc8, od8, .func (PySem.W.fnOf "key" "Job.key" (defArgs s_Job_key) (defBody s_Job_key) (defScope s_Job_key) .none kV8 dc8 pm8 an8 cd8 ct8), sl8⟩)
    (c_Job_key : PySem.W.codeIn K cd8 "Job.key" = true)
    (k_Job_key : PySem.W.keepIn K (.ref f_Job_key) = true)
    (a_Board_init : PySem.W.findIn K (.ref C_Board) "__init__" = some (some (.ref f_Board_init)))
    (i_Board_init : PySem.W.isFn K (.ref f_Board_init) = true)
    (l_Board_init : K.lookup f_Board_init = some ⟨oc9, od9, .func (PySem.W.fnOf "__init__" "Board.__init__" (defArgs s_Board_init) (defBody s_Board_init) (defScope s_Board_init) .none kV9 dc9 pm9 an9 cd9 ct9), sl9⟩)
    (c_Board_init : PySem.W.codeIn K cd9 "Board.__init__" = true)
    (k_Board_init : PySem.W.keepIn K (.ref f_Board_init) = true)
    (a_Board_open_jobs : PySem.W.findIn K (.ref C_Board) "open_jobs" = some (some (.ref f_Board_open_jobs)))
    (i_Board_open_jobs : PySem.W.isFn K (.ref f_Board_open_jobs) = true)
    (l_Board_open_jobs : K.lookup f_Board_open_jobs = some ⟨oc10, od10, .func (PySem.W.fnOf "open_jobs" "Board.open_jobs" (defArgs s_Board_open_jobs) (defBody s_Board_open_jobs) (defScope s_Board_open_jobs) .none kV10 dc10 pm10 an10 cd10 ct10), sl10⟩)
    (c_Board_open_jobs : PySem.W.codeIn K cd10 "Board.open_jobs" = true)
    (k_Board_open_jobs : PySem.W.keepIn K (.ref f_Board_open_jobs) = true)
    (a_Board_need : PySem.W.findIn K (.ref C_Board) "need" = some (some (.ref f_Board_need)))
    (i_Board_need : PySem.W.isFn K (.ref f_Board_need) = true)
    (l_Board_need : K.lookup f_Board_need = some ⟨oc11, od11, .func (PySem.W.fnOf "need" "Board.need" (defArgs s_Board_need) (defBody s_Board_need) (defScope s_Board_need) .none kV11 dc11 pm11 an11 cd11 ct11), sl11⟩)
    (c_Board_need : PySem.W.codeIn K cd11 "Board.need" = true)
    (k_Board_need : PySem.W.keepIn K (.ref f_Board_need) = true)
    (a_Board_is_ready : PySem.W.findIn K (.ref C_Board) "is_ready" = some (some (.ref f_Board_is_ready)))
    (i_Board_is_ready : PySem.W.isFn K (.ref f_Board_is_ready) = true)
    (l_Board_is_ready : K.lookup f_Board_is_ready = some ⟨oc12, od12, .func (PySem.W.fnOf "is_ready" "Board.is_ready" (defArgs s_Board_is_ready) (defBody s_Board_is_ready) (defScope s_Board_is_ready) .none kV12 dc12 pm12 an12 cd12 ct12), sl12⟩)
    (c_Board_is_ready : PySem.W.codeIn K cd12 "Board.is_ready" = true)
    (k_Board_is_ready : PySem.W.keepIn K (.ref f_Board_is_ready) = true)
    (a_Board_in_order : PySem.W.findIn K (.ref C_Board) "in_order" = some (some (.ref f_Board_in_order)))
    (i_Board_in_order : PySem.W.isFn K (.ref f_Board_in_order) = true)
    (l_Board_in_order : K.lookup f_Board_in_order = some ⟨oc13, od13, .func (PySem.W.fnOf "in_order" "Board.in_order" (defArgs s_Board_in_order) (defBody s_Board_in_order) (defScope s_Board_in_order) .none kV13 dc13 pm13 an13 cd13 ct13), sl13⟩)
    (c_Board_in_order : PySem.W.codeIn K cd13 "Board.in_order" = true)
    (k_Board_in_order : PySem.W.keepIn K (.ref f_Board_in_order) = true)
    (a_Board_order : PySem.W.findIn K (.ref C_Board) "order" = some (some (.ref f_Board_order)))
    (i_Board_order : PySem.W.isFn K (.ref f_Board_order) = true)
    (l_Board_order : K.lookup f_Board_order = some ⟨oc14, od14, .func (PySem.W.fnOf "order" "Board.order" (defArgs s_Board_order) (defBody s_Board_order) (defScope s_Board_order) .none kV14 dc14 pm14 an14 cd14 ct14), sl14⟩)
    (c_Board_order : PySem.W.codeIn K cd14 "Board.order" = true)
    (k_Board_order : PySem.W.keepIn K (.ref f_Board_order) = true)
    (a_Board_frame : PySem.W.findIn K (.ref C_Board) "frame" = some (some (.ref f_Board_frame)))
    (i_Board_frame : PySem.W.isFn K (.ref f_Board_frame) = true)
    (l_Board_frame : K.lookup f_Board_frame = some ⟨oc15, od15, .func (PySem.W.fnOf "frame" "Board.frame" (defArgs s_Board_frame) (defBody s_Board_frame) (defScope s_Board_frame) .none kV15 dc15 pm15 an15 cd15 ct15), sl15⟩)
    (c_Board_frame : PySem.W.codeIn K cd15 "Board.frame" = true)
    (k_Board_frame : PySem.W.keepIn K (.ref f_Board_frame) = true)
    (a_Board_add : PySem.W.findIn K (.ref C_Board) "add" = some (some (.ref f_Board_add)))
    (i_Board_add : PySem.W.isFn K (.ref f_Board_add) = true)
    (l_Board_add : K.lookup f_Board_add = some ⟨oc16, od16, .func (PySem.W.fnOf "add" "Board.add" (defArgs s_Board_add) (defBody s_Board_add) (defScope s_Board_add) .none kV16 dc16 pm16 an16 cd16 ct16), sl16⟩)
    (c_Board_add : PySem.W.codeIn K cd16 "Board.add" = true)
    (k_Board_add : PySem.W.keepIn K (.ref f_Board_add) = true)
    (a_Board_waited : PySem.W.findIn K (.ref C_Board) "waited" = some (some (.ref f_Board_waited)))
    (i_Board_waited : PySem.W.isFn K (.ref f_Board_waited) = true)
    (l_Board_waited : K.lookup f_Board_waited = some ⟨oc17, od17, .func (PySem.W.fnOf "waited" "Board.waited" (defArgs s_Board_waited) (defBody s_Board_waited) (defScope s_Board_waited) .none kV17 dc17 pm17 an17 cd17 ct17), sl17⟩)
    (c_Board_waited : PySem.W.codeIn K cd17 "Board.waited" = true)
    (k_Board_waited : PySem.W.keepIn K (.ref f_Board_waited) = true)
    (a_Board_used : PySem.W.findIn K (.ref C_Board) "used" = some (some (.ref f_Board_used)))
    (i_Board_used : PySem.W.isFn K (.ref f_Board_used) = true)
    (l_Board_used : K.lookup f_Board_used = some ⟨oc18, od18, .func (PySem.W.fnOf "used" "Board.used" (defArgs s_Board_used) (defBody s_Board_used) (defScope s_Board_used) .none kV18 dc18 pm18 an18 cd18 ct18), sl18⟩)
    (c_Board_used : PySem.W.codeIn K cd18 "Board.used" = true)
    (k_Board_used : PySem.W.keepIn K (.ref f_Board_used) = true)
    (a_Board_now : PySem.W.findIn K (.ref C_Board) "now" = some (some (.ref f_Board_now)))
    (i_Board_now : PySem.W.isFn K (.ref f_Board_now) = true)
    (l_Board_now : K.lookup f_Board_now = some ⟨oc19, od19, .func (PySem.W.fnOf "now" "Board.now" (defArgs s_Board_now) (defBody s_Board_now) (defScope s_Board_now) .none kV19 dc19 pm19 an19 cd19 ct19), sl19⟩)
    (c_Board_now : PySem.W.codeIn K cd19 "Board.now" = true)
    (k_Board_now : PySem.W.keepIn K (.ref f_Board_now) = true)
    (a_Board_is_late : PySem.W.findIn K (.ref C_Board) "is_late" = some (some (.ref f_Board_is_late)))
    (i_Board_is_late : PySem.W.isFn K (.ref f_Board_is_late) = true)
    (l_Board_is_late : K.lookup f_Board_is_late = some ⟨oc20, od20, .func (PySem.W.fnOf "is_late" "Board.is_late" (defArgs s_Board_is_late) (defBody s_Board_is_late) (defScope s_Board_is_late) .none kV20 dc20 pm20 an20 cd20 ct20), sl20⟩)
    (c_Board_is_late : PySem.W.codeIn K cd20 "Board.is_late" = true)
    (k_Board_is_late : PySem.W.keepIn K (.ref f_Board_is_late) = true)
    (a_Board_need_open : PySem.W.findIn K (.ref C_Board) "need_open" = some (some (.ref f_Board_need_open)))
    (i_Board_need_open : PySem.W.isFn K (.ref f_Board_need_open) = true)
    (l_Board_need_open : K.lookup f_Board_need_open = some ⟨oc21, od21, .func (PySem.W.fnOf "need_open" "Board.need_open" (defArgs s_Board_need_open) (defBody s_Board_need_open) (defScope s_Board_need_open) .none kV21 dc21 pm21 an21 cd21 ct21), sl21⟩)
    (c_Board_need_open : PySem.W.codeIn K cd21 "Board.need_open" = true)
    (k_Board_need_open : PySem.W.keepIn K (.ref f_Board_need_open) = true)
    (a_Board_set_rank : PySem.W.findIn K (.ref C_Board) "set_rank" = some (some (.ref f_Board_set_rank)))
    (i_Board_set_rank : PySem.W.isFn K (.ref f_Board_set_rank) = true)
    (l_Board_set_rank : K.lookup f_Board_set_rank = some ⟨oc22, od22, .func (PySem.W.fnOf "set_rank" "Board.set_rank" (defArgs s_Board_set_rank) (defBody s_Board_set_rank) (defScope s_Board_set_rank) .none kV22 dc22 pm22 an22 cd22 ct22), sl22⟩)
    (c_Board_set_rank : PySem.W.codeIn K cd22 "Board.set_rank" = true)
    (k_Board_set_rank : PySem.W.keepIn K (.ref f_Board_set_rank) = true)
    (a_Board_saved : PySem.W.findIn K (.ref C_Board) "saved" = some (some (.ref f_Board_saved)))
    (i_Board_saved : PySem.W.isFn K (.ref f_Board_saved) = true)
    (l_Board_saved : K.lookup f_Board_saved = some ⟨oc23, od23, .func (PySem.W.fnOf "saved" "Board.saved" (defArgs s_Board_saved) (defBody s_Board_saved) (defScope s_Board_saved) .none kV23 dc23 pm23 an23 cd23 ct23), sl23⟩)
    (c_Board_saved : PySem.W.codeIn K cd23 "Board.saved" = true)
    (k_Board_saved : PySem.W.keepIn K (.ref f_Board_saved) = true)
    (a_woken : PySem.W.nsIn K mainGlobals "woken" = some (some (.ref f_woken)))
    (l_woken : K.lookup f_woken = some ⟨oc24, od24, .func (PySem.W.fnOf "woken" "woken" (defArgs s_woken) (defBody s_woken) (defScope s_woken) .none kV24 dc24 pm24 an24 cd24 ct24), sl24⟩)
    (c_woken : PySem.W.codeIn K cd24 "woken" = true)
    (k_woken : PySem.W.keepIn K (.ref f_woken) = true)
    (a_Board_ahead : PySem.W.findIn K (.ref C_Board) "ahead" = some (some (.ref f_Board_ahead)))
    (i_Board_ahead : PySem.W.isFn K (.ref f_Board_ahead) = true)
    (l_Board_ahead : K.lookup f_Board_ahead = some ⟨oc25, od25, .func (PySem.W.fnOf "ahead" "Board.ahead" (defArgs s_Board_ahead) (defBody s_Board_ahead) (defScope s_Board_ahead) .none kV25 dc25 pm25 an25 cd25 ct25), sl25⟩)
    (c_Board_ahead : PySem.W.codeIn K cd25 "Board.ahead" = true)
    (k_Board_ahead : PySem.W.keepIn K (.ref f_Board_ahead) = true)
    (a_Board_drop : PySem.W.findIn K (.ref C_Board) "drop" = some (some (.ref f_Board_drop)))
    (i_Board_drop : PySem.W.isFn K (.ref f_Board_drop) = true)
    (l_Board_drop : K.lookup f_Board_drop = some ⟨oc26, od26, .func (PySem.W.fnOf "drop" "Board.drop" (defArgs s_Board_drop) (defBody s_Board_drop) (defScope s_Board_drop) .none kV26 dc26 pm26 an26 cd26 ct26), sl26⟩)
    (c_Board_drop : PySem.W.codeIn K cd26 "Board.drop" = true)
    (k_Board_drop : PySem.W.keepIn K (.ref f_Board_drop) = true)
    (a_l_cell_at : PySem.W.nsIn K mainGlobals "_law_cell_at" = some (some (.ref f_l_cell_at)))
    (l_l_cell_at : K.lookup f_l_cell_at = some ⟨oc27, od27, .func (PySem.W.fnOf "_law_cell_at" "_law_cell_at" (defArgs s_l_cell_at) (defBody s_l_cell_at) (defScope s_l_cell_at) .none kV27 dc27 pm27 an27 cd27 ct27), sl27⟩)
    (c_l_cell_at : PySem.W.codeIn K cd27 "_law_cell_at" = true)
    (k_l_cell_at : PySem.W.keepIn K (.ref f_l_cell_at) = true)
    (a_l_mixed : PySem.W.nsIn K mainGlobals "_law_mixed" = some (some (.ref f_l_mixed)))
    (l_l_mixed : K.lookup f_l_mixed = some ⟨oc28, od28, .func (PySem.W.fnOf "_law_mixed" "_law_mixed" (defArgs s_l_mixed) (defBody s_l_mixed) (defScope s_l_mixed) .none kV28 dc28 pm28 an28 cd28 ct28), sl28⟩)
    (c_l_mixed : PySem.W.codeIn K cd28 "_law_mixed" = true)
    (k_l_mixed : PySem.W.keepIn K (.ref f_l_mixed) = true)
    (a_l_draw : PySem.W.nsIn K mainGlobals "_law_draw" = some (some (.ref f_l_draw)))
    (l_l_draw : K.lookup f_l_draw = some ⟨oc29, od29, .func (PySem.W.fnOf "_law_draw" "_law_draw" (defArgs s_l_draw) (defBody s_l_draw) (defScope s_l_draw) .none kV29 dc29 pm29 an29 cd29 ct29), sl29⟩)
    (c_l_draw : PySem.W.codeIn K cd29 "_law_draw" = true)
    (k_l_draw : PySem.W.keepIn K (.ref f_l_draw) = true)
    (a_l_pick : PySem.W.nsIn K mainGlobals "_law_pick" = some (some (.ref f_l_pick)))
    (l_l_pick : K.lookup f_l_pick = some ⟨oc30, od30, .func (PySem.W.fnOf "_law_pick" "_law_pick" (defArgs s_l_pick) (defBody s_l_pick) (defScope s_l_pick) .none kV30 dc30 pm30 an30 cd30 ct30), sl30⟩)
    (c_l_pick : PySem.W.codeIn K cd30 "_law_pick" = true)
    (k_l_pick : PySem.W.keepIn K (.ref f_l_pick) = true)
    (a_l_which : PySem.W.nsIn K mainGlobals "_law_which" = some (some (.ref f_l_which)))
    (l_l_which : K.lookup f_l_which = some ⟨oc31, od31, .func (PySem.W.fnOf "_law_which" "_law_which" (defArgs s_l_which) (defBody s_l_which) (defScope s_l_which) .none kV31 dc31 pm31 an31 cd31 ct31), sl31⟩)
    (c_l_which : PySem.W.codeIn K cd31 "_law_which" = true)
    (k_l_which : PySem.W.keepIn K (.ref f_l_which) = true)
    (a_is_deed : PySem.W.nsIn K mainGlobals "is_deed" = some (some (.ref f_is_deed)))
    (l_is_deed : K.lookup f_is_deed = some ⟨oc32, od32, .func (PySem.W.fnOf "is_deed" "is_deed" (defArgs s_is_deed) (defBody s_is_deed) (defScope s_is_deed) .none kV32 dc32 pm32 an32 cd32 ct32), sl32⟩)
    (c_is_deed : PySem.W.codeIn K cd32 "is_deed" = true)
    (k_is_deed : PySem.W.keepIn K (.ref f_is_deed) = true)
    (a_do_now : PySem.W.nsIn K mainGlobals "do_now" = some (some (.ref f_do_now)))
    (l_do_now : K.lookup f_do_now = some ⟨oc33, od33, .func (PySem.W.fnOf "do_now" "do_now" (defArgs s_do_now) (defBody s_do_now) (defScope s_do_now) .none kV33 dc33 pm33 an33 cd33 ct33), sl33⟩)
    (c_do_now : PySem.W.codeIn K cd33 "do_now" = true)
    (k_do_now : PySem.W.keepIn K (.ref f_do_now) = true)
    (a_do : PySem.W.nsIn K mainGlobals "do" = some (some (.ref f_do)))
    (l_do : K.lookup f_do = some ⟨oc34, od34, .func (PySem.W.fnOf "do" "do" (defArgs s_do) (defBody s_do) (defScope s_do) .none kV34 dc34 pm34 an34 cd34 ct34), sl34⟩)
    (c_do : PySem.W.codeIn K cd34 "do" = true)
    (k_do : PySem.W.keepIn K (.ref f_do) = true)
    (a_l_sizes : PySem.W.nsIn K mainGlobals "_law_sizes" = some (some (.ref f_l_sizes)))
    (l_l_sizes : K.lookup f_l_sizes = some ⟨oc35, od35, .func (PySem.W.fnOf "_law_sizes" "_law_sizes" (defArgs s_l_sizes) (defBody s_l_sizes) (defScope s_l_sizes) .none kV35 dc35 pm35 an35 cd35 ct35), sl35⟩)
    (c_l_sizes : PySem.W.codeIn K cd35 "_law_sizes" = true)
    (k_l_sizes : PySem.W.keepIn K (.ref f_l_sizes) = true)
    (a_l_job : PySem.W.nsIn K mainGlobals "_law_job" = some (some (.ref f_l_job)))
    (l_l_job : K.lookup f_l_job = some ⟨oc36, od36, .func (PySem.W.fnOf "_law_job" "_law_job" (defArgs s_l_job) (defBody s_l_job) (defScope s_l_job) .none kV36 dc36 pm36 an36 cd36 ct36), sl36⟩)
    (c_l_job : PySem.W.codeIn K cd36 "_law_job" = true)
    (k_l_job : PySem.W.keepIn K (.ref f_l_job) = true)
    (a_l_deed : PySem.W.nsIn K mainGlobals "_law_deed" = some (some (.ref f_l_deed)))
    (l_l_deed : K.lookup f_l_deed = some ⟨oc37, od37, .func (PySem.W.fnOf "_law_deed" "_law_deed" (defArgs s_l_deed) (defBody s_l_deed) (defScope s_l_deed) .none kV37 dc37 pm37 an37 cd37 ct37), sl37⟩)
    (c_l_deed : PySem.W.codeIn K cd37 "_law_deed" = true)
    (k_l_deed : PySem.W.keepIn K (.ref f_l_deed) = true)
    (a_l_new : PySem.W.nsIn K mainGlobals "_law_new" = some (some (.ref f_l_new)))
    (l_l_new : K.lookup f_l_new = some ⟨oc38, od38, .func (PySem.W.fnOf "_law_new" "_law_new" (defArgs s_l_new) (defBody s_l_new) (defScope s_l_new) .none kV38 dc38 pm38 an38 cd38 ct38), sl38⟩)
    (c_l_new : PySem.W.codeIn K cd38 "_law_new" = true)
    (k_l_new : PySem.W.keepIn K (.ref f_l_new) = true)
    (a_l_open : PySem.W.nsIn K mainGlobals "_law_open" = some (some (.ref f_l_open)))
    (l_l_open : K.lookup f_l_open = some ⟨oc39, od39, .func (PySem.W.fnOf "_law_open" "_law_open" (defArgs s_l_open) (defBody s_l_open) (defScope s_l_open) .none kV39 dc39 pm39 an39 cd39 ct39), sl39⟩)
    (c_l_open : PySem.W.codeIn K cd39 "_law_open" = true)
    (k_l_open : PySem.W.keepIn K (.ref f_l_open) = true)
    (a_l_ready : PySem.W.nsIn K mainGlobals "_law_ready" = some (some (.ref f_l_ready)))
    (l_l_ready : K.lookup f_l_ready = some ⟨oc40, od40, .func (PySem.W.fnOf "_law_ready" "_law_ready" (defArgs s_l_ready) (defBody s_l_ready) (defScope s_l_ready) .none kV40 dc40 pm40 an40 cd40 ct40), sl40⟩)
    (c_l_ready : PySem.W.codeIn K cd40 "_law_ready" = true)
    (k_l_ready : PySem.W.keepIn K (.ref f_l_ready) = true)
    (a_l_raised : PySem.W.nsIn K mainGlobals "_law_raised" = some (some (.ref f_l_raised)))
    (l_l_raised : K.lookup f_l_raised = some ⟨oc41, od41, .func (PySem.W.fnOf "_law_raised" "_law_raised" (defArgs s_l_raised) (defBody s_l_raised) (defScope s_l_raised) .none kV41 dc41 pm41 an41 cd41 ct41), sl41⟩)
    (c_l_raised : PySem.W.codeIn K cd41 "_law_raised" = true)
    (k_l_raised : PySem.W.keepIn K (.ref f_l_raised) = true)
    (a_l_order : PySem.W.nsIn K mainGlobals "_law_order" = some (some (.ref f_l_order)))
    (l_l_order : K.lookup f_l_order = some ⟨oc42, od42, .func (PySem.W.fnOf "_law_order" "_law_order" (defArgs s_l_order) (defBody s_l_order) (defScope s_l_order) .none kV42 dc42 pm42 an42 cd42 ct42), sl42⟩)
    (c_l_order : PySem.W.codeIn K cd42 "_law_order" = true)
    (k_l_order : PySem.W.keepIn K (.ref f_l_order) = true)
    (a_l_frame : PySem.W.nsIn K mainGlobals "_law_frame" = some (some (.ref f_l_frame)))
    (l_l_frame : K.lookup f_l_frame = some ⟨oc43, od43, .func (PySem.W.fnOf "_law_frame" "_law_frame" (defArgs s_l_frame) (defBody s_l_frame) (defScope s_l_frame) .none kV43 dc43 pm43 an43 cd43 ct43), sl43⟩)
    (c_l_frame : PySem.W.codeIn K cd43 "_law_frame" = true)
    (k_l_frame : PySem.W.keepIn K (.ref f_l_frame) = true)
    (a_l_add : PySem.W.nsIn K mainGlobals "_law_add" = some (some (.ref f_l_add)))
    (l_l_add : K.lookup f_l_add = some ⟨oc44, od44, .func (PySem.W.fnOf "_law_add" "_law_add" (defArgs s_l_add) (defBody s_l_add) (defScope s_l_add) .none kV44 dc44 pm44 an44 cd44 ct44), sl44⟩)
    (c_l_add : PySem.W.codeIn K cd44 "_law_add" = true)
    (k_l_add : PySem.W.keepIn K (.ref f_l_add) = true)
    (a_l_drop : PySem.W.nsIn K mainGlobals "_law_drop" = some (some (.ref f_l_drop)))
    (l_l_drop : K.lookup f_l_drop = some ⟨oc45, od45, .func (PySem.W.fnOf "_law_drop" "_law_drop" (defArgs s_l_drop) (defBody s_l_drop) (defScope s_l_drop) .none kV45 dc45 pm45 an45 cd45 ct45), sl45⟩)
    (c_l_drop : PySem.W.codeIn K cd45 "_law_drop" = true)
    (k_l_drop : PySem.W.keepIn K (.ref f_l_drop) = true)
    (a_l_own : PySem.W.nsIn K mainGlobals "_law_own" = some (some (.ref f_l_own)))
    (l_l_own : K.lookup f_l_own = some ⟨oc46, od46, .func (PySem.W.fnOf "_law_own" "_law_own" (defArgs s_l_own) (defBody s_l_own) (defScope s_l_own) .none kV46 dc46 pm46 an46 cd46 ct46), sl46⟩)
    (c_l_own : PySem.W.codeIn K cd46 "_law_own" = true)
    (k_l_own : PySem.W.keepIn K (.ref f_l_own) = true)
    (a_run : PySem.W.nsIn K mainGlobals "run" = some (some (.ref f_run)))
    (l_run : K.lookup f_run = some ⟨oc47, od47, .func (PySem.W.fnOf "run" "run" (defArgs s_run) (defBody s_run) (defScope s_run) .none kV47 dc47 pm47 an47 cd47 ct47), sl47⟩)
    (c_run : PySem.W.codeIn K cd47 "run" = true)
    (k_run : PySem.W.keepIn K (.ref f_run) = true)
    (a_l_asked : PySem.W.nsIn K mainGlobals "_law_asked" = some (some (.ref f_l_asked)))
    (l_l_asked : K.lookup f_l_asked = some ⟨oc48, od48, .func (PySem.W.fnOf "_law_asked" "_law_asked" (defArgs s_l_asked) (defBody s_l_asked) (defScope s_l_asked) .none kV48 dc48 pm48 an48 cd48 ct48), sl48⟩)
    (c_l_asked : PySem.W.codeIn K cd48 "_law_asked" = true)
    (k_l_asked : PySem.W.keepIn K (.ref f_l_asked) = true)
    (a_law : PySem.W.nsIn K mainGlobals "law" = some (some (.ref f_law)))
    (l_law : K.lookup f_law = some ⟨oc49, od49, .func (PySem.W.fnOf "law" "law" (defArgs s_law) (defBody s_law) (defScope s_law) .none kV49 dc49 pm49 an49 cd49 ct49), sl49⟩)
    (c_law : PySem.W.codeIn K cd49 "law" = true)
    (k_law : PySem.W.keepIn K (.ref f_law) = true)
    (z_isinstance : PySem.W.nsIn K mainGlobals "isinstance" = some none)
    (z_int : PySem.W.nsIn K mainGlobals "int" = some none)
    (z_bool : PySem.W.nsIn K mainGlobals "bool" = some none)
    (z_tuple : PySem.W.nsIn K mainGlobals "tuple" = some none)
    (z_len : PySem.W.nsIn K mainGlobals "len" = some none)
    (z_all : PySem.W.nsIn K mainGlobals "all" = some none)
    (z_sorted : PySem.W.nsIn K mainGlobals "sorted" = some none)
    (z_list : PySem.W.nsIn K mainGlobals "list" = some none)
    (z_enumerate : PySem.W.nsIn K mainGlobals "enumerate" = some none)
    (z_range : PySem.W.nsIn K mainGlobals "range" = some none)
    (z_any : PySem.W.nsIn K mainGlobals "any" = some none)
    (z_ValueError : PySem.W.nsIn K mainGlobals "ValueError" = some none)
    (z_str : PySem.W.nsIn K mainGlobals "str" = some none)
    (g_PARTS : PySem.W.nsIn K mainGlobals "PARTS" = some (some (.int 8 tk_PARTS)))
    (g_RANKS : PySem.W.nsIn K mainGlobals "RANKS" = some (some (.int 4 tk_RANKS)))
    (g_FRAMES : PySem.W.nsIn K mainGlobals "FRAMES" = some (some (.int 10000 tk_FRAMES)))
    (g_RAISED : PySem.W.nsIn K mainGlobals "RAISED" = some (some (.int 2 tk_RAISED)))
    (g_BUDGET : PySem.W.nsIn K mainGlobals "BUDGET" = some (some (.int 50 tk_BUDGET)))
    (g_PATIENCE : PySem.W.nsIn K mainGlobals "PATIENCE" = some (some (.int 20 tk_PATIENCE)))
    (g_JOBS : PySem.W.nsIn K mainGlobals "JOBS" = some (some (.int 20 tk_JOBS)))
    (g_AHEAD : PySem.W.nsIn K mainGlobals "AHEAD" = some (some (.int 200 tk_AHEAD)))
    (eg_NoJob : PySem.W.nsIn K mainGlobals "NoJob" = some (some (.ref E_NoJob)))
    (ex_NoJob : PySem.W.excIn K E_NoJob [.type "ValueError", .type "Exception", .type "BaseException", .type "object"] "ValueError.__new__" = true)
    (ek_NoJob : PySem.W.keepIn K (.ref E_NoJob) = true)
    (eb_NoJob : PySem.W.subIn K (.ref E_NoJob) (.type "BaseException") = some true)
    (et_NoJob : PySem.W.typeIn K (.ref E_NoJob) = some (.type "type"))
    (eg_NoBoard : PySem.W.nsIn K mainGlobals "NoBoard" = some (some (.ref E_NoBoard)))
    (ex_NoBoard : PySem.W.excIn K E_NoBoard [.type "ValueError", .type "Exception", .type "BaseException", .type "object"] "ValueError.__new__" = true)
    (ek_NoBoard : PySem.W.keepIn K (.ref E_NoBoard) = true)
    (eb_NoBoard : PySem.W.subIn K (.ref E_NoBoard) (.type "BaseException") = some true)
    (et_NoBoard : PySem.W.typeIn K (.ref E_NoBoard) = some (.type "type"))
    (eg_NoNumber : PySem.W.nsIn K mainGlobals "NoNumber" = some (some (.ref E_NoNumber)))
    (ex_NoNumber : PySem.W.excIn K E_NoNumber [.type "ValueError", .type "Exception", .type "BaseException", .type "object"] "ValueError.__new__" = true)
    (ek_NoNumber : PySem.W.keepIn K (.ref E_NoNumber) = true)
    (eb_NoNumber : PySem.W.subIn K (.ref E_NoNumber) (.type "BaseException") = some true)
    (et_NoNumber : PySem.W.typeIn K (.ref E_NoNumber) = some (.type "type"))
    (eg_Over : PySem.W.nsIn K mainGlobals "Over" = some (some (.ref E_Over)))
    (ex_Over : PySem.W.excIn K E_Over [.type "ValueError", .type "Exception", .type "BaseException", .type "object"] "ValueError.__new__" = true)
    (ek_Over : PySem.W.keepIn K (.ref E_Over) = true)
    (eb_Over : PySem.W.subIn K (.ref E_Over) (.type "BaseException") = some true)
    (et_Over : PySem.W.typeIn K (.ref E_Over) = some (.type "type"))
    (eg_Full : PySem.W.nsIn K mainGlobals "Full" = some (some (.ref E_Full)))
    (ex_Full : PySem.W.excIn K E_Full [.type "ValueError", .type "Exception", .type "BaseException", .type "object"] "ValueError.__new__" = true)
    (ek_Full : PySem.W.keepIn K (.ref E_Full) = true)
    (eb_Full : PySem.W.subIn K (.ref E_Full) (.type "BaseException") = some true)
    (et_Full : PySem.W.typeIn K (.ref E_Full) = some (.type "type"))
    (eg_NoCount : PySem.W.nsIn K mainGlobals "NoCount" = some (some (.ref E_NoCount)))
    (ex_NoCount : PySem.W.excIn K E_NoCount [.type "ValueError", .type "Exception", .type "BaseException", .type "object"] "ValueError.__new__" = true)
    (ek_NoCount : PySem.W.keepIn K (.ref E_NoCount) = true)
    (eb_NoCount : PySem.W.subIn K (.ref E_NoCount) (.type "BaseException") = some true)
    (et_NoCount : PySem.W.typeIn K (.ref E_NoCount) = some (.type "type"))
    (eg_NoJobs : PySem.W.nsIn K mainGlobals "NoJobs" = some (some (.ref E_NoJobs)))
    (ex_NoJobs : PySem.W.excIn K E_NoJobs [.type "ValueError", .type "Exception", .type "BaseException", .type "object"] "ValueError.__new__" = true)
    (ek_NoJobs : PySem.W.keepIn K (.ref E_NoJobs) = true)
    (eb_NoJobs : PySem.W.subIn K (.ref E_NoJobs) (.type "BaseException") = some true)
    (et_NoJobs : PySem.W.typeIn K (.ref E_NoJobs) = some (.type "type"))
    (eg_TooMany : PySem.W.nsIn K mainGlobals "TooMany" = some (some (.ref E_TooMany)))
    (ex_TooMany : PySem.W.excIn K E_TooMany [.type "ValueError", .type "Exception", .type "BaseException", .type "object"] "ValueError.__new__" = true)
    (ek_TooMany : PySem.W.keepIn K (.ref E_TooMany) = true)
    (eb_TooMany : PySem.W.subIn K (.ref E_TooMany) (.type "BaseException") = some true)
    (et_TooMany : PySem.W.typeIn K (.ref E_TooMany) = some (.type "type"))
    (eg_NoPlan : PySem.W.nsIn K mainGlobals "NoPlan" = some (some (.ref E_NoPlan)))
    (ex_NoPlan : PySem.W.excIn K E_NoPlan [.type "ValueError", .type "Exception", .type "BaseException", .type "object"] "ValueError.__new__" = true)
    (ek_NoPlan : PySem.W.keepIn K (.ref E_NoPlan) = true)
    (eb_NoPlan : PySem.W.subIn K (.ref E_NoPlan) (.type "BaseException") = some true)
    (et_NoPlan : PySem.W.typeIn K (.ref E_NoPlan) = some (.type "type"))
    (eg_NoDeed : PySem.W.nsIn K mainGlobals "NoDeed" = some (some (.ref E_NoDeed)))
    (ex_NoDeed : PySem.W.excIn K E_NoDeed [.type "ValueError", .type "Exception", .type "BaseException", .type "object"] "ValueError.__new__" = true)
    (ek_NoDeed : PySem.W.keepIn K (.ref E_NoDeed) = true)
    (eb_NoDeed : PySem.W.subIn K (.ref E_NoDeed) (.type "BaseException") = some true)
    (et_NoDeed : PySem.W.typeIn K (.ref E_NoDeed) = some (.type "type"))
    (eg_WorkError : PySem.W.nsIn K mainGlobals "WorkError" = some (some (.ref E_WorkError)))
    (ex_WorkError : PySem.W.excIn K E_WorkError [.type "ValueError", .type "Exception", .type "BaseException", .type "object"] "ValueError.__new__" = true)
    (ek_WorkError : PySem.W.keepIn K (.ref E_WorkError) = true)
    (eb_WorkError : PySem.W.subIn K (.ref E_WorkError) (.type "BaseException") = some true)
    (et_WorkError : PySem.W.typeIn K (.ref E_WorkError) = some (.type "type"))
    (g_SIZES : PySem.W.nsIn K mainGlobals "SIZES" = some (some (.ref D_SIZES)))
    (l_SIZES : K.lookup D_SIZES = some ⟨.type "dict", none, .dict esS nS, #[]⟩)
    (y_SIZES : PySem.W.KeysLit w.params esS.toList)
    (w_SIZES : (D_SIZES == sysModules) = false)
    (z_SIZES_add : PySem.W.nsIn K D_SIZES "add" = some (some (.int 6 tkS_add)))
    (z_SIZES_drop : PySem.W.nsIn K D_SIZES "drop" = some (some (.int 2 tkS_drop)))
    (z_SIZES_rank : PySem.W.nsIn K D_SIZES "rank" = some (some (.int 3 tkS_rank)))
    (z_SIZES_frame : PySem.W.nsIn K D_SIZES "frame" = some (some (.int 1 tkS_frame)))
    (z_SIZES_go : PySem.W.nsIn K D_SIZES "go" = some none)
    (hcn : PySem.W.specialIn K (.builtin "object.__class__") "__get__" = some (some (.builtin "getset_descriptor.__get__")))
    (hct : PySem.W.takesIn K (.builtin "object.__class__") = some true)
    (wdc : PySem.W.hasDictIn K E_WorkError = true)
    (hg_NoBoard : PySem.W.findIn K (.ref E_NoBoard) "__getattribute__" = some (some (.builtin "BaseException.__getattribute__")))
    (hk_NoBoard : PySem.W.findIn K (.ref E_NoBoard) "__getattr__" = some none)
    (hd_NoBoard : PySem.W.hasDictIn K E_NoBoard = true)
    (ha_NoBoard : PySem.W.findIn K (.ref E_NoBoard) "__class__" = some (some (.builtin "object.__class__")))
    (hm_NoBoard : PySem.W.mroIn K E_NoBoard (.type "object") = some true)
    (sw_NoBoard : PySem.W.subIn K (.ref E_NoBoard) (.ref E_WorkError) = some true)
    (kq_NoBoard_NoBoard : PySem.W.kitOne K (.ref E_NoBoard) (.ref E_NoBoard) = some true)
    (kq_NoBoard_NoJob : PySem.W.kitOne K (.ref E_NoBoard) (.ref E_NoJob) = some false)
    (kq_NoBoard_NoNumber : PySem.W.kitOne K (.ref E_NoBoard) (.ref E_NoNumber) = some false)
    (kq_NoBoard_Over : PySem.W.kitOne K (.ref E_NoBoard) (.ref E_Over) = some false)
    (kq_NoBoard_Full : PySem.W.kitOne K (.ref E_NoBoard) (.ref E_Full) = some false)
    (kq_NoBoard_NoCount : PySem.W.kitOne K (.ref E_NoBoard) (.ref E_NoCount) = some false)
    (kq_NoBoard_NoJobs : PySem.W.kitOne K (.ref E_NoBoard) (.ref E_NoJobs) = some false)
    (kq_NoBoard_TooMany : PySem.W.kitOne K (.ref E_NoBoard) (.ref E_TooMany) = some false)
    (kq_NoBoard_NoPlan : PySem.W.kitOne K (.ref E_NoBoard) (.ref E_NoPlan) = some false)
    (kq_NoBoard_NoDeed : PySem.W.kitOne K (.ref E_NoBoard) (.ref E_NoDeed) = some false)
    (kq_NoBoard_V : PySem.W.kitOne K (.ref E_NoBoard) (.type "ValueError") = some true)
    (hg_NoJob : PySem.W.findIn K (.ref E_NoJob) "__getattribute__" = some (some (.builtin "BaseException.__getattribute__")))
    (hk_NoJob : PySem.W.findIn K (.ref E_NoJob) "__getattr__" = some none)
    (hd_NoJob : PySem.W.hasDictIn K E_NoJob = true)
    (ha_NoJob : PySem.W.findIn K (.ref E_NoJob) "__class__" = some (some (.builtin "object.__class__")))
    (hm_NoJob : PySem.W.mroIn K E_NoJob (.type "object") = some true)
    (sw_NoJob : PySem.W.subIn K (.ref E_NoJob) (.ref E_WorkError) = some true)
    (kq_NoJob_NoBoard : PySem.W.kitOne K (.ref E_NoJob) (.ref E_NoBoard) = some false)
    (kq_NoJob_NoJob : PySem.W.kitOne K (.ref E_NoJob) (.ref E_NoJob) = some true)
    (kq_NoJob_NoNumber : PySem.W.kitOne K (.ref E_NoJob) (.ref E_NoNumber) = some false)
    (kq_NoJob_Over : PySem.W.kitOne K (.ref E_NoJob) (.ref E_Over) = some false)
    (kq_NoJob_Full : PySem.W.kitOne K (.ref E_NoJob) (.ref E_Full) = some false)
    (kq_NoJob_NoCount : PySem.W.kitOne K (.ref E_NoJob) (.ref E_NoCount) = some false)
    (kq_NoJob_NoJobs : PySem.W.kitOne K (.ref E_NoJob) (.ref E_NoJobs) = some false)
    (kq_NoJob_TooMany : PySem.W.kitOne K (.ref E_NoJob) (.ref E_TooMany) = some false)
    (kq_NoJob_NoPlan : PySem.W.kitOne K (.ref E_NoJob) (.ref E_NoPlan) = some false)
    (kq_NoJob_NoDeed : PySem.W.kitOne K (.ref E_NoJob) (.ref E_NoDeed) = some false)
    (kq_NoJob_V : PySem.W.kitOne K (.ref E_NoJob) (.type "ValueError") = some true)
    (hg_NoNumber : PySem.W.findIn K (.ref E_NoNumber) "__getattribute__" = some (some (.builtin "BaseException.__getattribute__")))
    (hk_NoNumber : PySem.W.findIn K (.ref E_NoNumber) "__getattr__" = some none)
    (hd_NoNumber : PySem.W.hasDictIn K E_NoNumber = true)
    (ha_NoNumber : PySem.W.findIn K (.ref E_NoNumber) "__class__" = some (some (.builtin "object.__class__")))
    (hm_NoNumber : PySem.W.mroIn K E_NoNumber (.type "object") = some true)
    (sw_NoNumber : PySem.W.subIn K (.ref E_NoNumber) (.ref E_WorkError) = some true)
    (kq_NoNumber_NoBoard : PySem.W.kitOne K (.ref E_NoNumber) (.ref E_NoBoard) = some false)
    (kq_NoNumber_NoJob : PySem.W.kitOne K (.ref E_NoNumber) (.ref E_NoJob) = some false)
    (kq_NoNumber_NoNumber : PySem.W.kitOne K (.ref E_NoNumber) (.ref E_NoNumber) = some true)
    (kq_NoNumber_Over : PySem.W.kitOne K (.ref E_NoNumber) (.ref E_Over) = some false)
    (kq_NoNumber_Full : PySem.W.kitOne K (.ref E_NoNumber) (.ref E_Full) = some false)
    (kq_NoNumber_NoCount : PySem.W.kitOne K (.ref E_NoNumber) (.ref E_NoCount) = some false)
    (kq_NoNumber_NoJobs : PySem.W.kitOne K (.ref E_NoNumber) (.ref E_NoJobs) = some false)
    (kq_NoNumber_TooMany : PySem.W.kitOne K (.ref E_NoNumber) (.ref E_TooMany) = some false)
    (kq_NoNumber_NoPlan : PySem.W.kitOne K (.ref E_NoNumber) (.ref E_NoPlan) = some false)
    (kq_NoNumber_NoDeed : PySem.W.kitOne K (.ref E_NoNumber) (.ref E_NoDeed) = some false)
    (kq_NoNumber_V : PySem.W.kitOne K (.ref E_NoNumber) (.type "ValueError") = some true)
    (hg_Over : PySem.W.findIn K (.ref E_Over) "__getattribute__" = some (some (.builtin "BaseException.__getattribute__")))
    (hk_Over : PySem.W.findIn K (.ref E_Over) "__getattr__" = some none)
    (hd_Over : PySem.W.hasDictIn K E_Over = true)
    (ha_Over : PySem.W.findIn K (.ref E_Over) "__class__" = some (some (.builtin "object.__class__")))
    (hm_Over : PySem.W.mroIn K E_Over (.type "object") = some true)
    (sw_Over : PySem.W.subIn K (.ref E_Over) (.ref E_WorkError) = some true)
    (kq_Over_NoBoard : PySem.W.kitOne K (.ref E_Over) (.ref E_NoBoard) = some false)
    (kq_Over_NoJob : PySem.W.kitOne K (.ref E_Over) (.ref E_NoJob) = some false)
    (kq_Over_NoNumber : PySem.W.kitOne K (.ref E_Over) (.ref E_NoNumber) = some false)
    (kq_Over_Over : PySem.W.kitOne K (.ref E_Over) (.ref E_Over) = some true)
    (kq_Over_Full : PySem.W.kitOne K (.ref E_Over) (.ref E_Full) = some false)
    (kq_Over_NoCount : PySem.W.kitOne K (.ref E_Over) (.ref E_NoCount) = some false)
    (kq_Over_NoJobs : PySem.W.kitOne K (.ref E_Over) (.ref E_NoJobs) = some false)
    (kq_Over_TooMany : PySem.W.kitOne K (.ref E_Over) (.ref E_TooMany) = some false)
    (kq_Over_NoPlan : PySem.W.kitOne K (.ref E_Over) (.ref E_NoPlan) = some false)
    (kq_Over_NoDeed : PySem.W.kitOne K (.ref E_Over) (.ref E_NoDeed) = some false)
    (kq_Over_V : PySem.W.kitOne K (.ref E_Over) (.type "ValueError") = some true)
    (hg_Full : PySem.W.findIn K (.ref E_Full) "__getattribute__" = some (some (.builtin "BaseException.__getattribute__")))
    (hk_Full : PySem.W.findIn K (.ref E_Full) "__getattr__" = some none)
    (hd_Full : PySem.W.hasDictIn K E_Full = true)
    (ha_Full : PySem.W.findIn K (.ref E_Full) "__class__" = some (some (.builtin "object.__class__")))
    (hm_Full : PySem.W.mroIn K E_Full (.type "object") = some true)
    (sw_Full : PySem.W.subIn K (.ref E_Full) (.ref E_WorkError) = some true)
    (kq_Full_NoBoard : PySem.W.kitOne K (.ref E_Full) (.ref E_NoBoard) = some false)
    (kq_Full_NoJob : PySem.W.kitOne K (.ref E_Full) (.ref E_NoJob) = some false)
    (kq_Full_NoNumber : PySem.W.kitOne K (.ref E_Full) (.ref E_NoNumber) = some false)
    (kq_Full_Over : PySem.W.kitOne K (.ref E_Full) (.ref E_Over) = some false)
    (kq_Full_Full : PySem.W.kitOne K (.ref E_Full) (.ref E_Full) = some true)
    (kq_Full_NoCount : PySem.W.kitOne K (.ref E_Full) (.ref E_NoCount) = some false)
    (kq_Full_NoJobs : PySem.W.kitOne K (.ref E_Full) (.ref E_NoJobs) = some false)
    (kq_Full_TooMany : PySem.W.kitOne K (.ref E_Full) (.ref E_TooMany) = some false)
    (kq_Full_NoPlan : PySem.W.kitOne K (.ref E_Full) (.ref E_NoPlan) = some false)
    (kq_Full_NoDeed : PySem.W.kitOne K (.ref E_Full) (.ref E_NoDeed) = some false)
    (kq_Full_V : PySem.W.kitOne K (.ref E_Full) (.type "ValueError") = some true)
    (hg_NoDeed : PySem.W.findIn K (.ref E_NoDeed) "__getattribute__" = some (some (.builtin "BaseException.__getattribute__")))
    (hk_NoDeed : PySem.W.findIn K (.ref E_NoDeed) "__getattr__" = some none)
    (hd_NoDeed : PySem.W.hasDictIn K E_NoDeed = true)
    (ha_NoDeed : PySem.W.findIn K (.ref E_NoDeed) "__class__" = some (some (.builtin "object.__class__")))
    (hm_NoDeed : PySem.W.mroIn K E_NoDeed (.type "object") = some true)
    (sw_NoDeed : PySem.W.subIn K (.ref E_NoDeed) (.ref E_WorkError) = some true)
    (kq_NoDeed_NoBoard : PySem.W.kitOne K (.ref E_NoDeed) (.ref E_NoBoard) = some false)
    (kq_NoDeed_NoJob : PySem.W.kitOne K (.ref E_NoDeed) (.ref E_NoJob) = some false)
    (kq_NoDeed_NoNumber : PySem.W.kitOne K (.ref E_NoDeed) (.ref E_NoNumber) = some false)
    (kq_NoDeed_Over : PySem.W.kitOne K (.ref E_NoDeed) (.ref E_Over) = some false)
    (kq_NoDeed_Full : PySem.W.kitOne K (.ref E_NoDeed) (.ref E_Full) = some false)
    (kq_NoDeed_NoCount : PySem.W.kitOne K (.ref E_NoDeed) (.ref E_NoCount) = some false)
    (kq_NoDeed_NoJobs : PySem.W.kitOne K (.ref E_NoDeed) (.ref E_NoJobs) = some false)
    (kq_NoDeed_TooMany : PySem.W.kitOne K (.ref E_NoDeed) (.ref E_TooMany) = some false)
    (kq_NoDeed_NoPlan : PySem.W.kitOne K (.ref E_NoDeed) (.ref E_NoPlan) = some false)
    (kq_NoDeed_NoDeed : PySem.W.kitOne K (.ref E_NoDeed) (.ref E_NoDeed) = some true)
    (kq_NoDeed_V : PySem.W.kitOne K (.ref E_NoDeed) (.type "ValueError") = some true) :
    ∃ fd : FuncData, (∀ (s : Shared) (v : Value), BindsTo s fd ⟨[v], []⟩ [("_law_script", v)]) ∧ ∀ base : Heap, K.In base → base.Ns mainGlobals mg → FnOk l.prog w K mg base (L2.CX l.prog w) 11 fa fd ["_law_script"] (spL K).sp := by
  have e := hfa.symm.trans (PySem.W.mg_of X G a_law)
  cases e
  have F_is_whole := fun_mk (st := s_is_whole) l_is_whole c_is_whole k_is_whole
  have b_is_whole := F_is_whole.binds (ps := ["thing", "low", "most"]) fun _ _ _ _ _ _ us hl => match us, hl with | [_, _, _], _ => rfl
  have F_are_parts := fun_mk (st := s_are_parts) l_are_parts c_are_parts k_are_parts
  have b_are_parts := F_are_parts.binds (ps := ["thing", "budget"]) fun _ _ _ _ _ _ us hl => match us, hl with | [_, _], _ => rfl
  have F_need_rank := fun_mk (st := s_need_rank) l_need_rank c_need_rank k_need_rank
  have b_need_rank := F_need_rank.binds (ps := ["rank"]) fun _ _ _ _ _ _ us hl => match us, hl with | [_], _ => rfl
  have F_need_job := fun_mk (st := s_need_job) l_need_job c_need_job k_need_job
  have b_need_job := F_need_job.binds (ps := ["budget", "rank", "term", "start", "parts"]) fun _ _ _ _ _ _ us hl => match us, hl with | [_, _, _, _, _], _ => rfl
  have F_Job_init := fun_mk (st := s_Job_init) l_Job_init c_Job_init k_Job_init
  have b_Job_init := F_Job_init.binds (ps := ["self", "number", "rank", "term", "start", "after", "parts"]) fun _ _ _ _ _ _ us hl => match us, hl with | [_, _, _, _, _, _, _], _ => rfl
  have F_Job_is_open := fun_mk (st := s_Job_is_open) l_Job_is_open c_Job_is_open k_Job_is_open
  have b_Job_is_open := F_Job_is_open.binds (ps := ["self"]) fun _ _ _ _ _ _ us hl => match us, hl with | [_], _ => rfl
  have F_Job_is_late := fun_mk (st := s_Job_is_late) l_Job_is_late c_Job_is_late k_Job_is_late
  have b_Job_is_late := F_Job_is_late.binds (ps := ["self", "now"]) fun _ _ _ _ _ _ us hl => match us, hl with | [_, _], _ => rfl
  have F_Job_raised := fun_mk (st := s_Job_raised) l_Job_raised c_Job_raised k_Job_raised
  have b_Job_raised := F_Job_raised.binds (ps := ["self", "now", "patience"]) fun _ _ _ _ _ _ us hl => match us, hl with | [_, _, _], _ => rfl
  have F_Job_key := fun_mk (st := s_Job_key) l_Job_key c_Job_key k_Job_key
  have b_Job_key := F_Job_key.binds (ps := ["self", "now", "patience"]) fun _ _ _ _ _ _ us hl => match us, hl with | [_, _, _], _ => rfl
  have F_Board_init := fun_mk (st := s_Board_init) l_Board_init c_Board_init k_Board_init
  have b_Board_init := F_Board_init.binds (ps := ["self", "budget", "patience"]) fun _ _ _ _ _ _ us hl => match us, hl with | [_, _, _], _ => rfl
  have F_Board_open_jobs := fun_mk (st := s_Board_open_jobs) l_Board_open_jobs c_Board_open_jobs k_Board_open_jobs
  have b_Board_open_jobs := F_Board_open_jobs.binds (ps := ["self"]) fun _ _ _ _ _ _ us hl => match us, hl with | [_], _ => rfl
  have F_Board_need := fun_mk (st := s_Board_need) l_Board_need c_Board_need k_Board_need
  have b_Board_need := F_Board_need.binds (ps := ["self", "number"]) fun _ _ _ _ _ _ us hl => match us, hl with | [_, _], _ => rfl
  have F_Board_is_ready := fun_mk (st := s_Board_is_ready) l_Board_is_ready c_Board_is_ready k_Board_is_ready
  have b_Board_is_ready := F_Board_is_ready.binds (ps := ["self", "job"]) fun _ _ _ _ _ _ us hl => match us, hl with | [_, _], _ => rfl
  have F_Board_in_order := fun_mk (st := s_Board_in_order) l_Board_in_order c_Board_in_order k_Board_in_order
  have b_Board_in_order := F_Board_in_order.binds (ps := ["self"]) fun _ _ _ _ _ _ us hl => match us, hl with | [_], _ => rfl
  have F_Board_order := fun_mk (st := s_Board_order) l_Board_order c_Board_order k_Board_order
  have b_Board_order := F_Board_order.binds (ps := ["self"]) fun _ _ _ _ _ _ us hl => match us, hl with | [_], _ => rfl
  have F_Board_frame := fun_mk (st := s_Board_frame) l_Board_frame c_Board_frame k_Board_frame
  have b_Board_frame := F_Board_frame.binds (ps := ["self"]) fun _ _ _ _ _ _ us hl => match us, hl with | [_], _ => rfl
  have F_Board_add := fun_mk (st := s_Board_add) l_Board_add c_Board_add k_Board_add
  have b_Board_add := F_Board_add.binds (ps := ["self", "rank", "term", "start", "after", "parts"]) fun _ _ _ _ _ _ us hl => match us, hl with | [_, _, _, _, _, _], _ => rfl
  have F_Board_waited := fun_mk (st := s_Board_waited) l_Board_waited c_Board_waited k_Board_waited
  have b_Board_waited := F_Board_waited.binds (ps := ["self", "number"]) fun _ _ _ _ _ _ us hl => match us, hl with | [_, _], _ => rfl
  have F_Board_used := fun_mk (st := s_Board_used) l_Board_used c_Board_used k_Board_used
  have b_Board_used := F_Board_used.binds (ps := ["self"]) fun _ _ _ _ _ _ us hl => match us, hl with | [_], _ => rfl
  have F_Board_now := fun_mk (st := s_Board_now) l_Board_now c_Board_now k_Board_now
  have b_Board_now := F_Board_now.binds (ps := ["self"]) fun _ _ _ _ _ _ us hl => match us, hl with | [_], _ => rfl
  have F_Board_is_late := fun_mk (st := s_Board_is_late) l_Board_is_late c_Board_is_late k_Board_is_late
  have b_Board_is_late := F_Board_is_late.binds (ps := ["self", "number"]) fun _ _ _ _ _ _ us hl => match us, hl with | [_, _], _ => rfl
  have F_Board_need_open := fun_mk (st := s_Board_need_open) l_Board_need_open c_Board_need_open k_Board_need_open
  have b_Board_need_open := F_Board_need_open.binds (ps := ["self", "number"]) fun _ _ _ _ _ _ us hl => match us, hl with | [_, _], _ => rfl
  have F_Board_set_rank := fun_mk (st := s_Board_set_rank) l_Board_set_rank c_Board_set_rank k_Board_set_rank
  have b_Board_set_rank := F_Board_set_rank.binds (ps := ["self", "number", "rank"]) fun _ _ _ _ _ _ us hl => match us, hl with | [_, _, _], _ => rfl
  have F_Board_saved := fun_mk (st := s_Board_saved) l_Board_saved c_Board_saved k_Board_saved
  have b_Board_saved := F_Board_saved.binds (ps := ["self"]) fun _ _ _ _ _ _ us hl => match us, hl with | [_], _ => rfl
  have F_woken := fun_mk (st := s_woken) l_woken c_woken k_woken
  have b_woken := F_woken.binds (ps := ["thing"]) fun _ _ _ _ _ _ us hl => match us, hl with | [_], _ => rfl
  have F_Board_ahead := fun_mk (st := s_Board_ahead) l_Board_ahead c_Board_ahead k_Board_ahead
  have b_Board_ahead := F_Board_ahead.binds (ps := ["self", "many"]) fun _ _ _ _ _ _ us hl => match us, hl with | [_, _], _ => rfl
  have F_Board_drop := fun_mk (st := s_Board_drop) l_Board_drop c_Board_drop k_Board_drop
  have b_Board_drop := F_Board_drop.binds (ps := ["self", "number"]) fun _ _ _ _ _ _ us hl => match us, hl with | [_, _], _ => rfl
  have F_l_cell_at := fun_mk (st := s_l_cell_at) l_l_cell_at c_l_cell_at k_l_cell_at
  have b_l_cell_at := F_l_cell_at.binds (ps := ["_law_script", "_law_k"]) fun _ _ _ _ _ _ us hl => match us, hl with | [_, _], _ => rfl
  have F_l_mixed := fun_mk (st := s_l_mixed) l_l_mixed c_l_mixed k_l_mixed
  have b_l_mixed := F_l_mixed.binds (ps := ["_law_script", "_law_k", "_law_many"]) fun _ _ _ _ _ _ us hl => match us, hl with | [_, _, _], _ => rfl
  have F_l_draw := fun_mk (st := s_l_draw) l_l_draw c_l_draw k_l_draw
  have b_l_draw := F_l_draw.binds (ps := ["_law_script", "_law_town", "_law_many"]) fun _ _ _ _ _ _ us hl => match us, hl with | [_, _, _], _ => rfl
  have F_l_pick := fun_mk (st := s_l_pick) l_l_pick c_l_pick k_l_pick
  have b_l_pick := F_l_pick.binds (ps := ["_law_script", "_law_town", "_law_some"]) fun _ _ _ _ _ _ us hl => match us, hl with | [_, _, _], _ => rfl
  have F_l_which := fun_mk (st := s_l_which) l_l_which c_l_which k_l_which
  have b_l_which := F_l_which.binds (ps := ["_law_e"]) fun _ _ _ _ _ _ us hl => match us, hl with | [_], _ => rfl
  have F_is_deed := fun_mk (st := s_is_deed) l_is_deed c_is_deed k_is_deed
  have b_is_deed := F_is_deed.binds (ps := ["thing"]) fun _ _ _ _ _ _ us hl => match us, hl with | [_], _ => rfl
  have F_do_now := fun_mk (st := s_do_now) l_do_now c_do_now k_do_now
  have b_do_now := F_do_now.binds (ps := ["board", "deed"]) fun _ _ _ _ _ _ us hl => match us, hl with | [_, _], _ => rfl
  have F_do := fun_mk (st := s_do) l_do c_do k_do
  have b_do := F_do.binds (ps := ["board", "deed"]) fun _ _ _ _ _ _ us hl => match us, hl with | [_, _], _ => rfl
  have F_l_sizes := fun_mk (st := s_l_sizes) l_l_sizes c_l_sizes k_l_sizes
  have b_l_sizes := F_l_sizes.binds (ps := ["_law_script", "_law_town"]) fun _ _ _ _ _ _ us hl => match us, hl with | [_, _], _ => rfl
  have F_l_job := fun_mk (st := s_l_job) l_l_job c_l_job k_l_job
  have b_l_job := F_l_job.binds (ps := ["_law_script", "_law_town", "_law_budget", "_law_many"]) fun _ _ _ _ _ _ us hl => match us, hl with | [_, _, _, _], _ => rfl
  have F_l_deed := fun_mk (st := s_l_deed) l_l_deed c_l_deed k_l_deed
  have b_l_deed := F_l_deed.binds (ps := ["_law_script", "_law_town", "_law_budget", "_law_many"]) fun _ _ _ _ _ _ us hl => match us, hl with | [_, _, _, _], _ => rfl
  have F_l_new := fun_mk (st := s_l_new) l_l_new c_l_new k_l_new
  have b_l_new := F_l_new.binds (ps := ["_law_budget", "_law_patience"]) fun _ _ _ _ _ _ us hl => match us, hl with | [_, _], _ => rfl
  have F_l_open := fun_mk (st := s_l_open) l_l_open c_l_open k_l_open
  have b_l_open := F_l_open.binds (ps := ["_law_job_here"]) fun _ _ _ _ _ _ us hl => match us, hl with | [_], _ => rfl
  have F_l_ready := fun_mk (st := s_l_ready) l_l_ready c_l_ready k_l_ready
  have b_l_ready := F_l_ready.binds (ps := ["_law_model", "_law_job_here"]) fun _ _ _ _ _ _ us hl => match us, hl with | [_, _], _ => rfl
  have F_l_raised := fun_mk (st := s_l_raised) l_l_raised c_l_raised k_l_raised
  have b_l_raised := F_l_raised.binds (ps := ["_law_model", "_law_job_here"]) fun _ _ _ _ _ _ us hl => match us, hl with | [_, _], _ => rfl
  have F_l_order := fun_mk (st := s_l_order) l_l_order c_l_order k_l_order
  have b_l_order := F_l_order.binds (ps := ["_law_model"]) fun _ _ _ _ _ _ us hl => match us, hl with | [_], _ => rfl
  have F_l_frame := fun_mk (st := s_l_frame) l_l_frame c_l_frame k_l_frame
  have b_l_frame := F_l_frame.binds (ps := ["_law_model"]) fun _ _ _ _ _ _ us hl => match us, hl with | [_], _ => rfl
  have F_l_add := fun_mk (st := s_l_add) l_l_add c_l_add k_l_add
  have b_l_add := F_l_add.binds (ps := ["_law_model", "_law_deed_here"]) fun _ _ _ _ _ _ us hl => match us, hl with | [_, _], _ => rfl
  have F_l_drop := fun_mk (st := s_l_drop) l_l_drop c_l_drop k_l_drop
  have b_l_drop := F_l_drop.binds (ps := ["_law_model", "_law_number"]) fun _ _ _ _ _ _ us hl => match us, hl with | [_, _], _ => rfl
  have F_l_own := fun_mk (st := s_l_own) l_l_own c_l_own k_l_own
  have b_l_own := F_l_own.binds (ps := ["_law_model", "_law_deed_here"]) fun _ _ _ _ _ _ us hl => match us, hl with | [_, _], _ => rfl
  have F_run := fun_mk (st := s_run) l_run c_run k_run
  have b_run := F_run.binds (ps := ["budget", "patience", "deeds"]) fun _ _ _ _ _ _ us hl => match us, hl with | [_, _, _], _ => rfl
  have F_l_asked := fun_mk (st := s_l_asked) l_l_asked c_l_asked k_l_asked
  have b_l_asked := F_l_asked.binds (ps := ["_law_what", "_law_one", "_law_other", "_law_third"]) fun _ _ _ _ _ _ us hl => match us, hl with | [_, _, _, _], _ => rfl
  have F_law := fun_mk (st := s_law) l_law c_law k_law
  have b_law := F_law.binds (ps := ["_law_script"]) fun _ _ _ _ _ _ us hl => match us, hl with | [_], _ => rfl
  have ki_NoBoard : kitRow K E_NoBoard [E_NoBoard, E_NoJob, E_NoNumber, E_Over, E_Full, E_NoCount, E_NoJobs, E_TooMany, E_NoPlan, E_NoDeed] = rowE .noBoard := by
    show [PySem.W.kitOne K (.ref E_NoBoard) (.ref E_NoBoard), PySem.W.kitOne K (.ref E_NoBoard) (.ref E_NoJob), PySem.W.kitOne K (.ref E_NoBoard) (.ref E_NoNumber), PySem.W.kitOne K (.ref E_NoBoard) (.ref E_Over), PySem.W.kitOne K (.ref E_NoBoard) (.ref E_Full), PySem.W.kitOne K (.ref E_NoBoard) (.ref E_NoCount), PySem.W.kitOne K (.ref E_NoBoard) (.ref E_NoJobs), PySem.W.kitOne K (.ref E_NoBoard) (.ref E_TooMany), PySem.W.kitOne K (.ref E_NoBoard) (.ref E_NoPlan), PySem.W.kitOne K (.ref E_NoBoard) (.ref E_NoDeed), PySem.W.kitOne K (.ref E_NoBoard) (.type "ValueError")] = [some true, some false, some false, some false, some false, some false, some false, some false, some false, some false, some true]
    rw [kq_NoBoard_NoBoard, kq_NoBoard_NoJob, kq_NoBoard_NoNumber, kq_NoBoard_Over, kq_NoBoard_Full, kq_NoBoard_NoCount, kq_NoBoard_NoJobs, kq_NoBoard_TooMany, kq_NoBoard_NoPlan, kq_NoBoard_NoDeed, kq_NoBoard_V]
  have ki_NoJob : kitRow K E_NoJob [E_NoBoard, E_NoJob, E_NoNumber, E_Over, E_Full, E_NoCount, E_NoJobs, E_TooMany, E_NoPlan, E_NoDeed] = rowE .noJob := by
    show [PySem.W.kitOne K (.ref E_NoJob) (.ref E_NoBoard), PySem.W.kitOne K (.ref E_NoJob) (.ref E_NoJob), PySem.W.kitOne K (.ref E_NoJob) (.ref E_NoNumber), PySem.W.kitOne K (.ref E_NoJob) (.ref E_Over), PySem.W.kitOne K (.ref E_NoJob) (.ref E_Full), PySem.W.kitOne K (.ref E_NoJob) (.ref E_NoCount), PySem.W.kitOne K (.ref E_NoJob) (.ref E_NoJobs), PySem.W.kitOne K (.ref E_NoJob) (.ref E_TooMany), PySem.W.kitOne K (.ref E_NoJob) (.ref E_NoPlan), PySem.W.kitOne K (.ref E_NoJob) (.ref E_NoDeed), PySem.W.kitOne K (.ref E_NoJob) (.type "ValueError")] = [some false, some true, some false, some false, some false, some false, some false, some false, some false, some false, some true]
    rw [kq_NoJob_NoBoard, kq_NoJob_NoJob, kq_NoJob_NoNumber, kq_NoJob_Over, kq_NoJob_Full, kq_NoJob_NoCount, kq_NoJob_NoJobs, kq_NoJob_TooMany, kq_NoJob_NoPlan, kq_NoJob_NoDeed, kq_NoJob_V]
  have ki_NoNumber : kitRow K E_NoNumber [E_NoBoard, E_NoJob, E_NoNumber, E_Over, E_Full, E_NoCount, E_NoJobs, E_TooMany, E_NoPlan, E_NoDeed] = rowE .noNum := by
    show [PySem.W.kitOne K (.ref E_NoNumber) (.ref E_NoBoard), PySem.W.kitOne K (.ref E_NoNumber) (.ref E_NoJob), PySem.W.kitOne K (.ref E_NoNumber) (.ref E_NoNumber), PySem.W.kitOne K (.ref E_NoNumber) (.ref E_Over), PySem.W.kitOne K (.ref E_NoNumber) (.ref E_Full), PySem.W.kitOne K (.ref E_NoNumber) (.ref E_NoCount), PySem.W.kitOne K (.ref E_NoNumber) (.ref E_NoJobs), PySem.W.kitOne K (.ref E_NoNumber) (.ref E_TooMany), PySem.W.kitOne K (.ref E_NoNumber) (.ref E_NoPlan), PySem.W.kitOne K (.ref E_NoNumber) (.ref E_NoDeed), PySem.W.kitOne K (.ref E_NoNumber) (.type "ValueError")] = [some false, some false, some true, some false, some false, some false, some false, some false, some false, some false, some true]
    rw [kq_NoNumber_NoBoard, kq_NoNumber_NoJob, kq_NoNumber_NoNumber, kq_NoNumber_Over, kq_NoNumber_Full, kq_NoNumber_NoCount, kq_NoNumber_NoJobs, kq_NoNumber_TooMany, kq_NoNumber_NoPlan, kq_NoNumber_NoDeed, kq_NoNumber_V]
  have ki_Over : kitRow K E_Over [E_NoBoard, E_NoJob, E_NoNumber, E_Over, E_Full, E_NoCount, E_NoJobs, E_TooMany, E_NoPlan, E_NoDeed] = rowE .over := by
    show [PySem.W.kitOne K (.ref E_Over) (.ref E_NoBoard), PySem.W.kitOne K (.ref E_Over) (.ref E_NoJob), PySem.W.kitOne K (.ref E_Over) (.ref E_NoNumber), PySem.W.kitOne K (.ref E_Over) (.ref E_Over), PySem.W.kitOne K (.ref E_Over) (.ref E_Full), PySem.W.kitOne K (.ref E_Over) (.ref E_NoCount), PySem.W.kitOne K (.ref E_Over) (.ref E_NoJobs), PySem.W.kitOne K (.ref E_Over) (.ref E_TooMany), PySem.W.kitOne K (.ref E_Over) (.ref E_NoPlan), PySem.W.kitOne K (.ref E_Over) (.ref E_NoDeed), PySem.W.kitOne K (.ref E_Over) (.type "ValueError")] = [some false, some false, some false, some true, some false, some false, some false, some false, some false, some false, some true]
    rw [kq_Over_NoBoard, kq_Over_NoJob, kq_Over_NoNumber, kq_Over_Over, kq_Over_Full, kq_Over_NoCount, kq_Over_NoJobs, kq_Over_TooMany, kq_Over_NoPlan, kq_Over_NoDeed, kq_Over_V]
  have ki_Full : kitRow K E_Full [E_NoBoard, E_NoJob, E_NoNumber, E_Over, E_Full, E_NoCount, E_NoJobs, E_TooMany, E_NoPlan, E_NoDeed] = rowE .full := by
    show [PySem.W.kitOne K (.ref E_Full) (.ref E_NoBoard), PySem.W.kitOne K (.ref E_Full) (.ref E_NoJob), PySem.W.kitOne K (.ref E_Full) (.ref E_NoNumber), PySem.W.kitOne K (.ref E_Full) (.ref E_Over), PySem.W.kitOne K (.ref E_Full) (.ref E_Full), PySem.W.kitOne K (.ref E_Full) (.ref E_NoCount), PySem.W.kitOne K (.ref E_Full) (.ref E_NoJobs), PySem.W.kitOne K (.ref E_Full) (.ref E_TooMany), PySem.W.kitOne K (.ref E_Full) (.ref E_NoPlan), PySem.W.kitOne K (.ref E_Full) (.ref E_NoDeed), PySem.W.kitOne K (.ref E_Full) (.type "ValueError")] = [some false, some false, some false, some false, some true, some false, some false, some false, some false, some false, some true]
    rw [kq_Full_NoBoard, kq_Full_NoJob, kq_Full_NoNumber, kq_Full_Over, kq_Full_Full, kq_Full_NoCount, kq_Full_NoJobs, kq_Full_TooMany, kq_Full_NoPlan, kq_Full_NoDeed, kq_Full_V]
  have ki_NoDeed : kitRow K E_NoDeed [E_NoBoard, E_NoJob, E_NoNumber, E_Over, E_Full, E_NoCount, E_NoJobs, E_TooMany, E_NoPlan, E_NoDeed] = rowE .noDeed := by
    show [PySem.W.kitOne K (.ref E_NoDeed) (.ref E_NoBoard), PySem.W.kitOne K (.ref E_NoDeed) (.ref E_NoJob), PySem.W.kitOne K (.ref E_NoDeed) (.ref E_NoNumber), PySem.W.kitOne K (.ref E_NoDeed) (.ref E_Over), PySem.W.kitOne K (.ref E_NoDeed) (.ref E_Full), PySem.W.kitOne K (.ref E_NoDeed) (.ref E_NoCount), PySem.W.kitOne K (.ref E_NoDeed) (.ref E_NoJobs), PySem.W.kitOne K (.ref E_NoDeed) (.ref E_TooMany), PySem.W.kitOne K (.ref E_NoDeed) (.ref E_NoPlan), PySem.W.kitOne K (.ref E_NoDeed) (.ref E_NoDeed), PySem.W.kitOne K (.ref E_NoDeed) (.type "ValueError")] = [some false, some false, some false, some false, some false, some false, some false, some false, some false, some true, some true]
    rw [kq_NoDeed_NoBoard, kq_NoDeed_NoJob, kq_NoDeed_NoNumber, kq_NoDeed_Over, kq_NoDeed_Full, kq_NoDeed_NoCount, kq_NoDeed_NoJobs, kq_NoDeed_TooMany, kq_NoDeed_NoPlan, kq_NoDeed_NoDeed, kq_NoDeed_V]
  let T : Tx K mg w := { c_Job := C_Job, cl_Job := ⟨pg_Job, hd_Job, po_Job, sa_Job⟩, m_Job := PySem.W.mg_of X G aC_Job, na_Job_number := n_Job_number, na_Job_rank := n_Job_rank, na_Job_term := n_Job_term, na_Job_start := n_Job_start, na_Job_after := n_Job_after, na_Job_parts := n_Job_parts, na_Job_at := n_Job_at, na_Job_idle := n_Job_idle, na_Job_end := n_Job_end, na_Job_gone := n_Job_gone, c_Board := C_Board, cl_Board := ⟨pg_Board, hd_Board, po_Board, sa_Board⟩, m_Board := PySem.W.mg_of X G aC_Board, na_Board_budget := n_Board_budget, na_Board_patience := n_Board_patience, na_Board_jobs := n_Board_jobs, na_Board_frames := n_Board_frames, na_Board_spent := n_Board_spent, a_is_whole := f_is_whole, fd_is_whole := _, F_is_whole := F_is_whole, b_is_whole := b_is_whole, m_is_whole := PySem.W.mg_of X G a_is_whole, a_are_parts := f_are_parts, fd_are_parts := _, F_are_parts := F_are_parts, b_are_parts := b_are_parts, m_are_parts := PySem.W.mg_of X G a_are_parts, a_need_rank := f_need_rank, fd_need_rank := _, F_need_rank := F_need_rank, b_need_rank := b_need_rank, m_need_rank := PySem.W.mg_of X G a_need_rank, a_need_job := f_need_job, fd_need_job := _, F_need_job := F_need_job, b_need_job := b_need_job, m_need_job := PySem.W.mg_of X G a_need_job, a_Job_init := f_Job_init, fd_Job_init := _, F_Job_init := F_Job_init, b_Job_init := b_Job_init, mk_Job := ⟨mk_Job, a_Job_init, i_Job_init, kc_Job⟩, a_Job_is_open := f_Job_is_open, fd_Job_is_open := _, F_Job_is_open := F_Job_is_open, b_Job_is_open := b_Job_is_open, M_Job_is_open := ⟨a_Job_is_open, i_Job_is_open, k_Job_is_open⟩, a_Job_is_late := f_Job_is_late, fd_Job_is_late := _, F_Job_is_late := F_Job_is_late, b_Job_is_late := b_Job_is_late, M_Job_is_late := ⟨a_Job_is_late, i_Job_is_late, k_Job_is_late⟩, a_Job_raised := f_Job_raised, fd_Job_raised := _, F_Job_raised := F_Job_raised, b_Job_raised := b_Job_raised, M_Job_raised := ⟨a_Job_raised, i_Job_raised, k_Job_raised⟩, a_Job_key := f_Job_key, fd_Job_key := _, F_Job_key := F_Job_key, b_Job_key := b_Job_key, M_Job_key := ⟨a_Job_key, i_Job_key, k_Job_key⟩, a_Board_init := f_Board_init, fd_Board_init := _, F_Board_init := F_Board_init, b_Board_init := b_Board_init, mk_Board := ⟨mk_Board, a_Board_init, i_Board_init, kc_Board⟩, a_Board_open_jobs := f_Board_open_jobs, fd_Board_open_jobs := _, F_Board_open_jobs := F_Board_open_jobs, b_Board_open_jobs := b_Board_open_jobs, M_Board_open_jobs := ⟨a_Board_open_jobs, i_Board_open_jobs, k_Board_open_jobs⟩, a_Board_need := f_Board_need, fd_Board_need := _, F_Board_need := F_Board_need, b_Board_need := b_Board_need, M_Board_need := ⟨a_Board_need, i_Board_need, k_Board_need⟩, a_Board_is_ready := f_Board_is_ready, fd_Board_is_ready := _, F_Board_is_ready := F_Board_is_ready, b_Board_is_ready := b_Board_is_ready, M_Board_is_ready := ⟨a_Board_is_ready, i_Board_is_ready, k_Board_is_ready⟩, a_Board_in_order := f_Board_in_order, fd_Board_in_order := _, F_Board_in_order := F_Board_in_order, b_Board_in_order := b_Board_in_order, M_Board_in_order := ⟨a_Board_in_order, i_Board_in_order, k_Board_in_order⟩, a_Board_order := f_Board_order, fd_Board_order := _, F_Board_order := F_Board_order, b_Board_order := b_Board_order, M_Board_order := ⟨a_Board_order, i_Board_order, k_Board_order⟩, a_Board_frame := f_Board_frame, fd_Board_frame := _, F_Board_frame := F_Board_frame, b_Board_frame := b_Board_frame, M_Board_frame := ⟨a_Board_frame, i_Board_frame, k_Board_frame⟩, a_Board_add := f_Board_add, fd_Board_add := _, F_Board_add := F_Board_add, b_Board_add := b_Board_add, M_Board_add := ⟨a_Board_add, i_Board_add, k_Board_add⟩, a_Board_waited := f_Board_waited, fd_Board_waited := _, F_Board_waited := F_Board_waited, b_Board_waited := b_Board_waited, M_Board_waited := ⟨a_Board_waited, i_Board_waited, k_Board_waited⟩, a_Board_used := f_Board_used, fd_Board_used := _, F_Board_used := F_Board_used, b_Board_used := b_Board_used, M_Board_used := ⟨a_Board_used, i_Board_used, k_Board_used⟩, a_Board_now := f_Board_now, fd_Board_now := _, F_Board_now := F_Board_now, b_Board_now := b_Board_now, M_Board_now := ⟨a_Board_now, i_Board_now, k_Board_now⟩, a_Board_is_late := f_Board_is_late, fd_Board_is_late := _, F_Board_is_late := F_Board_is_late, b_Board_is_late := b_Board_is_late, M_Board_is_late := ⟨a_Board_is_late, i_Board_is_late, k_Board_is_late⟩, a_Board_need_open := f_Board_need_open, fd_Board_need_open := _, F_Board_need_open := F_Board_need_open, b_Board_need_open := b_Board_need_open, M_Board_need_open := ⟨a_Board_need_open, i_Board_need_open, k_Board_need_open⟩, a_Board_set_rank := f_Board_set_rank, fd_Board_set_rank := _, F_Board_set_rank := F_Board_set_rank, b_Board_set_rank := b_Board_set_rank, M_Board_set_rank := ⟨a_Board_set_rank, i_Board_set_rank, k_Board_set_rank⟩, a_Board_saved := f_Board_saved, fd_Board_saved := _, F_Board_saved := F_Board_saved, b_Board_saved := b_Board_saved, M_Board_saved := ⟨a_Board_saved, i_Board_saved, k_Board_saved⟩, a_woken := f_woken, fd_woken := _, F_woken := F_woken, b_woken := b_woken, m_woken := PySem.W.mg_of X G a_woken, a_Board_ahead := f_Board_ahead, fd_Board_ahead := _, F_Board_ahead := F_Board_ahead, b_Board_ahead := b_Board_ahead, M_Board_ahead := ⟨a_Board_ahead, i_Board_ahead, k_Board_ahead⟩, a_Board_drop := f_Board_drop, fd_Board_drop := _, F_Board_drop := F_Board_drop, b_Board_drop := b_Board_drop, M_Board_drop := ⟨a_Board_drop, i_Board_drop, k_Board_drop⟩, a_l_cell_at := f_l_cell_at, fd_l_cell_at := _, F_l_cell_at := F_l_cell_at, b_l_cell_at := b_l_cell_at, m_l_cell_at := PySem.W.mg_of X G a_l_cell_at, a_l_mixed := f_l_mixed, fd_l_mixed := _, F_l_mixed := F_l_mixed, b_l_mixed := b_l_mixed, m_l_mixed := PySem.W.mg_of X G a_l_mixed, a_l_draw := f_l_draw, fd_l_draw := _, F_l_draw := F_l_draw, b_l_draw := b_l_draw, m_l_draw := PySem.W.mg_of X G a_l_draw, a_l_pick := f_l_pick, fd_l_pick := _, F_l_pick := F_l_pick, b_l_pick := b_l_pick, m_l_pick := PySem.W.mg_of X G a_l_pick, a_l_which := f_l_which, fd_l_which := _, F_l_which := F_l_which, b_l_which := b_l_which, m_l_which := PySem.W.mg_of X G a_l_which, a_is_deed := f_is_deed, fd_is_deed := _, F_is_deed := F_is_deed, b_is_deed := b_is_deed, m_is_deed := PySem.W.mg_of X G a_is_deed, a_do_now := f_do_now, fd_do_now := _, F_do_now := F_do_now, b_do_now := b_do_now, m_do_now := PySem.W.mg_of X G a_do_now, a_do := f_do, fd_do := _, F_do := F_do, b_do := b_do, m_do := PySem.W.mg_of X G a_do, a_l_sizes := f_l_sizes, fd_l_sizes := _, F_l_sizes := F_l_sizes, b_l_sizes := b_l_sizes, m_l_sizes := PySem.W.mg_of X G a_l_sizes, a_l_job := f_l_job, fd_l_job := _, F_l_job := F_l_job, b_l_job := b_l_job, m_l_job := PySem.W.mg_of X G a_l_job, a_l_deed := f_l_deed, fd_l_deed := _, F_l_deed := F_l_deed, b_l_deed := b_l_deed, m_l_deed := PySem.W.mg_of X G a_l_deed, a_l_new := f_l_new, fd_l_new := _, F_l_new := F_l_new, b_l_new := b_l_new, m_l_new := PySem.W.mg_of X G a_l_new, a_l_open := f_l_open, fd_l_open := _, F_l_open := F_l_open, b_l_open := b_l_open, m_l_open := PySem.W.mg_of X G a_l_open, a_l_ready := f_l_ready, fd_l_ready := _, F_l_ready := F_l_ready, b_l_ready := b_l_ready, m_l_ready := PySem.W.mg_of X G a_l_ready, a_l_raised := f_l_raised, fd_l_raised := _, F_l_raised := F_l_raised, b_l_raised := b_l_raised, m_l_raised := PySem.W.mg_of X G a_l_raised, a_l_order := f_l_order, fd_l_order := _, F_l_order := F_l_order, b_l_order := b_l_order, m_l_order := PySem.W.mg_of X G a_l_order, a_l_frame := f_l_frame, fd_l_frame := _, F_l_frame := F_l_frame, b_l_frame := b_l_frame, m_l_frame := PySem.W.mg_of X G a_l_frame, a_l_add := f_l_add, fd_l_add := _, F_l_add := F_l_add, b_l_add := b_l_add, m_l_add := PySem.W.mg_of X G a_l_add, a_l_drop := f_l_drop, fd_l_drop := _, F_l_drop := F_l_drop, b_l_drop := b_l_drop, m_l_drop := PySem.W.mg_of X G a_l_drop, a_l_own := f_l_own, fd_l_own := _, F_l_own := F_l_own, b_l_own := b_l_own, m_l_own := PySem.W.mg_of X G a_l_own, a_run := f_run, fd_run := _, F_run := F_run, b_run := b_run, m_run := PySem.W.mg_of X G a_run, a_l_asked := f_l_asked, fd_l_asked := _, F_l_asked := F_l_asked, b_l_asked := b_l_asked, m_l_asked := PySem.W.mg_of X G a_l_asked, a_law := fa, fd_law := _, F_law := F_law, b_law := b_law, m_law := PySem.W.mg_of X G a_law, n_isinstance := PySem.W.mg_none_of X G z_isinstance, n_int := PySem.W.mg_none_of X G z_int, n_bool := PySem.W.mg_none_of X G z_bool, n_tuple := PySem.W.mg_none_of X G z_tuple, n_len := PySem.W.mg_none_of X G z_len, n_all := PySem.W.mg_none_of X G z_all, n_sorted := PySem.W.mg_none_of X G z_sorted, n_list := PySem.W.mg_none_of X G z_list, n_enumerate := PySem.W.mg_none_of X G z_enumerate, n_range := PySem.W.mg_none_of X G z_range, n_any := PySem.W.mg_none_of X G z_any, n_ValueError := PySem.W.mg_none_of X G z_ValueError, n_str := PySem.W.mg_none_of X G z_str, t_PARTS := tk_PARTS, m_PARTS := PySem.W.mg_of X G g_PARTS, t_RANKS := tk_RANKS, m_RANKS := PySem.W.mg_of X G g_RANKS, t_FRAMES := tk_FRAMES, m_FRAMES := PySem.W.mg_of X G g_FRAMES, t_RAISED := tk_RAISED, m_RAISED := PySem.W.mg_of X G g_RAISED, t_BUDGET := tk_BUDGET, m_BUDGET := PySem.W.mg_of X G g_BUDGET, t_PATIENCE := tk_PATIENCE, m_PATIENCE := PySem.W.mg_of X G g_PATIENCE, t_JOBS := tk_JOBS, m_JOBS := PySem.W.mg_of X G g_JOBS, t_AHEAD := tk_AHEAD, m_AHEAD := PySem.W.mg_of X G g_AHEAD, c_NoJob := E_NoJob, m_NoJob := PySem.W.mg_of X G eg_NoJob, x_NoJob := ex_NoJob, k_NoJob := ek_NoJob, b_NoJob := eb_NoJob, t_NoJob := et_NoJob, c_NoBoard := E_NoBoard, m_NoBoard := PySem.W.mg_of X G eg_NoBoard, x_NoBoard := ex_NoBoard, k_NoBoard := ek_NoBoard, b_NoBoard := eb_NoBoard, t_NoBoard := et_NoBoard, c_NoNumber := E_NoNumber, m_NoNumber := PySem.W.mg_of X G eg_NoNumber, x_NoNumber := ex_NoNumber, k_NoNumber := ek_NoNumber, b_NoNumber := eb_NoNumber, t_NoNumber := et_NoNumber, c_Over := E_Over, m_Over := PySem.W.mg_of X G eg_Over, x_Over := ex_Over, k_Over := ek_Over, b_Over := eb_Over, t_Over := et_Over, c_Full := E_Full, m_Full := PySem.W.mg_of X G eg_Full, x_Full := ex_Full, k_Full := ek_Full, b_Full := eb_Full, t_Full := et_Full, c_NoCount := E_NoCount, m_NoCount := PySem.W.mg_of X G eg_NoCount, x_NoCount := ex_NoCount, k_NoCount := ek_NoCount, b_NoCount := eb_NoCount, t_NoCount := et_NoCount, c_NoJobs := E_NoJobs, m_NoJobs := PySem.W.mg_of X G eg_NoJobs, x_NoJobs := ex_NoJobs, k_NoJobs := ek_NoJobs, b_NoJobs := eb_NoJobs, t_NoJobs := et_NoJobs, c_TooMany := E_TooMany, m_TooMany := PySem.W.mg_of X G eg_TooMany, x_TooMany := ex_TooMany, k_TooMany := ek_TooMany, b_TooMany := eb_TooMany, t_TooMany := et_TooMany, c_NoPlan := E_NoPlan, m_NoPlan := PySem.W.mg_of X G eg_NoPlan, x_NoPlan := ex_NoPlan, k_NoPlan := ek_NoPlan, b_NoPlan := eb_NoPlan, t_NoPlan := et_NoPlan, c_NoDeed := E_NoDeed, m_NoDeed := PySem.W.mg_of X G eg_NoDeed, x_NoDeed := ex_NoDeed, k_NoDeed := ek_NoDeed, b_NoDeed := eb_NoDeed, t_NoDeed := et_NoDeed, c_WorkError := E_WorkError, m_WorkError := PySem.W.mg_of X G eg_WorkError, x_WorkError := ex_WorkError, k_WorkError := ek_WorkError, b_WorkError := eb_WorkError, t_WorkError := et_WorkError, d_SIZES := D_SIZES, m_SIZES := PySem.W.mg_of X G g_SIZES, kd_SIZES := ⟨_, _, ⟨l_SIZES, y_SIZES, w_SIZES⟩⟩, s_add := ⟨_, z_SIZES_add⟩, s_drop := ⟨_, z_SIZES_drop⟩, s_rank := ⟨_, z_SIZES_rank⟩, s_frame := ⟨_, z_SIZES_frame⟩, s_go := z_SIZES_go, xc_NoBoard := ⟨hg_NoBoard, hk_NoBoard, eb_NoBoard, hd_NoBoard, ha_NoBoard, hcn, hct, hm_NoBoard⟩, ki_NoBoard := ki_NoBoard, xw_NoBoard := PySem.W.exm_ref eb_WorkError wdc et_WorkError sw_NoBoard, xc_NoJob := ⟨hg_NoJob, hk_NoJob, eb_NoJob, hd_NoJob, ha_NoJob, hcn, hct, hm_NoJob⟩, ki_NoJob := ki_NoJob, xw_NoJob := PySem.W.exm_ref eb_WorkError wdc et_WorkError sw_NoJob, xc_NoNumber := ⟨hg_NoNumber, hk_NoNumber, eb_NoNumber, hd_NoNumber, ha_NoNumber, hcn, hct, hm_NoNumber⟩, ki_NoNumber := ki_NoNumber, xw_NoNumber := PySem.W.exm_ref eb_WorkError wdc et_WorkError sw_NoNumber, xc_Over := ⟨hg_Over, hk_Over, eb_Over, hd_Over, ha_Over, hcn, hct, hm_Over⟩, ki_Over := ki_Over, xw_Over := PySem.W.exm_ref eb_WorkError wdc et_WorkError sw_Over, xc_Full := ⟨hg_Full, hk_Full, eb_Full, hd_Full, ha_Full, hcn, hct, hm_Full⟩, ki_Full := ki_Full, xw_Full := PySem.W.exm_ref eb_WorkError wdc et_WorkError sw_Full, xc_NoDeed := ⟨hg_NoDeed, hk_NoDeed, eb_NoDeed, hd_NoDeed, ha_NoDeed, hcn, hct, hm_NoDeed⟩, ki_NoDeed := ki_NoDeed, xw_NoDeed := PySem.W.exm_ref eb_WorkError wdc et_WorkError sw_NoDeed }
  exact ⟨PySem.W.fnOf "law" "law" (defArgs s_law) (defBody s_law) (defScope s_law) .none kV49 dc49 pm49 an49 cd49 ct49, fun s v => .of_eq rfl, fun base _ _ => ok_law T⟩
end Cw
open PySem PySem.W PyProof.Rows in
set_option maxRecDepth 100000 in
set_option maxHeartbeats 0 in
theorem PySem.Challenge.cw_cutwork_k19_runs_holds : PySem.Challenge.rw_cutwork_k19_runs.Holds := by
  w_on; o_law; k_head; (case hw => w_witness2)
  k_fill
  refine Cw.walkL (k := 11) (l := PySem.Challenge.rw_cutwork_k19_runs) (by decide) rfl rfl (fun w h Y => PySem.W.kIn_of Y) ?F
  case F =>
    intro w mg fa h KX G hmg
    refine' Cw.all_mk KX G hmg ?aC_Job ?pg_Job ?hd_Job ?po_Job ?sa_Job ?mk_Job ?kc_Job ?n_Job_number ?n_Job_rank ?n_Job_term ?n_Job_start ?n_Job_after ?n_Job_parts ?n_Job_at ?n_Job_idle ?n_Job_end ?n_Job_gone ?aC_Board ?pg_Board ?hd_Board ?po_Board ?sa_Board ?mk_Board ?kc_Board ?n_Board_budget ?n_Board_patience ?n_Board_jobs ?n_Board_frames ?n_Board_spent ?a_is_whole ?l_is_whole ?c_is_whole ?k_is_whole ?a_are_parts ?l_are_parts ?c_are_parts ?k_are_parts ?a_need_rank ?l_need_rank ?c_need_rank ?k_need_rank ?a_need_job ?l_need_job ?c_need_job ?k_need_job ?a_Job_init ?i_Job_init ?l_Job_init ?c_Job_init ?k_Job_init ?a_Job_is_open ?i_Job_is_open ?l_Job_is_open ?c_Job_is_open ?k_Job_is_open ?a_Job_is_late ?i_Job_is_late ?l_Job_is_late ?c_Job_is_late ?k_Job_is_late ?a_Job_raised ?i_Job_raised ?l_Job_raised ?c_Job_raised ?k_Job_raised ?a_Job_key ?i_Job_key ?l_Job_key ?c_Job_key ?k_Job_key ?a_Board_init ?i_Board_init ?l_Board_init ?c_Board_init ?k_Board_init ?a_Board_open_jobs ?i_Board_open_jobs ?l_Board_open_jobs ?c_Board_open_jobs ?k_Board_open_jobs ?a_Board_need ?i_Board_need ?l_Board_need ?c_Board_need ?k_Board_need ?a_Board_is_ready ?i_Board_is_ready ?l_Board_is_ready ?c_Board_is_ready ?k_Board_is_ready ?a_Board_in_order ?i_Board_in_order ?l_Board_in_order ?c_Board_in_order ?k_Board_in_order ?a_Board_order ?i_Board_order ?l_Board_order ?c_Board_order ?k_Board_order ?a_Board_frame ?i_Board_frame ?l_Board_frame ?c_Board_frame ?k_Board_frame ?a_Board_add ?i_Board_add ?l_Board_add ?c_Board_add ?k_Board_add ?a_Board_waited ?i_Board_waited ?l_Board_waited ?c_Board_waited ?k_Board_waited ?a_Board_used ?i_Board_used ?l_Board_used ?c_Board_used ?k_Board_used ?a_Board_now ?i_Board_now ?l_Board_now ?c_Board_now ?k_Board_now ?a_Board_is_late ?i_Board_is_late ?l_Board_is_late ?c_Board_is_late ?k_Board_is_late ?a_Board_need_open ?i_Board_need_open ?l_Board_need_open ?c_Board_need_open ?k_Board_need_open ?a_Board_set_rank ?i_Board_set_rank ?l_Board_set_rank ?c_Board_set_rank ?k_Board_set_rank ?a_Board_saved ?i_Board_saved ?l_Board_saved ?c_Board_saved ?k_Board_saved ?a_woken ?l_woken ?c_woken ?k_woken ?a_Board_ahead ?i_Board_ahead ?l_Board_ahead ?c_Board_ahead ?k_Board_ahead ?a_Board_drop ?i_Board_drop ?l_Board_drop ?c_Board_drop ?k_Board_drop ?a_l_cell_at ?l_l_cell_at ?c_l_cell_at ?k_l_cell_at ?a_l_mixed ?l_l_mixed ?c_l_mixed ?k_l_mixed ?a_l_draw ?l_l_draw ?c_l_draw ?k_l_draw ?a_l_pick ?l_l_pick ?c_l_pick ?k_l_pick ?a_l_which ?l_l_which ?c_l_which ?k_l_which ?a_is_deed ?l_is_deed ?c_is_deed ?k_is_deed ?a_do_now ?l_do_now ?c_do_now ?k_do_now ?a_do ?l_do ?c_do ?k_do ?a_l_sizes ?l_l_sizes ?c_l_sizes ?k_l_sizes ?a_l_job ?l_l_job ?c_l_job ?k_l_job ?a_l_deed ?l_l_deed ?c_l_deed ?k_l_deed ?a_l_new ?l_l_new ?c_l_new ?k_l_new ?a_l_open ?l_l_open ?c_l_open ?k_l_open ?a_l_ready ?l_l_ready ?c_l_ready ?k_l_ready ?a_l_raised ?l_l_raised ?c_l_raised ?k_l_raised ?a_l_order ?l_l_order ?c_l_order ?k_l_order ?a_l_frame ?l_l_frame ?c_l_frame ?k_l_frame ?a_l_add ?l_l_add ?c_l_add ?k_l_add ?a_l_drop ?l_l_drop ?c_l_drop ?k_l_drop ?a_l_own ?l_l_own ?c_l_own ?k_l_own ?a_run ?l_run ?c_run ?k_run ?a_l_asked ?l_l_asked ?c_l_asked ?k_l_asked ?a_law ?l_law ?c_law ?k_law ?z_isinstance ?z_int ?z_bool ?z_tuple ?z_len ?z_all ?z_sorted ?z_list ?z_enumerate ?z_range ?z_any ?z_ValueError ?z_str ?g_PARTS ?g_RANKS ?g_FRAMES ?g_RAISED ?g_BUDGET ?g_PATIENCE ?g_JOBS ?g_AHEAD ?eg_NoJob ?ex_NoJob ?ek_NoJob ?eb_NoJob ?et_NoJob ?eg_NoBoard ?ex_NoBoard ?ek_NoBoard ?eb_NoBoard ?et_NoBoard ?eg_NoNumber ?ex_NoNumber ?ek_NoNumber ?eb_NoNumber ?et_NoNumber ?eg_Over ?ex_Over ?ek_Over ?eb_Over ?et_Over ?eg_Full ?ex_Full ?ek_Full ?eb_Full ?et_Full ?eg_NoCount ?ex_NoCount ?ek_NoCount ?eb_NoCount ?et_NoCount ?eg_NoJobs ?ex_NoJobs ?ek_NoJobs ?eb_NoJobs ?et_NoJobs ?eg_TooMany ?ex_TooMany ?ek_TooMany ?eb_TooMany ?et_TooMany ?eg_NoPlan ?ex_NoPlan ?ek_NoPlan ?eb_NoPlan ?et_NoPlan ?eg_NoDeed ?ex_NoDeed ?ek_NoDeed ?eb_NoDeed ?et_NoDeed ?eg_WorkError ?ex_WorkError ?ek_WorkError ?eb_WorkError ?et_WorkError ?g_SIZES ?l_SIZES ?y_SIZES ?w_SIZES ?z_SIZES_add ?z_SIZES_drop ?z_SIZES_rank ?z_SIZES_frame ?z_SIZES_go ?hcn ?hct ?wdc ?hg_NoBoard ?hk_NoBoard ?hd_NoBoard ?ha_NoBoard ?hm_NoBoard ?sw_NoBoard ?kq_NoBoard_NoBoard ?kq_NoBoard_NoJob ?kq_NoBoard_NoNumber ?kq_NoBoard_Over ?kq_NoBoard_Full ?kq_NoBoard_NoCount ?kq_NoBoard_NoJobs ?kq_NoBoard_TooMany ?kq_NoBoard_NoPlan ?kq_NoBoard_NoDeed ?kq_NoBoard_V ?hg_NoJob ?hk_NoJob ?hd_NoJob ?ha_NoJob ?hm_NoJob ?sw_NoJob ?kq_NoJob_NoBoard ?kq_NoJob_NoJob ?kq_NoJob_NoNumber ?kq_NoJob_Over ?kq_NoJob_Full ?kq_NoJob_NoCount ?kq_NoJob_NoJobs ?kq_NoJob_TooMany ?kq_NoJob_NoPlan ?kq_NoJob_NoDeed ?kq_NoJob_V ?hg_NoNumber ?hk_NoNumber ?hd_NoNumber ?ha_NoNumber ?hm_NoNumber ?sw_NoNumber ?kq_NoNumber_NoBoard ?kq_NoNumber_NoJob ?kq_NoNumber_NoNumber ?kq_NoNumber_Over ?kq_NoNumber_Full ?kq_NoNumber_NoCount ?kq_NoNumber_NoJobs ?kq_NoNumber_TooMany ?kq_NoNumber_NoPlan ?kq_NoNumber_NoDeed ?kq_NoNumber_V ?hg_Over ?hk_Over ?hd_Over ?ha_Over ?hm_Over ?sw_Over ?kq_Over_NoBoard ?kq_Over_NoJob ?kq_Over_NoNumber ?kq_Over_Over ?kq_Over_Full ?kq_Over_NoCount ?kq_Over_NoJobs ?kq_Over_TooMany ?kq_Over_NoPlan ?kq_Over_NoDeed ?kq_Over_V ?hg_Full ?hk_Full ?hd_Full ?ha_Full ?hm_Full ?sw_Full ?kq_Full_NoBoard ?kq_Full_NoJob ?kq_Full_NoNumber ?kq_Full_Over ?kq_Full_Full ?kq_Full_NoCount ?kq_Full_NoJobs ?kq_Full_TooMany ?kq_Full_NoPlan ?kq_Full_NoDeed ?kq_Full_V ?hg_NoDeed ?hk_NoDeed ?hd_NoDeed ?ha_NoDeed ?hm_NoDeed ?sw_NoDeed ?kq_NoDeed_NoBoard ?kq_NoDeed_NoJob ?kq_NoDeed_NoNumber ?kq_NoDeed_Over ?kq_NoDeed_Full ?kq_NoDeed_NoCount ?kq_NoDeed_NoJobs ?kq_NoDeed_TooMany ?kq_NoDeed_NoPlan ?kq_NoDeed_NoDeed ?kq_NoDeed_V
    (case aC_Job => k_is)
    (case pg_Job => k_is)
    (case hd_Job => k_is)
    (case po_Job => k_is)
    (case sa_Job => k_is)
    (case mk_Job => k_is)
    (case kc_Job => k_is)
    (case n_Job_number => k_is)
    (case n_Job_rank => k_is)
    (case n_Job_term => k_is)
    (case n_Job_start => k_is)
    (case n_Job_after => k_is)
    (case n_Job_parts => k_is)
    (case n_Job_at => k_is)
    (case n_Job_idle => k_is)
    (case n_Job_end => k_is)
    (case n_Job_gone => k_is)
    (case aC_Board => k_is)
    (case pg_Board => k_is)
    (case hd_Board => k_is)
    (case po_Board => k_is)
    (case sa_Board => k_is)
    (case mk_Board => k_is)
    (case kc_Board => k_is)
    (case n_Board_budget => k_is)
    (case n_Board_patience => k_is)
    (case n_Board_jobs => k_is)
    (case n_Board_frames => k_is)
    (case n_Board_spent => k_is)
    (case a_is_whole => k_is)
    (case l_is_whole => k_is)
    (case c_is_whole => k_is)
    (case k_is_whole => k_is)
    (case a_are_parts => k_is)
    (case l_are_parts => k_is)
    (case c_are_parts => k_is)
    (case k_are_parts => k_is)
    (case a_need_rank => k_is)
    (case l_need_rank => k_is)
    (case c_need_rank => k_is)
    (case k_need_rank => k_is)
    (case a_need_job => k_is)
    (case l_need_job => k_is)
    (case c_need_job => k_is)
    (case k_need_job => k_is)
    (case a_Job_init => k_is)
    (case i_Job_init => k_is)
    (case l_Job_init => k_is)
    (case c_Job_init => k_is)
    (case k_Job_init => k_is)
    (case a_Job_is_open => k_is)
    (case i_Job_is_open => k_is)
    (case l_Job_is_open => k_is)
    (case c_Job_is_open => k_is)
    (case k_Job_is_open => k_is)
    (case a_Job_is_late => k_is)
    (case i_Job_is_late => k_is)
    (case l_Job_is_late => k_is)
    (case c_Job_is_late => k_is)
    (case k_Job_is_late => k_is)
    (case a_Job_raised => k_is)
    (case i_Job_raised => k_is)
    (case l_Job_raised => k_is)
    (case c_Job_raised => k_is)
    (case k_Job_raised => k_is)
    (case a_Job_key => k_is)
    (case i_Job_key => k_is)
    (case l_Job_key => k_is)
    (case c_Job_key => k_is)
    (case k_Job_key => k_is)
    (case a_Board_init => k_is)
    (case i_Board_init => k_is)
    (case l_Board_init => k_is)
    (case c_Board_init => k_is)
    (case k_Board_init => k_is)
    (case a_Board_open_jobs => k_is)
    (case i_Board_open_jobs => k_is)
    (case l_Board_open_jobs => k_is)
    (case c_Board_open_jobs => k_is)
    (case k_Board_open_jobs => k_is)
    (case a_Board_need => k_is)
    (case i_Board_need => k_is)
    (case l_Board_need => k_is)
    (case c_Board_need => k_is)
    (case k_Board_need => k_is)
    (case a_Board_is_ready => k_is)
    (case i_Board_is_ready => k_is)
    (case l_Board_is_ready => k_is)
    (case c_Board_is_ready => k_is)
    (case k_Board_is_ready => k_is)
    (case a_Board_in_order => k_is)
    (case i_Board_in_order => k_is)
    (case l_Board_in_order => k_is)
    (case c_Board_in_order => k_is)
    (case k_Board_in_order => k_is)
    (case a_Board_order => k_is)
    (case i_Board_order => k_is)
    (case l_Board_order => k_is)
    (case c_Board_order => k_is)
    (case k_Board_order => k_is)
    (case a_Board_frame => k_is)
    (case i_Board_frame => k_is)
    (case l_Board_frame => k_is)
    (case c_Board_frame => k_is)
    (case k_Board_frame => k_is)
    (case a_Board_add => k_is)
    (case i_Board_add => k_is)
    (case l_Board_add => k_is)
    (case c_Board_add => k_is)
    (case k_Board_add => k_is)
    (case a_Board_waited => k_is)
    (case i_Board_waited => k_is)
    (case l_Board_waited => k_is)
    (case c_Board_waited => k_is)
    (case k_Board_waited => k_is)
    (case a_Board_used => k_is)
    (case i_Board_used => k_is)
    (case l_Board_used => k_is)
    (case c_Board_used => k_is)
    (case k_Board_used => k_is)
    (case a_Board_now => k_is)
    (case i_Board_now => k_is)
    (case l_Board_now => k_is)
    (case c_Board_now => k_is)
    (case k_Board_now => k_is)
    (case a_Board_is_late => k_is)
    (case i_Board_is_late => k_is)
    (case l_Board_is_late => k_is)
    (case c_Board_is_late => k_is)
    (case k_Board_is_late => k_is)
    (case a_Board_need_open => k_is)
    (case i_Board_need_open => k_is)
    (case l_Board_need_open => k_is)
    (case c_Board_need_open => k_is)
    (case k_Board_need_open => k_is)
    (case a_Board_set_rank => k_is)
    (case i_Board_set_rank => k_is)
    (case l_Board_set_rank => k_is)
    (case c_Board_set_rank => k_is)
    (case k_Board_set_rank => k_is)
    (case a_Board_saved => k_is)
    (case i_Board_saved => k_is)
    (case l_Board_saved => k_is)
    (case c_Board_saved => k_is)
    (case k_Board_saved => k_is)
    (case a_woken => k_is)
    (case l_woken => k_is)
    (case c_woken => k_is)
    (case k_woken => k_is)
    (case a_Board_ahead => k_is)
    (case i_Board_ahead => k_is)
    (case l_Board_ahead => k_is)
    (case c_Board_ahead => k_is)
    (case k_Board_ahead => k_is)
    (case a_Board_drop => k_is)
    (case i_Board_drop => k_is)
    (case l_Board_drop => k_is)
    (case c_Board_drop => k_is)
    (case k_Board_drop => k_is)
    (case a_l_cell_at => k_is)
    (case l_l_cell_at => k_is)
    (case c_l_cell_at => k_is)
    (case k_l_cell_at => k_is)
    (case a_l_mixed => k_is)
    (case l_l_mixed => k_is)
    (case c_l_mixed => k_is)
    (case k_l_mixed => k_is)
    (case a_l_draw => k_is)
    (case l_l_draw => k_is)
    (case c_l_draw => k_is)
    (case k_l_draw => k_is)
    (case a_l_pick => k_is)
    (case l_l_pick => k_is)
    (case c_l_pick => k_is)
    (case k_l_pick => k_is)
    (case a_l_which => k_is)
    (case l_l_which => k_is)
    (case c_l_which => k_is)
    (case k_l_which => k_is)
    (case a_is_deed => k_is)
    (case l_is_deed => k_is)
    (case c_is_deed => k_is)
    (case k_is_deed => k_is)
    (case a_do_now => k_is)
    (case l_do_now => k_is)
    (case c_do_now => k_is)
    (case k_do_now => k_is)
    (case a_do => k_is)
    (case l_do => k_is)
    (case c_do => k_is)
    (case k_do => k_is)
    (case a_l_sizes => k_is)
    (case l_l_sizes => k_is)
    (case c_l_sizes => k_is)
    (case k_l_sizes => k_is)
    (case a_l_job => k_is)
    (case l_l_job => k_is)
    (case c_l_job => k_is)
    (case k_l_job => k_is)
    (case a_l_deed => k_is)
    (case l_l_deed => k_is)
    (case c_l_deed => k_is)
    (case k_l_deed => k_is)
    (case a_l_new => k_is)
    (case l_l_new => k_is)
    (case c_l_new => k_is)
    (case k_l_new => k_is)
    (case a_l_open => k_is)
    (case l_l_open => k_is)
    (case c_l_open => k_is)
    (case k_l_open => k_is)
    (case a_l_ready => k_is)
    (case l_l_ready => k_is)
    (case c_l_ready => k_is)
    (case k_l_ready => k_is)
    (case a_l_raised => k_is)
    (case l_l_raised => k_is)
    (case c_l_raised => k_is)
    (case k_l_raised => k_is)
    (case a_l_order => k_is)
    (case l_l_order => k_is)
    (case c_l_order => k_is)
    (case k_l_order => k_is)
    (case a_l_frame => k_is)
    (case l_l_frame => k_is)
    (case c_l_frame => k_is)
    (case k_l_frame => k_is)
    (case a_l_add => k_is)
    (case l_l_add => k_is)
    (case c_l_add => k_is)
    (case k_l_add => k_is)
    (case a_l_drop => k_is)
    (case l_l_drop => k_is)
    (case c_l_drop => k_is)
    (case k_l_drop => k_is)
    (case a_l_own => k_is)
    (case l_l_own => k_is)
    (case c_l_own => k_is)
    (case k_l_own => k_is)
    (case a_run => k_is)
    (case l_run => k_is)
    (case c_run => k_is)
    (case k_run => k_is)
    (case a_l_asked => k_is)
    (case l_l_asked => k_is)
    (case c_l_asked => k_is)
    (case k_l_asked => k_is)
    (case a_law => k_is)
    (case l_law => k_is)
    (case c_law => k_is)
    (case k_law => k_is)
    (case z_isinstance => k_is)
    (case z_int => k_is)
    (case z_bool => k_is)
    (case z_tuple => k_is)
    (case z_len => k_is)
    (case z_all => k_is)
    (case z_sorted => k_is)
    (case z_list => k_is)
    (case z_enumerate => k_is)
    (case z_range => k_is)
    (case z_any => k_is)
    (case z_ValueError => k_is)
    (case z_str => k_is)
    (case g_PARTS => k_is)
    (case g_RANKS => k_is)
    (case g_FRAMES => k_is)
    (case g_RAISED => k_is)
    (case g_BUDGET => k_is)
    (case g_PATIENCE => k_is)
    (case g_JOBS => k_is)
    (case g_AHEAD => k_is)
    (case eg_NoJob => k_is)
    (case ex_NoJob => k_exc)
    (case ek_NoJob => k_is)
    (case eb_NoJob => k_is)
    (case et_NoJob => k_is)
    (case eg_NoBoard => k_is)
    (case ex_NoBoard => k_exc)
    (case ek_NoBoard => k_is)
    (case eb_NoBoard => k_is)
    (case et_NoBoard => k_is)
    (case eg_NoNumber => k_is)
    (case ex_NoNumber => k_exc)
    (case ek_NoNumber => k_is)
    (case eb_NoNumber => k_is)
    (case et_NoNumber => k_is)
    (case eg_Over => k_is)
    (case ex_Over => k_exc)
    (case ek_Over => k_is)
    (case eb_Over => k_is)
    (case et_Over => k_is)
    (case eg_Full => k_is)
    (case ex_Full => k_exc)
    (case ek_Full => k_is)
    (case eb_Full => k_is)
    (case et_Full => k_is)
    (case eg_NoCount => k_is)
    (case ex_NoCount => k_exc)
    (case ek_NoCount => k_is)
    (case eb_NoCount => k_is)
    (case et_NoCount => k_is)
    (case eg_NoJobs => k_is)
    (case ex_NoJobs => k_exc)
    (case ek_NoJobs => k_is)
    (case eb_NoJobs => k_is)
    (case et_NoJobs => k_is)
    (case eg_TooMany => k_is)
    (case ex_TooMany => k_exc)
    (case ek_TooMany => k_is)
    (case eb_TooMany => k_is)
    (case et_TooMany => k_is)
    (case eg_NoPlan => k_is)
    (case ex_NoPlan => k_exc)
    (case ek_NoPlan => k_is)
    (case eb_NoPlan => k_is)
    (case et_NoPlan => k_is)
    (case eg_NoDeed => k_is)
    (case ex_NoDeed => k_exc)
    (case ek_NoDeed => k_is)
    (case eb_NoDeed => k_is)
    (case et_NoDeed => k_is)
    (case eg_WorkError => k_is)
    (case ex_WorkError => k_exc)
    (case ek_WorkError => k_is)
    (case eb_WorkError => k_is)
    (case et_WorkError => k_is)
    (case g_SIZES => k_is)
    (case l_SIZES => k_is)
    (case y_SIZES => exact ⟨⟨_, _, rfl, rfl⟩, ⟨_, _, rfl, rfl⟩, ⟨_, _, rfl, rfl⟩, ⟨_, _, rfl, rfl⟩, trivial⟩)
    (case w_SIZES => rfl)
    (case z_SIZES_add => k_is)
    (case z_SIZES_drop => k_is)
    (case z_SIZES_rank => k_is)
    (case z_SIZES_frame => k_is)
    (case z_SIZES_go => k_is)
    (case hcn => k_is)
    (case hct => k_is)
    (case wdc => k_is)
    (case hg_NoBoard => k_is)
    (case hk_NoBoard => k_is)
    (case hd_NoBoard => k_is)
    (case ha_NoBoard => k_is)
    (case hm_NoBoard => k_is)
    (case sw_NoBoard => k_is)
    (case kq_NoBoard_NoBoard => kit_is)
    (case kq_NoBoard_NoJob => kit_is)
    (case kq_NoBoard_NoNumber => kit_is)
    (case kq_NoBoard_Over => kit_is)
    (case kq_NoBoard_Full => kit_is)
    (case kq_NoBoard_NoCount => kit_is)
    (case kq_NoBoard_NoJobs => kit_is)
    (case kq_NoBoard_TooMany => kit_is)
    (case kq_NoBoard_NoPlan => kit_is)
    (case kq_NoBoard_NoDeed => kit_is)
    (case kq_NoBoard_V => kit_is)
    (case hg_NoJob => k_is)
    (case hk_NoJob => k_is)
    (case hd_NoJob => k_is)
    (case ha_NoJob => k_is)
    (case hm_NoJob => k_is)
    (case sw_NoJob => k_is)
    (case kq_NoJob_NoBoard => kit_is)
    (case kq_NoJob_NoJob => kit_is)
    (case kq_NoJob_NoNumber => kit_is)
    (case kq_NoJob_Over => kit_is)
    (case kq_NoJob_Full => kit_is)
    (case kq_NoJob_NoCount => kit_is)
    (case kq_NoJob_NoJobs => kit_is)
    (case kq_NoJob_TooMany => kit_is)
    (case kq_NoJob_NoPlan => kit_is)
    (case kq_NoJob_NoDeed => kit_is)
    (case kq_NoJob_V => kit_is)
    (case hg_NoNumber => k_is)
    (case hk_NoNumber => k_is)
    (case hd_NoNumber => k_is)
    (case ha_NoNumber => k_is)
    (case hm_NoNumber => k_is)
    (case sw_NoNumber => k_is)
    (case kq_NoNumber_NoBoard => kit_is)
    (case kq_NoNumber_NoJob => kit_is)
    (case kq_NoNumber_NoNumber => kit_is)
    (case kq_NoNumber_Over => kit_is)
    (case kq_NoNumber_Full => kit_is)
    (case kq_NoNumber_NoCount => kit_is)
    (case kq_NoNumber_NoJobs => kit_is)
    (case kq_NoNumber_TooMany => kit_is)
    (case kq_NoNumber_NoPlan => kit_is)
    (case kq_NoNumber_NoDeed => kit_is)
    (case kq_NoNumber_V => kit_is)
    (case hg_Over => k_is)
    (case hk_Over => k_is)
    (case hd_Over => k_is)
    (case ha_Over => k_is)
    (case hm_Over => k_is)
    (case sw_Over => k_is)
    (case kq_Over_NoBoard => kit_is)
    (case kq_Over_NoJob => kit_is)
    (case kq_Over_NoNumber => kit_is)
    (case kq_Over_Over => kit_is)
    (case kq_Over_Full => kit_is)
    (case kq_Over_NoCount => kit_is)
    (case kq_Over_NoJobs => kit_is)
    (case kq_Over_TooMany => kit_is)
    (case kq_Over_NoPlan => kit_is)
    (case kq_Over_NoDeed => kit_is)
    (case kq_Over_V => kit_is)
    (case hg_Full => k_is)
    (case hk_Full => k_is)
    (case hd_Full => k_is)
    (case ha_Full => k_is)
    (case hm_Full => k_is)
    (case sw_Full => k_is)
    (case kq_Full_NoBoard => kit_is)
    (case kq_Full_NoJob => kit_is)
    (case kq_Full_NoNumber => kit_is)
    (case kq_Full_Over => kit_is)
    (case kq_Full_Full => kit_is)
    (case kq_Full_NoCount => kit_is)
    (case kq_Full_NoJobs => kit_is)
    (case kq_Full_TooMany => kit_is)
    (case kq_Full_NoPlan => kit_is)
    (case kq_Full_NoDeed => kit_is)
    (case kq_Full_V => kit_is)
    (case hg_NoDeed => k_is)
    (case hk_NoDeed => k_is)
    (case hd_NoDeed => k_is)
    (case ha_NoDeed => k_is)
    (case hm_NoDeed => k_is)
    (case sw_NoDeed => k_is)
    (case kq_NoDeed_NoBoard => kit_is)
    (case kq_NoDeed_NoJob => kit_is)
    (case kq_NoDeed_NoNumber => kit_is)
    (case kq_NoDeed_Over => kit_is)
    (case kq_NoDeed_Full => kit_is)
    (case kq_NoDeed_NoCount => kit_is)
    (case kq_NoDeed_NoJobs => kit_is)
    (case kq_NoDeed_TooMany => kit_is)
    (case kq_NoDeed_NoPlan => kit_is)
    (case kq_NoDeed_NoDeed => kit_is)
    (case kq_NoDeed_V => kit_is)
#print axioms PySem.Challenge.cw_cutwork_k19_runs_holds

