import PyProof.Rows.All
import Wide.All
import OpenK.AllK
import Wide.FinOn
import HandS.ForMost
import HandS.Walk
import HandS.AnyAll
import KE.KStateDown
import HandS.HeadWalk
import HandS.HeadHook4
import HandS.Head2
import PySem.Challenge.RW_heapgame_k94_whole_better_contracts
import HandS.Style
import KE.SortKeyHeap
import HandS.JoinGen
import PyProof.GenCompT
import PyProof.WalksPairs
import KE.KSortKey
import HandS.SortKw
import HandS.Keys
import KE.KDictKeyed
import KE.KeyNested
import HandS.Dict
import HandS.Iter
import HandS.TupLen
import HandS.Conv
import HandS.Zip
import PyProof.Rows.SetFrom
set_option Elab.async false
set_option linter.all false
set_option maxRecDepth 100000
section Z_HgA
set_option maxHeartbeats 4000000
/-! What a reading comes to, over a part S of the heap that stays (new cells are added to it) while the rest is worked at. -/
namespace Hg
open PySem L2

/-! ### the part that stays; Z: the tables of code objects, which may grow -/
structure Ok (Z : List Addr) (S H : Hp) : Prop where
  le : Same S H
  out : ∀ P ∈ Z, S P = none
  tab : ∀ P ∈ Z, GxR.TabG H P
structure Stp (Z : List Addr) (S H S' H' : Hp) : Prop where
  ok0 : Ok Z S H
  ok : Ok Z S' H'
  ss : Same S S'
  old : ∀ b o, b ∉ Z → H b = some o → H' b = some o
  new : ∀ b o, H b = some o → S b = none → S' b = none
section
variable {Z : List Addr} {S H S1 H1 S2 H2 : Hp} {p l : Addr} {o o' : HO}
theorem Stp.refl (k : Ok Z S H) : Stp Z S H S H := ⟨k, k, Same.refl _, fun _ _ _ h => h, fun _ _ _ h => h⟩
theorem Stp.trans (a : Stp Z S H S1 H1) (b : Stp Z S1 H1 S2 H2) : Stp Z S H S2 H2 where
  ok0 := a.ok0
  ok := b.ok
  ss := a.ss.trans b.ss
  old := fun c u hc h => b.old c u hc (a.old c u hc h)
  new := fun c u h n => by
    by_cases hc : c ∈ Z
    · exact b.ok.out c hc
    · exact b.new c u (a.old c u hc h) (a.new c u h n)
theorem Ok.nz (k : Ok Z S H) (hp : H p = none) : p ∉ Z := fun h => by
  obtain ⟨ps, e, _⟩ := k.tab p h
  rw [hp] at e
  cases e
theorem Ok.free (k : Ok Z S H) (hp : H p = none) : S p = none := k.le.free hp
theorem tab_upd {P : Addr} (h : GxR.TabG H P) (ne : P ≠ p) : GxR.TabG (upd H p o) P := by
  obtain ⟨ps, e, t⟩ := h
  exact ⟨ps, by rw [upd_ne ne]; exact e, t⟩
theorem same_upd (h : S p = none) : Same S (upd S p o) := fun b u e => by
  rw [upd_ne (ne_of_none e h)]
  exact e
theorem same_updH (e : Same S H) (h : S p = none) : Same S (upd H p o) := fun b u q => by
  rw [upd_ne (ne_of_none q h)]
  exact e b u q
/-- a new cell, which stays -/
theorem Ok.add (k : Ok Z S H) (hp : H p = none) : Stp Z S H (upd S p o) (upd H p o) where
  ok0 := k
  ok := ⟨fun b u e => by
    by_cases hb : b = p
    · subst hb
      rw [upd_same] at e ⊢
      exact e
    · rw [upd_ne hb] at e ⊢
      exact k.le b u e, fun P h => by
    have ne : P ≠ p := fun z => k.nz hp (z ▸ h)
    rw [upd_ne ne]
    exact k.out P h, fun P h => tab_upd (k.tab P h) fun z => k.nz hp (z ▸ h)⟩
  ss := same_upd (k.free hp)
  old := fun b u _ e => by
    rw [upd_ne (ne_of_none e hp)]
    exact e
  new := fun b u e n => by
    rw [upd_ne (ne_of_none e hp)]
    exact n
/-- a new cell to be worked at -/
theorem Ok.mk' (k : Ok Z S H) (hp : H p = none) : Stp Z S H S (upd H p o) where
  ok0 := k
  ok := ⟨same_updH k.le (k.free hp), k.out, fun P h => tab_upd (k.tab P h) fun z => k.nz hp (z ▸ h)⟩
  ss := Same.refl _
  old := fun b u _ e => by
    rw [upd_ne (ne_of_none e hp)]
    exact e
  new := fun b u e n => n
/-- a cell that was not there at the beginning is changed -/
theorem Stp.put (t : Stp Z S H S1 H1) (h0 : H l = none) (hs : S1 l = none) : Stp Z S H S1 (upd H1 l o) where
  ok0 := t.ok0
  ok := ⟨same_updH t.ok.le hs, t.ok.out, fun P h => tab_upd (t.ok.tab P h) fun z => t.ok0.nz h0 (z ▸ h)⟩
  ss := t.ss
  old := fun b u hb e => by
    rw [upd_ne (ne_of_none e h0)]
    exact t.old b u hb e
  new := t.new
/-- such a cell stays from now on -/
theorem Stp.frz (t : Stp Z S H S1 H1) (h0 : H l = none) (hl : H1 l = some o) : Stp Z S H (upd S1 l o) H1 where
  ok0 := t.ok0
  ok := ⟨fun b u e => by
    by_cases hb : b = l
    · subst hb
      rw [upd_same] at e
      rw [← e]
      exact hl
    · rw [upd_ne hb] at e
      exact t.ok.le b u e, fun P h => by
    have ne : P ≠ l := fun z => t.ok0.nz h0 (z ▸ h)
    rw [upd_ne ne]
    exact t.ok.out P h, t.ok.tab⟩
  ss := fun b u e => by
    have ne : b ≠ l := ne_of_none e (t.ok0.free h0)
    rw [upd_ne ne]
    exact t.ss b u e
  old := t.old
  new := fun b u e n => by
    rw [upd_ne (ne_of_none e h0)]
    exact t.new b u e n
/-- a cell that is worked at: not among those that stay -/
structure Own (Z : List Addr) (S H : Hp) (l : Addr) (o : HO) : Prop where
  at_ : H l = some o
  off : S l = none
  nz : l ∉ Z
theorem Own.step (w : Own Z S H l o) (t : Stp Z S H S1 H1) : Own Z S1 H1 l o := ⟨t.old l o w.nz w.at_, t.new l o w.at_ w.off, w.nz⟩
theorem Own.new (k : Ok Z S H) (hp : H p = none) : Own Z S (upd H p o) p o := ⟨upd_same, k.free hp, k.nz hp⟩
theorem Own.put (w : Own Z S H l o) : Own Z S (upd H l o') l o' := ⟨upd_same, w.off, w.nz⟩
theorem Own.other {m : Addr} (w : Own Z S H l o) (ne : l ≠ m) {u : HO} : Own Z S (upd H m u) l o := ⟨by rw [upd_ne ne]; exact w.at_, w.off, w.nz⟩
theorem Own.ok (w : Own Z S H l o) (k : Ok Z S H) : Ok Z S (upd H l o') := ⟨same_updH k.le w.off, k.out, fun P h => tab_upd (k.tab P h) fun z => w.nz (z ▸ h)⟩
end

/-! ### what a value stands for -/
abbrev Rp (α : Type) : Type := Hp → V → α → Prop
class Up {α : Type} (R : Rp α) : Prop where
  up : ∀ {S S' : Hp} {v : V} {x : α}, Same S S' → R S v x → R S' v x
def jI : Rp Int := fun _ v i => v = .int i
def jB : Rp Bool := fun _ v b => v = .bl b
def jS : Rp Str := fun _ v b => v = .str b
def Pr {α : Type} (R : Rp α) (S : Hp) (vs : List V) (xs : List α) : Prop := Paired (fun v x => R S v x) vs xs
def jL {α : Type} (R : Rp α) : Rp (List α) := fun S v xs => ∃ a vs, v = .ref a ∧ S a = some (.lst vs) ∧ Pr R S vs xs
def jU {α : Type} (R : Rp α) : Rp (List α) := fun S v xs => ∃ a vs, v = .ref a ∧ S a = some (.tup vs) ∧ Pr R S vs xs
def j2 {α β : Type} (R : Rp α) (R' : Rp β) : Rp (α × β) := fun S v p => ∃ a x y, v = .ref a ∧ S a = some (.tup [x, y]) ∧ R S x p.1 ∧ R' S y p.2
def j3 {α β γ : Type} (R : Rp α) (R' : Rp β) (R'' : Rp γ) : Rp (α × β × γ) := fun S v p => ∃ a x y z, v = .ref a ∧ S a = some (.tup [x, y, z]) ∧ R S x p.1 ∧ R' S y p.2.1 ∧ R'' S z p.2.2
def jO {α : Type} (R : Rp α) : Rp (Option α) := fun S v o => match o with
  | none => v = .non
  | some x => R S v x
instance : Up jI := ⟨fun _ h => h⟩
instance : Up jB := ⟨fun _ h => h⟩
instance : Up jS := ⟨fun _ h => h⟩
theorem Pr.up {α : Type} {R : Rp α} [Up R] {S S' : Hp} (e : Same S S') : ∀ {vs : List V} {xs : List α}, Pr R S vs xs → Pr R S' vs xs
  | _, _, .nil => .nil
  | _, _, .cons h t => .cons (Up.up e h) (Pr.up e t)
instance {α : Type} {R : Rp α} [Up R] : Up (jL R) := ⟨fun e ⟨a, vs, h1, h2, h3⟩ => ⟨a, vs, h1, e _ _ h2, h3.up e⟩⟩
instance {α : Type} {R : Rp α} [Up R] : Up (jU R) := ⟨fun e ⟨a, vs, h1, h2, h3⟩ => ⟨a, vs, h1, e _ _ h2, h3.up e⟩⟩
instance {α β : Type} {R : Rp α} {R' : Rp β} [Up R] [Up R'] : Up (j2 R R') := ⟨fun e ⟨a, x, y, h1, h2, h3, h4⟩ => ⟨a, x, y, h1, e _ _ h2, Up.up e h3, Up.up e h4⟩⟩
instance {α β γ : Type} {R : Rp α} {R' : Rp β} {R'' : Rp γ} [Up R] [Up R'] [Up R''] : Up (j3 R R' R'') := ⟨fun e ⟨a, x, y, z, h1, h2, h3, h4, h5⟩ => ⟨a, x, y, z, h1, e _ _ h2, Up.up e h3, Up.up e h4, Up.up e h5⟩⟩
instance {α : Type} {R : Rp α} [Up R] : Up (jO R) := ⟨fun {S S' v x} e h => match x, h with
  | none, h => h
  | some _, h => Up.up (R := R) e h⟩
section
variable {α β : Type} {R : Rp α} {S S' : Hp} {vs ws : List V} {xs ys : List α}
theorem Pr.len (h : Pr R S vs xs) : vs.length = xs.length := Paired.length h
theorem Pr.app : ∀ {vs ws : List V} {xs ys : List α}, Pr R S vs xs → Pr R S ws ys → Pr R S (vs ++ ws) (xs ++ ys)
  | _, _, _, _, .nil, s => s
  | _, _, _, _, .cons h t, s => .cons h (Pr.app t s)
theorem Pr.one {v : V} {x : α} (h : R S v x) : Pr R S [v] [x] := .cons h .nil
theorem Pr.get : ∀ {vs : List V} {xs : List α} {i : Nat} {v : V}, Pr R S vs xs → vs[i]? = some v → ∃ x, xs[i]? = some x ∧ R S v x
  | _, _, _, _, .nil, e => by simp at e
  | _, _, 0, _, .cons h _, e => by
    simp at e
    subst e
    exact ⟨_, rfl, h⟩
  | _, _, i + 1, v, .cons _ t, e => by
    obtain ⟨x, h1, h2⟩ := Pr.get (i := i) (v := v) t (by simpa using e)
    exact ⟨x, by simpa using h1, h2⟩
theorem Pr.at : ∀ {vs : List V} {xs : List α} {i : Nat} {x : α}, Pr R S vs xs → xs[i]? = some x → ∃ v, vs[i]? = some v ∧ R S v x
  | _, _, _, _, .nil, e => by simp at e
  | _, _, 0, _, .cons h _, e => by
    simp at e
    subst e
    exact ⟨_, rfl, h⟩
  | _, _, i + 1, v, .cons _ t, e => by
    obtain ⟨x, h1, h2⟩ := Pr.at (i := i) (x := v) t (by simpa using e)
    exact ⟨x, by simpa using h1, h2⟩
theorem Pr.take (n : Nat) : ∀ {vs : List V} {xs : List α}, Pr R S vs xs → Pr R S (vs.take n) (xs.take n) := by
  induction n with
  | zero =>
    intro vs xs h
    rw [List.take_zero, List.take_zero]
    exact .nil
  | succ n ih =>
    intro vs xs h
    cases h with
    | nil => exact .nil
    | cons h t => exact .cons h (ih t)
theorem Pr.drop (n : Nat) : ∀ {vs : List V} {xs : List α}, Pr R S vs xs → Pr R S (vs.drop n) (xs.drop n) := by
  induction n with
  | zero =>
    intro vs xs h
    exact h
  | succ n ih =>
    intro vs xs h
    cases h with
    | nil => exact .nil
    | cons h t => exact ih t
theorem Pr.ints : ∀ {vs : List V} {ns : List Int}, Pr jI S vs ns → vs = ns.map V.int
  | _, _, .nil => rfl
  | _, _, .cons h t => by
    have e := Pr.ints t
    have h' : _ = V.int _ := h
    rw [h', e, List.map_cons]
theorem Pr.bools : ∀ {vs : List V} {ns : List Bool}, Pr jB S vs ns → vs = ns.map V.bl
  | _, _, .nil => rfl
  | _, _, .cons h t => by
    have e := Pr.bools t
    have h' : _ = V.bl _ := h
    rw [h', e, List.map_cons]
end

/-! ### what evaluates to what -/
def EvR {α : Type} (Z : List Addr) (te : TE) (σ : L2.St) (S : Hp) (R : Rp α) (x : α) : Prop :=
  ∀ S1 H, Same S S1 → Ok Z S1 H → ∀ Q : VK, (∀ S2 H2 v, Stp Z S1 H S2 H2 → R S2 v x → Q v H2) → te σ H Q
def EvT (Z : List Addr) (tt : TT) (σ : L2.St) (S : Hp) (b : Bool) : Prop :=
  ∀ S1 H, Same S S1 → Ok Z S1 H → ∀ Q : Bool → Hp → Prop, (∀ S2 H2, Stp Z S1 H S2 H2 → Q b H2) → tt σ H Q
abbrev Ra (α : Type) : Type := Hp → List V → α → Prop
def EvA {α : Type} (Z : List Addr) (ta : TA) (σ : L2.St) (S : Hp) (A : Ra α) (x : α) : Prop :=
  ∀ S1 H, Same S S1 → Ok Z S1 H → ∀ Q : List V → Hp → Prop, (∀ S2 H2 vs, Stp Z S1 H S2 H2 → A S2 vs x → Q vs H2) → ta σ H Q
def aN : Ra Unit := fun _ vs _ => vs = []
def aC {α β : Type} (R : Rp α) (A : Ra β) : Ra (α × β) := fun S vs p => ∃ v r, vs = v :: r ∧ R S v p.1 ∧ A S r p.2
def aL {α : Type} (R : Rp α) : Ra (List α) := fun S vs xs => Pr R S vs xs
section
variable {Z : List Addr} {σ : L2.St} {S S' H : Hp} {α β γ : Type} {R : Rp α} {R' : Rp β} {R'' : Rp γ} {te ta tb tc : TE} {tt tu : TT} {tr : TA} {x : α} {y : β} {z : γ} {v : V} {K : PySem.W.Frag}
theorem EvR.mono (e : Same S S') (h : EvR Z te σ S R x) : EvR Z te σ S' R x := fun S1 H s => h S1 H (e.trans s)
theorem EvT.mono {b : Bool} (e : Same S S') (h : EvT Z tt σ S b) : EvT Z tt σ S' b := fun S1 H s => h S1 H (e.trans s)
theorem EvR.is {x' : α} (h : EvR Z te σ S R x) (e : x = x') : EvR Z te σ S R x' := e ▸ h
theorem EvT.is {b c : Bool} (h : EvT Z tt σ S b) (e : b = c) : EvT Z tt σ S c := e ▸ h
theorem ev_var [Up R] {i : Nat} (h : σ[i]? = some (some v)) (r : R S v x) : EvR Z (tVar i) σ S R x := fun S1 H s k Q q => ⟨v, h, q S1 H v (.refl k) (Up.up s r)⟩
theorem ev_int {i : Int} : EvR Z (tC (.int i)) σ S jI i := fun S1 H s k Q q => q S1 H _ (.refl k) rfl
theorem ev_bl {i : Bool} : EvR Z (tC (.bl i)) σ S jB i := fun S1 H s k Q q => q S1 H _ (.refl k) rfl
theorem ev_str {i : Str} : EvR Z (tC (.str i)) σ S jS i := fun S1 H s k Q q => q S1 H _ (.refl k) rfl
theorem ev_non : EvR Z (tC .non) σ S (jO R) none := fun S1 H s k Q q => q S1 H _ (.refl k) rfl
theorem ev_op [Up R] {r : R2} (ha : EvR Z ta σ S R x) (hb : EvR Z tb σ S R' y)
    (hr : ∀ S1 H v w (Q : VK), Same S S1 → Ok Z S1 H → R S1 v x → R' S1 w y → (∀ S2 H2 u, Stp Z S1 H S2 H2 → R'' S2 u z → Q u H2) → r v w H Q) : EvR Z (tOp r ta tb) σ S R'' z := fun S1 H s k Q q =>
  ha S1 H s k _ fun S2 H2 v t rv => hb S2 H2 (s.trans t.ss) t.ok _ fun S3 H3 w t' rw => hr S3 H3 v w Q ((s.trans t.ss).trans t'.ss) t'.ok (Up.up t'.ss rv) rw fun S4 H4 u t'' ru => q S4 H4 u ((t.trans t').trans t'') ru
theorem ev_I0 {g : Int → Int → V} {i j : Int} (ha : EvR Z ta σ S jI i) (hb : EvR Z tb σ S jI j) (h : ∀ S, R S (g i j) x) : EvR Z (tOp (rI0 g) ta tb) σ S R x :=
  ev_op ha hb fun S1 H v w Q s k hv hw q => ⟨i, j, hv, hw, q S1 H _ (.refl k) (h S1)⟩
theorem ev_I {C : Int → Int → Prop} {g : Int → Int → V} {i j : Int} (ha : EvR Z ta σ S jI i) (hb : EvR Z tb σ S jI j) (hc : C i j) (h : ∀ S, R S (g i j) x) : EvR Z (tOp (L2.rI C g) ta tb) σ S R x :=
  ev_op ha hb fun S1 H v w Q s k hv hw q => ⟨i, j, hv, hw, hc, q S1 H _ (.refl k) (h S1)⟩
theorem ev_II {g : Int → Int → Int} {i j : Int} (ha : EvR Z ta σ S jI i) (hb : EvR Z tb σ S jI j) : EvR Z (tOp (rI0 fun i j => .int (g i j)) ta tb) σ S jI (g i j) := ev_I0 ha hb fun _ => rfl
theorem ev_IB {g : Int → Int → Bool} {i j : Int} (ha : EvR Z ta σ S jI i) (hb : EvR Z tb σ S jI j) : EvR Z (tOp (rI0 fun i j => .bl (g i j)) ta tb) σ S jB (g i j) := ev_I0 ha hb fun _ => rfl
theorem ev_eqI {i j : Int} (ha : EvR Z ta σ S jI i) (hb : EvR Z tb σ S jI j) : EvR Z (tOp rEq ta tb) σ S jB (decide (i = j)) :=
  ev_op ha hb fun S1 H v w Q s k hv hw q => by
    have hv : v = .int i := hv
    have hw : w = .int j := hw
    subst hv hw
    refine ⟨rfl, q S1 H _ (.refl k) ?_⟩
    show V.bl _ = V.bl _
    by_cases h : i = j
    · rw [decide_eq_true h, decide_eq_true (by rw [h])]
    · rw [decide_eq_false h, decide_eq_false (fun z => h (V.int.inj z))]
theorem ev_neI {i j : Int} (ha : EvR Z ta σ S jI i) (hb : EvR Z tb σ S jI j) : EvR Z (tOp rNe ta tb) σ S jB (!decide (i = j)) :=
  ev_op ha hb fun S1 H v w Q s k hv hw q => by
    have hv : v = .int i := hv
    have hw : w = .int j := hw
    subst hv hw
    refine ⟨rfl, q S1 H _ (.refl k) ?_⟩
    show V.bl _ = V.bl _
    by_cases h : i = j
    · rw [decide_eq_true h, decide_eq_true (by rw [h])]
    · rw [decide_eq_false h, decide_eq_false (fun z => h (V.int.inj z))]
theorem ev_eqS {i j : Str} (ha : EvR Z ta σ S jS i) (hb : EvR Z tb σ S jS j) : EvR Z (tOp rEq ta tb) σ S jB (decide (i = j)) :=
  ev_op ha hb fun S1 H v w Q s k hv hw q => by
    have hv : v = .str i := hv
    have hw : w = .str j := hw
    subst hv hw
    refine ⟨rfl, q S1 H _ (.refl k) ?_⟩
    show V.bl _ = V.bl _
    by_cases h : i = j
    · rw [decide_eq_true h, decide_eq_true (by rw [h])]
    · rw [decide_eq_false h, decide_eq_false (fun z => h (V.str.inj z))]
theorem ev_neS {i j : Str} (ha : EvR Z ta σ S jS i) (hb : EvR Z tb σ S jS j) : EvR Z (tOp rNe ta tb) σ S jB (!decide (i = j)) :=
  ev_op ha hb fun S1 H v w Q s k hv hw q => by
    have hv : v = .str i := hv
    have hw : w = .str j := hw
    subst hv hw
    refine ⟨rfl, q S1 H _ (.refl k) ?_⟩
    show V.bl _ = V.bl _
    by_cases h : i = j
    · rw [decide_eq_true h, decide_eq_true (by rw [h])]
    · rw [decide_eq_false h, decide_eq_false (fun z => h (V.str.inj z))]
theorem ev_isN {o : Option β} [Up R'] (ha : EvR Z ta σ S (jO R') o) (hn : ∀ S v y, R' S v y → v ≠ .non) : EvR Z (tIsN ta) σ S jB o.isNone := fun S1 H s k Q q =>
  ha S1 H s k _ fun S2 H2 v t r => q S2 H2 _ t (by
    show V.bl _ = V.bl _
    cases o with
    | none =>
      have r' : v = .non := r
      rw [r', decide_eq_true rfl]
      rfl
    | some y =>
      rw [decide_eq_false (hn _ _ _ r)]
      rfl)
theorem et_test {b : Bool} (h : EvR Z te σ S jB b) : EvT Z (tTest te) σ S b := fun S1 H s k Q q => h S1 H s k _ fun S2 H2 v t r => ⟨b, r, q S2 H2 t⟩
theorem et_B {b : Bool} (h : EvR Z te σ S jB b) : EvT Z (tB te) σ S b := fun S1 H s k Q q => h S1 H s k _ fun S2 H2 v t r => ⟨b, r, q S2 H2 t⟩
theorem et_not {b : Bool} (h : EvT Z tt σ S b) : EvT Z (tNot tt) σ S (!b) := fun S1 H s k Q q => h S1 H s k _ q
theorem et_and {a b : Bool} (h1 : EvT Z tt σ S a) (h2 : a = true → EvT Z tu σ S b) : EvT Z (tAnd tt tu) σ S (a && b) := fun S1 H s k Q q => h1 S1 H s k _ fun S2 H2 t => by
  cases a with
  | true => exact iteT (h2 rfl S2 H2 (s.trans t.ss) t.ok Q fun S3 H3 t' => q S3 H3 (t.trans t'))
  | false => exact iteF (q S2 H2 t)
theorem et_or {a b : Bool} (h1 : EvT Z tt σ S a) (h2 : a = false → EvT Z tu σ S b) : EvT Z (tOr tt tu) σ S (a || b) := fun S1 H s k Q q => h1 S1 H s k _ fun S2 H2 t => by
  cases a with
  | true => exact iteT (q S2 H2 t)
  | false => exact iteF (h2 rfl S2 H2 (s.trans t.ss) t.ok Q fun S3 H3 t' => q S3 H3 (t.trans t'))
theorem ev_andV {a b : Bool} (h1 : EvR Z ta σ S jB a) (h2 : a = true → EvR Z tb σ S jB b) : EvR Z (tAndV ta tb) σ S jB (a && b) := fun S1 H s k Q q => h1 S1 H s k _ fun S2 H2 v t r => ⟨a, r, by
  cases a with
  | true => exact iteT (h2 rfl S2 H2 (s.trans t.ss) t.ok Q fun S3 H3 v t' r' => q S3 H3 v (t.trans t') r')
  | false => exact iteF (q S2 H2 _ t rfl)⟩
theorem ev_orV {a b : Bool} (h1 : EvR Z ta σ S jB a) (h2 : a = false → EvR Z tb σ S jB b) : EvR Z (tOrV ta tb) σ S jB (a || b) := fun S1 H s k Q q => h1 S1 H s k _ fun S2 H2 v t r => ⟨a, r, by
  cases a with
  | true => exact iteT (q S2 H2 _ t rfl)
  | false => exact iteF (h2 rfl S2 H2 (s.trans t.ss) t.ok Q fun S3 H3 v t' r' => q S3 H3 v (t.trans t') r')⟩
theorem ev_notV {a : Bool} (h1 : EvR Z ta σ S jB a) : EvR Z (tNotV ta) σ S jB (!a) := fun S1 H s k Q q => h1 S1 H s k _ fun S2 H2 v t r => ⟨a, r, q S2 H2 _ t rfl⟩

/-! ### arguments, calls, displays -/
theorem ea_nil : EvA Z tNil σ S aN () := fun S1 H s k Q q => q S1 H _ (.refl k) rfl
theorem ea_cons [Up R] {A : Ra β} (h : EvR Z te σ S R x) (hr : EvA Z tr σ S A y) : EvA Z (tCons te tr) σ S (aC R A) (x, y) := fun S1 H s k Q q =>
  h S1 H s k _ fun S2 H2 v t r => hr S2 H2 (s.trans t.ss) t.ok _ fun S3 H3 vs t' r' => q S3 H3 _ (t.trans t') ⟨v, vs, rfl, Up.up t'.ss r, r'⟩
theorem el_nil : EvA Z tNil σ S (aL R) [] := fun S1 H s k Q q => q S1 H _ (.refl k) .nil
theorem el_cons [Up R] {xs : List α} (h : EvR Z te σ S R x) (hr : EvA Z tr σ S (aL R) xs) : EvA Z (tCons te tr) σ S (aL R) (x :: xs) := fun S1 H s k Q q =>
  h S1 H s k _ fun S2 H2 v t r => hr S2 H2 (s.trans t.ss) t.ok _ fun S3 H3 vs t' r' => q S3 H3 _ (t.trans t') (.cons (Up.up t'.ss r) r')
/-- a def's promise: its arguments, what is asked of them, what it hands back -/
def Fn (Z : List Addr) (A : Ra α) (pre : α → Prop) (R : Rp β) (f : α → β) : Sp := fun vs H Q _ => ∃ S x, Ok Z S H ∧ A S vs x ∧ pre x ∧ ∀ S' H' r, Stp Z S H S' H' → R S' r (f x) → Q r H'
theorem ev_call {A : Ra α} {pre : α → Prop} {f : α → β} {E : XK} (h : EvA Z tr σ S A x) (p : pre x) : EvR Z (tCall (Fn Z A pre R' f) [] E tr) σ S R' (f x) := fun S1 H s k Q q =>
  h S1 H s k _ fun S2 H2 vs t a => by
    rw [List.append_nil]
    exact ⟨S2, x, t.ok, a, p, fun S3 H3 r t' hr => q S3 H3 r (t.trans t') hr⟩
theorem ev_lst [Up R] {xs : List α} (h : EvA Z tr σ S (aL R) xs) (hl : xs.length ≤ 100000) : EvR Z (tLst tr) σ S (jL R) xs := fun S1 H s k Q q =>
  h S1 H s k _ fun S2 H2 vs t a => ⟨by rw [a.len]; exact Nat.le_trans hl (by decide), fun p hp => q _ _ _ (t.trans (t.ok.add hp)) ⟨p, vs, rfl, upd_same, a.up (same_upd (t.ok.free hp))⟩⟩
theorem ev_nil : EvR Z (tLst tNil) σ S (jL R) [] := fun S1 H s k Q q => ⟨Nat.zero_le _, fun p hp => q _ _ _ (k.add hp) ⟨p, [], rfl, upd_same, .nil⟩⟩
theorem ev_tup2 [Up R] [Up R'] (h : EvA Z tr σ S (aC R (aC R' aN)) (x, y, ())) : EvR Z (tTup tr) σ S (j2 R R') (x, y) := fun S1 H s k Q q =>
  h S1 H s k _ fun S2 H2 vs t ⟨v, r, e, a, w, r', e', b, c⟩ => by
    have c : r' = [] := c
    subst c e' e
    exact ⟨by show 2 ≤ sizeLine; decide, fun p hp => q _ _ _ (t.trans (t.ok.add hp)) ⟨p, v, w, rfl, upd_same, Up.up (same_upd (t.ok.free hp)) a, Up.up (same_upd (t.ok.free hp)) b⟩⟩
theorem ev_tup3 [Up R] [Up R'] [Up R''] (h : EvA Z tr σ S (aC R (aC R' (aC R'' aN))) (x, y, z, ())) : EvR Z (tTup tr) σ S (j3 R R' R'') (x, y, z) := fun S1 H s k Q q =>
  h S1 H s k _ fun S2 H2 vs t ⟨v, r, e, a, w, r', e', b, u, r'', e'', c, d⟩ => by
    have d : r'' = [] := d
    subst d e'' e' e
    exact ⟨by show 3 ≤ sizeLine; decide, fun p hp => q _ _ _ (t.trans (t.ok.add hp)) ⟨p, v, w, u, rfl, upd_same, Up.up (same_upd (t.ok.free hp)) a, Up.up (same_upd (t.ok.free hp)) b, Up.up (same_upd (t.ok.free hp)) c⟩⟩
theorem ev_cat [Up R] {xs ys : List α} (ha : EvR Z ta σ S (jL R) xs) (hb : EvR Z tb σ S (jL R) ys) (hl : xs.length + ys.length ≤ 100000) : EvR Z (tOp rCat ta tb) σ S (jL R) (xs ++ ys) :=
  ev_op ha hb fun S1 H v w Q s k ⟨a, vs, e1, h1, p1⟩ ⟨b, ws, e2, h2, p2⟩ q => ⟨a, b, vs, ws, e1, e2, k.le _ _ h1, k.le _ _ h2, by rw [p1.len, p2.len]; exact Nat.le_trans hl (by decide), fun p hp =>
    q _ _ _ (k.add hp) ⟨p, _, rfl, upd_same, (p1.app p2).up (same_upd (k.free hp))⟩⟩
theorem ev_ixL [Up R] {xs : List α} {i : Int} {j : Nat} (ha : EvR Z ta σ S (jL R) xs) (hb : EvR Z tb σ S jI i) (hi : i = (j : Int)) (hj : xs[j]? = some x) : EvR Z (tOp (rIxL K) ta tb) σ S R x :=
  ev_op ha hb fun S1 H v w Q s k ⟨a, vs, e1, h1, p1⟩ hw q => by
    obtain ⟨u, hu, ru⟩ := p1.at hj
    exact ⟨a, vs, i, u, e1, hw, SqL.of (k.le _ _ h1), by rw [hi]; exact atI_nat hu, q _ _ _ (.refl k) ru⟩
/-- the last item -/
theorem atI_last' {xs : List V} {v : V} {i : Nat} (hi : xs.length = i + 1) (h : xs[i]? = some v) : atI xs (-1) = some v := by
  have h2 : ixN xs.length (-1) = some i := by
    unfold ixN
    first
      | (rw [if_neg (by omega), if_pos (by omega)]; exact congrArg some (by omega))
      | (simp; omega)
  unfold atI
  rw [h2]
  exact h
theorem ev_ixLast [Up R] {xs : List α} (ha : EvR Z ta σ S (jL R) (xs ++ [x])) (hb : EvR Z tb σ S jI (-1)) : EvR Z (tOp (rIxL K) ta tb) σ S R x :=
  ev_op ha hb fun S1 H v w Q s k ⟨a, vs, e1, h1, p1⟩ hw q => by
    obtain ⟨u, hu, ru⟩ := p1.at (i := xs.length) (x := x) (by simp)
    exact ⟨a, vs, -1, u, e1, hw, SqL.of (k.le _ _ h1), atI_last' (by rw [p1.len]; simp) hu, q _ _ _ (.refl k) ru⟩
theorem ev_fst [Up R] [Up R'] (ha : EvR Z ta σ S (j2 R R') (x, y)) (hb : EvR Z tb σ S jI 0) : EvR Z (tOp (rIxT K) ta tb) σ S R x :=
  ev_op ha hb fun S1 H v w Q s k ⟨a, u, u', e1, h1, p1, p2⟩ hw q => ⟨a, [u, u'], 0, u, e1, hw, SqT.of (k.le _ _ h1), rfl, q _ _ _ (.refl k) p1⟩
theorem ev_snd [Up R] [Up R'] (ha : EvR Z ta σ S (j2 R R') (x, y)) (hb : EvR Z tb σ S jI 1) : EvR Z (tOp (rIxT K) ta tb) σ S R' y :=
  ev_op ha hb fun S1 H v w Q s k ⟨a, u, u', e1, h1, p1, p2⟩ hw q => ⟨a, [u, u'], 1, u', e1, hw, SqT.of (k.le _ _ h1), rfl, q _ _ _ (.refl k) p2⟩
theorem ev_3_0 [Up R] [Up R'] [Up R''] (ha : EvR Z ta σ S (j3 R R' R'') (x, y, z)) (hb : EvR Z tb σ S jI 0) : EvR Z (tOp (rIxT K) ta tb) σ S R x :=
  ev_op ha hb fun S1 H v w Q s k ⟨a, u, u', u'', e1, h1, p1, p2, p3⟩ hw q => ⟨a, [u, u', u''], 0, u, e1, hw, SqT.of (k.le _ _ h1), rfl, q _ _ _ (.refl k) p1⟩
theorem ev_3_1 [Up R] [Up R'] [Up R''] (ha : EvR Z ta σ S (j3 R R' R'') (x, y, z)) (hb : EvR Z tb σ S jI 1) : EvR Z (tOp (rIxT K) ta tb) σ S R' y :=
  ev_op ha hb fun S1 H v w Q s k ⟨a, u, u', u'', e1, h1, p1, p2, p3⟩ hw q => ⟨a, [u, u', u''], 1, u', e1, hw, SqT.of (k.le _ _ h1), rfl, q _ _ _ (.refl k) p2⟩
theorem ev_3_2 [Up R] [Up R'] [Up R''] (ha : EvR Z ta σ S (j3 R R' R'') (x, y, z)) (hb : EvR Z tb σ S jI 2) : EvR Z (tOp (rIxT K) ta tb) σ S R'' z :=
  ev_op ha hb fun S1 H v w Q s k ⟨a, u, u', u'', e1, h1, p1, p2, p3⟩ hw q => ⟨a, [u, u', u''], 2, u'', e1, hw, SqT.of (k.le _ _ h1), rfl, q _ _ _ (.refl k) p3⟩
/-- a built-in called -/
theorem ev_cb {r : List V → Hp → VK → Prop} {A : Ra α} (h : EvA Z tr σ S A x)
    (hr : ∀ S1 H vs (Q : VK), Same S S1 → Ok Z S1 H → A S1 vs x → (∀ S2 H2 u, Stp Z S1 H S2 H2 → R' S2 u y → Q u H2) → r vs H Q) : EvR Z (tCB r tr) σ S R' y := fun S1 H s k Q q =>
  h S1 H s k _ fun S2 H2 vs t a => hr S2 H2 vs Q (s.trans t.ss) t.ok a fun S3 H3 u t' ru => q S3 H3 u (t.trans t') ru
end
end Hg
end Z_HgA

section Z_HgB
set_option maxHeartbeats 4000000
/-! Walks, loops, comprehensions, statements. -/
namespace Hg
open PySem L2
section
variable {Z : List Addr} {σ : L2.St} {S S' H S0 H0 : Hp} {α β γ : Type} {R : Rp α} {R' : Rp β} {te ta tb tl : TE} {tt tu : TT} {tr : TA} {x : α} {y : β} {v : V} {K : PySem.W.Frag}
/-- what is walked gives the xs, one by one -/
def EvI (Z : List Addr) (wi : TI) (σ : L2.St) (S : Hp) (R : Rp α) (xs : List α) : Prop := ∀ S1 H, Same S S1 → Ok Z S1 H → ∀ W : It → Hp → Prop,
  (∀ S2 H2 (J : It) (G : Hp → Prop) (Y : Nat → Hp → V → Hp → Prop), Stp Z S1 H S2 H2 → Walk J xs.length G Y → (∀ H3, Same S2 H3 → G H3) →
    (∀ i H3 v H4 x, xs[i]? = some x → Y i H3 v H4 → ∀ S3, Ok Z S3 H3 → Same S2 S3 → ∃ S4, Stp Z S3 H3 S4 H4 ∧ R S4 v x) → W J H2) → wi σ H W
theorem ei_list [Up R] {xs : List α} (hl : EvR Z tl σ S (jL R) xs) : EvI Z (iList K tl) σ S R xs := fun S1 H s k W q =>
  hl S1 H s k _ fun S2 H2 v t ⟨a, vs, e, h, p⟩ => ⟨a, e, ⟨vs, SqL.of (t.ok.le _ _ h)⟩, q S2 H2 (Itl K a) (fun H => SqL K H a vs) (YAt vs) t (by rw [← p.len]; exact walk_list) (fun H3 s3 => SqL.of (s3 _ _ h))
    fun i H3 u H4 x hx ⟨e4, hu⟩ S3 k3 s3 => by
      obtain ⟨x', hx', r⟩ := p.get hu
      rw [hx] at hx'
      cases hx'
      subst e4
      exact ⟨S3, .refl k3, Up.up s3 r⟩⟩
theorem ei_tup [Up R] {xs : List α} (hl : EvR Z tl σ S (jU R) xs) : EvI Z (iTup K tl) σ S R xs := fun S1 H s k W q =>
  hl S1 H s k _ fun S2 H2 v t ⟨a, vs, e, h, p⟩ => ⟨a, e, ⟨vs, SqT.of (t.ok.le _ _ h)⟩, q S2 H2 (Itt K a) (fun H => SqT K H a vs) (YAt vs) t (by rw [← p.len]; exact walk_tup) (fun H3 s3 => SqT.of (s3 _ _ h))
    fun i H3 u H4 x hx ⟨e4, hu⟩ S3 k3 s3 => by
      obtain ⟨x', hx', r⟩ := p.get hu
      rw [hx] at hx'
      cases hx'
      subst e4
      exact ⟨S3, .refl k3, Up.up s3 r⟩⟩
def rng (lo hi : Int) : List Int := (List.range (hi - lo).toNat).map fun (i : Nat) => lo + (i : Int)
theorem rng_len (lo hi : Int) : (rng lo hi).length = (hi - lo).toNat := by unfold rng; simp
theorem rng_at {lo hi x : Int} {i : Nat} (h : (rng lo hi)[i]? = some x) : x = lo + (i : Int) ∧ (i : Int) < hi - lo := by
  have hi' : i < (rng lo hi).length := (List.getElem?_eq_some_iff.mp h).1
  rw [rng_len] at hi'
  unfold rng at h
  rw [List.getElem?_map, List.getElem?_range hi'] at h
  have e : lo + (i : Int) = x := Option.some.inj h
  exact ⟨e.symm, by omega⟩
theorem ei_range2 {i j : Int} (h : EvA Z tr σ S (aC jI (aC jI aN)) (i, j, ())) (b : -100000 ≤ i ∧ i ≤ 100000 ∧ -100000 ≤ j ∧ j ≤ 100000) : EvI Z (iRng2 tr) σ S jI (rng i j) := fun S1 H s k W q =>
  h S1 H s k _ fun S2 H2 vs t ⟨v, r, e, a, w, r', e', b', c⟩ => by
    have c : r' = [] := c
    have a : v = .int i := a
    have b' : w = .int j := b'
    subst c e' e a b'
    exact ⟨i, j, rfl, ⟨by omega, by omega, by omega, by omega⟩, q S2 H2 (Itr i (j - i).toNat) (fun _ => True) (YFn fun n => .int (i + n)) t (by rw [rng_len]; exact walk_range) (fun _ _ => trivial)
      fun n H3 u H4 x hx ⟨e4, hu⟩ S3 k3 s3 => by
        subst e4
        refine ⟨S3, .refl k3, ?_⟩
        show u = .int x
        rw [(rng_at hx).1]
        exact hu⟩
theorem ei_range1 {j : Int} (h : EvA Z tr σ S (aC jI aN) (j, ())) (b : -100000 ≤ j ∧ j ≤ 100000) : EvI Z (iRng1 tr) σ S jI (rng 0 j) := fun S1 H s k W q =>
  h S1 H s k _ fun S2 H2 vs t ⟨v, r, e, a, c⟩ => by
    have c : r = [] := c
    have a : v = .int j := a
    subst c e a
    exact ⟨j, rfl, by omega, by omega, q S2 H2 (Itr 0 j.toNat) (fun _ => True) (YFn fun n => .int (0 + n)) t (by rw [rng_len, Int.sub_zero]; exact walk_range) (fun _ _ => trivial)
      fun n H3 u H4 x hx ⟨e4, hu⟩ S3 k3 s3 => by
        subst e4
        refine ⟨S3, .refl k3, ?_⟩
        show u = .int x
        rw [(rng_at hx).1]
        exact hu⟩
theorem zip_at {xs : List α} {ys : List β} {i : Nat} {p : α × β} (h : (xs.zip ys)[i]? = some p) : xs[i]? = some p.1 ∧ ys[i]? = some p.2 := by
  rw [List.getElem?_zip_eq_some] at h
  exact h
theorem ei_zip [Up R] [Up R'] {xs : List α} {ys : List β} (h : EvA Z tr σ S (aC (jL R) (aC (jL R') aN)) (xs, ys, ())) : EvI Z (iZip K tr) σ S (j2 R R') (xs.zip ys) := fun S1 H s k W q =>
  h S1 H s k _ fun S2 H2 vs t ⟨v, r, e, ⟨a, us, e1, h1, p1⟩, w, r', e', ⟨b, ws, e2, h2, p2⟩, c⟩ => by
    have c : r' = [] := c
    subst c e' e
    refine ⟨a, b, us, ws, by rw [e1, e2], SqL.of (t.ok.le _ _ h1), SqL.of (t.ok.le _ _ h2), q S2 H2 (Itz K a b) (fun H => SqL K H a us ∧ SqL K H b ws) (YPair (fun i => us[i]?) (fun i => ws[i]?)) t
      (walk_zip (by rw [List.length_zip, p1.len, p2.len])) (fun H3 s3 => ⟨SqL.of (s3 _ _ h1), SqL.of (s3 _ _ h2)⟩) ?_⟩
    intro i H3 u H4 x hx ⟨T, x1, y1, e3, hT, e4, hx1, hy1⟩ S3 k3 s3
    obtain ⟨z1, z2⟩ := zip_at hx
    obtain ⟨x', hx', rx⟩ := p1.get hx1
    obtain ⟨y', hy', ry⟩ := p2.get hy1
    rw [z1] at hx'
    rw [z2] at hy'
    cases hx'
    cases hy'
    subst e4
    have z := same_upd (o := .tup [x1, y1]) (k3.free hT)
    exact ⟨_, k3.add hT, T, x1, y1, e3, upd_same, Up.up (s3.trans z) rx, Up.up (s3.trans z) ry⟩

/-! ### targets -/
def EvG (g : TG) (σ : L2.St) (S : Hp) (v : V) (σ2 : L2.St) : Prop := ∀ H, Same S H → ∀ Q : L2.St → Hp → Prop, Q σ2 H → g v σ H Q
theorem eg_name {i : Nat} : EvG (gName i) σ S v (σ.set i (some v)) := fun H _ Q q => q
theorem eg_tup2 {a : Addr} {u w : V} {σ1 σ2 : L2.St} {g1 g2 : TG} (h : S a = some (.tup [u, w])) (h1 : EvG g1 σ S u σ1) (h2 : EvG g2 σ1 S w σ2) : EvG (gTup K 2 (gCons g1 (gCons g2 gNil))) σ S (.ref a) σ2 := fun H s Q q =>
  ⟨a, [u, w], rfl, SqT.of (s _ _ h), rfl, u, [w], rfl, h1 H s _ ⟨w, [], rfl, h2 H s _ ⟨rfl, q⟩⟩⟩

/-! ### loops -/
theorem s_for {wi : TI} {g : TG} {tb : TS} {D : Ends} {xs : List α} [Up R] (hi : EvI Z wi σ S R xs) (k : Stp Z S0 H0 S H) (I : Nat → Hp → L2.St → Hp → Prop)
    (hI : ∀ i S1 σ1 H1 S2 H2, I i S1 σ1 H1 → Stp Z S1 H1 S2 H2 → I i S2 σ1 H2) (h0 : I 0 S σ H)
    (hs : ∀ i x S1 σ1 H1 v (N : L2.St → Hp → Prop), xs[i]? = some x → Stp Z S0 H0 S1 H1 → Same S S1 → R S1 v x → I i S1 σ1 H1 → (∀ S' σ' H', Stp Z S0 H0 S' H' → Same S1 S' → I (i + 1) S' σ' H' → N σ' H') →
      ∃ σ2, EvG g σ1 S1 v σ2 ∧ tb { D with nx := N, ct := N, bk := D.nx } σ2 H1)
    (hd : ∀ S1 σ1 H1, Stp Z S0 H0 S1 H1 → Same S S1 → I xs.length S1 σ1 H1 → D.nx σ1 H1) : tFor wi g tb D σ H :=
  hi S H (Same.refl _) k.ok _ fun S2 H2 J G Y t w hG hY => for_it w (fun i σ' H' => ∃ S', Stp Z S0 H0 S' H' ∧ Same S2 S' ∧ I i S' σ' H')
    ⟨S2, k.trans t, Same.refl _, hI 0 S σ H S2 H2 h0 t⟩ (fun i σ' H' _ ⟨S', k', s', _⟩ => hG H' (s'.trans k'.ok.le))
    (fun i v σ' H' H4 hi' ⟨S', k', s', q⟩ y => by
      obtain ⟨x, hx⟩ : ∃ x, xs[i]? = some x := ⟨xs[i], List.getElem?_eq_getElem hi'⟩
      obtain ⟨S4, t4, r4⟩ := hY i H' v H4 x hx y S' k'.ok s'
      obtain ⟨σ2, e2, b⟩ := hs i x S4 σ' H4 v (fun σ' H' => ∃ S', Stp Z S0 H0 S' H' ∧ Same S2 S' ∧ I (i + 1) S' σ' H') hx (k'.trans t4) (t.ss.trans (s'.trans t4.ss)) r4 (hI i S' σ' H' S4 H4 q t4) (fun S5 σ5 H5 k5 s5 q5 => ⟨S5, k5, (s'.trans t4.ss).trans s5, q5⟩)
      exact e2 H4 t4.ok.le _ b)
    fun σ' H' ⟨S', k', s', q⟩ => hd S' σ' H' k' (t.ss.trans s') q
/-- a while: the measure m of a state is told with its word -/
theorem s_while {c : TT} {tb : TS} {D : Ends} (k : Stp Z S0 H0 S H) (I : Nat → Hp → L2.St → Hp → Prop) {m0 : Nat} (h0 : I m0 S σ H)
    (hs : ∀ m S1 σ1 H1 (Q : Bool → Hp → Prop), Stp Z S0 H0 S1 H1 → Same S S1 → I m S1 σ1 H1 →
      (∀ S2 H2, Stp Z S0 H0 S2 H2 → Same S1 S2 → (∀ N : L2.St → Hp → Prop, (∀ m' S' σ' H', m' < m → Stp Z S0 H0 S' H' → Same S1 S' → I m' S' σ' H' → N σ' H') → tb { D with nx := N, ct := N, bk := D.nx } σ1 H2) → Q true H2) →
      (∀ H2, D.nx σ1 H2 → Q false H2) → c σ1 H1 Q) : tWhile c tb D σ H := by
  refine ⟨fun m σ' H' => ∃ S', Stp Z S0 H0 S' H' ∧ Same S S' ∧ I m S' σ' H', ⟨m0, S, k, Same.refl _, h0⟩, fun m σ1 H1 ⟨S1, k1, s1, q⟩ => ?_⟩
  refine hs m S1 σ1 H1 _ k1 s1 q (fun S2 H2 k2 s2 b => ?_) (fun H2 d => ?_)
  · exact iteT ⟨fun σ' H' => ∃ m', m' < m ∧ ∃ S', Stp Z S0 H0 S' H' ∧ Same S S' ∧ I m' S' σ' H', fun σ' H' h => h, b _ fun m' S' σ' H' hm k' s' q' => ⟨m', hm, S', k', s1.trans s', q'⟩⟩
  · exact iteF d

/-! ### comprehensions -/
theorem take_fm {xs : List α} {i : Nat} {x : α} (b : α → Bool) (f : α → β) (h : xs[i]? = some x) : ((xs.take (i + 1)).filter b).map f = ((xs.take i).filter b).map f ++ (if b x then [f x] else []) := by
  rw [List.take_add_one, h, List.filter_append, List.map_append]
  congr 1
  cases hb : b x with
  | true => simp [hb]
  | false => simp [hb]
theorem ev_lc [Up R] [Up R'] {wi : TI} {g : TG} {vs : List Nat} {xs : List α} (hi : EvI Z wi σ S R xs) (b : α → Bool) (f : α → β)
    (hs : ∀ S1 v x, x ∈ xs → Same S S1 → R S1 v x → ∃ σ2, EvG g (wipe σ vs) S1 v σ2 ∧ wipe σ2 vs = wipe σ vs ∧ EvT Z tt σ2 S1 (b x) ∧ (b x = true → EvR Z te σ2 S1 R' (f x)))
    (hl : xs.length ≤ 100000) : EvR Z (tLc wi g tt te vs) σ S (jL R') ((xs.filter b).map f) := fun S1 H1 s1 k1 Q q =>
  hi S1 H1 s1 k1 _ fun S2 H2 J G Y t w hG hY D hD => lc_it w (fun i H' => ∃ S' acc, Stp Z S2 H2 S' H' ∧ Own Z S' H' D (.lst acc) ∧ Pr R' S' acc (((xs.take i).filter b).map f))
    ⟨S2, [], t.ok.mk' hD, Own.new t.ok hD, .nil⟩ (fun i H' _ ⟨S', acc, k', _⟩ => hG H' (k'.ss.trans k'.ok.le))
    (fun i v H' H4 hi' ⟨S', acc, k', o', p'⟩ y => by
      obtain ⟨x, hx⟩ : ∃ x, xs[i]? = some x := ⟨xs[i], List.getElem?_eq_getElem hi'⟩
      obtain ⟨S4, t4, r4⟩ := hY i H' v H4 x hx y S' k'.ok k'.ss
      have s4 : Same S S4 := (s1.trans t.ss).trans (k'.ss.trans t4.ss)
      obtain ⟨σ2, e2, w2, c2, b2⟩ := hs S4 v x (List.mem_of_getElem? hx) s4 r4
      refine e2 H4 t4.ok.le _ ⟨w2, c2 S4 H4 (Same.refl _) t4.ok _ fun S5 H5 t5 => ?_⟩
      have o5 := (o'.step t4).step t5
      have p5 := p'.up (t4.ss.trans t5.ss)
      have k5 := (k'.trans t4).trans t5
      have e := take_fm b f hx
      cases hb : b x with
      | false =>
        refine iteF ⟨S5, acc, k5, o5, ?_⟩
        rw [e, hb]
        simpa using p5
      | true =>
        refine iteT (b2 hb S5 H5 t5.ss t5.ok _ fun S6 H6 u t6 r6 => ?_)
        have o6 := o5.step t6
        have hlen : acc.length < sizeLine := by
          rw [p'.len, List.length_map]
          refine Nat.lt_of_le_of_lt (List.length_filter_le _ _) ?_
          rw [List.length_take]
          refine Nat.lt_of_le_of_lt (Nat.min_le_right _ _) (Nat.lt_of_le_of_lt hl (by decide))
        refine ⟨acc, o6.at_, hlen, S6, acc ++ [u], (k5.trans t6).put hD o6.off, o6.put, ?_⟩
        rw [e, hb]
        exact (p5.up t6.ss).app (Pr.one r6))
    fun H' ⟨S', acc, k', o', p'⟩ => by
      rw [List.take_length] at p'
      exact q _ _ _ (t.trans (k'.frz hD o'.at_)) ⟨D, acc, rfl, upd_same, p'.up (same_upd o'.off)⟩
theorem et_yes : EvT Z tYes σ S true := fun S1 H s k Q q => q S1 H (.refl k)
/-- without a test -/
theorem ev_lcM [Up R] [Up R'] {wi : TI} {g : TG} {vs : List Nat} {xs : List α} (hi : EvI Z wi σ S R xs) (f : α → β)
    (hs : ∀ S1 v x, x ∈ xs → Same S S1 → R S1 v x → ∃ σ2, EvG g (wipe σ vs) S1 v σ2 ∧ wipe σ2 vs = wipe σ vs ∧ EvR Z te σ2 S1 R' (f x))
    (hl : xs.length ≤ 100000) : EvR Z (tLc wi g tYes te vs) σ S (jL R') (xs.map f) := by
  have e : xs.map f = (xs.filter fun _ => true).map f := by rw [List.filter_eq_self.mpr fun _ _ => rfl]
  rw [e]
  refine ev_lc hi (fun _ => true) f (fun S1 v x hx s r => ?_) hl
  obtain ⟨σ2, h1, h2, h3⟩ := hs S1 v x hx s r
  exact ⟨σ2, h1, h2, et_yes, fun _ => h3⟩

/-! ### statements -/
variable {D : Ends} {t1 t2 : TS}
theorem s_seq (h : t1 { D with nx := t2 D } σ H) : tSeq t1 t2 D σ H := h
theorem s_set {i : Nat} (h : EvR Z te σ S R x) (k : Ok Z S H) (n : ∀ S' H' v, Stp Z S H S' H' → R S' v x → D.nx (σ.set i (some v)) H') : tAsg te (gName i) D σ H := h S H (Same.refl _) k _ n
theorem s_ret (h : EvR Z te σ S R x) (k : Ok Z S H) (n : ∀ S' H' v, Stp Z S H S' H' → R S' v x → D.rt v H') : tRet te D σ H := h S H (Same.refl _) k _ n
theorem s_if {b : Bool} (h : EvT Z tt σ S b) (k : Ok Z S H) (h1 : b = true → ∀ S' H', Stp Z S H S' H' → t1 D σ H') (h2 : b = false → ∀ S' H', Stp Z S H S' H' → t2 D σ H') : tIfS tt t1 t2 D σ H := h S H (Same.refl _) k _ fun S' H' t => by
  cases b with
  | true => exact iteT (h1 rfl S' H' t)
  | false => exact iteF (h2 rfl S' H' t)
/-- a list that is worked at -/
def OwnL (Z : List Addr) (S H : Hp) (l : Addr) (R : Rp α) (xs : List α) : Prop := ∃ vs, Own Z S H l (.lst vs) ∧ Pr R S vs xs
theorem OwnL.step [Up R] {l : Addr} {xs : List α} (w : OwnL Z S H l R xs) {S1 H1 : Hp} (t : Stp Z S H S1 H1) : OwnL Z S1 H1 l R xs := let ⟨vs, o, p⟩ := w; ⟨vs, o.step t, p.up t.ss⟩
theorem OwnL.nil (k : Ok Z S H) {p : Addr} (hp : H p = none) : OwnL Z S (upd H p (.lst [])) p R [] := ⟨[], Own.new k hp, .nil⟩
theorem OwnL.off {l : Addr} {xs : List α} (w : OwnL Z S H l R xs) : S l = none := let ⟨_, o, _⟩ := w; o.off
/-- x = [] -/
theorem s_new {i : Nat} (k : Ok Z S H) (n : ∀ p H', H p = none → Stp Z S H S H' → OwnL Z S H' p R [] → D.nx (σ.set i (some (.ref p))) H') : tAsg (tLst tNil) (gName i) D σ H :=
  ⟨Nat.zero_le _, fun p hp => n p _ hp (k.mk' hp) (OwnL.nil k hp)⟩
/-- l.append(e), l a name's -/
theorem s_app [Up R] {i : Nat} {l : Addr} {xs : List α} (ho : σ[i]? = some (some (.ref l))) (w : OwnL Z S H l R xs) (h : EvR Z te σ S R x) (k : Stp Z S0 H0 S H) (h0 : H0 l = none) (hl : xs.length < 100000)
    (n : ∀ S' H', Stp Z S0 H0 S' H' → Same S S' → OwnL Z S' H' l R (xs ++ [x]) → (∀ m u, m ≠ l → Own Z S H m u → Own Z S' H' m u) → D.nx σ H') : tDrop (tBM K "list" rAppend (tVar i) (tCons te tNil)) D σ H := by
  obtain ⟨vs, o, p⟩ := w
  refine ⟨.ref l, ho, Or.inl ⟨rfl, vs, SqL.of o.at_⟩, h S H (Same.refl _) k.ok _ fun S1 H1 v t r => ?_⟩
  have o1 := o.step t
  refine ⟨l, vs, v, rfl, rfl, o1.at_, ?_, n S1 _ ((k.trans t).put h0 o1.off) t.ss ⟨vs ++ [v], o1.put, (p.up t.ss).app (Pr.one r)⟩ fun m u ne om => (om.step t).other ne⟩
  rw [p.len]
  exact Nat.lt_trans hl (by decide)
theorem OwnL.other {l m : Addr} {xs : List α} (w : OwnL Z S H l R xs) (ne : l ≠ m) {u : HO} : OwnL Z S (upd H m u) l R xs := let ⟨vs, o, p⟩ := w; ⟨vs, o.other ne, p⟩
/-- such a list stays from now on -/
theorem OwnL.frz [Up R] {l : Addr} {xs : List α} (w : OwnL Z S H l R xs) (k : Stp Z S0 H0 S H) (h0 : H0 l = none) : ∃ S', Stp Z S0 H0 S' H ∧ Same S S' ∧ jL R S' (.ref l) xs := by
  obtain ⟨vs, o, p⟩ := w
  exact ⟨_, k.frz h0 o.at_, same_upd o.off, l, vs, rfl, upd_same, p.up (same_upd o.off)⟩
theorem ev_fld [Up R'] {f : Str} {C : Addr} (ha : EvR Z ta σ S R x) (c : Cls K C) (n : NoAttr K C f) (h : ∀ S1 v, R S1 v x → ∃ a dx fs u, v = .ref a ∧ S1 a = some (.ins C dx fs) ∧ fs.lookup f = some u ∧ R' S1 u y) : EvR Z (tFld K ta f) σ S R' y := fun S1 H s k Q q =>
  ha S1 H s k _ fun S2 H2 v t r => by
    obtain ⟨a, dx, fs, u, e, hs, hl, ru⟩ := h S2 v r
    exact ⟨a, C, dx, fs, u, e, t.ok.le _ _ hs, c, n, hl, q S2 H2 u t ru⟩
theorem ev_len {xs : List α} (ha : EvR Z ta σ S (jL R) xs) : EvR Z (tCB (fun xs H Q => ∃ p ys, xs = [.ref p] ∧ (SqL K H p ys ∨ SqT K H p ys) ∧ Q (.int ys.length) H) (tCons ta tNil)) σ S jI (xs.length : Int) := fun S1 H s k Q q =>
  ha S1 H s k _ fun S2 H2 v t ⟨a, vs, e, h, p⟩ => ⟨a, vs, by rw [e], Or.inl (SqL.of (t.ok.le _ _ h)), q _ _ _ t (by rw [p.len]; rfl)⟩
theorem ev_sum {xs : List Int} (ha : EvR Z ta σ S (jL jI) xs) : EvR Z (tCB (rSum K) (tCons ta tNil)) σ S jI xs.sum := fun S1 H s k Q q =>
  ha S1 H s k _ fun S2 H2 v t ⟨a, vs, e, h, p⟩ => ⟨a, xs, by rw [e], SqL.of (by rw [← p.ints]; exact t.ok.le _ _ h), q _ _ _ t rfl⟩
theorem ev_slice [Up R] {tl th : TO} {xs : List α} {lo hi : Option Int} (ha : EvR Z ta σ S (jL R) xs) (h1 : ∀ S1 H, Same S S1 → Ok Z S1 H → ∀ Q : Option Int → Hp → Prop, (∀ S2 H2, Stp Z S1 H S2 H2 → Q lo H2) → tl σ H Q)
    (h2 : ∀ S1 H, Same S S1 → Ok Z S1 H → ∀ Q : Option Int → Hp → Prop, (∀ S2 H2, Stp Z S1 H S2 H2 → Q hi H2) → th σ H Q) (n m : Nat) (hc : ∀ vs : List V, vs.length = xs.length → cutV vs lo hi = (vs.drop n).take m) :
    EvR Z (tSl (rSlL K) ta tl th) σ S (jL R) ((xs.drop n).take m) := fun S1 H s k Q q =>
  ha S1 H s k _ fun S2 H2 v t ⟨a, vs, e, h, p⟩ => h1 S2 H2 (s.trans t.ss) t.ok _ fun S3 H3 t3 => h2 S3 H3 ((s.trans t.ss).trans t3.ss) t3.ok _ fun S4 H4 t4 =>
    ⟨a, vs, e, SqL.of (t4.ok.le _ _ (t4.ss _ _ (t3.ss _ _ h))), fun p' hp => q _ _ _ (((t.trans t3).trans t4).trans (t4.ok.add hp)) ⟨p', _, rfl, upd_same, by
      rw [hc vs p.len]
      exact ((((p.up t3.ss).up t4.ss).up (same_upd (t4.ok.free hp))).drop n).take m⟩⟩
theorem eo_none : ∀ S1 H, Same S S1 → Ok Z S1 H → ∀ Q : Option Int → Hp → Prop, (∀ S2 H2, Stp Z S1 H S2 H2 → Q none H2) → tNoPart σ H Q := fun S1 H _ k Q q => q S1 H (.refl k)
theorem eo_some {i : Int} (h : EvR Z te σ S jI i) : ∀ S1 H, Same S S1 → Ok Z S1 H → ∀ Q : Option Int → Hp → Prop, (∀ S2 H2, Stp Z S1 H S2 H2 → Q (some i) H2) → tPart te σ H Q := fun S1 H s k Q q =>
  h S1 H s k _ fun S2 H2 v t r => ⟨i, r, q S2 H2 t⟩
/-- tuple(xs) of a list -/
theorem ev_tupleL [Up R] {xs : List α} (ha : EvR Z ta σ S (jL R) xs) : EvR Z (tCB (fun xs H Q => ∃ p ys, xs = [.ref p] ∧ ((SqL K H p ys ∧ ∀ l, H l = none → Q (.ref l) (upd H l (.tup ys))) ∨ (SqT K H p ys ∧ Q (.ref p) H))) (tCons ta tNil)) σ S (jU R) xs := fun S1 H s k Q q =>
  ha S1 H s k _ fun S2 H2 v t ⟨a, vs, e, h, p⟩ => ⟨a, vs, by rw [e], Or.inl ⟨SqL.of (t.ok.le _ _ h), fun l hl => q _ _ _ (t.trans (t.ok.add hl)) ⟨l, vs, rfl, upd_same, p.up (same_upd (t.ok.free hl))⟩⟩⟩
/-- list(xs) of a list -/
theorem ev_listL [Up R] {xs : List α} (ha : EvR Z ta σ S (jL R) xs) : EvR Z (tCB (fun xs H Q => ∃ p ys, xs = [.ref p] ∧ (SqL K H p ys ∨ SqT K H p ys) ∧ ∀ l, H l = none → Q (.ref l) (upd H l (.lst ys))) (tCons ta tNil)) σ S (jL R) xs := fun S1 H s k Q q =>
  ha S1 H s k _ fun S2 H2 v t ⟨a, vs, e, h, p⟩ => ⟨a, vs, by rw [e], Or.inl (SqL.of (t.ok.le _ _ h)), fun l hl => q _ _ _ (t.trans (t.ok.add hl)) ⟨l, vs, rfl, upd_same, p.up (same_upd (t.ok.free hl))⟩⟩
end
end Hg
end Z_HgB

section Z_Head
set_option maxHeartbeats 0
/-! The text by places, the facts that the top leaves, the run of the top. Printed by genhead.py. -/
namespace Hg
open PySem PySem.Spec PyProof.Rows L2
def top (i : Nat) : Stmt := PySem.Challenge.pw_heapgame_k94_whole_better_contracts.main.body.getD i (.Pass ⟨0, 0, 0, 0⟩)
abbrev s_Contract_init : Stmt := inClass (top 12) 0
def d_Contract_init : He.DefD := ⟨("Contract", some "__init__"), "__init__", "Contract.__init__", defArgs s_Contract_init, defBody s_Contract_init, defScope s_Contract_init, [], []⟩
abbrev s_is_layout : Stmt := top 13
def d_is_layout : He.DefD := ⟨("is_layout", none), "is_layout", "is_layout", defArgs s_is_layout, defBody s_is_layout, defScope s_is_layout, [], []⟩
abbrev s_live_cells : Stmt := top 14
def d_live_cells : He.DefD := ⟨("live_cells", none), "live_cells", "live_cells", defArgs s_live_cells, defBody s_live_cells, defScope s_live_cells, [], []⟩
abbrev s_fits : Stmt := top 15
def d_fits : He.DefD := ⟨("fits", none), "fits", "fits", defArgs s_fits, defBody s_fits, defScope s_fits, [], []⟩
abbrev s_with_block : Stmt := top 16
def d_with_block : He.DefD := ⟨("with_block", none), "with_block", "with_block", defArgs s_with_block, defBody s_with_block, defScope s_with_block, [], []⟩
abbrev s_without : Stmt := top 17
def d_without : He.DefD := ⟨("without", none), "without", "without", defArgs s_without, defBody s_without, defScope s_without, [], []⟩
abbrev s_placed : Stmt := top 19
def d_placed : He.DefD := ⟨("placed", none), "placed", "placed", defArgs s_placed, defBody s_placed, defScope s_placed, [], []⟩
abbrev s_relocated : Stmt := top 20
def d_relocated : He.DefD := ⟨("relocated", none), "relocated", "relocated", defArgs s_relocated, defBody s_relocated, defScope s_relocated, [], []⟩
abbrev s_is_relocation : Stmt := top 21
def d_is_relocation : He.DefD := ⟨("is_relocation", none), "is_relocation", "is_relocation", defArgs s_is_relocation, defBody s_is_relocation, defScope s_is_relocation, [], []⟩
abbrev s_cost : Stmt := top 22
def d_cost : He.DefD := ⟨("cost", none), "cost", "cost", defArgs s_cost, defBody s_cost, defScope s_cost, [], []⟩
abbrev s_positions : Stmt := top 24
def d_positions : He.DefD := ⟨("positions", none), "positions", "positions", defArgs s_positions, defBody s_positions, defScope s_positions, [], []⟩
abbrev s_requestable : Stmt := top 25
def d_requestable : He.DefD := ⟨("requestable", none), "requestable", "requestable", defArgs s_requestable, defBody s_requestable, defScope s_requestable, [], []⟩
abbrev s_starts_within : Stmt := top 26
def d_starts_within : He.DefD := ⟨("starts_within", none), "starts_within", "starts_within", defArgs s_starts_within, defBody s_starts_within, defScope s_starts_within, [], []⟩
abbrev s_relocations : Stmt := top 27
def d_relocations : He.DefD := ⟨("relocations", none), "relocations", "relocations", defArgs s_relocations, defBody s_relocations, defScope s_relocations, [], []⟩
abbrev s_replies : Stmt := top 28
def d_replies : He.DefD := ⟨("replies", none), "replies", "replies", defArgs s_replies, defBody s_replies, defScope s_replies, [], []⟩
abbrev s_reply_key : Stmt := top 29
def d_reply_key : He.DefD := ⟨("reply_key", none), "reply_key", "reply_key", defArgs s_reply_key, defBody s_reply_key, defScope s_reply_key, [], []⟩
abbrev s_after_reply : Stmt := top 30
def d_after_reply : He.DefD := ⟨("after_reply", none), "after_reply", "after_reply", defArgs s_after_reply, defBody s_after_reply, defScope s_after_reply, [], []⟩
abbrev s_Options_init : Stmt := inClass (top 31) 0
def d_Options_init : He.DefD := ⟨("Options", some "__init__"), "__init__", "Options.__init__", defArgs s_Options_init, defBody s_Options_init, defScope s_Options_init, [], []⟩
abbrev s_Options_forced : Stmt := inClass (top 31) 1
def d_Options_forced : He.DefD := ⟨("Options", some "forced"), "forced", "Options.forced", defArgs s_Options_forced, defBody s_Options_forced, defScope s_Options_forced, [], []⟩
abbrev s_Game_init : Stmt := inClass (top 32) 0
def d_Game_init : He.DefD := ⟨("Game", some "__init__"), "__init__", "Game.__init__", defArgs s_Game_init, defBody s_Game_init, defScope s_Game_init, [], []⟩
abbrev s_Game_rank : Stmt := inClass (top 32) 1
def d_Game_rank : He.DefD := ⟨("Game", some "rank"), "rank", "Game.rank", defArgs s_Game_rank, defBody s_Game_rank, defScope s_Game_rank, [], []⟩
abbrev s_Game_winner : Stmt := inClass (top 32) 2
def d_Game_winner : He.DefD := ⟨("Game", some "winner"), "winner", "Game.winner", defArgs s_Game_winner, defBody s_Game_winner, defScope s_Game_winner, [], []⟩
abbrev s_is_better : Stmt := top 34
def d_is_better : He.DefD := ⟨("is_better", none), "is_better", "is_better", defArgs s_is_better, defBody s_is_better, defScope s_is_better, [], []⟩
abbrev s_Store_init : Stmt := inClass (top 46) 0
def d_Store_init : He.DefD := ⟨("Store", some "__init__"), "__init__", "Store.__init__", defArgs s_Store_init, defBody s_Store_init, defScope s_Store_init, [], []⟩
abbrev s_StrategyManager_init : Stmt := inClass (top 48) 0
def d_StrategyManager_init : He.DefD := ⟨("StrategyManager", some "__init__"), "__init__", "StrategyManager.__init__", defArgs s_StrategyManager_init, defBody s_StrategyManager_init, defScope s_StrategyManager_init, [], []⟩
abbrev s_State_init : Stmt := inClass (top 49) 0
def d_State_init : He.DefD := ⟨("State", some "__init__"), "__init__", "State.__init__", defArgs s_State_init, defBody s_State_init, defScope s_State_init, [], []⟩
abbrev s_ManagedHeap_init : Stmt := inClass (top 50) 0
def d_ManagedHeap_init : He.DefD := ⟨("ManagedHeap", some "__init__"), "__init__", "ManagedHeap.__init__", defArgs s_ManagedHeap_init, defBody s_ManagedHeap_init, defScope s_ManagedHeap_init, [], []⟩
abbrev s_ManagedHeap_words : Stmt := inClass (top 50) 7
def d_ManagedHeap_words : He.DefD := ⟨("ManagedHeap", some "words"), "words", "ManagedHeap.words", defArgs s_ManagedHeap_words, defBody s_ManagedHeap_words, defScope s_ManagedHeap_words, [], []⟩
abbrev s_contract_heap : Stmt := top 51
def d_contract_heap : He.DefD := ⟨("contract_heap", none), "contract_heap", "contract_heap", defArgs s_contract_heap, defBody s_contract_heap, defScope s_contract_heap, [], []⟩
abbrev s_law_cell : Stmt := top 53
def d_law_cell : He.DefD := ⟨("_law_cell", none), "_law_cell", "_law_cell", defArgs s_law_cell, defBody s_law_cell, defScope s_law_cell, [], []⟩
abbrev s_law_row : Stmt := top 54
def d_law_row : He.DefD := ⟨("_law_row", none), "_law_row", "_law_row", defArgs s_law_row, defBody s_law_row, defScope s_law_row, [], []⟩
abbrev s_law_box : Stmt := top 55
def d_law_box : He.DefD := ⟨("_law_box", none), "_law_box", "_law_box", defArgs s_law_box, defBody s_law_box, defScope s_law_box, [], []⟩
abbrev s_law_draw : Stmt := top 56
def d_law_draw : He.DefD := ⟨("_law_draw", none), "_law_draw", "_law_draw", defArgs s_law_draw, defBody s_law_draw, defScope s_law_draw, [], []⟩
abbrev s_law_contract : Stmt := top 57
def d_law_contract : He.DefD := ⟨("_law_contract", none), "_law_contract", "_law_contract", defArgs s_law_contract, defBody s_law_contract, defScope s_law_contract, [], []⟩
abbrev s_law_live : Stmt := top 58
def d_law_live : He.DefD := ⟨("_law_live", none), "_law_live", "_law_live", defArgs s_law_live, defBody s_law_live, defScope s_law_live, [], []⟩
abbrev s_law_apart : Stmt := top 59
def d_law_apart : He.DefD := ⟨("_law_apart", none), "_law_apart", "_law_apart", defArgs s_law_apart, defBody s_law_apart, defScope s_law_apart, [], []⟩
abbrev s_law_positions : Stmt := top 60
def d_law_positions : He.DefD := ⟨("_law_positions", none), "_law_positions", "_law_positions", defArgs s_law_positions, defBody s_law_positions, defScope s_law_positions, [], []⟩
abbrev s_law_allowed : Stmt := top 61
def d_law_allowed : He.DefD := ⟨("_law_allowed", none), "_law_allowed", "_law_allowed", defArgs s_law_allowed, defBody s_law_allowed, defScope s_law_allowed, [], []⟩
abbrev s_law_replies : Stmt := top 62
def d_law_replies : He.DefD := ⟨("_law_replies", none), "_law_replies", "_law_replies", defArgs s_law_replies, defBody s_law_replies, defScope s_law_replies, [], []⟩
abbrev s_law_after : Stmt := top 63
def d_law_after : He.DefD := ⟨("_law_after", none), "_law_after", "_law_after", defArgs s_law_after, defBody s_law_after, defScope s_law_after, [], []⟩
abbrev s_law_without : Stmt := top 64
def d_law_without : He.DefD := ⟨("_law_without", none), "_law_without", "_law_without", defArgs s_law_without, defBody s_law_without, defScope s_law_without, [], []⟩
abbrev s_law_ways : Stmt := top 65
def d_law_ways : He.DefD := ⟨("_law_ways", none), "_law_ways", "_law_ways", defArgs s_law_ways, defBody s_law_ways, defScope s_law_ways, [], []⟩
abbrev s_law_ranks : Stmt := top 66
def d_law_ranks : He.DefD := ⟨("_law_ranks", none), "_law_ranks", "_law_ranks", defArgs s_law_ranks, defBody s_law_ranks, defScope s_law_ranks, [], []⟩
abbrev s_law_forced : Stmt := top 67
def d_law_forced : He.DefD := ⟨("_law_forced", none), "_law_forced", "_law_forced", defArgs s_law_forced, defBody s_law_forced, defScope s_law_forced, [], []⟩
abbrev s_law : Stmt := top 68
def d_law : He.DefD := ⟨("law", none), "law", "law", defArgs s_law, defBody s_law, defScope s_law, [], []⟩
def fn : List He.DefD := [d_Contract_init, d_is_layout, d_live_cells, d_fits, d_with_block, d_without, d_placed, d_relocated, d_is_relocation, d_cost, d_positions, d_requestable, d_starts_within, d_relocations, d_replies, d_reply_key, d_after_reply, d_Options_init, d_Options_forced, d_Game_init, d_Game_rank, d_Game_winner, d_is_better, d_Store_init, d_StrategyManager_init, d_State_init, d_ManagedHeap_init, d_ManagedHeap_words, d_contract_heap, d_law_cell, d_law_row, d_law_box, d_law_draw, d_law_contract, d_law_live, d_law_apart, d_law_positions, d_law_allowed, d_law_replies, d_law_after, d_law_without, d_law_ways, d_law_ranks, d_law_forced, d_law]
def fa0 : List He.Fa := [.glo "is_layout", .glo "live_cells", .glo "fits", .glo "with_block", .glo "without", .glo "placed", .glo "relocated", .glo "is_relocation", .glo "cost", .glo "positions", .glo "requestable", .glo "starts_within", .glo "relocations", .glo "replies", .glo "reply_key", .glo "after_reply", .glo "is_better", .glo "contract_heap", .glo "_law_cell", .glo "_law_row", .glo "_law_box", .glo "_law_draw", .glo "_law_contract", .glo "_law_live", .glo "_law_apart", .glo "_law_positions", .glo "_law_allowed", .glo "_law_replies", .glo "_law_after", .glo "_law_without"]
def fa1 : List He.Fa := [.glo "_law_ways", .glo "_law_ranks", .glo "_law_forced", .glo "law", .glo "Contract", .cls "Contract", .mkr "Contract", .noat "Contract" "size", .noat "Contract" "limit", .noat "Contract" "lengths", .noat "Contract" "budget", .glo "Options", .cls "Options", .mkr "Options", .noat "Options" "released", .noat "Options" "answered", .meth "Options" "forced", .glo "Game", .cls "Game", .mkr "Game", .noat "Game" "contract", .noat "Game" "ranks", .meth "Game" "rank", .meth "Game" "winner", .glo "StrategyManager", .cls "StrategyManager", .mkr "StrategyManager", .noat "StrategyManager" "game", .noat "StrategyManager" "size", .noat "StrategyManager" "strategy"]
def fa2 : List He.Fa := [.glo "State", .cls "State", .mkr "State", .noat "State" "store", .noat "State" "starts", .noat "State" "cursor", .glo "Store", .cls "Store", .mkr "Store", .noat "Store" "objects", .noat "Store" "roots", .noat "Store" "next_number", .glo "ManagedHeap", .cls "ManagedHeap", .mkr "ManagedHeap", .noat "ManagedHeap" "manager", .noat "ManagedHeap" "state", .noat "ManagedHeap" "earlier", .noat "ManagedHeap" "events", .meth "ManagedHeap" "words", .free "len", .free "range", .free "sum", .free "sorted", .free "all", .free "any", .free "zip", .free "tuple", .free "list", .free "set"]
def fa3 : List He.Fa := [.free "int", .free "min", .free "max"]
def fa : List He.Fa := fa0 ++ fa1 ++ fa2 ++ fa3
def tf : List He.Defn := [("fits", none), ("is_relocation", none)]
def fnNames0 : List Str := ["is_layout", "live_cells", "fits", "with_block", "without", "placed", "relocated", "is_relocation", "cost", "positions", "requestable", "starts_within", "relocations", "replies", "reply_key", "after_reply", "is_better", "contract_heap", "_law_cell", "_law_row"]
def fnNames1 : List Str := ["_law_box", "_law_draw", "_law_contract", "_law_live", "_law_apart", "_law_positions", "_law_allowed", "_law_replies", "_law_after", "_law_without", "_law_ways", "_law_ranks", "_law_forced", "law"]
def fnNames : List Str := fnNames0 ++ fnNames1
def clNames : List (Str × List Str) := [("Contract", ["__init__"]), ("Options", ["__init__", "forced"]), ("Game", ["__init__", "rank", "winner"]), ("StrategyManager", ["__init__"]), ("State", ["__init__"]), ("Store", ["__init__"]), ("ManagedHeap", ["__init__", "words"])]
def names0 : List PySem.Str := ["_wall", "HeapgameError", "OutOfMemory", "NotAllowed", "NoRoom", "NoSuchObject", "NoSuchField", "StillUsed", "StrategyDecides", "Loses", "Contract", "is_layout", "live_cells", "fits", "with_block", "without", "placed", "relocated", "is_relocation", "cost", "positions", "requestable", "starts_within", "relocations", "replies", "reply_key", "after_reply", "Options", "Game", "is_better"]
def names1 : List PySem.Str := ["canonical", "relocation_map", "slide_left", "lesser", "put_block", "put_room", "cheapest_room", "target_of", "Store", "StrategyManager", "State", "ManagedHeap", "contract_heap", "_law_cell", "_law_row", "_law_box", "_law_draw", "_law_contract", "_law_live", "_law_apart", "_law_positions", "_law_allowed", "_law_replies", "_law_after", "_law_without", "_law_ways", "_law_ranks", "_law_forced"]
def names : List PySem.Str := names0 ++ names1
abbrev R : PySem.W.OpenRow := PySem.W.OpenLaw.row PySem.Challenge.rw_heapgame_k94_whole_better_contracts
abbrev qv : Program := PySem.W.view R.prog [68]
/-! the part of the heap that is looked at: the names' own objects, their code, the classes' methods -/
def fnA (g : Addr → Option Obj) (a : Addr) : List Addr := a :: (match g a with
  | some ⟨_, _, .func fd, _⟩ => He.refV fd.code
  | _ => [])
def clA (g : Addr → Option Obj) (C : Addr) (ms : List Str) : List Addr := C :: (match g C with
  | some ⟨_, _, .cls cd, _⟩ => cd.ns :: (ms.flatMap fun m => match PySem.W.nsIn (He.frG g [cd.ns]) cd.ns m with
    | some (some (.ref a)) => fnA g a
    | _ => [])
  | _ => [])
def asH (g : Addr → Option Obj) : List Addr := mainGlobals :: ((fnNames.flatMap fun x => fnA g (He.ga (He.frG g [mainGlobals]) x)) ++ clNames.flatMap fun p => clA g (He.ga (He.frG g [mainGlobals]) p.1) p.2)
abbrev Al : Type := He.AlD × Bool
def obsH (g : Addr → Option Obj) : Al := (He.obsD fa fn (He.frT g (asH g)), He.tabsB g tf (He.frT g (asH g)))
def valH : Al := (He.valD fn, true)
structure Says (h : Heap) (K : PySem.W.Frag) : Prop where
  d : He.SaysD fa fn K
  hd : ∀ p ∈ tf, PySem.W.codeHdIn K (He.cT K p).1 (He.cT K p).2 = true
  out : ∀ p ∈ tf, K.lookup (He.cT K p).2 = none
  empty : ∀ p ∈ tf, h.get? (He.cT K p).2 = some { cls := .none, data := .fields #[] }
theorem says_of {h : Heap} (e : obsH h.get? = valH) : Says h (He.frT h.get? (asH h.get?)) := by
  obtain ⟨e1, e2⟩ := Prod.mk.inj e
  have key : ∀ p ∈ tf, PySem.W.codeHdIn (He.frT h.get? (asH h.get?)) (He.cT (He.frT h.get? (asH h.get?)) p).1 (He.cT (He.frT h.get? (asH h.get?)) p).2 = true ∧ ∃ u, h.get? (He.cT (He.frT h.get? (asH h.get?)) p).2 = some u ∧ He.emptyTab u = true := by
    intro p hp
    have z := List.all_eq_true.mp e2 p hp
    rw [Bool.and_eq_true] at z
    refine ⟨z.1, ?_⟩
    cases q : h.get? (He.cT (He.frT h.get? (asH h.get?)) p).2 with
    | none =>
      rw [q] at z
      exact absurd z.2 (by decide)
    | some u =>
      rw [q] at z
      exact ⟨u, rfl, z.2⟩
  refine ⟨e1, fun p hp => (key p hp).1, fun p hp => ?_, fun p hp => ?_⟩
  · obtain ⟨_, u, q, z⟩ := key p hp
    exact He.frT_none q z
  · obtain ⟨_, u, q, z⟩ := key p hp
    rw [q, He.emptyTab_eq z]
def hk : PySem.W.Hook where
  α := Al
  obs := fun s => obsH s.heap.get?
  val := fun _ => valH
  says := fun _ h => ∃ K : PySem.W.Frag, K.In h ∧ Says h K
  of := fun _ _ e => ⟨_, He.frT_in, says_of e⟩
  keeps := fun _ _ _ ⟨K, hK, c⟩ k => ⟨K, PySem.W.Frag.In.keeps hK k, ⟨c.d, c.hd, c.out, fun p hp => k _ _ (c.empty p hp)⟩⟩
def ob (s : PySem.W.SharedT) : Al := obsH (HandSHeadRun.getT s)
theorem ob_eq (s : PySem.W.SharedT) : ob s = hk.obs s.abs := by
  have e : HandSHeadRun.getT s = s.abs.heap.get? := funext (HandSHeadRun.getT_eq s)
  show obsH (HandSHeadRun.getT s) = obsH s.abs.heap.get?
  rw [e]
theorem run (w : World) : HandSHeadRun.RunEq R qv hk ob 30000 names w := by
  intro os
  kernel_rfl
end Hg
end Z_Head

section Z_HgT
set_option maxHeartbeats 4000000
/-! What the module's names stand for, by name (printed by genhead.py); a def that is called. -/
namespace Hg
open PySem L2
structure Txt (K : PySem.W.Frag) (mg : Str → Option Value) : Prop where
  g_is_layout : mg "is_layout" = some (.ref (He.ga K "is_layout"))
  g_live_cells : mg "live_cells" = some (.ref (He.ga K "live_cells"))
  g_fits : mg "fits" = some (.ref (He.ga K "fits"))
  g_with_block : mg "with_block" = some (.ref (He.ga K "with_block"))
  g_without : mg "without" = some (.ref (He.ga K "without"))
  g_placed : mg "placed" = some (.ref (He.ga K "placed"))
  g_relocated : mg "relocated" = some (.ref (He.ga K "relocated"))
  g_is_relocation : mg "is_relocation" = some (.ref (He.ga K "is_relocation"))
  g_cost : mg "cost" = some (.ref (He.ga K "cost"))
  g_positions : mg "positions" = some (.ref (He.ga K "positions"))
  g_requestable : mg "requestable" = some (.ref (He.ga K "requestable"))
  g_starts_within : mg "starts_within" = some (.ref (He.ga K "starts_within"))
  g_relocations : mg "relocations" = some (.ref (He.ga K "relocations"))
  g_replies : mg "replies" = some (.ref (He.ga K "replies"))
  g_reply_key : mg "reply_key" = some (.ref (He.ga K "reply_key"))
  g_after_reply : mg "after_reply" = some (.ref (He.ga K "after_reply"))
  g_is_better : mg "is_better" = some (.ref (He.ga K "is_better"))
  g_contract_heap : mg "contract_heap" = some (.ref (He.ga K "contract_heap"))
  g_law_cell : mg "_law_cell" = some (.ref (He.ga K "_law_cell"))
  g_law_row : mg "_law_row" = some (.ref (He.ga K "_law_row"))
  g_law_box : mg "_law_box" = some (.ref (He.ga K "_law_box"))
  g_law_draw : mg "_law_draw" = some (.ref (He.ga K "_law_draw"))
  g_law_contract : mg "_law_contract" = some (.ref (He.ga K "_law_contract"))
  g_law_live : mg "_law_live" = some (.ref (He.ga K "_law_live"))
  g_law_apart : mg "_law_apart" = some (.ref (He.ga K "_law_apart"))
  g_law_positions : mg "_law_positions" = some (.ref (He.ga K "_law_positions"))
  g_law_allowed : mg "_law_allowed" = some (.ref (He.ga K "_law_allowed"))
  g_law_replies : mg "_law_replies" = some (.ref (He.ga K "_law_replies"))
  g_law_after : mg "_law_after" = some (.ref (He.ga K "_law_after"))
  g_law_without : mg "_law_without" = some (.ref (He.ga K "_law_without"))
  g_law_ways : mg "_law_ways" = some (.ref (He.ga K "_law_ways"))
  g_law_ranks : mg "_law_ranks" = some (.ref (He.ga K "_law_ranks"))
  g_law_forced : mg "_law_forced" = some (.ref (He.ga K "_law_forced"))
  g_law : mg "law" = some (.ref (He.ga K "law"))
  g_Contract : mg "Contract" = some (.ref (He.ga K "Contract"))
  c_Contract : Cls K (He.ga K "Contract")
  k_Contract : Mk K (He.ga K "Contract") (He.ma K (He.ga K "Contract") "__init__")
  n_Contract_size : NoAttr K (He.ga K "Contract") "size"
  n_Contract_limit : NoAttr K (He.ga K "Contract") "limit"
  n_Contract_lengths : NoAttr K (He.ga K "Contract") "lengths"
  n_Contract_budget : NoAttr K (He.ga K "Contract") "budget"
  g_Options : mg "Options" = some (.ref (He.ga K "Options"))
  c_Options : Cls K (He.ga K "Options")
  k_Options : Mk K (He.ga K "Options") (He.ma K (He.ga K "Options") "__init__")
  n_Options_released : NoAttr K (He.ga K "Options") "released"
  n_Options_answered : NoAttr K (He.ga K "Options") "answered"
  m_Options_forced : Meth K (He.ga K "Options") "forced" (He.ma K (He.ga K "Options") "forced")
  g_Game : mg "Game" = some (.ref (He.ga K "Game"))
  c_Game : Cls K (He.ga K "Game")
  k_Game : Mk K (He.ga K "Game") (He.ma K (He.ga K "Game") "__init__")
  n_Game_contract : NoAttr K (He.ga K "Game") "contract"
  n_Game_ranks : NoAttr K (He.ga K "Game") "ranks"
  m_Game_rank : Meth K (He.ga K "Game") "rank" (He.ma K (He.ga K "Game") "rank")
  m_Game_winner : Meth K (He.ga K "Game") "winner" (He.ma K (He.ga K "Game") "winner")
  g_StrategyManager : mg "StrategyManager" = some (.ref (He.ga K "StrategyManager"))
  c_StrategyManager : Cls K (He.ga K "StrategyManager")
  k_StrategyManager : Mk K (He.ga K "StrategyManager") (He.ma K (He.ga K "StrategyManager") "__init__")
  n_StrategyManager_game : NoAttr K (He.ga K "StrategyManager") "game"
  n_StrategyManager_size : NoAttr K (He.ga K "StrategyManager") "size"
  n_StrategyManager_strategy : NoAttr K (He.ga K "StrategyManager") "strategy"
  g_State : mg "State" = some (.ref (He.ga K "State"))
  c_State : Cls K (He.ga K "State")
  k_State : Mk K (He.ga K "State") (He.ma K (He.ga K "State") "__init__")
  n_State_store : NoAttr K (He.ga K "State") "store"
  n_State_starts : NoAttr K (He.ga K "State") "starts"
  n_State_cursor : NoAttr K (He.ga K "State") "cursor"
  g_Store : mg "Store" = some (.ref (He.ga K "Store"))
  c_Store : Cls K (He.ga K "Store")
  k_Store : Mk K (He.ga K "Store") (He.ma K (He.ga K "Store") "__init__")
  n_Store_objects : NoAttr K (He.ga K "Store") "objects"
  n_Store_roots : NoAttr K (He.ga K "Store") "roots"
  n_Store_next_number : NoAttr K (He.ga K "Store") "next_number"
  g_ManagedHeap : mg "ManagedHeap" = some (.ref (He.ga K "ManagedHeap"))
  c_ManagedHeap : Cls K (He.ga K "ManagedHeap")
  k_ManagedHeap : Mk K (He.ga K "ManagedHeap") (He.ma K (He.ga K "ManagedHeap") "__init__")
  n_ManagedHeap_manager : NoAttr K (He.ga K "ManagedHeap") "manager"
  n_ManagedHeap_state : NoAttr K (He.ga K "ManagedHeap") "state"
  n_ManagedHeap_earlier : NoAttr K (He.ga K "ManagedHeap") "earlier"
  n_ManagedHeap_events : NoAttr K (He.ga K "ManagedHeap") "events"
  m_ManagedHeap_words : Meth K (He.ga K "ManagedHeap") "words" (He.ma K (He.ga K "ManagedHeap") "words")
  f_len : mg "len" = none
  f_range : mg "range" = none
  f_sum : mg "sum" = none
  f_sorted : mg "sorted" = none
  f_all : mg "all" = none
  f_any : mg "any" = none
  f_zip : mg "zip" = none
  f_tuple : mg "tuple" = none
  f_list : mg "list" = none
  f_set : mg "set" = none
  f_int : mg "int" = none
  f_min : mg "min" = none
  f_max : mg "max" = none
theorem txt_of {K : PySem.W.Frag} {h : Heap} {mg : Str → Option Value} (X : K.In h) (G : h.Ns mainGlobals mg) (c : He.SaysD fa fn K) : Txt K mg where
  g_is_layout := He.glo_ok X G (c.fact 0 (f := .glo "is_layout") rfl)
  g_live_cells := He.glo_ok X G (c.fact 1 (f := .glo "live_cells") rfl)
  g_fits := He.glo_ok X G (c.fact 2 (f := .glo "fits") rfl)
  g_with_block := He.glo_ok X G (c.fact 3 (f := .glo "with_block") rfl)
  g_without := He.glo_ok X G (c.fact 4 (f := .glo "without") rfl)
  g_placed := He.glo_ok X G (c.fact 5 (f := .glo "placed") rfl)
  g_relocated := He.glo_ok X G (c.fact 6 (f := .glo "relocated") rfl)
  g_is_relocation := He.glo_ok X G (c.fact 7 (f := .glo "is_relocation") rfl)
  g_cost := He.glo_ok X G (c.fact 8 (f := .glo "cost") rfl)
  g_positions := He.glo_ok X G (c.fact 9 (f := .glo "positions") rfl)
  g_requestable := He.glo_ok X G (c.fact 10 (f := .glo "requestable") rfl)
  g_starts_within := He.glo_ok X G (c.fact 11 (f := .glo "starts_within") rfl)
  g_relocations := He.glo_ok X G (c.fact 12 (f := .glo "relocations") rfl)
  g_replies := He.glo_ok X G (c.fact 13 (f := .glo "replies") rfl)
  g_reply_key := He.glo_ok X G (c.fact 14 (f := .glo "reply_key") rfl)
  g_after_reply := He.glo_ok X G (c.fact 15 (f := .glo "after_reply") rfl)
  g_is_better := He.glo_ok X G (c.fact 16 (f := .glo "is_better") rfl)
  g_contract_heap := He.glo_ok X G (c.fact 17 (f := .glo "contract_heap") rfl)
  g_law_cell := He.glo_ok X G (c.fact 18 (f := .glo "_law_cell") rfl)
  g_law_row := He.glo_ok X G (c.fact 19 (f := .glo "_law_row") rfl)
  g_law_box := He.glo_ok X G (c.fact 20 (f := .glo "_law_box") rfl)
  g_law_draw := He.glo_ok X G (c.fact 21 (f := .glo "_law_draw") rfl)
  g_law_contract := He.glo_ok X G (c.fact 22 (f := .glo "_law_contract") rfl)
  g_law_live := He.glo_ok X G (c.fact 23 (f := .glo "_law_live") rfl)
  g_law_apart := He.glo_ok X G (c.fact 24 (f := .glo "_law_apart") rfl)
  g_law_positions := He.glo_ok X G (c.fact 25 (f := .glo "_law_positions") rfl)
  g_law_allowed := He.glo_ok X G (c.fact 26 (f := .glo "_law_allowed") rfl)
  g_law_replies := He.glo_ok X G (c.fact 27 (f := .glo "_law_replies") rfl)
  g_law_after := He.glo_ok X G (c.fact 28 (f := .glo "_law_after") rfl)
  g_law_without := He.glo_ok X G (c.fact 29 (f := .glo "_law_without") rfl)
  g_law_ways := He.glo_ok X G (c.fact 30 (f := .glo "_law_ways") rfl)
  g_law_ranks := He.glo_ok X G (c.fact 31 (f := .glo "_law_ranks") rfl)
  g_law_forced := He.glo_ok X G (c.fact 32 (f := .glo "_law_forced") rfl)
  g_law := He.glo_ok X G (c.fact 33 (f := .glo "law") rfl)
  g_Contract := He.glo_ok X G (c.fact 34 (f := .glo "Contract") rfl)
  c_Contract := He.cls_ok (c.fact 35 (f := .cls "Contract") rfl)
  k_Contract := He.mkr_ok (c.fact 36 (f := .mkr "Contract") rfl)
  n_Contract_size := He.noat_ok (c.fact 37 (f := .noat "Contract" "size") rfl)
  n_Contract_limit := He.noat_ok (c.fact 38 (f := .noat "Contract" "limit") rfl)
  n_Contract_lengths := He.noat_ok (c.fact 39 (f := .noat "Contract" "lengths") rfl)
  n_Contract_budget := He.noat_ok (c.fact 40 (f := .noat "Contract" "budget") rfl)
  g_Options := He.glo_ok X G (c.fact 41 (f := .glo "Options") rfl)
  c_Options := He.cls_ok (c.fact 42 (f := .cls "Options") rfl)
  k_Options := He.mkr_ok (c.fact 43 (f := .mkr "Options") rfl)
  n_Options_released := He.noat_ok (c.fact 44 (f := .noat "Options" "released") rfl)
  n_Options_answered := He.noat_ok (c.fact 45 (f := .noat "Options" "answered") rfl)
  m_Options_forced := He.meth_ok (c.fact 46 (f := .meth "Options" "forced") rfl)
  g_Game := He.glo_ok X G (c.fact 47 (f := .glo "Game") rfl)
  c_Game := He.cls_ok (c.fact 48 (f := .cls "Game") rfl)
  k_Game := He.mkr_ok (c.fact 49 (f := .mkr "Game") rfl)
  n_Game_contract := He.noat_ok (c.fact 50 (f := .noat "Game" "contract") rfl)
  n_Game_ranks := He.noat_ok (c.fact 51 (f := .noat "Game" "ranks") rfl)
  m_Game_rank := He.meth_ok (c.fact 52 (f := .meth "Game" "rank") rfl)
  m_Game_winner := He.meth_ok (c.fact 53 (f := .meth "Game" "winner") rfl)
  g_StrategyManager := He.glo_ok X G (c.fact 54 (f := .glo "StrategyManager") rfl)
  c_StrategyManager := He.cls_ok (c.fact 55 (f := .cls "StrategyManager") rfl)
  k_StrategyManager := He.mkr_ok (c.fact 56 (f := .mkr "StrategyManager") rfl)
  n_StrategyManager_game := He.noat_ok (c.fact 57 (f := .noat "StrategyManager" "game") rfl)
  n_StrategyManager_size := He.noat_ok (c.fact 58 (f := .noat "StrategyManager" "size") rfl)
  n_StrategyManager_strategy := He.noat_ok (c.fact 59 (f := .noat "StrategyManager" "strategy") rfl)
  g_State := He.glo_ok X G (c.fact 60 (f := .glo "State") rfl)
  c_State := He.cls_ok (c.fact 61 (f := .cls "State") rfl)
  k_State := He.mkr_ok (c.fact 62 (f := .mkr "State") rfl)
  n_State_store := He.noat_ok (c.fact 63 (f := .noat "State" "store") rfl)
  n_State_starts := He.noat_ok (c.fact 64 (f := .noat "State" "starts") rfl)
  n_State_cursor := He.noat_ok (c.fact 65 (f := .noat "State" "cursor") rfl)
  g_Store := He.glo_ok X G (c.fact 66 (f := .glo "Store") rfl)
  c_Store := He.cls_ok (c.fact 67 (f := .cls "Store") rfl)
  k_Store := He.mkr_ok (c.fact 68 (f := .mkr "Store") rfl)
  n_Store_objects := He.noat_ok (c.fact 69 (f := .noat "Store" "objects") rfl)
  n_Store_roots := He.noat_ok (c.fact 70 (f := .noat "Store" "roots") rfl)
  n_Store_next_number := He.noat_ok (c.fact 71 (f := .noat "Store" "next_number") rfl)
  g_ManagedHeap := He.glo_ok X G (c.fact 72 (f := .glo "ManagedHeap") rfl)
  c_ManagedHeap := He.cls_ok (c.fact 73 (f := .cls "ManagedHeap") rfl)
  k_ManagedHeap := He.mkr_ok (c.fact 74 (f := .mkr "ManagedHeap") rfl)
  n_ManagedHeap_manager := He.noat_ok (c.fact 75 (f := .noat "ManagedHeap" "manager") rfl)
  n_ManagedHeap_state := He.noat_ok (c.fact 76 (f := .noat "ManagedHeap" "state") rfl)
  n_ManagedHeap_earlier := He.noat_ok (c.fact 77 (f := .noat "ManagedHeap" "earlier") rfl)
  n_ManagedHeap_events := He.noat_ok (c.fact 78 (f := .noat "ManagedHeap" "events") rfl)
  m_ManagedHeap_words := He.meth_ok (c.fact 79 (f := .meth "ManagedHeap" "words") rfl)
  f_len := He.free_ok X G (c.fact 80 (f := .free "len") rfl)
  f_range := He.free_ok X G (c.fact 81 (f := .free "range") rfl)
  f_sum := He.free_ok X G (c.fact 82 (f := .free "sum") rfl)
  f_sorted := He.free_ok X G (c.fact 83 (f := .free "sorted") rfl)
  f_all := He.free_ok X G (c.fact 84 (f := .free "all") rfl)
  f_any := He.free_ok X G (c.fact 85 (f := .free "any") rfl)
  f_zip := He.free_ok X G (c.fact 86 (f := .free "zip") rfl)
  f_tuple := He.free_ok X G (c.fact 87 (f := .free "tuple") rfl)
  f_list := He.free_ok X G (c.fact 88 (f := .free "list") rfl)
  f_set := He.free_ok X G (c.fact 89 (f := .free "set") rfl)
  f_int := He.free_ok X G (c.fact 90 (f := .free "int") rfl)
  f_min := He.free_ok X G (c.fact 91 (f := .free "min") rfl)
  f_max := He.free_ok X G (c.fact 92 (f := .free "max") rfl)
/-- a def that is called: what it promises -/
structure Cal (P : Program) (w : World) (K : PySem.W.Frag) (mg : Str → Option Value) (base : Heap) (k : Nat) (f : Addr) (ps : List Str) (sp : Sp) where
  fd : FuncData
  ok : FnOk P w K mg base CX0 k f fd ps sp
  bd : Binds K fd ps []
  kp : PySem.W.keepIn K (.ref f) = true
/-- a def as it stands -/
abbrev FnP (K : PySem.W.Frag) (x q : Str) (st : Stmt) (f : Addr) (fd : FuncData) : Prop := FunD K x q (defArgs st) (defBody st) (defScope st) [] [] f fd
end Hg
end Z_HgT

section Z_HgC
set_option maxHeartbeats 4000000
/-! The rules with the written part K named (within a comprehension's block too). -/
namespace Hg
open PySem L2
section
variable {X : Cx} {K : PySem.W.Frag}
theorem kFld {e : Expr} {f : Str} {pos : Pos} {ta : TE} (K : PySem.W.Frag) (he : PE X e ta) (hb : attributeBase e f X.env (eval e X.env) = eval e X.env := by rfl) (hk : X.K = K := by rfl) : PE X (.Attribute e f pos) (tFld K ta f) := by
  subst hk
  exact pe_fld he hb
theorem kIxL (K : PySem.W.Frag) (hk : X.K = K := by rfl) : IxR X (rIxL K) := by
  subst hk
  exact ix_list
theorem kIxT (K : PySem.W.Frag) (hk : X.K = K := by rfl) : IxR X (rIxT K) := by
  subst hk
  exact ix_tup
abbrev rLenK (K : PySem.W.Frag) : List V → Hp → VK → Prop := fun xs H Q => ∃ p ys, xs = [.ref p] ∧ (SqL K H p ys ∨ SqT K H p ys) ∧ Q (.int ys.length) H
theorem kLen (K : PySem.W.Frag) (hk : X.K = K := by rfl) : CallR X (.builtin "len") (rLenK K) := by
  subst hk
  exact call_len_seq
abbrev rTupK (K : PySem.W.Frag) : List V → Hp → VK → Prop := fun xs H Q => ∃ p ys, xs = [.ref p] ∧ ((SqL K H p ys ∧ ∀ l, H l = none → Q (.ref l) (upd H l (.tup ys))) ∨ (SqT K H p ys ∧ Q (.ref p) H))
theorem kTup (K : PySem.W.Frag) (hk : X.K = K := by rfl) : CallR X (.type "tuple") (rTupK K) := by
  subst hk
  exact call_tuple_of
abbrev rLstK (K : PySem.W.Frag) : List V → Hp → VK → Prop := fun xs H Q => ∃ p ys, xs = [.ref p] ∧ (SqL K H p ys ∨ SqT K H p ys) ∧ ∀ l, H l = none → Q (.ref l) (upd H l (.lst ys))
theorem kLst (K : PySem.W.Frag) (hk : X.K = K := by rfl) : CallR X (.type "list") (rLstK K) := by
  subst hk
  exact call_list_of
theorem kSum (K : PySem.W.Frag) (hc : X.calm = true) (hk : X.K = K := by rfl) : CallR X (.builtin "sum") (rSum K) := by
  subst hk
  exact cr_sum hc
theorem kAll (K : PySem.W.Frag) (hc : X.calm = true) (hk : X.K = K := by rfl) : CallR X (.builtin "all") (rAll K) := by
  subst hk
  exact cr_all hc
theorem kMin (K : PySem.W.Frag) (hc : X.calm = true) (hk : X.K = K := by rfl) : CallR X (.builtin "min") (rMin K) := by
  subst hk
  exact cr_min hc
theorem kMax (K : PySem.W.Frag) (hc : X.calm = true) (hk : X.K = K := by rfl) : CallR X (.builtin "max") (rMax K) := by
  subst hk
  exact cr_max hc
theorem kIn (K : PySem.W.Frag) (hk : X.K = K := by rfl) : OpR X (compareOp .In) (rIn K false) := by
  subst hk
  exact op_in_seq
theorem kNotIn (K : PySem.W.Frag) (hk : X.K = K := by rfl) : OpR X (compareOp .NotIn) (rIn K true) := by
  subst hk
  exact op_notIn_seq
theorem kEqD (K : PySem.W.Frag) (hu : X.A.units + 64 < cLine) (hk : X.K = K := by rfl) : OpR X (compareOp .Eq) (rEqD K) := by
  subst hk
  exact op_eqD hu
theorem kNeD (K : PySem.W.Frag) (hu : X.A.units + 64 < cLine) (hk : X.K = K := by rfl) : OpR X (compareOp .NotEq) (rNeD K) := by
  subst hk
  exact op_neD hu
theorem kSl (K : PySem.W.Frag) (hk : X.K = K := by rfl) : SlR X (rSlL K) := by
  subst hk
  exact sl_list
theorem kiList {tg l : Expr} {tl : TE} (K : PySem.W.Frag) (hl : PE X l tl) (hk : X.K = K := by rfl) : PI X tg l (iList K tl) := by
  subst hk
  exact pi_list hl
theorem kiTup {tg l : Expr} {tl : TE} (K : PySem.W.Frag) (hl : PE X l tl) (hk : X.K = K := by rfl) : PI X tg l (iTup K tl) := by
  subst hk
  exact pi_tup hl
theorem kiZip {e e2 : Expr} {ta : TA} {p pos tpos : Pos} {elts : List Expr} {kk : Nat} (K : PySem.W.Frag) (hg : Gl X "zip") (hm : X.mg "zip" = none) (ha : PA X [e, e2] ta)
    (hs : starEach [e, e2] X.env = (false, eval e X.env) :: starEach [e2] X.env := by rfl) (hpl : (backTo pos (starEach [e2] X.env)).any (·.1) = false := by rfl) (hk : X.K = K := by rfl) :
    PI X (.Tuple elts kk tpos) (.Call (.Name "zip" p) [e, e2] [] pos) (iZip K ta) := by
  subst hk
  exact pi_zip hg hm ha hs hpl
end
end Hg
end Z_HgC

section Z_Mir
/-! The mirror: each def's answer in plain Lean. No program here. -/
namespace Mir

abbrev Blk := Int × Int
abbrev Lay := List Blk
structure Con where
  size : Int
  limit : Int
  lengths : List Int
  budget : Int
deriving DecidableEq

def rng (lo hi : Int) : List Int := (List.range (hi - lo).toNat).map fun (i : Nat) => lo + (i : Int)

/-! ### sorting -/
def ins {α : Type} (le : α → α → Bool) (x : α) : List α → List α
  | [] => [x]
  | y :: r => if le x y then x :: y :: r else y :: ins le x r
def isort {α : Type} (le : α → α → Bool) : List α → List α
  | [] => []
  | x :: r => ins le x (isort le r)
def leP (a b : Blk) : Bool := decide (a.1 < b.1) || (decide (a.1 = b.1) && decide (a.2 ≤ b.2))
def leLay : Lay → Lay → Bool
  | [], _ => true
  | _ :: _, [] => false
  | a :: r, b :: t => if a = b then leLay r t else leP a b
def leI : List Int → List Int → Bool
  | [], _ => true
  | _ :: _, [] => false
  | a :: r, b :: t => if a = b then leI r t else decide (a ≤ b)
/-- a reply: starts, start, cost; by cost, starts, start -/
abbrev Rep := List Int × Int × Int
def leR (a b : Rep) : Bool := if a.2.2 = b.2.2 then (if a.1 = b.1 then decide (a.2.1 ≤ b.2.1) else leI a.1 b.1) else decide (a.2.2 ≤ b.2.2)
/-- (cost, starts, start) -/
abbrev Fnd := Int × List Int × Int
def leF (a b : Fnd) : Bool := if a.1 = b.1 then (if a.2.1 = b.2.1 then decide (a.2.2 ≤ b.2.2) else leI a.2.1 b.2.1) else decide (a.1 ≤ b.1)

/-! ### the program -/
def live (L : Lay) : Int := (L.map fun b => b.2).sum
def isLayFrom (size : Int) : Int → Lay → Bool
  | e, [] => decide (e ≤ size)
  | e, b :: r => if decide (b.1 < e) || decide (b.2 < 1) then false else isLayFrom size (b.1 + b.2) r
def fits (size : Int) (L : Lay) (start len : Int) : Bool :=
  if decide (start < 0) || decide (size < start + len) then false else L.all fun b => decide (start + len ≤ b.1) || decide (b.1 + b.2 ≤ start)
def withBlock (L : Lay) (s l : Int) : Lay := isort leP (L ++ [(s, l)])
def without (L : Lay) (i : Nat) : Lay := L.take i ++ L.drop (i + 1)
def placed (L : Lay) (st : List Int) : Lay := (st.zip L).map fun p => (p.1, p.2.2)
def relocated (L : Lay) (st : List Int) : Lay := isort leP (placed L st)
def isReloc (size : Int) (L : Lay) (st : List Int) : Bool :=
  if (!decide ((st.length : Int) = (L.length : Int))) || st.any (fun s => decide (s < 0)) then false else isLayFrom size 0 (relocated L st)
def cost (L : Lay) (st : List Int) : Int := (((st.zip L).filter fun p => !decide (p.1 = p.2.1)).map fun p => p.2.2).sum
def beginOf (L : Lay) : Int := match L.getLast? with
  | none => 0
  | some b => b.1 + b.2
def kids (c : Con) (L : Lay) : List Lay := (rng (beginOf L) c.size).flatMap fun s => (c.lengths.filter fun l => decide (s + l ≤ c.size) && decide (live L + l ≤ c.limit)).map fun l => L ++ [(s, l)]
/-- found and grown, until grown is empty -/
def posRun (c : Con) : Nat → List Lay → List Lay → Option (List Lay)
  | n, found, grown => match n, grown.getLast? with
    | _, none => some found
    | 0, some _ => none
    | n + 1, some L => posRun c n (found ++ [L]) (grown.dropLast ++ kids c L)
def fuel : Nat := 100
def positions (c : Con) : List Lay := isort leLay ((posRun c fuel [] [[]]).getD [])
def requestable (c : Con) (L : Lay) : List Int := c.lengths.filter fun l => decide (live L + l ≤ c.limit)
def swPut (b : Blk) (r : List Int × Int) (p : Int) : List (List Int × Int) := if p = b.1 then [(r.1 ++ [p], r.2)] else if b.2 ≤ r.2 then [(r.1 ++ [p], r.2 - b.2)] else []
def swTurn (size : Int) (rows : List (List Int × Int)) (b : Blk) : List (List Int × Int) := rows.flatMap fun r => (rng 0 (size + 1 - b.2)).flatMap fun p => swPut b r p
def startsWithin (size budget : Int) (L : Lay) : List (List Int) := (L.foldl (swTurn size) [([], budget)]).map fun r => r.1
def relocations (c : Con) (L : Lay) : List (List Int) := (startsWithin c.size c.budget L).filter fun st => isReloc c.size L st
def repliesRaw (c : Con) (L : Lay) (len : Int) : List Rep := (relocations c L).flatMap fun st => ((rng 0 (c.size + 1 - len)).filter fun s => fits c.size (relocated L st) s len).map fun s => (st, s, cost L st)
def replies (c : Con) (L : Lay) (len : Int) : List Rep := isort leR (repliesRaw c L len)
def after (L : Lay) (len : Int) (r : Rep) : Lay := withBlock (relocated L r.1) r.2.1 len
abbrev Opt := List Lay × List (List Lay)
def released (L : Lay) : List Lay := (rng 0 (L.length : Int)).map fun i => without L i.toNat
def options (c : Con) (L : Lay) : Opt := (released L, (requestable c L).map fun l => (replies c L l).map fun r => after L l r)
/-! dicts: pairs in order -/
abbrev Dct (β : Type) := List (Lay × β)
def look {β : Type} (d : Dct β) (k : Lay) : Option β := (d.find? fun p => decide (p.1 = k)).map (·.2)
def has {β : Type} (d : Dct β) (k : Lay) : Bool := d.any fun p => decide (p.1 = k)
def put {β : Type} (d : Dct β) (k : Lay) (v : β) : Dct β := if has d k then d.map fun p => if p.1 = k then (k, v) else p else d ++ [(k, v)]
def forced (o : Opt) (won : Dct Int) : Bool := o.1.any (fun k => has won k) || o.2.any fun ls => ls.all fun k => has won k
def optsOf (c : Con) : Dct Opt := (positions c).foldl (fun d L => put d L (options c L)) []
def fresh (os : Dct Opt) (ranks : Dct Int) : List Lay := (os.filter fun p => !has ranks p.1 && forced p.2 ranks).map fun p => p.1
def putAll (ranks : Dct Int) (ks : List Lay) (n : Int) : Dct Int := ks.foldl (fun d k => put d k n) ranks
def gameRun (os : Dct Opt) : Nat → Int → Dct Int → Option (Dct Int)
  | 0, _, _ => none
  | m + 1, number, ranks => let f := fresh os ranks; let ranks' := putAll ranks f (number + 1)
    if f.isEmpty then some ranks' else gameRun os m (number + 1) ranks'
def game (c : Con) : Dct Int := (gameRun (optsOf c) fuel 0 []).getD []
/-- the manager wins -/
def winner (c : Con) : Bool := !has (game c) []
def isBetter (one other : Con) : Bool :=
  if (decide (one.size < other.size) || decide (one.budget < other.budget)) || decide (other.limit < one.limit) then false else one.lengths.all fun l => other.lengths.any fun z => decide (z = l)

/-! ### the law's own -/
/-- the distinct ones, in the order in which they come -/
def dd (cs : List Int) : List Int := cs.foldl (fun acc x => if acc.any (· == x) then acc else acc ++ [x]) []
def cells (bs : Lay) : List Int := bs.flatMap fun b => rng b.1 (b.1 + b.2)
def lApart (size : Int) (bs : Lay) : Bool := decide (((cells bs).length : Int) = ((dd (cells bs)).length : Int)) && ((cells bs).filter fun x => !(decide (0 ≤ x) && decide (x < size))).isEmpty
def lKids (c : Con) (L : Lay) : List Lay := kids c L
def lpRun (c : Con) : Nat → Nat → List Lay → Option (List Lay)
  | n, place, found => match n, found[place]? with
    | _, none => some found
    | 0, some _ => none
    | n + 1, some L => lpRun c n (place + 1) (found ++ kids c L)
def lPositions (c : Con) : List Lay := isort leLay ((lpRun c fuel 0 [[]]).getD [])
def lPrice (b : Blk) (r : List Int × Int) (s : Int) : Int := r.2 + b.2 * (if s = b.1 then 0 else 1)
def lTurn (c : Con) (rows : List (List Int × Int)) (b : Blk) : List (List Int × Int) := rows.flatMap fun r => ((rng 0 c.size).filter fun s => decide (lPrice b r s ≤ c.budget)).map fun s => (r.1 ++ [s], lPrice b r s)
def lRows (c : Con) (L : Lay) : List (List Int × Int) := L.foldl (lTurn c) [([], 0)]
def lBlocks (L : Lay) (st : List Int) : Lay := (rng 0 (L.length : Int)).map fun k => (st.getD k.toNat 0, (L.getD k.toNat (0, 0)).2)
def lRaw (c : Con) (L : Lay) (len : Int) : List Fnd := (lRows c L).flatMap fun r => ((rng 0 c.size).filter fun s => lApart c.size (lBlocks L r.1 ++ [(s, len)])).map fun s => (r.2, r.1, s)
def lReplies (c : Con) (L : Lay) (len : Int) : List Rep := (isort leF (lRaw c L len)).map fun f => (f.2.1, f.2.2, f.1)
def lAfter (L : Lay) (len : Int) (r : Rep) : Lay := isort leP (lBlocks L r.1 ++ [(r.2.1, len)])
def lWithout (L : Lay) (i : Int) : Lay := ((rng 0 (L.length : Int)).filter fun k => !decide (k = i)).map fun k => L.getD k.toNat (0, 0)
def lWay (c : Con) (L : Lay) : Opt := ((rng 0 (L.length : Int)).map fun k => lWithout L k, (requestable c L).map fun l => (lReplies c L l).map fun r => lAfter L l r)
def lWays (c : Con) : Dct Opt := (lPositions c).foldl (fun d L => put d L (lWay c L)) []
def lForced (o : Opt) (won : Dct Int) : Bool := if !(o.1.filter fun k => has won k).isEmpty then true else !(o.2.filter fun ls => (ls.filter fun k => !has won k).isEmpty).isEmpty
def lFresh (ws : Dct Opt) (ranks : Dct Int) : List Lay := (ws.filter fun p => !has ranks p.1 && lForced p.2 ranks).map fun p => p.1
def lRanks (c : Con) : Dct Int := let ws := lWays c; (rng 1 ((ws.length : Int) + 2)).foldl (fun r n => putAll r (lFresh ws r) n) []
def menu : List (List Int) := [[1], [2], [1, 2], [1, 2], [1, 3], [2, 3], [1, 2, 3], [3]]

/-! ### the drawn cases -/
def better (c : Con) (kind : Nat) (b1 b2 b3 : Bool) : Con :=
  ⟨c.size + (if kind = 0 ∨ b1 then 1 else 0), max 0 (c.limit - (if kind = 2 ∨ b3 then 1 else 0)), c.lengths.take (max 1 (c.lengths.length - (if kind = 3 then 1 else 0))), min 2 (c.budget + (if kind = 1 ∨ b2 then 1 else 0))⟩
def bools : List Bool := [false, true]
def cons : List Con := menu.flatMap fun ls => (rng 1 3).flatMap fun s => (rng 0 3).flatMap fun l => (rng 0 3).map fun b => ⟨s, l, ls, b⟩
def betters (c : Con) : List Con := [0, 1, 2, 3].flatMap fun k => bools.flatMap fun b1 => bools.flatMap fun b2 => bools.map fun b3 => better c k b1 b2 b3
def all3 : List Con := (cons ++ cons.flatMap betters).eraseDups
end Mir
end Z_Mir

section Z_D1
set_option maxHeartbeats 4000000
/-! Layouts. -/
namespace Hg
open PySem L2
/-! what stands for what -/
abbrev jB2 : Rp Mir.Blk := j2 jI jI
abbrev jLay : Rp Mir.Lay := jL jB2
abbrev jKey : Rp Mir.Lay := jU jB2
/-- a contract -/
def jCon (K : PySem.W.Frag) : Rp Mir.Con := fun S v c => ∃ a dx fs l, v = .ref a ∧ S a = some (.ins (He.ga K "Contract") dx fs) ∧ fs.lookup ("size" : Str) = some (.int c.size) ∧ fs.lookup ("limit" : Str) = some (.int c.limit) ∧ fs.lookup ("lengths" : Str) = some l ∧ fs.lookup ("budget" : Str) = some (.int c.budget) ∧ jL jI S l c.lengths
instance {K : PySem.W.Frag} : Up (jCon K) := ⟨fun e ⟨a, dx, fs, l, h1, h2, h3, h4, h5, h6, h7⟩ => ⟨a, dx, fs, l, h1, e _ _ h2, h3, h4, h5, h6, Up.up e h7⟩⟩
section
variable {Z : List Addr} {σ : L2.St} {S : Hp} {K : PySem.W.Frag} {mg : Str → Option Value} {te : TE} {c : Mir.Con}
theorem ev_size (T : Txt K mg) (h : EvR Z te σ S (jCon K) c) : EvR Z (tFld K te "size") σ S jI c.size := ev_fld h T.c_Contract T.n_Contract_size fun S1 v ⟨a, dx, fs, l, h1, h2, h3, h4, h5, h6, h7⟩ => ⟨a, dx, fs, _, h1, h2, h3, rfl⟩
theorem ev_limit (T : Txt K mg) (h : EvR Z te σ S (jCon K) c) : EvR Z (tFld K te "limit") σ S jI c.limit := ev_fld h T.c_Contract T.n_Contract_limit fun S1 v ⟨a, dx, fs, l, h1, h2, h3, h4, h5, h6, h7⟩ => ⟨a, dx, fs, _, h1, h2, h4, rfl⟩
theorem ev_budget (T : Txt K mg) (h : EvR Z te σ S (jCon K) c) : EvR Z (tFld K te "budget") σ S jI c.budget := ev_fld h T.c_Contract T.n_Contract_budget fun S1 v ⟨a, dx, fs, l, h1, h2, h3, h4, h5, h6, h7⟩ => ⟨a, dx, fs, _, h1, h2, h6, rfl⟩
theorem ev_lengths (T : Txt K mg) (h : EvR Z te σ S (jCon K) c) : EvR Z (tFld K te "lengths") σ S (jL jI) c.lengths := ev_fld h T.c_Contract T.n_Contract_lengths fun S1 v ⟨a, dx, fs, l, h1, h2, h3, h4, h5, h6, h7⟩ => ⟨a, dx, fs, l, h1, h2, h5, h7⟩
end

/-! the promises -/
def spLive (Z : List Addr) : Sp := Fn Z (aC jLay aN) (fun p => p.1.length ≤ 100) jI fun p => Mir.live p.1
def spReq (Z : List Addr) (K : PySem.W.Frag) : Sp := Fn Z (aC (jCon K) (aC jLay aN)) (fun p => p.2.1.length ≤ 100 ∧ p.1.lengths.length ≤ 100) (jL jI) fun p => Mir.requestable p.1 p.2.1
section
variable {P : Program} {w : World} {K : PySem.W.Frag} {mg : Str → Option Value} {base : Heap} {Z : List Addr} {f : Addr} {fd : FuncData}
theorem fn_len1 {α β : Type} {R : Rp α} {R' : Rp β} {pre : α × Unit → Prop} {g : α × Unit → β} : ∀ vs H Q E, Fn Z (aC R aN) pre R' g vs H Q E → vs.length = 1 := fun vs H Q E ⟨S, x, k, ⟨v, r, e, h, e'⟩, p, q⟩ => by
  have e' : r = [] := e'
  rw [e, e']
  rfl
theorem fn_len2 {α β γ : Type} {R : Rp α} {R' : Rp β} {R'' : Rp γ} {pre : α × β × Unit → Prop} {g : α × β × Unit → γ} : ∀ vs H Q E, Fn Z (aC R (aC R' aN)) pre R'' g vs H Q E → vs.length = 2 := fun vs H Q E ⟨S, x, k, ⟨v, r, e, h, v', r', e1, h', e'⟩, p, q⟩ => by
  have e' : r' = [] := e'
  rw [e, e1, e']
  rfl
abbrev N_live_cells : List Str := ["layout", "start", "length"]
theorem sc_live_cells : FnScope N_live_cells ["layout"] (defScope s_live_cells) := ⟨rfl, rfl, rfl, by decide +kernel, rfl, by decide +kernel, by decide +kernel⟩
theorem ok_live_cells (F : FnP K "live_cells" "live_cells" s_live_cells f fd) (T : Txt K mg) : FnOk P w K mg base CX0 1 f fd ["layout"] (spLive Z) := by
  refine F.ok sc_live_cells fn_len1 (fun cdv A outer s H vs Q E hr h => ⟨_, PSs.nox (pss_one (ps_ret (pe_callB (kSum K rfl) rfl T.f_sum (by decide +kernel) (pa_cons (pe_lc (own := [("start", 1), ("length", 2)]) (g := gTup K 2 (gCons (gName 1) (gCons (gName 2) gNil))) rfl sc_live_cells.nd (kiList K (pv 0)) (blkOk_by (own := [("start", 1), ("length", 2)]) (N := N_live_cells) (sc := defScope s_live_cells) (by first | decide +kernel | kernel_rfl)) (fun _ _ _ _ _ => (pg_tup rfl (pgs_cons (pg_name (i := 1) sc_live_cells.nd rfl (Or.inl rfl)) (pgs_cons (pg_name (i := 2) sc_live_cells.nd rfl (Or.inl rfl)) pgs_nil)))) (fun _ _ _ _ _ => pts_nil) (fun _ _ _ _ _ => (pv 2))) pa_nil)))), ?_⟩)
  obtain ⟨S, ⟨L, u⟩, k, ⟨v, r, rfl, hL, hr'⟩, p, q⟩ := h
  cases hr'
  refine s_ret (ev_sum (ev_lcM (ei_list (ev_var rfl hL)) (fun b => b.2) (fun S1 v1 x hx s1 ⟨a, y, z, e, h1, h2, h3⟩ => ?_) (Nat.le_trans p (by decide)))) k q
  subst e
  exact ⟨_, eg_tup2 h1 eg_name eg_name, rfl, ev_var rfl h3⟩
abbrev N_requestable : List Str := ["contract", "layout", "live", "length"]
theorem sc_requestable : FnScope N_requestable ["contract", "layout"] (defScope s_requestable) := ⟨rfl, rfl, rfl, by decide +kernel, rfl, by decide +kernel, by decide +kernel⟩
theorem ok_requestable (F : FnP K "requestable" "requestable" s_requestable f fd) (T : Txt K mg) (c_live_cells : Cal P w K mg base 1 (He.ga K "live_cells") ["layout"] (spLive Z)) : FnOk P w K mg base CX0 2 f fd ["contract", "layout"] (spReq Z K) := by
  refine F.ok sc_requestable fn_len2 (fun cdv A outer s H vs Q E hr h => ⟨_, PSs.nox (pss_cons (ps_set (i := 2) sc_requestable.nd rfl (by first | exact Or.inl rfl | exact Or.inr rfl) (pe_call c_live_cells.ok (hr.mono (by decide)) rfl T.g_live_cells c_live_cells.kp c_live_cells.bd .nil pass0 (pa_cons (pv 1) pa_nil)))
      (pss_one (ps_ret (pe_lc (own := [("length", 3)]) (g := gName 3) rfl sc_requestable.nd (kiList K (kFld K (pv 0))) (blkOk_by (own := [("length", 3)]) (N := N_requestable) (sc := defScope s_requestable) (by first | decide +kernel | kernel_rfl)) (fun _ _ _ _ _ => (pg_name (i := 3) sc_requestable.nd rfl (Or.inl rfl))) (fun _ _ _ _ _ => (pts_one (pt_cmpR op_le (pe_op op_add (pv 2) (pv 3)) (kFld K (pv 0)) (nomark _)))) (fun _ _ _ _ _ => (pv 3)))))), ?_⟩)
  obtain ⟨S, ⟨c, L, u⟩, k, ⟨v, r, rfl, hc, v', r', rfl, hL, hr'⟩, p, q⟩ := h
  cases hr'
  refine s_seq (s_set (ev_call (x := (L, ())) (ea_cons (ev_var rfl hL) ea_nil) p.1) k fun S1 H1 v1 t1 h1 => ?_)
  refine s_ret ((ev_lc (ei_list (ev_lengths T (ev_var rfl (Up.up t1.ss hc)))) (fun l => decide (Mir.live L + l ≤ c.limit)) (fun l => l) (fun S2 v2 x hx s2 h2 => ?_) (Nat.le_trans p.2 (by decide))).is (List.map_id _)) t1.ok fun S2 H2 v2 t2 h2 => q S2 H2 v2 (t1.trans t2) h2
  exact ⟨_, eg_name, rfl, et_test (ev_IB (ev_II (ev_var rfl (Up.up s2 h1)) (ev_var rfl h2)) (ev_limit T (ev_var rfl (Up.up (t1.ss.trans s2) hc)))), fun _ => ev_var rfl h2⟩
end
end Hg
end Z_D1

section Z_HgS
set_option maxHeartbeats 4000000
/-! sorted(xs) of data in an order of one's own words. -/
namespace Hg
open PySem L2
/-! ### the order of data in plain words -/
def ltL {α : Type} [DecidableEq α] (lt : α → α → Bool) : List α → List α → Bool
  | [], [] => false
  | [], _ :: _ => true
  | _ :: _, [] => false
  | x :: xs, y :: ys => if x = y then ltL lt xs ys else lt x y
theorem rowLt_is {α : Type} [DecidableEq α] {e : α → PyData} {lt : α → α → Bool} (hal : ∀ a b, PySem.W.alike (e a) (e b) = true) (heq : ∀ a b, PyData.eqv (e a) (e b) = decide (a = b)) (hlt : ∀ a b, PySem.W.dataLt (e a) (e b) = lt a b) :
    ∀ xs ys : List α, PySem.W.rowLt (xs.map e) (ys.map e) = ltL lt xs ys
  | [], [] => PyProof.Rows.lex_irrefl _
  | [], y :: ys => by
    show PySem.W.rowLt [] (e y :: ys.map e) = true
    unfold PySem.W.rowLt
    rw [PySem.W.toks_all_cons]
    simp only [PySem.W.keyToksAll]
    rw [PyProof.Rows.lex_diff (O := PyProof.Rows.itemOrd) (by simp)]
    all_goals rfl
  | x :: xs, [] => by
    show PySem.W.rowLt (e x :: xs.map e) [] = false
    unfold PySem.W.rowLt
    rw [PySem.W.toks_all_cons]
    simp only [PySem.W.keyToksAll]
    rw [PyProof.Rows.lex_diff (O := PyProof.Rows.itemOrd) (by simp)]
    all_goals rfl
  | x :: xs, y :: ys => by
    have ih := rowLt_is hal heq hlt xs ys
    unfold PySem.W.rowLt at ih
    show PySem.W.rowLt (e x :: xs.map e) (e y :: ys.map e) = if x = y then ltL lt xs ys else lt x y
    unfold PySem.W.rowLt
    rw [PySem.W.dataLt_cons (hal x y), heq, hlt, ih]
    by_cases h : x = y
    · rw [decide_eq_true h, if_pos rfl, if_pos h]
    · rw [decide_eq_false h, if_neg Bool.false_ne_true, if_neg h]
theorem eqvAll_is {α : Type} [DecidableEq α] {e : α → PyData} (heq : ∀ a b, PyData.eqv (e a) (e b) = decide (a = b)) : ∀ xs ys : List α, PyData.eqvAll (xs.map e) (ys.map e) = decide (xs = ys)
  | [], [] => by simp [PyData.eqvAll]
  | [], y :: ys => by simp [PyData.eqvAll]
  | x :: xs, [] => by simp [PyData.eqvAll]
  | x :: xs, y :: ys => by
    rw [List.map_cons, List.map_cons, PyData.eqvAll, heq, eqvAll_is heq xs ys]
    by_cases h : x = y
    · by_cases h2 : xs = ys <;> simp [h, h2]
    · simp [h]
theorem alikeAll_is {α : Type} {e : α → PyData} (h : ∀ a b, PySem.W.alike (e a) (e b) = true) : ∀ xs ys : List α, PySem.W.alikeAll (xs.map e) (ys.map e) = true
  | [], _ => by simp [PySem.W.alikeAll]
  | _ :: _, [] => by simp [PySem.W.alikeAll]
  | x :: xs, y :: ys => by
    rw [List.map_cons, List.map_cons, PySem.W.alikeAll, h, alikeAll_is h xs ys]
    rfl
theorem depthAll_is {α : Type} {e : α → PyData} {n : Nat} (h : ∀ a, (e a).depth ≤ n) : ∀ xs : List α, PyData.depthAll (xs.map e) ≤ n
  | [] => by simp [PyData.depthAll]
  | x :: xs => by
    have h1 := h x
    have h2 := depthAll_is h xs
    rw [List.map_cons, PyData.depthAll]
    omega

/-- an encoding with its order: data le is le, which parts any two items -/
structure Enc {α : Type} (enc : α → PyData) (le : α → α → Bool) : Prop where
  eq : ∀ a b, PySem.W.dataLe false enc a b = le a b
  anti : ∀ a b, le a b = true → le b a = true → a = b
  al : ∀ a b, PySem.W.alike (enc a) (enc b) = true
  so : (∀ b, ∃ x r, enc b = .tuple (x :: r)) ∨ ∀ b, enc b ≠ .none ∧ ∀ xs, enc b ≠ .tuple xs
  dp : ∀ b, (enc b).depth ≤ 8
theorem Enc.tot {α : Type} {enc : α → PyData} {le : α → α → Bool} (E : Enc enc le) : PySem.W.TotalLe le := by
  have h : PySem.W.TotalLe (PySem.W.dataLe false enc) := PySem.W.sortLe_total _ _ _
  have e : PySem.W.dataLe false enc = le := by
    funext a b
    exact E.eq a b
  rw [← e]
  exact h

/-! ### insertion -/
theorem ins_perm {α : Type} (le : α → α → Bool) (x : α) : ∀ l : List α, (Mir.ins le x l).Perm (x :: l)
  | [] => List.Perm.refl _
  | y :: r => by
    unfold Mir.ins
    split
    · exact List.Perm.refl _
    · exact ((ins_perm le x r).cons y).trans (List.Perm.swap x y r)
theorem isort_perm {α : Type} (le : α → α → Bool) : ∀ l : List α, (Mir.isort le l).Perm l
  | [] => List.Perm.refl _
  | x :: r => (ins_perm le x _).trans ((isort_perm le r).cons x)
theorem ins_sorted {α : Type} {le : α → α → Bool} (t : PySem.W.TotalLe le) (x : α) : ∀ l : List α, l.Pairwise (fun a b => le a b = true) → (Mir.ins le x l).Pairwise (fun a b => le a b = true)
  | [], _ => List.pairwise_singleton _ _
  | y :: r, h => by
    obtain ⟨h1, h2⟩ := List.pairwise_cons.mp h
    unfold Mir.ins
    by_cases c : le x y = true
    · rw [if_pos c]
      refine List.pairwise_cons.mpr ⟨fun z hz => ?_, h⟩
      rcases List.mem_cons.mp hz with e | hz
      · rw [e]
        exact c
      · exact t.trans _ _ _ c (h1 z hz)
    · rw [if_neg c]
      refine List.pairwise_cons.mpr ⟨fun z hz => ?_, ins_sorted t x r h2⟩
      rcases List.mem_cons.mp ((ins_perm le x r).mem_iff.mp hz) with e | hz
      · rw [e]
        exact (t.total x y).resolve_left c
      · exact h1 z hz
theorem isort_sorted {α : Type} {le : α → α → Bool} (t : PySem.W.TotalLe le) : ∀ l : List α, (Mir.isort le l).Pairwise (fun a b => le a b = true)
  | [] => List.Pairwise.nil
  | x :: r => ins_sorted t x _ (isort_sorted t r)
theorem Enc.sorted {α : Type} {enc : α → PyData} {le : α → α → Bool} (E : Enc enc le) (l : List α) : l.mergeSort (PySem.W.dataLe false enc) = Mir.isort le l := by
  have e : PySem.W.dataLe false enc = le := by
    funext a b
    exact E.eq a b
  rw [e]
  exact List.Perm.eq_of_pairwise (le := fun a b => le a b = true) (fun a b _ _ h1 h2 => E.anti a b h1 h2) (PySem.W.sort_pairwise E.tot l) (isort_sorted E.tot l) ((List.mergeSort_perm l le).trans (isort_perm le l).symm)

/-! ### the encodings at hand -/
def encI (i : Int) : PyData := .int i
def encB (b : Mir.Blk) : PyData := .tuple [.int b.1, .int b.2]
def encL (L : Mir.Lay) : PyData := .list (L.map encB)
def encF (f : Mir.Fnd) : PyData := .tuple [.int f.1, .list (f.2.1.map encI), .int f.2.2]
def encR (r : Mir.Rep) : PyData := encF (r.2.2, r.1, r.2.1)
theorem eqv_I (a b : Int) : PyData.eqv (encI a) (encI b) = decide (a = b) := by
  show PyData.eqv (.int a) (.int b) = _
  simp only [PyData.eqv, Bool.beq_eq_decide_eq]
theorem alike_I (a b : Int) : PySem.W.alike (encI a) (encI b) = true := by simp [encI, PySem.W.alike]
theorem eqv_B (a b : Mir.Blk) : PyData.eqv (encB a) (encB b) = decide (a = b) := by
  obtain ⟨x, y⟩ := a
  obtain ⟨z, w⟩ := b
  simp only [encB, PyData.eqv, PyData.eqvAll, Bool.and_true]
  by_cases h1 : x = z
  · by_cases h2 : y = w <;> simp [h1, h2]
  · simp [h1]
theorem alike_B (a b : Mir.Blk) : PySem.W.alike (encB a) (encB b) = true := by simp [encB, PySem.W.alike, PySem.W.alikeAll]
def ltB (a b : Mir.Blk) : Bool := decide (a.1 < b.1 ∨ (a.1 = b.1 ∧ a.2 < b.2))
theorem leP_not (a b : Mir.Blk) : (!ltB b a) = Mir.leP a b := by
  unfold ltB Mir.leP
  by_cases h1 : a.1 < b.1
  · have : ¬ (b.1 < a.1 ∨ (b.1 = a.1 ∧ b.2 < a.2)) := by omega
    simp [h1, this]
  · by_cases h2 : a.1 = b.1
    · by_cases h3 : a.2 ≤ b.2
      · have : ¬ (b.1 < a.1 ∨ (b.1 = a.1 ∧ b.2 < a.2)) := by omega
        simp [h2, h3, this]
      · have : (b.1 < a.1 ∨ (b.1 = a.1 ∧ b.2 < a.2)) := by omega
        simp [h1, h3, this]
    · have : (b.1 < a.1 ∨ (b.1 = a.1 ∧ b.2 < a.2)) := by omega
      simp [h1, h2, this]
theorem leP_anti (a b : Mir.Blk) (h1 : Mir.leP a b = true) (h2 : Mir.leP b a = true) : a = b := by
  unfold Mir.leP at h1 h2
  simp only [Bool.or_eq_true, Bool.and_eq_true, decide_eq_true_eq] at h1 h2
  obtain ⟨x, y⟩ := a
  obtain ⟨z, w⟩ := b
  simp only at h1 h2
  have e1 : x = z := by omega
  have e2 : y = w := by omega
  rw [e1, e2]
theorem enc_B : Enc encB Mir.leP where
  eq := fun a b => by
    show (!PySem.W.dataLt (.tuple [.int b.1, .int b.2]) (.tuple [.int a.1, .int a.2])) = _
    rw [PySem.W.dataLt_ii]
    exact leP_not a b
  anti := leP_anti
  al := alike_B
  so := .inl fun b => ⟨_, _, rfl⟩
  dp := fun b => by simp [encB, PyData.depth, PyData.depthAll]
theorem lt_ll {α : Type} [DecidableEq α] {lt : α → α → Bool} {le : α → α → Bool} (h : ∀ a b, (!lt b a) = le a b) (f : List α → List α → Bool) (f1 : ∀ y, f [] y = true) (f2 : ∀ a r, f (a :: r) [] = false) (f3 : ∀ a r b t, f (a :: r) (b :: t) = if a = b then f r t else le a b) :
    ∀ x y : List α, (!ltL lt y x) = f x y
  | [], [] => by
    rw [f1]
    rfl
  | [], _ :: _ => by
    rw [f1]
    rfl
  | a :: r, [] => by
    rw [f2]
    rfl
  | a :: r, b :: t => by
    rw [f3]
    show (!(if b = a then ltL lt t r else lt b a)) = _
    by_cases e : a = b
    · rw [if_pos e.symm, if_pos e]
      exact lt_ll h f f1 f2 f3 r t
    · rw [if_neg (fun z => e z.symm), if_neg e]
      exact h a b
theorem leLay_anti : ∀ a b : Mir.Lay, Mir.leLay a b = true → Mir.leLay b a = true → a = b
  | [], [], _, _ => rfl
  | [], _ :: _, _, h => by cases h
  | _ :: _, [], h, _ => by cases h
  | x :: r, y :: t, h1, h2 => by
    unfold Mir.leLay at h1 h2
    by_cases e : x = y
    · rw [if_pos e] at h1
      rw [if_pos e.symm] at h2
      rw [e, leLay_anti r t h1 h2]
    · rw [if_neg e] at h1
      rw [if_neg (fun z => e z.symm)] at h2
      exact absurd (leP_anti x y h1 h2) e
theorem leI_anti : ∀ a b : List Int, Mir.leI a b = true → Mir.leI b a = true → a = b
  | [], [], _, _ => rfl
  | [], _ :: _, _, h => by cases h
  | _ :: _, [], h, _ => by cases h
  | x :: r, y :: t, h1, h2 => by
    unfold Mir.leI at h1 h2
    by_cases e : x = y
    · rw [if_pos e] at h1
      rw [if_pos e.symm] at h2
      rw [e, leI_anti r t h1 h2]
    · rw [if_neg e] at h1
      rw [if_neg (fun z => e z.symm)] at h2
      have h1' := of_decide_eq_true h1
      have h2' := of_decide_eq_true h2
      exact absurd (Int.le_antisymm h1' h2') e
theorem leLay_not (x y : Mir.Lay) : (!ltL ltB y x) = Mir.leLay x y := lt_ll leP_not Mir.leLay (fun y => by cases y <;> rfl) (fun _ _ => rfl) (fun _ _ _ _ => rfl) x y
theorem ltI_not (a b : Int) : (!decide (b < a)) = decide (a ≤ b) := by
  by_cases h : b < a
  · simp [h]
  · have : a ≤ b := by omega
    simp [this]
theorem leI_not (x y : List Int) : (!ltL (fun a b => decide (a < b)) y x) = Mir.leI x y := lt_ll ltI_not Mir.leI (fun y => by cases y <;> rfl) (fun _ _ => rfl) (fun _ _ _ _ => rfl) x y
theorem lt_B (a b : Mir.Blk) : PySem.W.dataLt (encB a) (encB b) = ltB a b := PySem.W.dataLt_ii _ _ _ _
theorem enc_L : Enc encL Mir.leLay where
  eq := fun a b => by
    show (!PySem.W.dataLt (.list (b.map encB)) (.list (a.map encB))) = _
    rw [PySem.W.dataLt_list]
    show (!PySem.W.rowLt (b.map encB) (a.map encB)) = _
    rw [rowLt_is alike_B eqv_B lt_B]
    exact leLay_not a b
  anti := leLay_anti
  al := fun a b => by
    show PySem.W.alike (.list (a.map encB)) (.list (b.map encB)) = true
    rw [PySem.W.alike]
    exact alikeAll_is alike_B a b
  so := .inr fun b => ⟨(fun h => by unfold encL at h; cases h), (fun xs h => by unfold encL at h; cases h)⟩
  dp := fun b => by
    have h := depthAll_is (e := encB) (n := 1) (fun a => by simp [encB, PyData.depth, PyData.depthAll]) b
    show (PyData.list (b.map encB)).depth ≤ 8
    rw [PyData.depth]
    omega
theorem eqv_LI (a b : List Int) : PyData.eqv (.list (a.map encI)) (.list (b.map encI)) = decide (a = b) := by
  rw [PyData.eqv]
  exact eqvAll_is eqv_I a b
theorem alike_LI (a b : List Int) : PySem.W.alike (.list (a.map encI)) (.list (b.map encI)) = true := by
  rw [PySem.W.alike]
  exact alikeAll_is alike_I a b
theorem lt_I (a b : Int) : PySem.W.dataLt (encI a) (encI b) = decide (a < b) := PySem.W.dataLt_int a b
theorem lt_LI (a b : List Int) : PySem.W.dataLt (.list (a.map encI)) (.list (b.map encI)) = ltL (fun a b => decide (a < b)) a b := by
  rw [PySem.W.dataLt_list]
  exact rowLt_is alike_I eqv_I lt_I a b
theorem leF_anti (a b : Mir.Fnd) (h1 : Mir.leF a b = true) (h2 : Mir.leF b a = true) : a = b := by
  obtain ⟨x, y, z⟩ := a
  obtain ⟨x', y', z'⟩ := b
  unfold Mir.leF at h1 h2
  simp only at h1 h2
  by_cases e : x = x'
  · rw [if_pos e] at h1
    rw [if_pos e.symm] at h2
    by_cases e2 : y = y'
    · rw [if_pos e2] at h1
      rw [if_pos e2.symm] at h2
      have h1' := of_decide_eq_true h1
      have h2' := of_decide_eq_true h2
      rw [e, e2, Int.le_antisymm h1' h2']
    · rw [if_neg e2] at h1
      rw [if_neg (fun z => e2 z.symm)] at h2
      exact absurd (leI_anti _ _ h1 h2) e2
  · rw [if_neg e] at h1
    rw [if_neg (fun z => e z.symm)] at h2
    have h1' := of_decide_eq_true h1
    have h2' := of_decide_eq_true h2
    exact absurd (Int.le_antisymm h1' h2') e
theorem lt_F (a b : Mir.Fnd) : (!PySem.W.dataLt (encF b) (encF a)) = Mir.leF a b := by
  obtain ⟨x, y, z⟩ := a
  obtain ⟨x', y', z'⟩ := b
  show (!PySem.W.dataLt (.tuple [encI x', .list (y'.map encI), encI z']) (.tuple [encI x, .list (y.map encI), encI z])) = _
  rw [PySem.W.dataLt_tuple, PySem.W.dataLt_cons (alike_I _ _), eqv_I, lt_I, PySem.W.dataLt_cons (alike_LI _ _), eqv_LI, lt_LI, PySem.W.dataLt_cons (alike_I _ _), eqv_I, lt_I]
  have e : PyProof.Rows.lexLt PyProof.Rows.itemOrd (PySem.W.keyToksAll []) (PySem.W.keyToksAll []) = false := PyProof.Rows.lex_irrefl _
  rw [e]
  unfold Mir.leF
  simp only
  by_cases h1 : x = x'
  · subst h1
    rw [decide_eq_true rfl, if_pos rfl, if_pos rfl]
    by_cases h2 : y = y'
    · subst h2
      rw [decide_eq_true rfl, if_pos rfl, if_pos rfl]
      by_cases h3 : z' = z
      · subst h3
        simp
      · rw [decide_eq_false h3, if_neg Bool.false_ne_true]
        exact ltI_not z z'
    · rw [decide_eq_false (fun z => h2 z.symm), if_neg Bool.false_ne_true, if_neg h2]
      exact leI_not y y'
  · rw [decide_eq_false (fun z => h1 z.symm), if_neg Bool.false_ne_true, if_neg h1]
    exact ltI_not x x'
theorem depth_F (b : Mir.Fnd) : (encF b).depth ≤ 8 := by
  have h := depthAll_is (e := encI) (n := 0) (fun a => by simp [encI, PyData.depth]) b.2.1
  show (PyData.tuple [.int b.1, .list (b.2.1.map encI), .int b.2.2]).depth ≤ 8
  simp only [PyData.depth, PyData.depthAll]
  omega
theorem alike_F (a b : Mir.Fnd) : PySem.W.alike (encF a) (encF b) = true := by
  have h := alikeAll_is alike_I a.2.1 b.2.1
  show PySem.W.alike (.tuple [.int a.1, .list (a.2.1.map encI), .int a.2.2]) (.tuple [.int b.1, .list (b.2.1.map encI), .int b.2.2]) = true
  simp only [PySem.W.alike, PySem.W.alikeAll, h]
  rfl
theorem enc_F : Enc encF Mir.leF where
  eq := lt_F
  anti := leF_anti
  al := alike_F
  so := .inl fun b => ⟨_, _, rfl⟩
  dp := depth_F
theorem leR_leF (a b : Mir.Rep) : Mir.leR a b = Mir.leF (a.2.2, a.1, a.2.1) (b.2.2, b.1, b.2.1) := rfl
theorem enc_R : Enc encR Mir.leR where
  eq := fun a b => lt_F _ _
  anti := fun a b h1 h2 => by
    have e := leF_anti (a.2.2, a.1, a.2.1) (b.2.2, b.1, b.2.1) h1 h2
    obtain ⟨x, y, z⟩ := a
    obtain ⟨x', y', z'⟩ := b
    simp only [Prod.mk.injEq] at e
    obtain ⟨rfl, rfl, rfl⟩ := e
    rfl
  al := fun a b => alike_F _ _
  so := .inl fun b => ⟨_, _, rfl⟩
  dp := fun b => depth_F _
end Hg
end Z_HgS

section Z_HgR
set_option maxHeartbeats 4000000
/-! sorted as a rule. -/
namespace Hg
open PySem L2
open PySem.W (EachIs)
/-- sorted(xs), the items standing for data -/
def rSortA {α : Type} (K : PySem.W.Frag) (enc : α → PyData) : List V → Hp → VK → Prop := fun vs H Q => ∃ (a : Addr) (us : List V) (xs : List α), vs = [V.ref a] ∧ SqL K H a us ∧ us.length = xs.length ∧ (∀ p ∈ us.zip xs, Dp K H p.1 (enc p.2)) ∧
  ∀ p, H p = none → Q (.ref p) (upd H p (.lst (((us.zip xs).mergeSort (PySem.W.dataLe false fun b => enc b.2)).map (·.1))))
theorem each_zip {α : Type} : ∀ {us : List V} {its : List Value} {xs : List α}, Vals us its → us.length = xs.length → EachIs (fun u (b : V × α) => RelV b.1 u) its (us.zip xs)
  | [], _, [], .nil, _ => .nil
  | _ :: _, _, _ :: _, .cons r t, h => .cons r (each_zip t (by simpa using h))
theorem each_vals {α : Type} : ∀ {its : List Value} {bs : List (V × α)}, EachIs (fun u (b : V × α) => RelV b.1 u) its bs → Vals (bs.map (·.1)) its
  | _, _, .nil => .nil
  | _, _, .cons r t => .cons r (each_vals t)
theorem each_imp {α β : Type} {R R' : α → β → Prop} : ∀ {as : List α} {bs : List β}, EachIs R as bs → (∀ a b, b ∈ bs → R a b → R' a b) → EachIs R' as bs
  | _, _, .nil, _ => .nil
  | _, _, .cons r t, h => .cons (h _ _ List.mem_cons_self r) (each_imp t fun a b m q => h a b (List.mem_cons_of_mem _ m) q)
theorem cr_sortA {X : Cx} {α : Type} {enc : α → PyData} {le : α → α → Bool} (K : PySem.W.Frag) (E : Enc enc le) (hu : X.A.units + 64 < cLine) (hk : X.K = K := by rfl) : CallR X (.builtin "sorted") (rSortA K enc) := by
  subst hk
  intro pins s σ H vs us Q I r h
  obtain ⟨a, xs, bs, rfl, hs, hlen, hd, q⟩ := h
  obtain rfl := Vals.ref1 r
  obtain ⟨its, rv, hl, hz⟩ := I.list hs
  have e := each_zip (xs := bs) rv hlen
  have hzl : (xs.zip bs).length = xs.length := by rw [List.length_zip, hlen, Nat.min_self]
  refine PySem.W.sorted_data (enc := fun b : V × α => enc b.2) hl.isList e (each_imp e fun u b m ru => Dp.reads I (enc b.2) b.1 u (hd b m) ru) (PySem.W.AllAlike.of fun b b' => E.al b.2 b'.2) ?_ (by rw [hzl]; exact hz) (fun b _ => by have := E.dp b.2; omega) fun out ho eo => ?_
  · rcases E.so with h | h
    · exact PySem.W.Sortable.tuples fun b => h b.2
    · exact PySem.W.Sortable.others fun b => h b.2
  · obtain ⟨ep, he'⟩ := PyProof.Rows.sortedAll_at s.heap its out.toArray
    have rv' := each_vals eo
    have hlen' : (((xs.zip bs).mergeSort (PySem.W.dataLe false fun b => enc b.2)).map (·.1)).length ≤ sizeLine := by
      rw [List.length_map, List.length_mergeSort, hzl]
      exact hz
    exact ⟨.ref _, upd H (s.heap.objs.size + 1) (.lst _), I.laid (t' := s.toks) (fun _ _ => PyProof.Rows.sortedAll_old) (Nat.le_succ _) ⟨hlen', out, ep, rv', he'⟩, rfl, q _ (I.hok.fresh (Nat.le_succ _))⟩
theorem pr_zip {α : Type} {R : Rp α} {S : Hp} : ∀ {us : List V} {xs : List α}, Pr R S us xs → ∀ p ∈ us.zip xs, R S p.1 p.2
  | _, _, .nil, p, h => by cases h
  | _, _, .cons r t, p, h => by
    rcases List.mem_cons.mp h with e | h
    · rw [e]
      exact r
    · exact pr_zip t p h
theorem pr_of {α : Type} {R : Rp α} {S : Hp} : ∀ {ps : List (V × α)}, (∀ p ∈ ps, R S p.1 p.2) → Pr R S (ps.map (·.1)) (ps.map (·.2))
  | [], _ => .nil
  | p :: r, h => .cons (h p List.mem_cons_self) (pr_of fun q m => h q (List.mem_cons_of_mem _ m))
/-- the sorted items stand for the sorted data -/
theorem pr_sort {α : Type} {R : Rp α} {S : Hp} {us : List V} {xs : List α} {enc : α → PyData} {le : α → α → Bool} (E : Enc enc le) (h : Pr R S us xs) :
    Pr R S (((us.zip xs).mergeSort (PySem.W.dataLe false fun b => enc b.2)).map (·.1)) (Mir.isort le xs) := by
  have e1 : ((us.zip xs).mergeSort (PySem.W.dataLe false fun b => enc b.2)).map (·.2) = Mir.isort le xs := by
    refine (PySem.W.sort_maps (r := PySem.W.dataLe false fun b : V × α => enc b.2) (s := PySem.W.dataLe false enc) (fun b : V × α => b.2) (fun a _ b _ => rfl)).trans ?_
    rw [List.map_snd_zip (Nat.le_of_eq h.len.symm)]
    exact E.sorted xs
  rw [← e1]
  exact pr_of fun p m => pr_zip h p (List.mem_mergeSort.mp m)
theorem ev_sorted {Z : List Addr} {σ : L2.St} {S : Hp} {α : Type} {R : Rp α} [Up R] {ta : TE} {xs : List α} {K : PySem.W.Frag} {enc : α → PyData} {le : α → α → Bool} (E : Enc enc le) (ha : EvR Z ta σ S (jL R) xs)
    (hd : ∀ S v x, R S v x → Dp K S v (enc x)) : EvR Z (tCB (rSortA K enc) (tCons ta tNil)) σ S (jL R) (Mir.isort le xs) := fun S1 H s k Q q =>
  ha S1 H s k _ fun S2 H2 v t ⟨a, vs, e, h, p⟩ => ⟨a, vs, xs, by rw [e], SqL.of (t.ok.le _ _ h), p.len, fun z m => hd H2 z.1 z.2 (Up.up t.ok.le (pr_zip p z m)), fun l hl =>
    q _ _ _ (t.trans (t.ok.add hl)) ⟨l, _, rfl, upd_same, (pr_sort E p).up (same_upd (t.ok.free hl))⟩⟩

/-! ### values as data -/
theorem dp_I {K : PySem.W.Frag} {S : Hp} {v : V} {i : Int} (h : jI S v i) : Dp K S v (encI i) := by
  have h : v = .int i := h
  rw [h]
  exact .int i
theorem dpAll {α : Type} {R : Rp α} {K : PySem.W.Frag} {S : Hp} {enc : α → PyData} (hd : ∀ v x, R S v x → Dp K S v (enc x)) : ∀ {vs : List V} {xs : List α}, Pr R S vs xs → DpAll K S vs (xs.map enc)
  | _, _, .nil => .nil
  | _, _, .cons h t => .cons (hd _ _ h) (dpAll hd t)
theorem dp_L {α : Type} {R : Rp α} {K : PySem.W.Frag} {S : Hp} {enc : α → PyData} (hd : ∀ v x, R S v x → Dp K S v (enc x)) {v : V} {xs : List α} (h : jL R S v xs) : Dp K S v (.list (xs.map enc)) := by
  obtain ⟨a, vs, rfl, h2, p⟩ := h
  exact .lst (SqL.of h2) (dpAll hd p)
theorem dp_U {α : Type} {R : Rp α} {K : PySem.W.Frag} {S : Hp} {enc : α → PyData} (hd : ∀ v x, R S v x → Dp K S v (enc x)) {v : V} {xs : List α} (h : jU R S v xs) : Dp K S v (.tuple (xs.map enc)) := by
  obtain ⟨a, vs, rfl, h2, p⟩ := h
  exact .tup (SqT.of h2) (dpAll hd p)
theorem dp_B {K : PySem.W.Frag} (S : Hp) (v : V) (b : Mir.Blk) (h : j2 jI jI S v b) : Dp K S v (encB b) := by
  obtain ⟨a, x, y, rfl, h2, h3, h4⟩ := h
  exact .tup (SqT.of h2) (.cons (dp_I h3) (.cons (dp_I h4) .nil))
theorem dp_Lay {K : PySem.W.Frag} (S : Hp) (v : V) (b : Mir.Lay) (h : jL (j2 jI jI) S v b) : Dp K S v (encL b) := dp_L (fun v x => dp_B S v x) h
theorem dp_F {K : PySem.W.Frag} (S : Hp) (v : V) (b : Mir.Fnd) (h : j3 jI (jL jI) jI S v b) : Dp K S v (encF b) := by
  obtain ⟨a, x, y, z, rfl, h2, h3, h4, h5⟩ := h
  exact .tup (SqT.of h2) (.cons (dp_I h3) (.cons (dp_L (enc := encI) (fun _ _ => dp_I) h4) (.cons (dp_I h5) .nil)))
end Hg
end Z_HgR

section Z_D2
set_option maxHeartbeats 4000000
/-! Layouts and relocations. -/
namespace Hg
open PySem L2
def spWithout (Z : List Addr) : Sp := Fn Z (aC jLay (aC jI aN)) (fun p => 0 ≤ p.2.1 ∧ p.2.1 < p.1.length ∧ p.1.length ≤ 100) jLay fun p => Mir.without p.1 p.2.1.toNat
def spWithBlock (Z : List Addr) : Sp := Fn Z (aC jLay (aC jI (aC jI aN))) (fun p => p.1.length ≤ 100) jLay fun p => Mir.withBlock p.1 p.2.1 p.2.2.1
abbrev jSt : Rp (List Int) := jL jI
def spPlaced (Z : List Addr) : Sp := Fn Z (aC jLay (aC jSt aN)) (fun p => p.1.length ≤ 100 ∧ p.2.1.length ≤ 100) jLay fun p => Mir.placed p.1 p.2.1
def spRelocated (Z : List Addr) : Sp := Fn Z (aC jLay (aC jSt aN)) (fun p => p.1.length ≤ 100 ∧ p.2.1.length ≤ 100) jLay fun p => Mir.relocated p.1 p.2.1
def spCost (Z : List Addr) : Sp := Fn Z (aC jLay (aC jSt aN)) (fun p => p.1.length ≤ 100 ∧ p.2.1.length ≤ 100) jI fun p => Mir.cost p.1 p.2.1
def spIsLay (Z : List Addr) : Sp := Fn Z (aC jI (aC jLay aN)) (fun _ => True) jB fun p => Mir.isLayFrom p.1 0 p.2.1
section
variable {P : Program} {w : World} {K : PySem.W.Frag} {mg : Str → Option Value} {base : Heap} {Z : List Addr} {f : Addr} {fd : FuncData}
theorem fn_len3 {α β γ δ : Type} {R : Rp α} {R' : Rp β} {R'' : Rp γ} {R3 : Rp δ} {pre : α × β × γ × Unit → Prop} {g : α × β × γ × Unit → δ} : ∀ vs H Q E, Fn Z (aC R (aC R' (aC R'' aN))) pre R3 g vs H Q E → vs.length = 3 := fun vs H Q E ⟨S, x, k, ⟨v, r, e, h, v', r', e1, h', v'', r'', e2, h'', e'⟩, p, q⟩ => by
  have e' : r'' = [] := e'
  rw [e, e1, e2, e']
  rfl
theorem cut_take (i : Nat) (vs : List V) (h : i ≤ vs.length) : cutV vs none (some (i : Int)) = (vs.drop 0).take i := by
  have e : HT.sIx vs.length vs.length (some (i : Int)) = i := by
    unfold HT.sIx
    simp
    rw [if_neg (by omega)]
    omega
  have e0 : HT.sIx vs.length 0 none = 0 := rfl
  unfold cutV
  rw [e, e0, Nat.sub_zero]
theorem cut_drop (i : Nat) (vs : List V) (h : i ≤ vs.length) : cutV vs (some (i : Int)) none = (vs.drop i).take (vs.length - i) := by
  have e : HT.sIx vs.length 0 (some (i : Int)) = i := by
    unfold HT.sIx
    simp
    rw [if_neg (by omega)]
    omega
  have e0 : HT.sIx vs.length vs.length none = vs.length := rfl
  unfold cutV
  rw [e, e0]
theorem isLay_cons (n e : Int) (b : Mir.Blk) (r : Mir.Lay) : Mir.isLayFrom n e (b :: r) = if (decide (b.1 < e) || decide (b.2 < 1)) = true then false else Mir.isLayFrom n (b.1 + b.2) r := rfl
abbrev N_without : List Str := ["layout", "index"]
theorem sc_without : FnScope N_without ["layout", "index"] (defScope s_without) := ⟨rfl, rfl, rfl, by decide +kernel, rfl, by decide +kernel, by decide +kernel⟩
theorem ok_without (F : FnP K "without" "without" s_without f fd) (T : Txt K mg) : FnOk P w K mg base CX0 1 f fd ["layout", "index"] (spWithout Z) := by
  refine F.ok sc_without fn_len2 (fun cdv A outer s H vs Q E hr h => ⟨_, PSs.nox (pss_one (ps_ret (pe_op op_cat (pe_slice (kSl K) (pv 0) po_none (po_some (pv 1))) (pe_slice (kSl K) (pv 0) (po_some (pe_op op_add (pv 1) pe_int)) po_none)))), ?_⟩)
  obtain ⟨S, ⟨L, i, u⟩, k, ⟨v, r, rfl, hL, v', r', rfl, hi, hr'⟩, p, q⟩ := h
  cases hr'
  obtain ⟨p1, p2, p3⟩ := p
  simp only at p1 p2 p3
  obtain ⟨n, rfl⟩ := Int.eq_ofNat_of_zero_le p1
  have hL : jLay S v L := hL
  have hi : jI S v' (n : Int) := hi
  have p3 : L.length ≤ 100 := p3
  have hn : n < L.length := by
    have p2 : (n : Int) < (L.length : Int) := p2
    omega
  have e1 : EvR Z _ _ S jLay ((L.drop 0).take n) := ev_slice (K := K) (ev_var (σ := [some v, some v']) (i := 0) rfl hL) eo_none (eo_some (ev_var (i := 1) rfl hi)) 0 n fun vs hv => cut_take n vs (by omega)
  have e2 : EvR Z _ _ S jLay ((L.drop (n + 1)).take (L.length - (n + 1))) := ev_slice (K := K) (ev_var (σ := [some v, some v']) (i := 0) rfl hL) (eo_some (ev_II (g := fun i j => i + j) (ev_var (i := 1) rfl hi) (ev_int (i := 1)))) eo_none (n + 1) (L.length - (n + 1)) fun vs hv => by
    rw [← hv]
    exact cut_drop (n + 1) vs (by omega)
  refine s_ret ((ev_cat e1 e2 (by simp only [List.length_take, List.length_drop]; omega)).is ?_) k q
  show _ = Mir.without L n
  unfold Mir.without
  rw [List.drop_zero, List.take_of_length_le (l := L.drop (n + 1)) (by rw [List.length_drop]; exact Nat.le_refl _)]
abbrev N_with_block : List Str := ["layout", "start", "length"]
theorem sc_with_block : FnScope N_with_block ["layout", "start", "length"] (defScope s_with_block) := ⟨rfl, rfl, rfl, by decide +kernel, rfl, by decide +kernel, by decide +kernel⟩
theorem ok_with_block (F : FnP K "with_block" "with_block" s_with_block f fd) (T : Txt K mg) : FnOk P w K mg base CX0 1 f fd ["layout", "start", "length"] (spWithBlock Z) := by
  refine F.ok sc_with_block fn_len3 (fun cdv A outer s H vs Q E hr h => ⟨_, PSs.nox (pss_one (ps_ret (pe_callB (cr_sortA K enc_B hr.units) rfl T.f_sorted (by decide +kernel) (pa_cons (pe_op op_cat (pv 0) (pe_lst (pa_cons (pe_tup (pa_cons (pv 1) (pa_cons (pv 2) pa_nil))) pa_nil))) pa_nil)))), ?_⟩)
  obtain ⟨S, ⟨L, i, j, u⟩, k, ⟨v, r, rfl, hL, v', r', rfl, hi, v'', r'', rfl, hj, hr'⟩, p, q⟩ := h
  cases hr'
  exact s_ret (ev_sorted enc_B (ev_cat (ev_var rfl hL) (ev_lst (xs := [(i, j)]) (el_cons (ev_tup2 (ea_cons (ev_var rfl hi) (ea_cons (ev_var rfl hj) ea_nil))) el_nil) (by simp)) (by have : L.length ≤ 100 := p; show L.length + 1 ≤ 100000; omega)) dp_B) k q
abbrev N_placed : List Str := ["layout", "starts", "start", "old", "length"]
theorem sc_placed : FnScope N_placed ["layout", "starts"] (defScope s_placed) := ⟨rfl, rfl, rfl, by decide +kernel, rfl, by decide +kernel, by decide +kernel⟩
theorem ok_placed (F : FnP K "placed" "placed" s_placed f fd) (T : Txt K mg) : FnOk P w K mg base CX0 1 f fd ["layout", "starts"] (spPlaced Z) := by
  refine F.ok sc_placed fn_len2 (fun cdv A outer s H vs Q E hr h => ⟨_, PSs.nox (pss_one (ps_ret (pe_lc (own := [("start", 2), ("old", 3), ("length", 4)]) (g := gTup K 2 (gCons (gName 2) (gCons (gTup K 2 (gCons (gName 3) (gCons (gName 4) gNil))) gNil))) rfl sc_placed.nd (kiZip K rfl T.f_zip (pa_cons (pv 1) (pa_cons (pv 0) pa_nil))) (blkOk_by (own := [("start", 2), ("old", 3), ("length", 4)]) (N := N_placed) (sc := defScope s_placed) (by first | decide +kernel | kernel_rfl)) (fun _ _ _ _ _ => (pg_tup rfl (pgs_cons (pg_name (i := 2) sc_placed.nd rfl (Or.inl rfl)) (pgs_cons (pg_tup rfl (pgs_cons (pg_name (i := 3) sc_placed.nd rfl (Or.inl rfl)) (pgs_cons (pg_name (i := 4) sc_placed.nd rfl (Or.inl rfl)) pgs_nil))) pgs_nil)))) (fun _ _ _ _ _ => pts_nil) (fun _ _ _ _ _ => (pe_tup (pa_cons (pv 2) (pa_cons (pv 4) pa_nil))))))), ?_⟩)
  obtain ⟨S, ⟨L, st, u⟩, k, ⟨v, r, rfl, hL, v', r', rfl, hs, hr'⟩, p, q⟩ := h
  cases hr'
  refine s_ret (ev_lcM (ei_zip (ea_cons (ev_var rfl hs) (ea_cons (ev_var rfl hL) ea_nil))) (fun p => (p.1, p.2.2)) (fun S1 v1 x hx s1 ⟨a, y, z, e, h1, h2, a', y', z', e', h3, h4, h5⟩ => ?_) ?_) k q
  · subst e e'
    exact ⟨_, eg_tup2 h1 eg_name (eg_tup2 h3 eg_name eg_name), rfl, ev_tup2 (ea_cons (ev_var rfl h2) (ea_cons (ev_var rfl h5) ea_nil))⟩
  · have h1 : st.length ≤ 100 := p.2
    rw [List.length_zip]
    show min st.length L.length ≤ 100000
    omega
abbrev N_relocated : List Str := ["layout", "starts"]
theorem sc_relocated : FnScope N_relocated ["layout", "starts"] (defScope s_relocated) := ⟨rfl, rfl, rfl, by decide +kernel, rfl, by decide +kernel, by decide +kernel⟩
theorem ok_relocated (F : FnP K "relocated" "relocated" s_relocated f fd) (T : Txt K mg) (c_placed : Cal P w K mg base 1 (He.ga K "placed") ["layout", "starts"] (spPlaced Z)) : FnOk P w K mg base CX0 2 f fd ["layout", "starts"] (spRelocated Z) := by
  refine F.ok sc_relocated fn_len2 (fun cdv A outer s H vs Q E hr h => ⟨_, PSs.nox (pss_one (ps_ret (pe_callB (cr_sortA K enc_B hr.units) rfl T.f_sorted (by decide +kernel) (pa_cons (pe_call c_placed.ok (hr.mono (by decide)) rfl T.g_placed c_placed.kp c_placed.bd .nil pass0 (pa_cons (pv 0) (pa_cons (pv 1) pa_nil))) pa_nil)))), ?_⟩)
  obtain ⟨S, ⟨L, st, u⟩, k, ⟨v, r, rfl, hL, v', r', rfl, hs, hr'⟩, p, q⟩ := h
  cases hr'
  exact s_ret (ev_sorted enc_B (ev_call (x := (L, st, ())) (ea_cons (ev_var rfl hL) (ea_cons (ev_var rfl hs) ea_nil)) p) dp_B) k q
abbrev N_cost : List Str := ["layout", "starts", "start", "old", "length"]
theorem sc_cost : FnScope N_cost ["layout", "starts"] (defScope s_cost) := ⟨rfl, rfl, rfl, by decide +kernel, rfl, by decide +kernel, by decide +kernel⟩
theorem ok_cost (F : FnP K "cost" "cost" s_cost f fd) (T : Txt K mg) : FnOk P w K mg base CX0 1 f fd ["layout", "starts"] (spCost Z) := by
  refine F.ok sc_cost fn_len2 (fun cdv A outer s H vs Q E hr h => ⟨_, PSs.nox (pss_one (ps_ret (pe_callB (kSum K rfl) rfl T.f_sum (by decide +kernel) (pa_cons (pe_lc (own := [("start", 2), ("old", 3), ("length", 4)]) (g := gTup K 2 (gCons (gName 2) (gCons (gTup K 2 (gCons (gName 3) (gCons (gName 4) gNil))) gNil))) rfl sc_cost.nd (kiZip K rfl T.f_zip (pa_cons (pv 1) (pa_cons (pv 0) pa_nil))) (blkOk_by (own := [("start", 2), ("old", 3), ("length", 4)]) (N := N_cost) (sc := defScope s_cost) (by first | decide +kernel | kernel_rfl)) (fun _ _ _ _ _ => (pg_tup rfl (pgs_cons (pg_name (i := 2) sc_cost.nd rfl (Or.inl rfl)) (pgs_cons (pg_tup rfl (pgs_cons (pg_name (i := 3) sc_cost.nd rfl (Or.inl rfl)) (pgs_cons (pg_name (i := 4) sc_cost.nd rfl (Or.inl rfl)) pgs_nil))) pgs_nil)))) (fun _ _ _ _ _ => (pts_one (pt_cmpR op_ne (pv 2) (pv 3) (nomark _)))) (fun _ _ _ _ _ => (pv 4))) pa_nil)))), ?_⟩)
  obtain ⟨S, ⟨L, st, u⟩, k, ⟨v, r, rfl, hL, v', r', rfl, hs, hr'⟩, p, q⟩ := h
  cases hr'
  refine s_ret (ev_sum (ev_lc (ei_zip (ea_cons (ev_var rfl hs) (ea_cons (ev_var rfl hL) ea_nil))) (fun p => !decide (p.1 = p.2.1)) (fun p => p.2.2) (fun S1 v1 x hx s1 ⟨a, y, z, e, h1, h2, a', y', z', e', h3, h4, h5⟩ => ?_) ?_)) k q
  · subst e e'
    exact ⟨_, eg_tup2 h1 eg_name (eg_tup2 h3 eg_name eg_name), rfl, et_test (ev_neI (ev_var rfl h2) (ev_var rfl h4)), fun _ => ev_var rfl h5⟩
  · have h1 : st.length ≤ 100 := p.2
    rw [List.length_zip]
    show min st.length L.length ≤ 100000
    omega
abbrev N_is_layout : List Str := ["size", "layout", "end", "start", "length"]
theorem sc_is_layout : FnScope N_is_layout ["size", "layout"] (defScope s_is_layout) := ⟨rfl, rfl, rfl, by decide +kernel, rfl, by decide +kernel, by decide +kernel⟩
theorem ok_is_layout (F : FnP K "is_layout" "is_layout" s_is_layout f fd) (T : Txt K mg) : FnOk P w K mg base CX0 1 f fd ["size", "layout"] (spIsLay Z) := by
  refine F.ok sc_is_layout fn_len2 (fun cdv A outer s H vs Q E hr h => ⟨_, PSs.nox (pss_cons (ps_set (i := 2) sc_is_layout.nd rfl (by first | exact Or.inl rfl | exact Or.inr rfl) pe_int)
      (pss_cons (ps_for PassesOwn.never rfl (kiList K (pv 1)) (pg_tup rfl (pgs_cons (pg_name (i := 3) sc_is_layout.nd rfl (by first | exact Or.inl rfl | exact Or.inr rfl)) (pgs_cons (pg_name (i := 4) sc_is_layout.nd rfl (by first | exact Or.inl rfl | exact Or.inr rfl)) pgs_nil))) (pss_cons (ps_if (PW.pt (pw_or (pt_cmpR op_lt (pv 3) (pv 2) (nomark _)) (pw_or1 (pt_cmpR op_lt (pv 4) pe_int (nomark _))))) (pss_one (ps_ret pe_bl)) pss_nil)
      (pss_one (ps_set (i := 2) sc_is_layout.nd rfl (by first | exact Or.inl rfl | exact Or.inr rfl) (pe_op op_add (pv 3) (pv 4))))))
      (pss_one (ps_ret (pe_cmpR op_le (pv 2) (pv 0) (nomark _)))))), ?_⟩)
  obtain ⟨S, ⟨n, L, u⟩, k, ⟨v, r, rfl, hn, v', r', rfl, hL, hr'⟩, p, q⟩ := h
  cases hr'
  refine s_seq (s_set (ev_int (i := 0)) k fun S1 H1 v1 t1 h1 => ?_)
  have h1 : v1 = .int 0 := h1
  subst h1
  refine s_seq (s_for (ei_list (ev_var (x := L) rfl (Up.up t1.ss hL))) t1 (fun i S2 σ2 H2 => ∃ (e : Int) (o1 o2 : Option V), σ2 = [some v, some v', some (.int e), o1, o2] ∧ Mir.isLayFrom n e (L.drop i) = Mir.isLayFrom n 0 L)
    (fun i S2 σ2 H2 S3 H3 h t => h) ⟨0, none, none, rfl, by rw [List.drop_zero]⟩ ?_ ?_)
  · rintro i ⟨b, l⟩ S2 σ2 H2 v2 N hx t2 s2 ⟨a, y, z, rfl, h2, h3, h4⟩ ⟨e, o1, o2, rfl, he⟩ hN
    refine ⟨_, eg_tup2 h2 eg_name eg_name, ?_⟩
    have hd : L.drop i = (b, l) :: L.drop (i + 1) := by
      obtain ⟨hi, e⟩ := List.getElem?_eq_some_iff.mp hx
      rw [← e]
      exact List.drop_eq_getElem_cons hi
    rw [hd, isLay_cons] at he
    refine s_seq (s_if (et_or (et_test (ev_IB (ev_var rfl h3) (ev_var (v := .int e) (x := e) rfl rfl))) fun _ => et_test (ev_IB (ev_var rfl h4) (ev_int (i := 1)))) t2.ok (fun hb S3 H3 t3 => ?_) fun hb S3 H3 t3 => ?_)
    · refine s_ret (ev_bl (i := false)) t3.ok fun S4 H4 v4 t4 h4 => q S4 H4 v4 ((t2.trans t3).trans t4) ?_
      rw [if_pos hb] at he
      show jB S4 v4 (Mir.isLayFrom n 0 L)
      rw [← he]
      exact h4
    · refine s_set (ev_II (ev_var rfl (Up.up t3.ss h3)) (ev_var rfl (Up.up t3.ss h4))) t3.ok fun S4 H4 v4 t4 h4 => ?_
      have h4 : v4 = .int (b + l) := h4
      subst h4
      refine hN S4 _ H4 ((t2.trans t3).trans t4) (t3.ss.trans t4.ss) ⟨b + l, _, _, rfl, ?_⟩
      rw [if_neg (by rw [hb]; exact Bool.false_ne_true)] at he
      exact he
  · rintro S2 σ2 H2 t2 s2 ⟨e, o1, o2, rfl, he⟩
    refine s_ret ((ev_IB (ev_var (v := .int e) (x := e) rfl rfl) (ev_var rfl (Up.up (t1.ss.trans s2) hn))).is ?_) t2.ok fun S4 H4 v4 t4 h4 => q S4 H4 v4 (t2.trans t4) h4
    rw [List.drop_length] at he
    exact he
end
end Hg
end Z_D2

section Z_HgG
set_option maxHeartbeats 4000000
/-! all(..) and any(..) of a generator expression over a list: of pairs, of ints. -/
namespace Hg
open PySem PySem.Spec PyProof.Rows L2
section
variable {X : Cx} {pins : List (Addr × Obj)} {σ : L2.St} {H : Hp} {s : Shared}
/-- the generator g, ready to be walked in the state s5: n turns, the i-th tells tr i -/
def RdyG (X : Cx) (pins : List (Addr × Obj)) (σ : L2.St) (H1 : Hp) (P : Addr) (n : Nat) (tr : Nat → Bool) (g : Addr) (s5 : Shared) : Prop :=
  ∃ (fp wr : List Addr) (G : Array GenState → Array GenState → Prop) (F : Nat → Value → Prop) (St : Nat → Shared → Prop),
    WalksS X.prog X.w X.A.in1 g fp wr G n F St ∧ St 0 s5 ∧ TruthOf X.prog X.w X.A.in1 F tr ∧ ∀ s', Moved wr G s5 s' → ∃ H2, GxR.Tabbed P H1 H2 ∧ Inv X pins σ H2 s'
/-- a captured name of the def that holds an int -/
structure Cap (X : Cx) (σ : L2.St) (scope : Scope) (y : Str) (j : Int) : Prop where
  at_ : ∃ i : Nat, X.N[i]? = some y ∧ σ[i]? = some (some (V.int j))
  cell : X.env.scope.names.lookup y = some .cell
  clo : ∀ cells, (cloFrom cells scope.names []).lookup y = some ((cells.lookup y).getD 0)
theorem Cap.get {scope : Scope} {y : Str} {j : Int} (c : Cap X σ scope y j) (I : Inv X pins σ H s) : ∃ (a : Addr) (t : Tok), (cloFrom X.env.cells scope.names []).lookup y = some a ∧ s.heap.IsCell a (some (.int j t)) ∧ H a = none := by
  obtain ⟨i, h1, h2⟩ := c.at_
  obtain ⟨m, hn, hl⟩ := I.loc
  obtain ⟨u, r, l⟩ := hl i y _ h1 h2 (.inr (.inl c.cell))
  obtain ⟨t, rfl⟩ := r
  rcases l with ⟨hk, _⟩ | ⟨_, a, ha, hc⟩
  · have hk' : X.env.scope.names.lookup y = some .local := hk
    rw [c.cell] at hk'
    cases hk'
  · refine ⟨a, t, ?_, hc, I.freeC y a ha⟩
    rw [c.clo, ha]
    all_goals rfl
/-- an element over a pair of ints with two captured ints -/
def EltB (prog : Program) (w : World) (scope : Scope) (xa xb ya yb : Str) (elt : Expr) (i j : Int) (pb : Int → Int → Bool) : Prop :=
  ∀ (cenv : Env) (A' : Around) (E' : Value → Shared → Prop) (p q : Int) (t u t' u' : Tok) (ca cb : Addr) (s₂ : Shared) (m₂ : Str → Option Value), cenv.scope = scope → s₂.heap.Ns cenv.locals m₂ → m₂ xa = some (.int p t) → m₂ xb = some (.int q u) →
    cenv.cells.lookup ya = some ca → s₂.heap.IsCell ca (some (.int i t')) → cenv.cells.lookup yb = some cb → s₂.heap.IsCell cb (some (.int j u')) →
    wpAny (model prog w) A' (eval elt cenv) (fun y s₃ => y = .bool (pb p q) ∧ Keeps s₂ s₃) E' s₂
/-- the scope of such a generator expression -/
structure ScpT (env : Env) (scope : Scope) (xa xb : Str) : Prop where
  kind : scope.kind = .function
  co : scope.isCoroutine = false
  cell : ∀ y ∈ scope.names, y.2 ≠ .cell
  dot : scope.names.lookup (".0" : Str) = some NameKind.local
  la : scope.names.lookup xa = some .local
  lb : scope.names.lookup xb = some .local
  ab : xa ≠ xb
  free : ∀ y ∈ scope.names, y.2 = .free → ∃ c, env.cells.lookup y.1 = some c
def trB (pb : Int → Int → Bool) (bs : List (Int × Int)) (j : Nat) : Bool := match bs[j]? with
  | some b => pb b.1 b.2
  | none => false
theorem trB_all (pb : Int → Int → Bool) (bs : List (Int × Int)) : (List.range bs.length).all (trB pb bs) = bs.all fun b => pb b.1 b.2 := by
  rw [Bool.eq_iff_iff, List.all_eq_true, List.all_eq_true]
  constructor
  · intro h b hb
    obtain ⟨j, hj, e⟩ := List.getElem_of_mem hb
    have q := h j (List.mem_range.mpr hj)
    unfold trB at q
    rw [List.getElem?_eq_getElem hj, e] at q
    exact q
  · intro h j hj
    have hj' := List.mem_range.mp hj
    unfold trB
    rw [List.getElem?_eq_getElem hj']
    exact h _ (List.getElem_mem hj')
/-- what stands in the list: pairs of ints -/
def Prs (H : Hp) (us : List V) (bs : List (Int × Int)) : Prop := Paired (fun u b => ∃ a, u = V.ref a ∧ H a = some (.tup [.int b.1, .int b.2])) us bs
theorem Prs.at : ∀ {us : List V} {bs : List (Int × Int)} {i : Nat} {b : Int × Int}, Prs H us bs → bs[i]? = some b → ∃ a, us[i]? = some (.ref a) ∧ H a = some (.tup [.int b.1, .int b.2])
  | _, _, _, _, .nil, e => by simp at e
  | _, _, 0, _, .cons h _, e => by
    simp at e
    subst e
    obtain ⟨a, h1, h2⟩ := h
    exact ⟨a, by rw [h1]; rfl, h2⟩
  | _, _, i + 1, b, .cons _ t, e => by
    obtain ⟨a, h1, h2⟩ := Prs.at (i := i) (b := b) t (by simpa using e)
    exact ⟨a, by simpa using h1, h2⟩

/-- a generator over a list's iterator at n, made in s1, in the state s5: what was tracked is so still -/
theorem moved_inv {P n : Addr} {ps ps' : Array Value} {h3 : Nat} {h5 : Heap} {H1 : Hp} {s1 s5 s' : Shared} {G : Array GenState → Array GenState → Prop} (I1 : Inv X pins σ H1 s1) (hm : Moved (h3 :: [n]) G s5 s') (hP : H1 P = some (.tbl ps)) (ht3 : TriplesOk ps'.toList) (hmore : ∃ more, ps' = ps ++ more)
    (e5 : s5.heap = h5) (eo : s5.os = s1.os) (eg : AllBare s5.gens) (hn : n = s1.heap.objs.size) (hh : s1.heap.objs.size < h3) (hkeep : ∀ b u, b ≠ P → s1.heap.get? b = some u → h5.get? b = some u) (hP5 : h5.get? P = some { cls := .none, data := .fields ps' })
 (hbare : AllBare s'.gens) : ∃ H2, GxR.Tabbed P H1 H2 ∧ Inv X pins σ H2 s' := by
  obtain ⟨more, em⟩ := hmore
  have hPs : s1.heap.get? P = some { cls := .none, data := .fields ps } := I1.hok P _ hP
  have nwr : ∀ b u, s1.heap.get? b = some u → b ∉ h3 :: [n] := fun b u e hb => by
    have hl := Heap.lt_size e
    rcases List.mem_cons.mp hb with z | z
    · rw [z] at hl
      exact Nat.lt_asymm hh hl
    · rcases List.mem_cons.mp z with z | z
      · rw [z, hn] at hl
        exact Nat.lt_irrefl _ hl
      · cases z
  have J := GxR.inv_tab (more := more) (h' := s'.heap) (g' := s'.gens) (d' := s'.drawn) (t' := s'.toks) I1 hP (fun b u hb e => hm.heap b u (nwr b u e) (by rw [e5]; exact hkeep b u hb e))
    (by rw [← em]; exact hm.heap P _ (nwr P _ hPs) (by rw [e5]; exact hP5)) hbare
  rw [GxR.sh_eta s1 s' (hm.os.trans eo)] at J
  exact ⟨upd H1 P (.tbl (ps ++ more)), ⟨⟨ps ++ more, upd_same, by rw [← em]; exact ht3⟩, fun b hb => upd_ne hb⟩, J⟩

theorem gen_prs {c P : Addr} {elt iter : Expr} {xa xb ya yb : Str} {pa pb' pt gpos : Pos} {kt : Nat} {scope : Scope} {i j : Int} {pb : Int → Int → Bool} {te : TE} {k : Nat} {Q' : Value → Shared → Prop} {R : List (Int × Int) → Hp → Prop}
    (hr : Room k X.A) (TB : GxR.TabB X.base X.mg c P) (hcode : X.env.code = .ref c) (S : ScpT X.env scope xa xb) (ca : Cap X σ scope ya i) (cb : Cap X σ scope yb j) (hi : PE X iter te) (hel : EltB X.prog X.w scope xa xb ya yb elt i j pb)
    (hs : ∀ v, genFold iter X.env v = pure v) (I : Inv X pins σ H s) (h : te σ H fun v H1 => ∃ (yl : Addr) (us : List V) (bs : List (Int × Int)), v = .ref yl ∧ SqL X.K H1 yl us ∧ Prs H1 us bs ∧ GxR.TabG H1 P ∧ R bs H1)
    (hQ : ∀ bs H1 g s5, R bs H1 → RdyG X pins σ H1 P bs.length (trB pb bs) g s5 → Q' (.ref g) s5) :
    wpAny (model X.prog X.w) X.A (eval (.GeneratorExp elt [⟨.Tuple [.Name xa pa, .Name xb pb'] kt pt, iter, [], 0⟩] scope gpos) X.env) Q' X.xe s := by
  refine wpAny_GeneratorExp_walksQT hr.hd S.co (closure_ok S.free) S.cell S.dot S.la S.lb S.ab S.kind (by have := hr.dp; omega) ?_ hs
  refine thn (hi.run pins s σ H _ I h) fun xv s1 ⟨v, H1, I1, r1, q1⟩ => ?_
  obtain ⟨yl, us, bs, rfl, hyl, hus, ⟨ps, hP, ht⟩, q1⟩ := q1
  obtain rfl : xv = Value.ref yl := r1
  obtain ⟨its, rv, hl, hz⟩ := I1.list hyl
  have hIL := hl.isList
  have hub : us.length = bs.length := Paired.length hus
  have hlen : its.length = bs.length := by rw [← rv.length, hub]
  obtain ⟨aA, tA, loA, cA, nA⟩ := ca.get I1
  obtain ⟨aB, tB, loB, cB, nB⟩ := cb.get I1
  let Ts : Nat → Addr := fun n => match us[n]? with
    | some (.ref a) => a
    | _ => 0
  let vals : Nat → Array Value := fun n => match s1.heap.get? (Ts n) with
    | some ⟨_, _, .seq vs _, _⟩ => vs
    | _ => #[]
  have hT : ∀ n b, bs[n]? = some b → us[n]? = some (.ref (Ts n)) ∧ H1 (Ts n) = some (.tup [.int b.1, .int b.2]) := fun n b hb => by
    obtain ⟨a, h1, h2⟩ := hus.at hb
    have e : Ts n = a := by
      show (match us[n]? with | some (.ref a) => a | _ => 0) = a
      rw [h1]
    rw [e]
    exact ⟨h1, h2⟩
  have hV : ∀ n b, bs[n]? = some b → s1.heap.IsTuple (Ts n) (vals n) ∧ ∃ t u, vals n = #[.int b.1 t, .int b.2 u] := fun n b hb => by
    obtain ⟨_, its2, rv2, ob, ho, hc, nn, hd⟩ := I1.hok _ _ (hT n b hb).2
    have e : vals n = its2.toArray := by
      show (match s1.heap.get? (Ts n) with | some ⟨_, _, .seq vs _, _⟩ => vs | _ => #[]) = _
      obtain ⟨o1, o2, o3, o4⟩ := ob
      simp only at hd
      rw [ho, hd]
    refine ⟨by rw [e]; exact ⟨ob, ho, hc, nn, hd⟩, ?_⟩
    cases rv2 with
    | cons r1 rt =>
      cases rt with
      | cons r2 rt2 =>
        cases rt2
        obtain ⟨t, rfl⟩ := r1
        obtain ⟨u, rfl⟩ := r2
        exact ⟨t, u, e⟩
  have hat : ∀ n, n < its.toArray.size → its.toArray[n]? = some (.ref (Ts n)) := fun n hn => by
    have hn' : n < bs.length := by
      rw [List.size_toArray] at hn
      omega
    obtain ⟨u, hu, ru⟩ := rv.get (hT n _ (List.getElem?_eq_getElem hn')).1
    obtain rfl : u = Value.ref (Ts n) := ru
    simpa using hu
  refine wpAny_pyIter_list hIL ?_
  generalize ho : ({ cls := .type "list_iterator", data := .fields #[.ref yl, .int 0 0] } : Obj) = o
  have hitr : (s1.heap.push o).IsListIter s1.heap.objs.size yl 0 := by
    subst ho
    exact ⟨_, Heap.get?_push_size _ rfl, rfl, rfl⟩
  have hylt : yl < s1.heap.objs.size := by
    obtain ⟨_, e, _⟩ := _root_.id hIL
    exact Heap.lt_size e
  have hPs : s1.heap.get? P = some { cls := .none, data := .fields ps } := I1.hok P _ hP
  have hPlt : P < s1.heap.objs.size := Heap.lt_size hPs
  have hP2 : (s1.heap.push o).get? P = some { cls := .none, data := .fields ps } := Heap.get?_push_of_some _ hPs
  have cd : PySem.W.CodeHd (s1.heap.push o) c P := TB.code.keeps fun b u e => Heap.get?_push_of_some _ (I1.bk b u e)
  have lim2 : (s1.heap.push o).NoLimit := I1.nolimit.push o
  have sz2 : (s1.heap.push o).objs.size = s1.heap.objs.size + 1 := Heap.size_push ..
  have cont : ∀ (code : Value) (h3 : Heap) (tk : Nat) (ps' : Array Value), Heap.ExtBut P (s1.heap.push o) h3 → (s1.heap.push o).objs.size ≤ h3.objs.size → h3.get? P = some { cls := .none, data := .fields ps' } → (∃ more, ps' = ps ++ more) → TriplesOk ps'.toList →
      wpAny (model X.prog X.w) X.A (builtinsFor X.env.globals X.env.builtins) (fun bi s₄ =>
        ∃ Ia fp wr n₀ Pt St₀ Mid pz F, Value.ref s1.heap.objs.size = .ref Ia ∧ (∀ A' : Around, A'.handled = none → WalksU X.prog X.w A' Ia fp wr n₀ Pt St₀ Mid) ∧ (∀ i vals, Pt i vals → ∃ va vb, vals = #[va, vb]) ∧ St₀ 0 s₄.heap ∧ (∀ b ∈ fp, b < s₄.heap.objs.size) ∧ s₄.heap.NoLimit ∧ cStatics ∉ wr ∧
          (∀ href : Heap, (∀ b o, s₄.heap.get? b = some o → href.get? b = some o) →
            QuietGenT X.prog X.w (genEnv scope (cloFrom X.env.cells scope.names []) s₄.heap.objs.size code bi X.env) xa xb [] elt (List.range s₄.heap.objs.size) wr Pt pz F href) ∧
          (∀ a h₅ tk gs, gs.bare = true → s₄.heap.objs.size < a → h₅.objs.size = a + 1 → (∀ b o, s₄.heap.get? b = some o → h₅.get? b = some o) →
            WalksS X.prog X.w X.A.in4 a (a :: s₄.heap.objs.size :: List.range s₄.heap.objs.size) (s₄.heap.objs.size :: wr) (GenOnlyQ s₄.gens.size) (passing pz n₀ 0).length
              (fun j y => ∃ i, (passing pz n₀ 0)[j]? = some i ∧ F i y) (GenAt X.prog X.w X.A.in4 a s₄.gens.size s₄.heap.objs.size (List.range s₄.heap.objs.size) wr pz n₀ F) →
            GenAt X.prog X.w X.A.in4 a s₄.gens.size s₄.heap.objs.size (List.range s₄.heap.objs.size) wr pz n₀ F 0 { s₄ with gens := s₄.gens.push gs, toks := tk, heap := h₅ } →
            Q' (.ref a) { s₄ with gens := s₄.gens.push gs, toks := tk, heap := h₅ })) X.xe { s1 with heap := h3, toks := tk } := by
    intro code h3 tk ps' hx hsz hP3 hmore ht3
    obtain ⟨bm, ob, e1, e2, e3, e4, e5, e6, e7, e8⟩ := TB.bm
    have hcP : cStatics ≠ P := fun e => by
      obtain ⟨_, hns, _⟩ := I1.nolimit
      obtain ⟨o', es, ep, ho', hd', _⟩ := hns
      rw [e, hPs] at ho'
      cases ho'
      cases hd'
    have hcl : cStatics < s1.heap.objs.size := let ⟨_, hns, _⟩ := I1.nolimit; hns.lt
    have keep3 : ∀ b u, b ≠ P → s1.heap.get? b = some u → h3.get? b = some u := fun b u hb e => hx b u hb (Heap.get?_push_of_some _ e)
    have nP : ∀ {b : Addr} {vs : Array Value} {nn : Nat} {ob : Obj}, s1.heap.get? b = some ob → ob.data = .seq vs nn → b ≠ P := fun {b vs nn ob} e1 e2 z => by
      rw [z, hPs] at e1
      cases e1
      cases e2
    refine wpAny_builtinsFor (m := X.mg) (by rw [I1.ok.glob]; exact ((I1.mod.glob.keeps I1.bk).push o).extBut hx TB.gP) e1 e2 (keep3 _ _ e4 (I1.bk _ _ e5)) e6 e7 e8 ?_
    have hIL3 : h3.IsList yl its.toArray := by
      obtain ⟨ob, e, r1, nn, r2⟩ := _root_.id hIL
      exact ⟨ob, keep3 _ _ (nP e r2) e, r1, nn, r2⟩
    have hItr3 : h3.IsListIter s1.heap.objs.size yl 0 := hitr.at fun u e => hx _ u (Nat.ne_of_gt hPlt) e
    have hTup3 : ∀ n, n < its.toArray.size → h3.IsTuple (Ts n) (vals n) := fun n hn => by
      have hn' : n < bs.length := by
        rw [List.size_toArray] at hn
        omega
      obtain ⟨ob, e, r1, nn, r2⟩ := (hV n _ (List.getElem?_eq_getElem hn')).1
      exact ⟨ob, keep3 _ _ (nP e r2) e, r1, nn, r2⟩
    have hTlt : ∀ n, n < its.toArray.size → Ts n < s1.heap.objs.size := fun n hn => by
      have hn' : n < bs.length := by
        rw [List.size_toArray] at hn
        omega
      obtain ⟨ob, e, _⟩ := (hV n _ (List.getElem?_eq_getElem hn')).1
      exact Heap.lt_size e
    have cellP : ∀ {b : Addr} {u : Option Value}, s1.heap.IsCell b u → b ≠ P := fun {b u} hc z => by
      obtain ⟨ob, e, d⟩ := hc
      rw [z, hPs] at e
      cases e
      cases d
    refine ⟨s1.heap.objs.size, _, [s1.heap.objs.size], its.toArray.size, _, _, _, (fun _ => true), (fun n y => ∃ b, bs[n]? = some b ∧ y = .bool (pb b.1 b.2)), rfl,
      (fun A' hA => (WalksU.listOfTuples hA s1.heap.objs.size yl (Nat.ne_of_lt hylt) its.toArray Ts vals hat (fun n hn => Nat.ne_of_lt (hTlt n hn))).bound), (fun n vs ⟨hn, e⟩ => ?_), ⟨hItr3, hIL3, hTup3⟩, ?_, lim2.extBut hx hcP, ?_, ?_, ?_⟩
    · have hn' : n < bs.length := by
        rw [List.size_toArray] at hn
        omega
      obtain ⟨_, t, u, e'⟩ := hV n _ (List.getElem?_eq_getElem hn')
      exact ⟨_, _, e.trans e'⟩
    · intro b hb
      have e9 : s1.heap.objs.size + 1 ≤ h3.objs.size := by omega
      rcases List.mem_cons.mp hb with z | z
      · rw [z]
        exact e9
      · rcases List.mem_cons.mp z with z | z
        · rw [z]
          exact Nat.lt_of_lt_of_le hylt (Nat.le_of_lt e9)
        · obtain ⟨n, hn, rfl⟩ := List.mem_map.mp z
          exact Nat.lt_of_lt_of_le (hTlt n (List.mem_range.mp hn)) (Nat.le_of_lt e9)
    · intro z
      rcases List.mem_cons.mp z with z | z
      · exact Nat.ne_of_lt hcl z
      · cases z
    · intro href hhref
      refine ⟨fun A' E' n va vb s₂ m₂ hA hPv hn hma hmb hk => ?_, fun A' E' n va vb s₂ m₂ hA hPv hp hn hma hmb hk => ?_⟩
      · simp only [List.forIn_nil]
        exact wpAny_pure ⟨rfl, GxR.keeps_refl _⟩
      · obtain ⟨hn1, e⟩ := hPv
        have hn' : n < bs.length := by
          rw [List.size_toArray] at hn1
          omega
        obtain ⟨_, t, u, e'⟩ := hV n _ (List.getElem?_eq_getElem hn')
        rw [e'] at e
        have ea : va = .int (bs[n]).1 t ∧ vb = .int (bs[n]).2 u := by
          have z := congrArg Array.toList e
          simp at z
          exact z
        have keepC : ∀ b u, b ≠ P → s1.heap.get? b = some u → s₂.heap.get? b = some u := fun b u hb eb => by
          refine hk b (List.mem_range.mpr ?_) ?_ u (hhref b u (keep3 b u hb eb))
          · show b < h3.objs.size
            exact Nat.lt_of_lt_of_le (Heap.lt_size eb) (Nat.le_trans (Nat.le_succ _) (show s1.heap.objs.size + 1 ≤ h3.objs.size by omega))
          · intro z
            rcases List.mem_cons.mp z with z | z
            · exact Nat.lt_irrefl _ (z ▸ Heap.lt_size eb)
            · cases z
        have keepCell : ∀ {b u}, s1.heap.IsCell b u → s₂.heap.IsCell b u := fun {b u} hc => by
          have nb := cellP hc
          obtain ⟨ob, eb, d⟩ := hc
          exact ⟨ob, keepC b ob nb eb, d⟩
        refine wpAny_mono (hel _ A' E' _ _ t u tA tB aA aB s₂ m₂ rfl hn (by rw [hma, ea.1]) (by rw [hmb, ea.2]) loA (keepCell cA) loB (keepCell cB)) (fun y s3 r => ?_) fun _ _ e => e
        exact ⟨⟨_, List.getElem?_eq_getElem hn', r.1⟩, r.2⟩
    · intro g h5 tk5 gs hgb hag hsz5 hk5 W5 hgat
      simp only [GxR.passing_true, List.length_range] at W5
      have hn5 : its.toArray.size = bs.length := by rw [List.size_toArray, hlen]
      rw [hn5] at W5 hgat
      refine hQ bs H1 g _ q1 ⟨_, _, _, _, _, W5.in4_1, hgat, ?_, fun s' hm => ?_⟩
      · intro n y sj Qj Ej hy hQj
        obtain ⟨i', hij, b, hb, rfl⟩ := hy
        obtain ⟨hj, ej⟩ := List.getElem?_eq_some_iff.mp hij
        rw [List.getElem_range] at ej
        subst ej
        have hQ2 : Qj (trB pb bs n) sj := hQj
        unfold trB at hQ2
        rw [hb] at hQ2
        exact wpAny_truthy_bool hQ2
      · exact moved_inv (h5 := h5) I1 hm hP ht3 hmore rfl rfl (I1.bare.push hgb) rfl (by omega) (fun b u hb e => hk5 b u (keep3 b u hb e)) (hk5 P _ hP3) (AllBare.movedS (I1.bare.push hgb) hm)
  refine ⟨lim2, ?_⟩
  cases hf : codeAmong gpos ps.toList with
  | none =>
    refine wpAny_genexprCodeX hcode (cd.code hP2 ht) (cd.tab hP2) hf fun c' h' tk hx hge hlt hco' _ htab' _ => ?_
    obtain ⟨o1, vs, f1, tf, fl, tg, inF, tx, tt, op, _, _, _, _, _, _, _, _, _, htr, _⟩ := hco'
    exact cont _ h' tk _ hx (Nat.le_trans hge (Nat.le_of_lt hlt)) htab'.2 ⟨_, rfl⟩ htr
  | some cv =>
    refine wpAny_genexprCode_hit hcode (cd.code hP2 ht) hf ?_
    exact cont cv (s1.heap.push o) s1.toks ps (Heap.ExtBut.refl _ _) (Nat.le_refl _) hP2 ⟨#[], by simp⟩ ht

/-- an element over an int -/
def EltI (prog : Program) (w : World) (scope : Scope) (x : Str) (elt : Expr) (pb : Int → Bool) : Prop :=
  ∀ (cenv : Env) (A' : Around) (E' : Value → Shared → Prop) (p : Int) (t : Tok) (s₂ : Shared) (m₂ : Str → Option Value), cenv.scope = scope → s₂.heap.Ns cenv.locals m₂ → m₂ x = some (.int p t) →
    wpAny (model prog w) A' (eval elt cenv) (fun y s₃ => y = .bool (pb p) ∧ Keeps s₂ s₃) E' s₂
def trI (pb : Int → Bool) (ns : List Int) (j : Nat) : Bool := match ns[j]? with
  | some b => pb b
  | none => false
theorem trI_any (pb : Int → Bool) (ns : List Int) : (List.range ns.length).any (trI pb ns) = ns.any pb := by
  rw [Bool.eq_iff_iff, List.any_eq_true, List.any_eq_true]
  constructor
  · intro ⟨j, hj, h⟩
    have hj' := List.mem_range.mp hj
    unfold trI at h
    rw [List.getElem?_eq_getElem hj'] at h
    exact ⟨ns[j], List.getElem_mem hj', h⟩
  · intro ⟨b, hb, h⟩
    obtain ⟨j, hj, e⟩ := List.getElem_of_mem hb
    refine ⟨j, List.mem_range.mpr hj, ?_⟩
    unfold trI
    rw [List.getElem?_eq_getElem hj, e]
    exact h
theorem gen_nums {c P : Addr} {elt iter : Expr} {x : Str} {px gpos : Pos} {scope : Scope} {pb : Int → Bool} {te : TE} {k : Nat} {Q' : Value → Shared → Prop} {R : List Int → Hp → Prop}
    (hr : Room k X.A) (TB : GxR.TabB X.base X.mg c P) (hcode : X.env.code = .ref c) (S : GxR.GenS X.env scope x) (hi : PE X iter te) (hel : EltI X.prog X.w scope x elt pb)
    (hs : ∀ v, genFold iter X.env v = pure v) (I : Inv X pins σ H s) (h : te σ H fun v H1 => ∃ (yl : Addr) (ns : List Int), v = .ref yl ∧ SqL X.K H1 yl (ns.map V.int) ∧ GxR.TabG H1 P ∧ R ns H1)
    (hQ : ∀ ns H1 g s5, R ns H1 → RdyG X pins σ H1 P ns.length (trI pb ns) g s5 → Q' (.ref g) s5) :
    wpAny (model X.prog X.w) X.A (eval (.GeneratorExp elt [⟨.Name x px, iter, [], 0⟩] scope gpos) X.env) Q' X.xe s := by
  refine wpAny_GeneratorExp_walksQ hr.hd S.co (closure_ok S.free) S.cell S.dot S.loc S.kind (by have := hr.dp; omega) ?_ hs
  refine thn (hi.run pins s σ H _ I h) fun xv s1 ⟨v, H1, I1, r1, q1⟩ => ?_
  obtain ⟨yl, ns, rfl, hyl, ⟨ps, hP, ht⟩, q1⟩ := q1
  obtain rfl : xv = Value.ref yl := r1
  obtain ⟨its, rv, hl, hz⟩ := I1.list hyl
  have hIL := hl.isList
  have hlen : its.length = ns.length := by rw [← rv.length, List.length_map]
  have hat : ∀ (n : Nat) (v : Value), its.toArray[n]? = some v → ∃ (a : Int) (u : Tok), ns[n]? = some a ∧ v = .int a u := fun n v hv => by
    have hv2 : its[n]? = some v := by simpa using hv
    have hi2 : n < its.length := (List.getElem?_eq_some_iff.mp hv2).1
    have hn2 : n < ns.length := by omega
    have hb : (ns.map V.int)[n]? = some (V.int ns[n]) := by
      rw [List.getElem?_map, List.getElem?_eq_getElem hn2]
      all_goals rfl
    obtain ⟨u, hu, t, ru⟩ := rv.get hb
    rw [hv2] at hu
    cases hu
    exact ⟨ns[n], t, List.getElem?_eq_getElem hn2, ru⟩
  refine wpAny_pyIter_list hIL ?_
  generalize ho : ({ cls := .type "list_iterator", data := .fields #[.ref yl, .int 0 0] } : Obj) = o
  have hitr : (s1.heap.push o).IsListIter s1.heap.objs.size yl 0 := by
    subst ho
    exact ⟨_, Heap.get?_push_size _ rfl, rfl, rfl⟩
  have hylt : yl < s1.heap.objs.size := by
    obtain ⟨_, e, _⟩ := _root_.id hIL
    exact Heap.lt_size e
  have hPs : s1.heap.get? P = some { cls := .none, data := .fields ps } := I1.hok P _ hP
  have hPlt : P < s1.heap.objs.size := Heap.lt_size hPs
  have hP2 : (s1.heap.push o).get? P = some { cls := .none, data := .fields ps } := Heap.get?_push_of_some _ hPs
  have cd : PySem.W.CodeHd (s1.heap.push o) c P := TB.code.keeps fun b u e => Heap.get?_push_of_some _ (I1.bk b u e)
  have lim2 : (s1.heap.push o).NoLimit := I1.nolimit.push o
  have sz2 : (s1.heap.push o).objs.size = s1.heap.objs.size + 1 := Heap.size_push ..
  have cont : ∀ (code : Value) (h3 : Heap) (tk : Nat) (ps' : Array Value), Heap.ExtBut P (s1.heap.push o) h3 → (s1.heap.push o).objs.size ≤ h3.objs.size → h3.get? P = some { cls := .none, data := .fields ps' } → (∃ more, ps' = ps ++ more) → TriplesOk ps'.toList →
      wpAny (model X.prog X.w) X.A (builtinsFor X.env.globals X.env.builtins) (fun bi s₄ =>
        ∃ Ia fp wr n₀ Pf St₀ pz F, Value.ref s1.heap.objs.size = .ref Ia ∧ (∀ A' : Around, A'.handled = none → Walks X.prog X.w A' Ia fp wr n₀ Pf St₀) ∧ St₀ 0 s₄.heap ∧ (∀ b ∈ fp, b < s₄.heap.objs.size) ∧ s₄.heap.NoLimit ∧ cStatics ∉ wr ∧
          (∀ href : Heap, (∀ b o, s₄.heap.get? b = some o → href.get? b = some o) →
            QuietGen X.prog X.w (genEnv scope (cloFrom X.env.cells scope.names []) s₄.heap.objs.size code bi X.env) x [] elt (List.range s₄.heap.objs.size) wr Pf pz F href) ∧
          (∀ a h₅ tk gs, gs.bare = true → s₄.heap.objs.size < a → h₅.objs.size = a + 1 → (∀ b o, s₄.heap.get? b = some o → h₅.get? b = some o) →
            WalksS X.prog X.w X.A.in4 a (a :: s₄.heap.objs.size :: List.range s₄.heap.objs.size) (s₄.heap.objs.size :: wr) (GenOnlyQ s₄.gens.size) (passing pz n₀ 0).length
              (fun j y => ∃ i, (passing pz n₀ 0)[j]? = some i ∧ F i y) (GenAt X.prog X.w X.A.in4 a s₄.gens.size s₄.heap.objs.size (List.range s₄.heap.objs.size) wr pz n₀ F) →
            GenAt X.prog X.w X.A.in4 a s₄.gens.size s₄.heap.objs.size (List.range s₄.heap.objs.size) wr pz n₀ F 0 { s₄ with gens := s₄.gens.push gs, toks := tk, heap := h₅ } →
            Q' (.ref a) { s₄ with gens := s₄.gens.push gs, toks := tk, heap := h₅ })) X.xe { s1 with heap := h3, toks := tk } := by
    intro code h3 tk ps' hx hsz hP3 hmore ht3
    obtain ⟨bm, ob, e1, e2, e3, e4, e5, e6, e7, e8⟩ := TB.bm
    have hcP : cStatics ≠ P := fun e => by
      obtain ⟨_, hns, _⟩ := I1.nolimit
      obtain ⟨o', es, ep, ho', hd', _⟩ := hns
      rw [e, hPs] at ho'
      cases ho'
      cases hd'
    have hcl : cStatics < s1.heap.objs.size := let ⟨_, hns, _⟩ := I1.nolimit; hns.lt
    have keep3 : ∀ b u, b ≠ P → s1.heap.get? b = some u → h3.get? b = some u := fun b u hb e => hx b u hb (Heap.get?_push_of_some _ e)
    have nP : ∀ {b : Addr} {vs : Array Value} {nn : Nat} {ob : Obj}, s1.heap.get? b = some ob → ob.data = .seq vs nn → b ≠ P := fun {b vs nn ob} e1 e2 z => by
      rw [z, hPs] at e1
      cases e1
      cases e2
    refine wpAny_builtinsFor (m := X.mg) (by rw [I1.ok.glob]; exact ((I1.mod.glob.keeps I1.bk).push o).extBut hx TB.gP) e1 e2 (keep3 _ _ e4 (I1.bk _ _ e5)) e6 e7 e8 ?_
    have hIL3 : h3.IsList yl its.toArray := by
      obtain ⟨ob, e, r1, nn, r2⟩ := _root_.id hIL
      exact ⟨ob, keep3 _ _ (nP e r2) e, r1, nn, r2⟩
    have hItr3 : h3.IsListIter s1.heap.objs.size yl 0 := hitr.at fun u e => hx _ u (Nat.ne_of_gt hPlt) e
    refine ⟨s1.heap.objs.size, [s1.heap.objs.size, yl], [s1.heap.objs.size], its.toArray.size, (fun i v => its.toArray[i]? = some v), (fun i h => h.IsListIter s1.heap.objs.size yl i ∧ h.IsList yl its.toArray), (fun _ => true),
      (fun n y => ∃ b, ns[n]? = some b ∧ y = .bool (pb b)), rfl, (fun A' hA => Walks.list hA _ _ (Nat.ne_of_lt hylt) _), ⟨hItr3, hIL3⟩, ?_, lim2.extBut hx hcP, ?_, ?_, ?_⟩
    · intro b hb
      have e9 : s1.heap.objs.size + 1 ≤ h3.objs.size := by omega
      rcases List.mem_cons.mp hb with z | z
      · rw [z]
        exact e9
      · rcases List.mem_cons.mp z with z | z
        · rw [z]
          exact Nat.lt_of_lt_of_le hylt (Nat.le_of_lt e9)
        · cases z
    · intro z
      rcases List.mem_cons.mp z with z | z
      · exact Nat.ne_of_lt hcl z
      · cases z
    · intro href hhref
      refine ⟨fun A' E' n v s₂ m₂ hA hPv hn hm hk => ?_, fun A' E' n v s₂ m₂ hA hPv hp hn hm hk => ?_⟩
      · simp only [List.forIn_nil]
        exact wpAny_pure ⟨rfl, GxR.keeps_refl _⟩
      · obtain ⟨a, u, ha, rfl⟩ := hat n v hPv
        exact wpAny_mono (hel _ A' E' a u s₂ m₂ rfl hn hm) (fun y s3 r => ⟨⟨a, ha, r.1⟩, r.2⟩) fun _ _ e => e
    · intro g h5 tk5 gs hgb hag hsz5 hk5 W5 hgat
      simp only [GxR.passing_true, List.length_range] at W5
      have hn5 : its.toArray.size = ns.length := by rw [List.size_toArray, hlen]
      rw [hn5] at W5 hgat
      refine hQ ns H1 g _ q1 ⟨_, _, _, _, _, W5.in4_1, hgat, ?_, fun s' hm => ?_⟩
      · intro n y sj Qj Ej hy hQj
        obtain ⟨i', hij, b, hb, rfl⟩ := hy
        obtain ⟨hj, ej⟩ := List.getElem?_eq_some_iff.mp hij
        rw [List.getElem_range] at ej
        subst ej
        have hQ2 : Qj (trI pb ns n) sj := hQj
        unfold trI at hQ2
        rw [hb] at hQ2
        exact wpAny_truthy_bool hQ2
      · exact moved_inv (h5 := h5) I1 hm hP ht3 hmore rfl rfl (I1.bare.push hgb) rfl (by omega) (fun b u hb e => hk5 b u (keep3 b u hb e)) (hk5 P _ hP3) (AllBare.movedS (I1.bare.push hgb) hm)
  refine ⟨lim2, ?_⟩
  cases hf : codeAmong gpos ps.toList with
  | none =>
    refine wpAny_genexprCodeX hcode (cd.code hP2 ht) (cd.tab hP2) hf fun c' h' tk hx hge hlt hco' _ htab' _ => ?_
    obtain ⟨o1, vs, f1, tf, fl, tg, inF, tx, tt, op, _, _, _, _, _, _, _, _, _, htr, _⟩ := hco'
    exact cont _ h' tk _ hx (Nat.le_trans hge (Nat.le_of_lt hlt)) htab'.2 ⟨_, rfl⟩ htr
  | some cv =>
    refine wpAny_genexprCode_hit hcode (cd.code hP2 ht) hf ?_
    exact cont cv (s1.heap.push o) s1.toks ps (Heap.ExtBut.refl _ _) (Nat.le_refl _) hP2 ⟨#[], by simp⟩ ht

/-- any(test for x in e), e a list of ints -/
def tAnyN (K : PySem.W.Frag) (P : Addr) (pb : Int → Bool) (te : TE) : TE := fun σ H Q => te σ H fun v H1 => ∃ (yl : Addr) (ns : List Int), v = .ref yl ∧ SqL K H1 yl (ns.map V.int) ∧ GxR.TabG H1 P ∧ ∀ H2, GxR.Tabbed P H1 H2 → Q (.bl (ns.any pb)) H2
theorem pe_anyN {c P : Addr} {elt iter : Expr} {x : Str} {px p pos gpos : Pos} {scope : Scope} {pb : Int → Bool} {te : TE} {k : Nat}
    (hr : Room k X.A) (hg : Gl X "any") (hm : X.mg "any" = none) (TB : GxR.TabB X.base X.mg c P) (hcode : X.env.code = .ref c) (S : GxR.GenS X.env scope x) (hi : PE X iter te) (hel : EltI X.prog X.w scope x elt pb)
    (hs : ∀ v, genFold iter X.env v = pure v)
    (he : starEach [.GeneratorExp elt [⟨.Name x px, iter, [], 0⟩] scope gpos] X.env = (false, eval (.GeneratorExp elt [⟨.Name x px, iter, [], 0⟩] scope gpos) X.env) :: starEach [] X.env := by rfl) :
    PE X (.Call (.Name "any" p) [.GeneratorExp elt [⟨.Name x px, iter, [], 0⟩] scope gpos] [] pos) (tAnyN X.K P pb te) := by
  refine ⟨fun pins s σ H Q I h => ?_⟩
  refine wpAny_Call_Name_kw (ld_blt I hg hm boot_any ?_)
  refine PyProof.Rows.callWith_builtin1 ?_ he (by rfl)
  rw [he]
  show wpAny _ _ (spliced ((false, eval (.GeneratorExp elt [⟨.Name x px, iter, [], 0⟩] scope gpos) X.env) :: backTo pos (starEach [] X.env))) _ _ s
  refine Calls.spliced_cons (gen_nums (R := fun ns H1 => ∀ H2, GxR.Tabbed P H1 H2 → Q (.bl (ns.any pb)) H2) hr TB hcode S hi hel hs I h fun ns H1 g s5 hR hG => ?_)
  obtain ⟨fp, wr, G, F, St, W, hst, htr, hI⟩ := hG
  refine Calls.spliced_nil ?_
  refine call_any_walkS (W.self 0 _ _ _ hst ⟨g, fp, wr, G, _, F, St, _, rfl, W, hst, htr, fun s' hmv => ?_⟩)
  obtain ⟨H2, hT, J⟩ := hI s' hmv
  refine ⟨.bl _, H2, J, rfl, ?_⟩
  rw [trI_any]
  exact hR H2 hT
/-- all(test for x, y in e), e a list of pairs of ints, two ints of the def captured (in the slots n, m) -/
def tAllP (K : PySem.W.Frag) (P : Addr) (n m : Nat) (pb : Int → Int → Int → Int → Bool) (te : TE) : TE := fun σ H Q => ∃ i j : Int, σ[n]? = some (some (V.int i)) ∧ σ[m]? = some (some (V.int j)) ∧
  te σ H fun v H1 => ∃ (yl : Addr) (us : List V) (bs : List (Int × Int)), v = .ref yl ∧ SqL K H1 yl us ∧ Prs H1 us bs ∧ GxR.TabG H1 P ∧ ∀ H2, GxR.Tabbed P H1 H2 → Q (.bl (bs.all fun b => pb i j b.1 b.2)) H2
theorem pe_allP {c P : Addr} {elt iter : Expr} {xa xb ya yb : Str} {pa pb' pt p pos gpos : Pos} {kt n m : Nat} {scope : Scope} {pb : Int → Int → Int → Int → Bool} {te : TE} {k : Nat}
    (hr : Room k X.A) (hg : Gl X "all") (hm : X.mg "all" = none) (hb : bootBuiltins "all" = some (.builtin "all")) (TB : GxR.TabB X.base X.mg c P) (hcode : X.env.code = .ref c) (S : ScpT X.env scope xa xb)
    (ha : X.N[n]? = some ya) (hc : X.N[m]? = some yb) (la : X.env.scope.names.lookup ya = some .cell) (lb : X.env.scope.names.lookup yb = some .cell) (ca : ∀ cells, (cloFrom cells scope.names []).lookup ya = some ((cells.lookup ya).getD 0)) (cb : ∀ cells, (cloFrom cells scope.names []).lookup yb = some ((cells.lookup yb).getD 0))
    (hi : PE X iter te) (hel : ∀ i j, EltB X.prog X.w scope xa xb ya yb elt i j (pb i j)) (hs : ∀ v, genFold iter X.env v = pure v)
    (he : starEach [.GeneratorExp elt [⟨.Tuple [.Name xa pa, .Name xb pb'] kt pt, iter, [], 0⟩] scope gpos] X.env = (false, eval (.GeneratorExp elt [⟨.Tuple [.Name xa pa, .Name xb pb'] kt pt, iter, [], 0⟩] scope gpos) X.env) :: starEach [] X.env := by rfl) :
    PE X (.Call (.Name "all" p) [.GeneratorExp elt [⟨.Tuple [.Name xa pa, .Name xb pb'] kt pt, iter, [], 0⟩] scope gpos] [] pos) (tAllP X.K P n m pb te) := by
  refine ⟨fun pins s σ H Q I h => ?_⟩
  obtain ⟨i, j, hn', hm', h⟩ := h
  refine wpAny_Call_Name_kw (ld_blt I hg hm hb ?_)
  refine PyProof.Rows.callWith_builtin1 ?_ he (by rfl)
  rw [he]
  show wpAny _ _ (spliced ((false, eval (.GeneratorExp elt [⟨.Tuple [.Name xa pa, .Name xb pb'] kt pt, iter, [], 0⟩] scope gpos) X.env) :: backTo pos (starEach [] X.env))) _ _ s
  refine Calls.spliced_cons (gen_prs (R := fun bs H1 => ∀ H2, GxR.Tabbed P H1 H2 → Q (.bl (bs.all fun b => pb i j b.1 b.2)) H2) hr TB hcode S ⟨⟨n, ha, hn'⟩, la, ca⟩ ⟨⟨m, hc, hm'⟩, lb, cb⟩ hi (hel i j) hs I h fun bs H1 g s5 hR hG => ?_)
  obtain ⟨fp, wr, G, F, St, W, hst, htr, hI⟩ := hG
  refine Calls.spliced_nil ?_
  refine call_all_walkS (W.self 0 _ _ _ hst ⟨g, fp, wr, G, _, F, St, _, rfl, W, hst, htr, fun s' hmv => ?_⟩)
  obtain ⟨H2, hT, J⟩ := hI s' hmv
  refine ⟨.bl _, H2, J, rfl, ?_⟩
  rw [trB_all]
  exact hR H2 hT
end
/-! ### a name in such a frame -/
section
variable {M : Model} {A : Around} {E : Value → Shared → Prop} {s : Shared} {cenv : Env} {x : Str} {v : Value} {p : Pos} {m : Str → Option Value} {Q : Value → Shared → Prop}
theorem ld_loc (hk : cenv.scope.kind = .function) (hl : cenv.scope.names.lookup x = some .local) (hn : s.heap.Ns cenv.locals m) (hm : m x = some v) (h : Q v s) (hd : (x == ("__debug__" : Str)) = false := by decide) : wpAny M A (eval (.Name x p) cenv) Q E s :=
  wpAny_Name (wpAny_loadName_local hk hl hn hm h) hd
theorem ld_free {c : Addr} (hk : cenv.scope.kind = .function) (hl : cenv.scope.names.lookup x = some .free) (hc : cenv.cells.lookup x = some c) (hv : s.heap.IsCell c (some v)) (h : Q v s) (hd : (x == ("__debug__" : Str)) = false := by decide) (hcd : (x == ("__classdict__" : Str)) = false := by decide) :
    wpAny M A (eval (.Name x p) cenv) Q E s := wpAny_Name (wpAny_loadName_free hk hl hc hv h hcd) hd
end
end Hg
end Z_HgG

section Z_D3
set_option maxHeartbeats 4000000
/-! fits, is_relocation: the two defs with a generator expression. -/
namespace Hg
open PySem PySem.Spec PyProof.Rows L2
/-! ### their elements and scopes -/
def genS : Stmt → Scope
  | .Return (some (.Call _ [.GeneratorExp _ _ sc _] _ _)) _ => sc
  | .If (.BoolOp _ [_, .Call _ [.GeneratorExp _ _ sc _] _ _] _) _ _ _ => sc
  | _ => { kind := .function, names := [], isGenerator := false, isCoroutine := false, more := [] }
def genE : Stmt → Expr
  | .Return (some (.Call _ [.GeneratorExp e _ _ _] _ _)) _ => e
  | .If (.BoolOp _ [_, .Call _ [.GeneratorExp e _ _ _] _ _] _) _ _ _ => e
  | _ => .Constant .none 0 ⟨0, 0, 0, 0⟩
abbrev gFits : Scope := genS ((defBody s_fits).getD 1 (.Pass ⟨0, 0, 0, 0⟩))
abbrev eFits : Expr := genE ((defBody s_fits).getD 1 (.Pass ⟨0, 0, 0, 0⟩))
abbrev gRel : Scope := genS ((defBody s_is_relocation).getD 0 (.Pass ⟨0, 0, 0, 0⟩))
abbrev eRel : Expr := genE ((defBody s_is_relocation).getD 0 (.Pass ⟨0, 0, 0, 0⟩))
section
variable {prog : Program} {w : World}
theorem names_fits : gFits.names = [((".0" : Str), NameKind.local), (("other" : Str), NameKind.local), (("wide" : Str), NameKind.local), (("length" : Str), NameKind.free), (("start" : Str), NameKind.free)] := by rfl
theorem names_rel : gRel.names = [((".0" : Str), NameKind.local), (("start" : Str), NameKind.local)] := by rfl
theorem c_int {M : Model} {A : Around} {E : Value → Shared → Prop} {s : Shared} {env : Env} {x : Int} {k : Nat} {pos : Pos} {Q : Value → Shared → Prop} (h : Q (.int x s.toks) { s with toks := s.toks + 1 }) : wpAny M A (eval (.Constant (.int x) k pos) env) Q E s := fun _ _ _ => h
theorem elt_fits (i j : Int) : EltB prog w gFits "other" "wide" "start" "length" eFits i j (fun a b => decide (i + j ≤ a) || decide (a + b ≤ i)) := by
  intro cenv A' E' p q t u t' u' ca cb s₂ m₂ hs hn h1 h2 hc1 hv1 hc2 hv2
  have hk : cenv.scope.kind = .function := by rw [hs]; rfl
  have l1 : cenv.scope.names.lookup ("other" : Str) = some .local := by rw [hs, names_fits]; rfl
  have l2 : cenv.scope.names.lookup ("wide" : Str) = some .local := by rw [hs, names_fits]; rfl
  have l3 : cenv.scope.names.lookup ("start" : Str) = some .free := by rw [hs, names_fits]; rfl
  have l4 : cenv.scope.names.lookup ("length" : Str) = some .free := by rw [hs, names_fits]; rfl
  show wpAny _ _ (eval (.BoolOp .Or [.Compare (.BinOp (.Name "start" _) .Add (.Name "length" _) _) [.LtE] [.Name "other" _] _, .Compare (.BinOp (.Name "other" _) .Add (.Name "wide" _) _) [.LtE] [.Name "start" _] _] _) cenv) _ _ _
  refine BoolOp_or (wpAny_Compare1 (wpAny_BinOp (ld_free hk l3 hc1 hv1 (ld_free hk l4 hc2 hv2 (PySem.P.add_int (ld_loc hk l1 ?_ h1 (PySem.P.le_int ?_)))))))
  · exact hn
  refine wpAny_truthy_bool ?_
  cases hb : decide (i + j ≤ p) with
  | true =>
    refine iteT ⟨?_, GxR.keeps_tok _ _⟩
    show Value.bool true = Value.bool (decide (i + j ≤ p) || decide (p + q ≤ i))
    rw [hb]
    rfl
  | false =>
    refine iteF (BoolOp_one (wpAny_Compare1 (wpAny_BinOp (ld_loc hk l1 (m := m₂) ?_ h1 (ld_loc hk l2 (m := m₂) ?_ h2 (PySem.P.add_int (ld_free hk l3 hc1 hv1 (PySem.P.le_int ⟨?_, GxR.keeps_tok _ _⟩))))))))
    · exact hn
    · exact hn
    · show Value.bool (decide (p + q ≤ i)) = Value.bool (decide (i + j ≤ p) || decide (p + q ≤ i))
      rw [hb]
      rfl
theorem elt_rel : EltI prog w gRel "start" eRel (fun a => decide (a < 0)) := by
  intro cenv A' E' p t s₂ m₂ hs hn h1
  have hk : cenv.scope.kind = .function := by rw [hs]; rfl
  have l1 : cenv.scope.names.lookup ("start" : Str) = some .local := by rw [hs, names_rel]; rfl
  show wpAny _ _ (eval (.Compare (.Name "start" _) [.Lt] [.Constant (.int 0) _ _] _) cenv) _ _ _
  exact wpAny_Compare1 (ld_loc hk l1 hn h1 (c_int (PySem.P.lt_int ⟨rfl, GxR.keeps_tok _ _⟩)))
end
/-! ### the rules in this layer -/
section
variable {Z : List Addr} {σ : L2.St} {S S' H H' : Hp} {te : TE} {K : PySem.W.Frag} {P : Addr}
theorem stp_tab (k : Ok Z S H) (hP : P ∈ Z) (t : GxR.Tabbed P H H') : Stp Z S H S H' where
  ok0 := k
  ok := ⟨fun b u e => by
    have ne : b ≠ P := fun z => by
      rw [z, k.out P hP] at e
      cases e
    rw [t.2 b ne]
    exact k.le b u e, k.out, fun P' hP' => by
    by_cases e : P' = P
    · rw [e]
      exact t.1
    · obtain ⟨ps, h, r⟩ := k.tab P' hP'
      exact ⟨ps, by rw [t.2 P' e]; exact h, r⟩⟩
  ss := Same.refl _
  old := fun b u hb e => by rw [t.2 b (fun z => hb (z ▸ hP))]; exact e
  new := fun b u e n => n
theorem prs_of {us : List V} {L : Mir.Lay} (h : Pr jB2 S us L) (e : Same S H) : Prs H us L := by
  induction h with
  | nil => exact .nil
  | cons h t ih =>
    obtain ⟨a, x, y, h1, h2, h3, h4⟩ := h
    have h3 : x = .int _ := h3
    have h4 : y = .int _ := h4
    subst h3 h4
    exact .cons ⟨a, h1, e _ _ h2⟩ ih
/-- an if without an else -/
theorem s_ifN {tt : TT} {t1 t2 : TS} {D : Ends} {b : Bool} (h : EvT Z tt σ S b) (k : Ok Z S H) (h1 : b = true → ∀ S' H', Stp Z S H S' H' → t1 { D with nx := t2 D } σ H') (h2 : b = false → ∀ S' H', Stp Z S H S' H' → t2 D σ H') : tSeq (tIfS tt t1 tNext) t2 D σ H :=
  s_seq (s_if h k h1 h2)
theorem ev_allP {n m : Nat} {pb : Int → Int → Int → Int → Bool} {i j : Int} {L : Mir.Lay} (hP : P ∈ Z) (h1 : σ[n]? = some (some (V.int i))) (h2 : σ[m]? = some (some (V.int j))) (h : EvR Z te σ S jLay L) :
    EvR Z (tAllP K P n m pb te) σ S jB (L.all fun b => pb i j b.1 b.2) := fun S1 H s k Q q => ⟨i, j, h1, h2, h S1 H s k _ fun S2 H2 v t ⟨a, us, e, hs, p⟩ =>
      ⟨a, us, L, e, SqL.of (t.ok.le _ _ hs), prs_of p t.ok.le, t.ok.tab P hP, fun H3 hT => q S2 H3 _ (t.trans (stp_tab t.ok hP hT)) rfl⟩⟩
theorem ev_anyN {pb : Int → Bool} {L : List Int} (hP : P ∈ Z) (h : EvR Z te σ S (jL jI) L) : EvR Z (tAnyN K P pb te) σ S jB (L.any pb) := fun S1 H s k Q q => h S1 H s k _ fun S2 H2 v t ⟨a, us, e, hs, p⟩ =>
      ⟨a, L, e, SqL.of (by rw [← p.ints]; exact t.ok.le _ _ hs), t.ok.tab P hP, fun H3 hT => q S2 H3 _ (t.trans (stp_tab t.ok hP hT)) rfl⟩
end
def spFits (Z : List Addr) : Sp := Fn Z (aC jI (aC jLay (aC jI (aC jI aN)))) (fun _ => True) jB fun p => Mir.fits p.1 p.2.1 p.2.2.1 p.2.2.2.1
def spIsReloc (Z : List Addr) : Sp := Fn Z (aC jI (aC jLay (aC jSt aN))) (fun p => p.2.1.length ≤ 100 ∧ p.2.2.1.length ≤ 100) jB fun p => Mir.isReloc p.1 p.2.1 p.2.2.1
section
variable {Pg : Program} {w : World} {K : PySem.W.Frag} {mg : Str → Option Value} {base : Heap} {Z : List Addr} {f Pt : Addr} {fd : FuncData}
theorem fn_len4 {α β γ δ ε : Type} {R : Rp α} {R' : Rp β} {R'' : Rp γ} {R3 : Rp δ} {R4 : Rp ε} {pre : α × β × γ × δ × Unit → Prop} {g : α × β × γ × δ × Unit → ε} : ∀ vs H Q E, Fn Z (aC R (aC R' (aC R'' (aC R3 aN)))) pre R4 g vs H Q E → vs.length = 4 := fun vs H Q E ⟨S, x, k, ⟨v, r, e, h, v', r', e1, h', v'', r'', e2, h'', v3, r3, e3, h3, e'⟩, p, q⟩ => by
  have e' : r3 = [] := e'
  rw [e, e1, e2, e3, e']
  rfl
/-- the rule for a def with its code named -/
theorem okC {x q : Str} {st : Stmt} {N ps : List Str} {k : Nat} {sp : Sp} (F : FnP K x q st f fd) (S : FnScope N ps (defScope st)) (len : ∀ vs H Q E, sp vs H Q E → vs.length = ps.length)
    (hbody : ∀ (cdv : Value) (A : Around) (outer : List Env) (s : Shared) (H : Hp) (vs : List V) (Q : VK) (E : XK), fd.code = cdv → PySem.W.codeIn K cdv q = true → Room k (A.deeper (envOfC q (defScope st) s.heap.objs.size f cdv)) → sp vs H Q E →
      ∃ t, PSs (cxOf CX0 Pg w K mg base N q (defScope st) f cdv A outer s H E) (defBody st) t ∧ t { nx := fun _ H' => Q .non H', rt := Q } (L2.start N vs) H) : FnOk Pg w K mg base CX0 (k + 1) f fd ps sp := by
  obtain ⟨oc, od, dV, kV, doc, pm, an, cdv, ct, osl, rfl, lk, hcd, _, _⟩ := F.ex
  exact fn_of lk hcd S len fun A outer s H vs Q E hr hsp => hbody cdv A outer s H vs Q E rfl hcd hr hsp
theorem code_ref {K : PySem.W.Frag} {cdv : Value} {q : Str} (h : PySem.W.codeIn K cdv q = true) : ∃ c, cdv = .ref c := by
  unfold PySem.W.codeIn at h
  split at h
  · exact ⟨_, rfl⟩
  · cases h
theorem cells_some {n : Nat} {names : List (Str × NameKind)} {y : Str} (h : names.lookup y = some .cell) : ∃ c, (cellsFrom n names []).lookup y = some c :=
  Option.isSome_iff_exists.mp (PySem.W.cellsFrom_some _ _ _ (.inl h))
abbrev N_fits : List Str := ["size", "layout", "start", "length"]
theorem sc_fits : FnScope N_fits ["size", "layout", "start", "length"] (defScope s_fits) := ⟨rfl, rfl, rfl, by decide +kernel, rfl, by decide +kernel, by decide +kernel⟩
theorem ok_fits (F : FnP K "fits" "fits" s_fits f fd) (T : Txt K mg) (hT : ∀ c, fd.code = .ref c → GxR.TabB base mg c Pt) (hZ : Pt ∈ Z) : FnOk Pg w K mg base CX0 1 f fd ["size", "layout", "start", "length"] (spFits Z) := by
  refine okC F sc_fits fn_len4 (fun cdv A outer s H vs Q E hcv hcd hr h => ?_)
  obtain ⟨c, rfl⟩ := code_ref hcd
  have TB := hT c hcv
  refine ⟨_, PSs.nox (pss_cons (ps_if (PW.pt (pw_or (pt_cmpR op_lt (pv 2) pe_int (nomark _)) (pw_or1 (pt_cmpR op_gt (pe_op op_add (pv 2) (pv 3)) (pv 0) (nomark _))))) (pss_one (ps_ret pe_bl)) pss_nil)
      (pss_one (ps_ret (pe_allP (ya := "start") (yb := "length") (n := 2) (m := 3) (pb := fun i j a b => decide (i + j ≤ a) || decide (a + b ≤ i)) hr rfl T.f_all (by decide +kernel) TB rfl ⟨rfl, rfl, by decide +kernel, rfl, rfl, rfl, by decide +kernel, fun y hy e => ?_⟩ rfl rfl (by rfl) (by rfl) (fun cells => rfl) (fun cells => rfl) (pv 1) elt_fits (fun v => rfl))))), ?_⟩
  · have hy : y ∈ gFits.names := hy
    rw [names_fits] at hy
    refine cells_some ?_
    rcases List.mem_cons.mp hy with z | hy
    · rw [z] at e; cases e
    rcases List.mem_cons.mp hy with z | hy
    · rw [z] at e; cases e
    rcases List.mem_cons.mp hy with z | hy
    · rw [z] at e; cases e
    rcases List.mem_cons.mp hy with z | hy
    · rw [z]; rfl
    rcases List.mem_cons.mp hy with z | hy
    · rw [z]; rfl
    cases hy
  obtain ⟨S, ⟨n, L, i, j, u⟩, k, ⟨v, r, rfl, hn, v', r', rfl, hL, v'', r'', rfl, hi, v3, r3, rfl, hj, hr'⟩, p, q⟩ := h
  cases hr'
  have hi : v'' = .int i := hi
  have hj : v3 = .int j := hj
  subst hi hj
  refine s_ifN (et_or (et_test (ev_IB (ev_var (v := .int i) (x := i) rfl rfl) (ev_int (i := 0)))) fun _ => et_test (ev_IB (ev_II (ev_var (v := .int i) (x := i) rfl rfl) (ev_var (v := .int j) (x := j) rfl rfl)) (ev_var rfl hn))) k (fun hb S3 H3 t3 => ?_) fun hb S3 H3 t3 => ?_
  · refine s_ret (ev_bl (i := false)) t3.ok fun S4 H4 v4 t4 h4 => q S4 H4 v4 (t3.trans t4) ?_
    show jB S4 v4 (Mir.fits n L i j)
    unfold Mir.fits
    rw [if_pos hb]
    exact h4
  · refine s_ret (ev_allP hZ rfl rfl (ev_var rfl (Up.up t3.ss hL))) t3.ok fun S4 H4 v4 t4 h4 => q S4 H4 v4 (t3.trans t4) ?_
    show jB S4 v4 (Mir.fits n L i j)
    unfold Mir.fits
    rw [if_neg (by rw [hb]; exact Bool.false_ne_true)]
    exact h4
abbrev N_is_relocation : List Str := ["size", "layout", "starts"]
theorem sc_is_relocation : FnScope N_is_relocation ["size", "layout", "starts"] (defScope s_is_relocation) := ⟨rfl, rfl, rfl, by decide +kernel, rfl, by decide +kernel, by decide +kernel⟩
theorem ok_is_relocation (F : FnP K "is_relocation" "is_relocation" s_is_relocation f fd) (T : Txt K mg) (hT : ∀ c, fd.code = .ref c → GxR.TabB base mg c Pt) (hZ : Pt ∈ Z) (c_is_layout : Cal Pg w K mg base 1 (He.ga K "is_layout") ["size", "layout"] (spIsLay Z))
    (c_relocated : Cal Pg w K mg base 2 (He.ga K "relocated") ["layout", "starts"] (spRelocated Z)) : FnOk Pg w K mg base CX0 3 f fd ["size", "layout", "starts"] (spIsReloc Z) := by
  refine okC F sc_is_relocation fn_len3 (fun cdv A outer s H vs Q E hcv hcd hr h => ?_)
  obtain ⟨c, rfl⟩ := code_ref hcd
  have TB := hT c hcv
  refine ⟨_, PSs.nox (pss_cons (ps_if (PW.pt (pw_or (pt_cmpR op_ne (pe_callB (kLen K) rfl T.f_len PySem.boot_len (pa_cons (pv 2) pa_nil)) (pe_callB (kLen K) rfl T.f_len PySem.boot_len (pa_cons (pv 1) pa_nil)) (nomark _)) (pw_or1 (pt_val (pe_anyN (pb := fun a => decide (a < 0)) hr rfl T.f_any TB rfl ⟨rfl, rfl, by decide +kernel, rfl, rfl, fun y hy e => ?_⟩ (pv 2) elt_rel (fun v => rfl)))))) (pss_one (ps_ret pe_bl)) pss_nil)
      (pss_one (ps_ret (pe_call c_is_layout.ok (hr.mono (by decide)) rfl T.g_is_layout c_is_layout.kp c_is_layout.bd .nil pass0 (pa_cons (pv 0) (pa_cons (pe_call c_relocated.ok (hr.mono (by decide)) rfl T.g_relocated c_relocated.kp c_relocated.bd .nil pass0 (pa_cons (pv 1) (pa_cons (pv 2) pa_nil))) pa_nil)))))), ?_⟩
  · have hy : y ∈ gRel.names := hy
    rw [names_rel] at hy
    rcases List.mem_cons.mp hy with z | hy
    · rw [z] at e; cases e
    rcases List.mem_cons.mp hy with z | hy
    · rw [z] at e; cases e
    cases hy
  obtain ⟨S, ⟨n, L, st, u⟩, k, ⟨v, r, rfl, hn, v', r', rfl, hL, v'', r'', rfl, hs, hr'⟩, p, q⟩ := h
  cases hr'
  have p1 : L.length ≤ 100 := p.1
  have p2 : st.length ≤ 100 := p.2
  refine s_ifN (et_or (et_test (ev_neI (ev_len (ev_var rfl hs)) (ev_len (ev_var rfl hL)))) fun _ => et_B (ev_anyN (pb := fun a => decide (a < 0)) hZ (ev_var rfl hs))) k (fun hb S3 H3 t3 => ?_) fun hb S3 H3 t3 => ?_
  · refine s_ret (ev_bl (i := false)) t3.ok fun S4 H4 v4 t4 h4 => q S4 H4 v4 (t3.trans t4) ?_
    show jB S4 v4 (Mir.isReloc n L st)
    unfold Mir.isReloc
    rw [if_pos hb]
    exact h4
  · refine s_ret (ev_call (x := (n, Mir.relocated L st, ())) (ea_cons (ev_var rfl (Up.up t3.ss hn)) (ea_cons (ev_call (x := (L, st, ())) (ea_cons (ev_var rfl (Up.up t3.ss hL)) (ea_cons (ev_var rfl (Up.up t3.ss hs)) ea_nil)) ⟨p1, p2⟩) ea_nil)) trivial) t3.ok fun S4 H4 v4 t4 h4 => q S4 H4 v4 (t3.trans t4) ?_
    show jB S4 v4 (Mir.isReloc n L st)
    unfold Mir.isReloc
    rw [if_neg (by rw [hb]; exact Bool.false_ne_true)]
    exact h4
end
end Hg
end Z_D3

section Z_HgD
set_option maxHeartbeats 4000000
/-! More rules: truth of a list, pop, loops that fill a list. -/
namespace Hg
open PySem L2
section
variable {Z : List Addr} {σ : L2.St} {S S' H S0 H0 : Hp} {α β γ : Type} {R : Rp α} {R' : Rp β} {te ta tb tl : TE} {tt tu : TT} {tr : TA} {x : α} {y : β} {v : V} {K : PySem.W.Frag} {D : Ends}
theorem tru_list {vs : List V} {xs : List α} {a : Addr} (h : H a = some (.lst vs)) (p : vs.length = xs.length) : TruV K (.ref a) H (!xs.isEmpty) := by
  refine Or.inl ⟨vs, SqL.of h, ?_⟩
  cases vs with
  | nil =>
    cases xs with
    | nil => rfl
    | cons => cases p
  | cons =>
    cases xs with
    | nil => cases p
    | cons => rfl
theorem et_tru {xs : List α} (h : EvR Z ta σ S (jL R) xs) : EvT Z (fun σ H Q => ta σ H fun x H' => ∃ k, TruV K x H' k ∧ Q k H') σ S (!xs.isEmpty) := fun S1 H s k Q q => h S1 H s k _ fun S2 H2 v t ⟨a, vs, e, h, p⟩ =>
  ⟨!xs.isEmpty, by rw [e]; exact tru_list (t.ok.le _ _ h) p.len, q S2 H2 t⟩
theorem ev_neg1 : EvR Z (tUn (rU fun i => .int (-i)) (tC (.int 1))) σ S jI (-1) := fun S1 H s k Q q => ⟨1, rfl, q S1 H _ (.refl k) rfl⟩
/-- a name's list, which is worked at, is popped -/
theorem s_pop {i j : Nat} {l : Addr} {xs : List α} (ho : σ[i]? = some (some (.ref l))) (w : OwnL Z S H l R (xs ++ [x])) (k : Stp Z S0 H0 S H) (h0 : H0 l = none)
    (n : ∀ H' v, Stp Z S0 H0 S H' → R S v x → OwnL Z S H' l R xs → (∀ m u, m ≠ l → Own Z S H m u → Own Z S H' m u) → D.nx (σ.set j (some v)) H') : tAsg (tBM0 K "list" rPop (tVar i)) (gName j) D σ H := by
  obtain ⟨vs, o, p⟩ := w
  have hl : vs.length = xs.length + 1 := by rw [p.len]; simp
  obtain ⟨v, hv, r⟩ := p.at (i := xs.length) (x := x) (by simp)
  refine ⟨.ref l, ho, Or.inl ⟨rfl, vs, SqL.of o.at_⟩, l, vs, v, rfl, rfl, o.at_, by rw [hl]; exact hv, n _ v (k.put h0 o.off) r ⟨vs.dropLast, o.put, ?_⟩ fun m u ne om => om.other ne⟩
  have q := p.take xs.length
  rw [List.take_left] at q
  rw [List.dropLast_eq_take, hl]
  exact q
theorem take_flat {xs : List α} {i : Nat} {x : α} (F : α → List β) (h : xs[i]? = some x) : (xs.take (i + 1)).flatMap F = (xs.take i).flatMap F ++ F x := by
  rw [List.take_add_one, h, List.flatMap_append]
  simp
theorem flat_le {xs : List α} {i : Nat} {x : α} (F : α → List β) (h : xs[i]? = some x) : ((xs.take i).flatMap F).length + (F x).length ≤ (xs.flatMap F).length := by
  have e : xs.flatMap F = ((xs.take (i + 1)) ++ xs.drop (i + 1)).flatMap F := by rw [List.take_append_drop]
  rw [e, List.flatMap_append, take_flat F h, List.length_append, List.length_append]
  omega
/-- a loop that fills the list at l; what else is worked at: W -/
theorem s_forA [Up R] {wi : TI} {g : TG} {tb : TS} {xs : List α} {l : Addr} {acc : List β} {F : α → List β} (hi : EvI Z wi σ S R xs) (k : Stp Z S0 H0 S H) (C : L2.St → Prop) (W : Hp → Hp → Prop) [Up R']
    (hW : ∀ S1 H1 S2 H2, W S1 H1 → Stp Z S1 H1 S2 H2 → W S2 H2) (c0 : C σ) (w0 : W S H) (w : OwnL Z S H l R' acc)
    (hs : ∀ x S1 σ1 H1 v acc1 (N : L2.St → Hp → Prop), x ∈ xs → Stp Z S0 H0 S1 H1 → Same S S1 → R S1 v x → C σ1 → W S1 H1 → OwnL Z S1 H1 l R' acc1 → acc1.length + (F x).length ≤ acc.length + (xs.flatMap F).length →
      (∀ S' σ' H', Stp Z S0 H0 S' H' → Same S1 S' → C σ' → W S' H' → OwnL Z S' H' l R' (acc1 ++ F x) → N σ' H') → ∃ σ2, EvG g σ1 S1 v σ2 ∧ tb { D with nx := N, ct := N, bk := D.nx } σ2 H1)
    (hd : ∀ S1 σ1 H1, Stp Z S0 H0 S1 H1 → Same S S1 → C σ1 → W S1 H1 → OwnL Z S1 H1 l R' (acc ++ xs.flatMap F) → D.nx σ1 H1) : tFor wi g tb D σ H := by
  refine s_for hi k (fun i S1 σ1 H1 => C σ1 ∧ W S1 H1 ∧ OwnL Z S1 H1 l R' (acc ++ (xs.take i).flatMap F)) (fun i S1 σ1 H1 S2 H2 h t => ⟨h.1, hW _ _ _ _ h.2.1 t, h.2.2.step t⟩) ⟨c0, w0, by simpa using w⟩ (fun i x S1 σ1 H1 v N hx t s r ⟨h1, h2, h3⟩ hN => ?_) (fun S1 σ1 H1 t s ⟨h1, h2, h3⟩ => ?_)
  · refine hs x S1 σ1 H1 v _ N (List.mem_of_getElem? hx) t s r h1 h2 h3 (by have := flat_le F hx; rw [List.length_append]; omega) fun S' σ' H' t' s' c' w' o' => hN S' σ' H' t' s' ⟨c', w', ?_⟩
    rw [take_flat F hx, ← List.append_assoc]
    exact o'
  · rw [List.take_length] at h3
    exact hd S1 σ1 H1 t s h1 h2 h3
/-- the same, a test and one new item a turn -/
theorem s_forT [Up R] {wi : TI} {g : TG} {tb : TS} {xs : List α} {l : Addr} {acc : List β} {b : α → Bool} {f : α → β} (hi : EvI Z wi σ S R xs) (k : Stp Z S0 H0 S H) (C : L2.St → Prop) (W : Hp → Hp → Prop) [Up R']
    (hW : ∀ S1 H1 S2 H2, W S1 H1 → Stp Z S1 H1 S2 H2 → W S2 H2) (c0 : C σ) (w0 : W S H) (w : OwnL Z S H l R' acc)
    (hs : ∀ x S1 σ1 H1 v acc1 (N : L2.St → Hp → Prop), x ∈ xs → Stp Z S0 H0 S1 H1 → Same S S1 → R S1 v x → C σ1 → W S1 H1 → OwnL Z S1 H1 l R' acc1 → acc1.length + (if b x = true then 1 else 0) ≤ acc.length + ((xs.filter b).map f).length →
      (∀ S' σ' H', Stp Z S0 H0 S' H' → Same S1 S' → C σ' → W S' H' → OwnL Z S' H' l R' (acc1 ++ if b x = true then [f x] else []) → N σ' H') → ∃ σ2, EvG g σ1 S1 v σ2 ∧ tb { D with nx := N, ct := N, bk := D.nx } σ2 H1)
    (hd : ∀ S1 σ1 H1, Stp Z S0 H0 S1 H1 → Same S S1 → C σ1 → W S1 H1 → OwnL Z S1 H1 l R' (acc ++ (xs.filter b).map f) → D.nx σ1 H1) : tFor wi g tb D σ H := by
  have e : (xs.filter b).map f = xs.flatMap fun x => if b x = true then [f x] else [] := by
    clear hs hd hi
    induction xs with
    | nil => rfl
    | cons x r ih =>
      rw [List.flatMap_cons, ← ih]
      cases h : b x with
      | true => simp [h]
      | false => simp [h]
  rw [e] at hs hd
  refine s_forA (F := fun x => if b x = true then [f x] else []) hi k C W hW c0 w0 w (fun x S1 σ1 H1 v acc1 N hx t s r c1 w1 o1 hl hN => hs x S1 σ1 H1 v acc1 N hx t s r c1 w1 o1 ?_ hN) hd
  refine Nat.le_trans (Nat.le_of_eq ?_) hl
  show _ = acc1.length + (if b x = true then [f x] else []).length
  cases b x <;> rfl
/-- l.append(e) in a loop: what is worked at else is told -/
theorem s_app' [Up R] {i : Nat} {l : Addr} {xs : List α} (ho : σ[i]? = some (some (.ref l))) (w : OwnL Z S H l R xs) (h : EvR Z te σ S R x) (k : Stp Z S0 H0 S H) (h0 : H0 l = none) (hl : xs.length < 100000)
    (n : ∀ S' H', Stp Z S0 H0 S' H' → Same S S' → OwnL Z S' H' l R (xs ++ [x]) → (∀ (β : Type) (R' : Rp β) (_ : Up R') m ys, m ≠ l → OwnL Z S H m R' ys → OwnL Z S' H' m R' ys) → D.nx σ H') : tDrop (tBM K "list" rAppend (tVar i) (tCons te tNil)) D σ H := by
  obtain ⟨vs, o, p⟩ := w
  refine ⟨.ref l, ho, Or.inl ⟨rfl, vs, SqL.of o.at_⟩, h S H (Same.refl _) k.ok _ fun S1 H1 v t r => ?_⟩
  have o1 := o.step t
  refine ⟨l, vs, v, rfl, rfl, o1.at_, ?_, n S1 _ ((k.trans t).put h0 o1.off) t.ss ⟨vs ++ [v], o1.put, (p.up t.ss).app (Pr.one r)⟩ fun β R' hU m ys ne om => (om.step t).other ne⟩
  rw [p.len]
  exact Nat.lt_trans hl (by decide)
theorem Stp.none {S1 H1 : Hp} {p : Addr} (t : Stp Z S H S1 H1) (h : H1 p = none) : H p = none := by
  cases e : H p with
  | none => rfl
  | some o =>
    by_cases hz : p ∈ Z
    · exact absurd h (by
        obtain ⟨ps, e', _⟩ := t.ok.tab p hz
        rw [e']
        simp)
    · have := t.old p o hz e
      rw [this] at h
      cases h
theorem OwnL.ne {l p : Addr} {xs : List α} (w : OwnL Z S H l R xs) (h : H p = none) : l ≠ p := fun e => by
  obtain ⟨vs, o, _⟩ := w
  rw [e] at o
  rw [o.at_] at h
  cases h
/-- x = [e, ..]: a list to be worked at -/
theorem s_newL [Up R] {i : Nat} {xs : List α} (h : EvA Z tr σ S (aL R) xs) (hl : xs.length ≤ 100000) (k : Stp Z S0 H0 S H)
    (n : ∀ S1 H1 p H', Stp Z S0 H0 S1 H1 → Stp Z S H S1 H1 → H1 p = none → Stp Z S0 H0 S1 H' → Same S S1 → Stp Z S1 H1 S1 H' → OwnL Z S1 H' p R xs → D.nx (σ.set i (some (.ref p))) H') : tAsg (tLst tr) (gName i) D σ H :=
  h S H (Same.refl _) k.ok _ fun S1 H1 vs t a => ⟨by rw [a.len]; exact Nat.le_trans hl (by decide), fun p hp => n S1 H1 p _ (k.trans t) t hp ((k.trans t).trans (t.ok.mk' hp)) t.ss (t.ok.mk' hp) ⟨vs, Own.new t.ok hp, a⟩⟩
end
end Hg
end Z_HgD

section Z_HgQ
set_option maxHeartbeats 4000000
/-! The rules for a statement and the rest behind it. -/
namespace Hg
open PySem L2
section
variable {Z : List Addr} {σ : L2.St} {S S' H S0 H0 : Hp} {α β γ : Type} {R : Rp α} {R' : Rp β} {te ta tb tl : TE} {tt tu : TT} {tr : TA} {x : α} {y : β} {v : V} {K : PySem.W.Frag} {D : Ends} {t1 t2 rest : TS}
theorem q_set {i : Nat} (h : EvR Z te σ S R x) (k : Stp Z S0 H0 S H) (n : ∀ S' H' v, Stp Z S0 H0 S' H' → Same S S' → Stp Z S H S' H' → R S' v x → rest D (σ.set i (some v)) H') : tSeq (tAsg te (gName i)) rest D σ H :=
  s_seq (s_set h k.ok fun S' H' v t r => n S' H' v (k.trans t) t.ss t r)
theorem q_if {b : Bool} (h : EvT Z tt σ S b) (k : Stp Z S0 H0 S H) (h1 : b = true → ∀ S' H', Stp Z S0 H0 S' H' → Same S S' → Stp Z S H S' H' → t1 { D with nx := rest D } σ H') (h2 : b = false → ∀ S' H', Stp Z S0 H0 S' H' → Same S S' → Stp Z S H S' H' → rest D σ H') : tSeq (tIfS tt t1 tNext) rest D σ H :=
  s_seq (s_if h k.ok (fun e S' H' t => h1 e S' H' (k.trans t) t.ss t) fun e S' H' t => h2 e S' H' (k.trans t) t.ss t)
theorem q_new {i : Nat} (k : Stp Z S0 H0 S H) (n : ∀ p H', H0 p = none → H p = none → Stp Z S0 H0 S H' → Stp Z S H S H' → OwnL Z S H' p R [] → rest D (σ.set i (some (.ref p))) H') : tSeq (tAsg (tLst tNil) (gName i)) rest D σ H :=
  s_seq (s_new k.ok fun p H' hp t o => n p H' (k.none hp) hp (k.trans t) t o)
theorem q_newL [Up R] {i : Nat} {xs : List α} (h : EvA Z tr σ S (aL R) xs) (hl : xs.length ≤ 100000) (k : Stp Z S0 H0 S H)
    (n : ∀ S1 H1 p H', H0 p = none → Stp Z S H S1 H1 → H1 p = none → Stp Z S0 H0 S1 H' → Stp Z S1 H1 S1 H' → OwnL Z S1 H' p R xs → rest D (σ.set i (some (.ref p))) H') : tSeq (tAsg (tLst tr) (gName i)) rest D σ H :=
  s_seq (s_newL h hl k fun S1 H1 p H' k1 t hp k2 _ t2 o => n S1 H1 p H' (k1.none hp) t hp k2 t2 o)
theorem q_pop {i j : Nat} {l : Addr} {xs : List α} (ho : σ[i]? = some (some (.ref l))) (w : OwnL Z S H l R (xs ++ [x])) (k : Stp Z S0 H0 S H) (h0 : H0 l = none)
    (n : ∀ H' v, Stp Z S0 H0 S H' → R S v x → OwnL Z S H' l R xs → (∀ (β : Type) (R' : Rp β) m ys, m ≠ l → OwnL Z S H m R' ys → OwnL Z S H' m R' ys) → rest D (σ.set j (some v)) H') : tSeq (tAsg (tBM0 K "list" rPop (tVar i)) (gName j)) rest D σ H :=
  s_seq (s_pop ho w k h0 fun H' v t r o f => n H' v t r o fun β R' m ys ne ⟨us, a, b⟩ => ⟨us, f m _ ne a, b⟩)
theorem q_app [Up R] {i : Nat} {l : Addr} {xs : List α} (ho : σ[i]? = some (some (.ref l))) (w : OwnL Z S H l R xs) (h : EvR Z te σ S R x) (k : Stp Z S0 H0 S H) (h0 : H0 l = none) (hl : xs.length < 100000)
    (n : ∀ S' H', Stp Z S0 H0 S' H' → Same S S' → OwnL Z S' H' l R (xs ++ [x]) → (∀ (β : Type) (R' : Rp β) (_ : Up R') m ys, m ≠ l → OwnL Z S H m R' ys → OwnL Z S' H' m R' ys) → rest D σ H') : tSeq (tDrop (tBM K "list" rAppend (tVar i) (tCons te tNil))) rest D σ H :=
  s_seq (s_app' ho w h k h0 hl n)
theorem q_for {wi : TI} {g : TG} {tb : TS} {xs : List α} [Up R] (hi : EvI Z wi σ S R xs) (k : Stp Z S0 H0 S H) (I : Nat → Hp → L2.St → Hp → Prop)
    (hI : ∀ i S1 σ1 H1 S2 H2, I i S1 σ1 H1 → Stp Z S1 H1 S2 H2 → I i S2 σ1 H2) (h0 : I 0 S σ H)
    (hs : ∀ i x S1 σ1 H1 v (N : L2.St → Hp → Prop), xs[i]? = some x → Stp Z S0 H0 S1 H1 → Same S S1 → R S1 v x → I i S1 σ1 H1 → (∀ S' σ' H', Stp Z S0 H0 S' H' → Same S1 S' → I (i + 1) S' σ' H' → N σ' H') →
      ∃ σ2, EvG g σ1 S1 v σ2 ∧ tb { D with nx := N, ct := N, bk := rest D } σ2 H1)
    (hd : ∀ S1 σ1 H1, Stp Z S0 H0 S1 H1 → Same S S1 → I xs.length S1 σ1 H1 → rest D σ1 H1) : tSeq (tFor wi g tb) rest D σ H := s_seq (s_for hi k I hI h0 hs hd)
theorem q_forA [Up R] {wi : TI} {g : TG} {tb : TS} {xs : List α} {l : Addr} {acc : List β} {F : α → List β} (hi : EvI Z wi σ S R xs) (k : Stp Z S0 H0 S H) (C : L2.St → Prop) (W : Hp → Hp → Prop) [Up R']
    (hW : ∀ S1 H1 S2 H2, W S1 H1 → Stp Z S1 H1 S2 H2 → W S2 H2) (c0 : C σ) (w0 : W S H) (w : OwnL Z S H l R' acc)
    (hs : ∀ x S1 σ1 H1 v acc1 (N : L2.St → Hp → Prop), x ∈ xs → Stp Z S0 H0 S1 H1 → Same S S1 → R S1 v x → C σ1 → W S1 H1 → OwnL Z S1 H1 l R' acc1 → acc1.length + (F x).length ≤ acc.length + (xs.flatMap F).length →
      (∀ S' σ' H', Stp Z S0 H0 S' H' → Same S1 S' → C σ' → W S' H' → OwnL Z S' H' l R' (acc1 ++ F x) → N σ' H') → ∃ σ2, EvG g σ1 S1 v σ2 ∧ tb { D with nx := N, ct := N, bk := rest D } σ2 H1)
    (hd : ∀ S1 σ1 H1, Stp Z S0 H0 S1 H1 → Same S S1 → C σ1 → W S1 H1 → OwnL Z S1 H1 l R' (acc ++ xs.flatMap F) → rest D σ1 H1) : tSeq (tFor wi g tb) rest D σ H := s_seq (s_forA hi k C W hW c0 w0 w hs hd)
theorem q_forT [Up R] {wi : TI} {g : TG} {tb : TS} {xs : List α} {l : Addr} {acc : List β} {b : α → Bool} {f : α → β} (hi : EvI Z wi σ S R xs) (k : Stp Z S0 H0 S H) (C : L2.St → Prop) (W : Hp → Hp → Prop) [Up R']
    (hW : ∀ S1 H1 S2 H2, W S1 H1 → Stp Z S1 H1 S2 H2 → W S2 H2) (c0 : C σ) (w0 : W S H) (w : OwnL Z S H l R' acc)
    (hs : ∀ x S1 σ1 H1 v acc1 (N : L2.St → Hp → Prop), x ∈ xs → Stp Z S0 H0 S1 H1 → Same S S1 → R S1 v x → C σ1 → W S1 H1 → OwnL Z S1 H1 l R' acc1 → acc1.length + (if b x = true then 1 else 0) ≤ acc.length + ((xs.filter b).map f).length →
      (∀ S' σ' H', Stp Z S0 H0 S' H' → Same S1 S' → C σ' → W S' H' → OwnL Z S' H' l R' (acc1 ++ if b x = true then [f x] else []) → N σ' H') → ∃ σ2, EvG g σ1 S1 v σ2 ∧ tb { D with nx := N, ct := N, bk := rest D } σ2 H1)
    (hd : ∀ S1 σ1 H1, Stp Z S0 H0 S1 H1 → Same S S1 → C σ1 → W S1 H1 → OwnL Z S1 H1 l R' (acc ++ (xs.filter b).map f) → rest D σ1 H1) : tSeq (tFor wi g tb) rest D σ H := s_seq (s_forT hi k C W hW c0 w0 w hs hd)
theorem q_while {c : TT} {tb : TS} (k : Stp Z S0 H0 S H) (I : Nat → Hp → L2.St → Hp → Prop) {m0 : Nat} (h0 : I m0 S σ H)
    (hs : ∀ m S1 σ1 H1 (Q : Bool → Hp → Prop), Stp Z S0 H0 S1 H1 → Same S S1 → I m S1 σ1 H1 →
      (∀ S2 H2, Stp Z S0 H0 S2 H2 → Same S1 S2 → (∀ N : L2.St → Hp → Prop, (∀ m' S' σ' H', m' < m → Stp Z S0 H0 S' H' → Same S1 S' → I m' S' σ' H' → N σ' H') → tb { D with nx := N, ct := N, bk := rest D } σ1 H2) → Q true H2) →
      (∀ H2, rest D σ1 H2 → Q false H2) → c σ1 H1 Q) : tSeq (tWhile c tb) rest D σ H := s_seq (s_while k I h0 hs)
/-- an if without an else, both ways joined by J -/
theorem q_ifJ {b : Bool} (h : EvT Z tt σ S b) (k : Stp Z S0 H0 S H) (J : Hp → L2.St → Hp → Prop)
    (h1 : b = true → ∀ S' H' (N : L2.St → Hp → Prop), Stp Z S0 H0 S' H' → Same S S' → Stp Z S H S' H' → (∀ S'' σ'' H'', Stp Z S0 H0 S'' H'' → Same S S'' → J S'' σ'' H'' → N σ'' H'') → t1 { D with nx := N } σ H')
    (h2 : b = false → ∀ S' H', Stp Z S0 H0 S' H' → Same S S' → Stp Z S H S' H' → J S' σ H') (hr : ∀ S'' σ'' H'', Stp Z S0 H0 S'' H'' → Same S S'' → J S'' σ'' H'' → rest D σ'' H'') : tSeq (tIfS tt t1 tNext) rest D σ H :=
  q_if h k (fun e S' H' t s t' => h1 e S' H' _ t s t' hr) fun e S' H' t s t' => hr S' σ H' t s (h2 e S' H' t s t')
theorem q_ret (h : EvR Z te σ S R x) (k : Stp Z S0 H0 S H) (n : ∀ S' H' v, Stp Z S0 H0 S' H' → R S' v x → D.rt v H') : tRet te D σ H := s_ret h k.ok fun S' H' v t r => n S' H' v (k.trans t) r
end
end Hg
end Z_HgQ

section Z_D4
set_option maxHeartbeats 4000000
namespace Mir
def posOk (c : Con) : Nat → List Lay → Bool
  | n, grown => match n, grown.getLast? with
    | _, none => true
    | 0, some _ => false
    | n + 1, some L => decide (L.length ≤ 100) && (decide ((grown.dropLast ++ kids c L).length ≤ 1000) && (decide (-1000 ≤ beginOf L) && (decide (beginOf L ≤ 1000) && posOk c n (grown.dropLast ++ kids c L))))
def posPre (c : Con) : Bool := posOk c fuel [[]] && (decide (-1000 ≤ c.size) && (decide (c.size ≤ 1000) && decide (c.lengths.length ≤ 100)))
theorem posRun_nil (c : Con) (n : Nat) (fnd : List Lay) : posRun c n fnd [] = some fnd := by
  cases n <;> rfl
theorem posRun_cons (c : Con) (n : Nat) (fnd xs : List Lay) (L : Lay) : posRun c (n + 1) fnd (xs ++ [L]) = posRun c n (fnd ++ [L]) (xs ++ kids c L) := by
  conv => lhs; unfold posRun
  rw [List.getLast?_concat]
  simp only [List.dropLast_concat]
theorem posOk_cons (c : Con) (n : Nat) (xs : List Lay) (L : Lay) : posOk c (n + 1) (xs ++ [L]) = (decide (L.length ≤ 100) && (decide ((xs ++ kids c L).length ≤ 1000) && (decide (-1000 ≤ beginOf L) && (decide (beginOf L ≤ 1000) && posOk c n (xs ++ kids c L))))) := by
  conv => lhs; unfold posOk
  rw [List.getLast?_concat]
  simp only [List.dropLast_concat]
theorem posOk_0 (c : Con) (xs : List Lay) (L : Lay) : posOk c 0 (xs ++ [L]) = false := by
  unfold posOk
  rw [List.getLast?_concat]
/-- the rows in starts_within stay few -/
def rowOk (rows : List (List Int × Int)) : Bool := rows.all fun r => decide (r.1.length ≤ 100)
def swOk (size : Int) : List (List Int × Int) → Lay → Bool
  | _, [] => true
  | rows, b :: r => rowOk rows && (decide ((swTurn size rows b).length ≤ 10000) && (decide (-1000 ≤ size + 1 - b.2) && (decide (size + 1 - b.2 ≤ 1000) && swOk size (swTurn size rows b) r)))
def swPre (size budget : Int) (L : Lay) : Bool := decide (L.length ≤ 100) && (swOk size [([], budget)] L && decide ((startsWithin size budget L).length ≤ 10000))
def relPre (c : Con) (L : Lay) : Bool := swPre c.size c.budget L && (startsWithin c.size c.budget L).all fun st => decide (st.length ≤ 100)
end Mir
namespace Hg
open PySem L2
def spPos (Z : List Addr) (K : PySem.W.Frag) : Sp := Fn Z (aC (jCon K) aN) (fun p => Mir.posPre p.1 = true) (jL jLay) fun p => Mir.positions p.1
theorem rng_eq (i j : Int) : rng i j = Mir.rng i j := rfl
section
variable {Pg : Program} {w : World} {K : PySem.W.Frag} {mg : Str → Option Value} {base : Heap} {Z : List Addr} {f : Addr} {fd : FuncData}
theorem beginOf_last (xs : Mir.Lay) (b : Mir.Blk) : Mir.beginOf (xs ++ [b]) = b.1 + b.2 := by
  unfold Mir.beginOf
  simp
abbrev N_positions : List Str := ["contract", "found", "grown", "layout", "begin", "start", "length"]
theorem sc_positions : FnScope N_positions ["contract"] (defScope s_positions) := ⟨rfl, rfl, rfl, by decide +kernel, rfl, by decide +kernel, by decide +kernel⟩
theorem ok_positions (F : FnP K "positions" "positions" s_positions f fd) (T : Txt K mg) (c_live_cells : Cal Pg w K mg base 1 (He.ga K "live_cells") ["layout"] (spLive Z)) : FnOk Pg w K mg base CX0 2 f fd ["contract"] (spPos Z K) := by
  refine F.ok sc_positions fn_len1 (fun cdv A outer s H vs Q E hr h => ⟨_, PSs.nox (pss_cons (ps_set (i := 1) sc_positions.nd rfl (by first | exact Or.inl rfl | exact Or.inr rfl) (pe_lst pa_nil))
      (pss_cons (ps_set (i := 2) sc_positions.nd rfl (by first | exact Or.inl rfl | exact Or.inr rfl) (pe_lst (pa_cons (pe_lst pa_nil) pa_nil)))
      (pss_cons (ps_while PassesOwn.never (pt_truth (pv 2) (by intro _; rfl)) (pss_cons (ps_set (i := 3) sc_positions.nd rfl (by first | exact Or.inl rfl | exact Or.inr rfl) (pe_bm0 PySem.F.plainAttrs_list PySem.F.slot_list_pop PySem.F.type_list_pop mt_pop (pv 2)))
      (pss_cons (ps_expr (pe_bm PySem.F.plainAttrs_list PySem.F.slot_list_append PySem.F.type_list_append mt_append (pv 1) (pa_cons (pv 3) pa_nil)))
      (pss_cons (ps_set (i := 4) sc_positions.nd rfl (by first | exact Or.inl rfl | exact Or.inr rfl) pe_int)
      (pss_cons (ps_if (pt_truth (pv 3) (by intro _; rfl)) (pss_one (ps_set (i := 4) sc_positions.nd rfl (by first | exact Or.inl rfl | exact Or.inr rfl) (pe_op op_add (pe_ix (kIxT K) (pe_ix (kIxL K) (pv 3) (pe_un un_neg pe_int) (fun _ _ => rfl)) pe_int (fun _ _ => rfl)) (pe_ix (kIxT K) (pe_ix (kIxL K) (pv 3) (pe_un un_neg pe_int) (fun _ _ => rfl)) pe_int (fun _ _ => rfl))))) pss_nil)
      (pss_one (ps_for PassesOwn.never rfl (pi_range2 rfl T.f_range (pa_cons (pv 4) (pa_cons (kFld K (pv 0)) pa_nil))) (pg_name (i := 5) sc_positions.nd rfl (by first | exact Or.inl rfl | exact Or.inr rfl)) (pss_one (ps_for PassesOwn.never rfl (kiList K (kFld K (pv 0))) (pg_name (i := 6) sc_positions.nd rfl (by first | exact Or.inl rfl | exact Or.inr rfl)) (pss_one (ps_if (PW.pt (pw_and (pt_cmpR op_le (pe_op op_add (pv 5) (pv 6)) (kFld K (pv 0)) (nomark _)) (pw_and1 (pt_cmpR op_le (pe_op op_add (pe_call c_live_cells.ok (hr.mono (by decide)) rfl T.g_live_cells c_live_cells.kp c_live_cells.bd .nil pass0 (pa_cons (pv 3) pa_nil)) (pv 6)) (kFld K (pv 0)) (nomark _))))) (pss_one (ps_expr (pe_bm PySem.F.plainAttrs_list PySem.F.slot_list_append PySem.F.type_list_append mt_append (pv 2) (pa_cons (pe_op op_cat (pv 3) (pe_lst (pa_cons (pe_tup (pa_cons (pv 5) (pa_cons (pv 6) pa_nil))) pa_nil))) pa_nil)))) pss_nil)))))))))))
      (pss_one (ps_ret (pe_callB (cr_sortA K enc_L hr.units) rfl T.f_sorted (by decide +kernel) (pa_cons (pv 1) pa_nil))))))), ?_⟩)
  obtain ⟨S, ⟨c, u⟩, k, ⟨v, r, rfl, hc, hr'⟩, p, q⟩ := h
  cases hr'
  have hc : jCon K S v c := hc
  have p : Mir.posPre c = true := p
  unfold Mir.posPre at p
  simp only [Bool.and_eq_true, decide_eq_true_eq] at p
  obtain ⟨p0, p1, p2, p3⟩ := p
  refine q_new (R := jLay) (.refl k) fun fa H1 hf0 hf1 t1 t1' of1 => ?_
  refine q_newL (R := jLay) (xs := [[]]) (el_cons ev_nil el_nil) (by decide) t1 fun S2 H2 ga H3 hga0 t2 hg t3 t3' og => ?_
  have ofa := (of1.step t2).step t3'
  have hfg : fa ≠ ga := (of1.step t2).ne hg
  refine q_while t3 (fun m S4 σ4 H4 => ∃ (fnd grw : List Mir.Lay) (o3 o4 o5 o6 : Option V), σ4 = [some v, some (.ref fa), some (.ref ga), o3, o4, o5, o6] ∧ OwnL Z S4 H4 fa jLay fnd ∧ OwnL Z S4 H4 ga jLay grw ∧ Mir.posRun c m fnd grw = Mir.posRun c Mir.fuel [] [[]] ∧ Mir.posOk c m grw = true ∧ fnd.length + m ≤ 1000)
    (m0 := Mir.fuel) ⟨[], [[]], none, none, none, none, rfl, ofa, og, rfl, p0, by decide⟩ ?_
  rintro m S4 σ4 H4 Qb t4 s4 ⟨fnd, grw, o3, o4, o5, o6, rfl, of4, og4, e4, k4, l4⟩ hT hF
  obtain ⟨vs, o, pg⟩ := og4
  refine ⟨.ref ga, rfl, !grw.isEmpty, tru_list o.at_ pg.len, ?_⟩
  rcases List.eq_nil_or_concat grw with rfl | ⟨xs, L, rfl⟩
  · refine hF H4 ?_
    rw [Mir.posRun_nil] at e4
    obtain ⟨S5, t5, s5, r5⟩ := of4.frz t4 hf0
    refine q_ret ((ev_sorted (K := K) enc_L (ev_var (x := fnd) rfl r5) dp_Lay).is ?_) t5 q
    show Mir.isort Mir.leLay fnd = Mir.isort Mir.leLay ((Mir.posRun c Mir.fuel [] [[]]).getD [])
    rw [← e4]
    rfl
  rw [List.concat_eq_append] at *
  have og4 : OwnL Z S4 H4 ga jLay (xs ++ [L]) := ⟨vs, o, pg⟩
  have hne : (!(xs ++ [L]).isEmpty) = true := by simp
  rw [hne]
  cases m with
  | zero =>
    rw [Mir.posOk_0] at k4
    cases k4
  | succ n =>
  rw [Mir.posRun_cons] at e4
  rw [Mir.posOk_cons] at k4
  simp only [Bool.and_eq_true, decide_eq_true_eq] at k4
  obtain ⟨k5, k6, k7, k8, k9⟩ := k4
  refine hT S4 H4 t4 (Same.refl _) fun N hN => ?_
  refine q_pop rfl og4 t4 hga0 fun H5 vL t5 hL og5 kp5 => ?_
  have of5 := kp5 _ _ fa _ hfg of4
  refine q_app rfl of5 (ev_var rfl hL) t5 hf0 (by omega) fun S6 H6 t6 s6 of6 kp6 => ?_
  have og6 := kp6 _ jLay inferInstance ga xs (Ne.symm hfg) og5
  have hL6 := Up.up s6 hL
  refine q_set (ev_int (i := 0)) t6 fun S7 H7 v7 t7 s7 t7' h7 => ?_
  let Fl : Int → Int → Bool := fun s l => decide (s + l ≤ c.size) && decide (Mir.live L + l ≤ c.limit)
  have hk : Mir.kids c L = (rng (Mir.beginOf L) c.size).flatMap fun s => (c.lengths.filter (Fl s)).map fun l => L ++ [(s, l)] := rfl
  refine q_ifJ (et_tru (ev_var (x := L) rfl (Up.up s7 hL6))) t7 (fun S8 σ8 H8 => σ8 = [some v, some (.ref fa), some (.ref ga), some vL, some (.int (Mir.beginOf L)), o5, o6] ∧ OwnL Z S8 H8 fa jLay (fnd ++ [L]) ∧ OwnL Z S8 H8 ga jLay xs)
    (fun hb S8 H8 N8 t8 s8 t8' hN8 => ?_) (fun hb S8 H8 t8 s8 t8' => ?_) (fun S8 σ8 H8 t8 s8 ⟨e8, of8, og8⟩ => ?_)
  · rcases List.eq_nil_or_concat L with rfl | ⟨ys, ⟨b1, b2⟩, rfl⟩
    · cases hb
    rw [List.concat_eq_append] at *
    have hL8 := Up.up (s7.trans s8) hL6
    refine s_set (ev_II (g := fun i j => i + j) (ev_fst (R' := jI) (y := b2) (ev_ixLast (R := jB2) (x := (b1, b2)) (xs := ys) (ev_var rfl hL8) ev_neg1) (ev_int (i := 0))) (ev_snd (R := jI) (x := b1) (ev_ixLast (R := jB2) (x := (b1, b2)) (xs := ys) (ev_var rfl hL8) ev_neg1) (ev_int (i := 1)))) t8.ok fun S9 H9 v9 t9 h9 => hN8 _ _ _ (t8.trans t9) (s8.trans t9.ss) ⟨?_, ((of6.step t7').step t8').step t9, ((og6.step t7').step t8').step t9⟩
    have h9 : v9 = .int (b1 + b2) := h9
    rw [h9, beginOf_last]
    rfl
  · have e : L = [] := by
      cases L with
      | nil => rfl
      | cons => cases hb
    have h7 : v7 = .int 0 := h7
    refine ⟨?_, (of6.step t7').step t8', (og6.step t7').step t8'⟩
    rw [e, h7]
    rfl
  · subst e8
    refine s_forA (R' := jLay) (l := ga) (acc := xs) (F := fun s => (c.lengths.filter (Fl s)).map fun l => L ++ [(s, l)]) (ei_range2 (ea_cons (ev_var (i := 4) (x := Mir.beginOf L) rfl rfl) (ea_cons (ev_size T (ev_var (i := 0) (x := c) rfl (Up.up t8.ss hc))) ea_nil)) ⟨by omega, by omega, by omega, by omega⟩) t8
      (fun σ => ∃ o5 o6, σ = [some v, some (.ref fa), some (.ref ga), some vL, some (.int (Mir.beginOf L)), o5, o6]) (fun S H => OwnL Z S H fa jLay (fnd ++ [L])) (fun S1 H1 S2 H2 a b => a.step b) ⟨_, _, rfl⟩ of8 og8
      (fun st S9 σ9 H9 v9 acc1 N9 hst t9 s9 hv9 ⟨o5, o6, e9⟩ of9 og9 l9 hN9 => ?_) (fun S9 σ9 H9 t9 s9 ⟨o5, o6, e9⟩ of9 og9 => ?_)
    · subst e9
      refine ⟨_, eg_name, ?_⟩
      refine s_forT (R' := jLay) (l := ga) (acc := acc1) (b := Fl st) (f := fun l => L ++ [(st, l)]) (ei_list (ev_lengths T (ev_var (i := 0) (x := c) rfl (Up.up t9.ss hc)))) t9
        (fun σ => ∃ o6, σ = [some v, some (.ref fa), some (.ref ga), some vL, some (.int (Mir.beginOf L)), some v9, o6]) (fun S H => OwnL Z S H fa jLay (fnd ++ [L])) (fun S1 H1 S2 H2 a b => a.step b) ⟨_, rfl⟩ of9 og9
        (fun ln S10 σ10 H10 v10 acc2 N10 hln t10 s10 hv10 ⟨o6, e10⟩ of10 og10 l10 hN10 => ?_) (fun S10 σ10 H10 t10 s10 ⟨o6, e10⟩ of10 og10 => hN9 S10 σ10 H10 t10 s10 ⟨_, _, e10⟩ of10 og10)
      subst e10
      refine ⟨_, eg_name, ?_⟩
      have hL10 := Up.up (s7.trans (s8.trans (s9.trans s10))) hL6
      have st10 := Up.up s10 hv9
      refine s_if (et_and (et_test (ev_IB (ev_II (ev_var (x := st) rfl st10) (ev_var (x := ln) rfl hv10)) (ev_size T (ev_var (i := 0) (x := c) rfl (Up.up t10.ss hc))))) fun _ => et_test (ev_IB (ev_II (ev_call (x := (L, ())) (ea_cons (ev_var rfl hL10) ea_nil) k5) (ev_var (x := ln) rfl hv10)) (ev_limit T (ev_var (i := 0) (x := c) rfl (Up.up t10.ss hc))))) t10.ok
        (fun hb S11 H11 t11 => ?_) (fun hb S11 H11 t11 => ?_)
      · have hb : Fl st ln = true := hb
        rw [hb] at hN10 l10
        refine s_app' (x := L ++ [(st, ln)]) rfl (og10.step t11) (ev_cat (ev_var rfl (Up.up t11.ss hL10)) (ev_lst (xs := [(st, ln)]) (el_cons (ev_tup2 (ea_cons (ev_var rfl (Up.up t11.ss st10)) (ea_cons (ev_var rfl (Up.up t11.ss hv10)) ea_nil))) el_nil) (by simp)) (by show L.length + 1 ≤ 100000; omega)) (t10.trans t11) hga0 ?_ fun S12 H12 t12 s12 og12 kp12 => ?_
        · have : acc2.length + 1 ≤ _ := l10
          have l10' : acc2.length + 1 ≤ acc1.length + ((c.lengths.filter (Fl st)).map fun l => L ++ [(st, l)]).length := l10
          have l9' : acc1.length + ((c.lengths.filter (Fl st)).map fun l => L ++ [(st, l)]).length ≤ xs.length + ((rng (Mir.beginOf L) c.size).flatMap fun s => (c.lengths.filter (Fl s)).map fun l => L ++ [(s, l)]).length := l9
          rw [List.length_append, hk] at k6
          omega
        · exact hN10 S12 _ H12 t12 (t11.ss.trans s12) ⟨_, rfl⟩ (kp12 _ _ inferInstance fa _ hfg (of10.step t11)) og12
      · have hb : Fl st ln = false := hb
        rw [hb] at hN10
        refine hN10 S11 _ H11 (t10.trans t11) t11.ss ⟨_, rfl⟩ (of10.step t11) ?_
        simpa using og10.step t11
    · exact hN n S9 σ9 H9 (Nat.lt_succ_self n) t9 (s6.trans (s7.trans (s8.trans s9))) ⟨fnd ++ [L], xs ++ Mir.kids c L, _, _, _, _, e9, of9, og9, e4, k9, by rw [List.length_append]; simp only [List.length_cons, List.length_nil]; omega⟩
abbrev jRow : Rp (List Int × Int) := j2 jSt jI
def spSW (Z : List Addr) : Sp := Fn Z (aC jI (aC jI (aC jLay aN))) (fun p => Mir.swPre p.1 p.2.1 p.2.2.1 = true) (jL jSt) fun p => Mir.startsWithin p.1 p.2.1 p.2.2.1
def spReloc (Z : List Addr) (K : PySem.W.Frag) : Sp := Fn Z (aC (jCon K) (aC jLay aN)) (fun p => Mir.relPre p.1 p.2.1 = true) (jL jSt) fun p => Mir.relocations p.1 p.2.1
abbrev N_starts_within : List Str := ["size", "budget", "layout", "rows", "start", "length", "longer", "row", "left", "place"]
theorem sc_starts_within : FnScope N_starts_within ["size", "budget", "layout"] (defScope s_starts_within) := ⟨rfl, rfl, rfl, by decide +kernel, rfl, by decide +kernel, by decide +kernel⟩
theorem ok_starts_within (F : FnP K "starts_within" "starts_within" s_starts_within f fd) (T : Txt K mg) : FnOk Pg w K mg base CX0 1 f fd ["size", "budget", "layout"] (spSW Z) := by
  refine F.ok sc_starts_within fn_len3 (fun cdv A outer s H vs Q E hr h => ⟨_, PSs.nox (pss_cons (ps_set (i := 3) sc_starts_within.nd rfl (by first | exact Or.inl rfl | exact Or.inr rfl) (pe_lst (pa_cons (pe_tup (pa_cons (pe_lst pa_nil) (pa_cons (pv 1) pa_nil))) pa_nil)))
      (pss_cons (ps_for PassesOwn.never rfl (kiList K (pv 2)) (pg_tup rfl (pgs_cons (pg_name (i := 4) sc_starts_within.nd rfl (by first | exact Or.inl rfl | exact Or.inr rfl)) (pgs_cons (pg_name (i := 5) sc_starts_within.nd rfl (by first | exact Or.inl rfl | exact Or.inr rfl)) pgs_nil))) (pss_cons (ps_set (i := 6) sc_starts_within.nd rfl (by first | exact Or.inl rfl | exact Or.inr rfl) (pe_lst pa_nil))
      (pss_cons (ps_for PassesOwn.never rfl (kiList K (pv 3)) (pg_tup rfl (pgs_cons (pg_name (i := 7) sc_starts_within.nd rfl (by first | exact Or.inl rfl | exact Or.inr rfl)) (pgs_cons (pg_name (i := 8) sc_starts_within.nd rfl (by first | exact Or.inl rfl | exact Or.inr rfl)) pgs_nil))) (pss_one (ps_for PassesOwn.never rfl (pi_range1 rfl T.f_range (pa_cons (pe_op op_sub (pe_op op_add (pv 0) pe_int) (pv 5)) pa_nil)) (pg_name (i := 9) sc_starts_within.nd rfl (by first | exact Or.inl rfl | exact Or.inr rfl)) (pss_one (ps_if (pt_cmpR op_eq (pv 9) (pv 4) (nomark _)) (pss_one (ps_expr (pe_bm PySem.F.plainAttrs_list PySem.F.slot_list_append PySem.F.type_list_append mt_append (pv 6) (pa_cons (pe_tup (pa_cons (pe_op op_cat (pv 7) (pe_lst (pa_cons (pv 9) pa_nil))) (pa_cons (pv 8) pa_nil))) pa_nil)))) (pss_one (ps_if (pt_cmpR op_le (pv 5) (pv 8) (nomark _)) (pss_one (ps_expr (pe_bm PySem.F.plainAttrs_list PySem.F.slot_list_append PySem.F.type_list_append mt_append (pv 6) (pa_cons (pe_tup (pa_cons (pe_op op_cat (pv 7) (pe_lst (pa_cons (pv 9) pa_nil))) (pa_cons (pe_op op_sub (pv 8) (pv 5)) pa_nil))) pa_nil)))) pss_nil)))))))
      (pss_one (ps_set (i := 3) sc_starts_within.nd rfl (by first | exact Or.inl rfl | exact Or.inr rfl) (pv 6))))))
      (pss_one (ps_ret (pe_lc (own := [("row", 7), ("left", 8)]) (g := gTup K 2 (gCons (gName 7) (gCons (gName 8) gNil))) rfl sc_starts_within.nd (kiList K (pv 3)) (blkOk_by (own := [("row", 7), ("left", 8)]) (N := N_starts_within) (sc := defScope s_starts_within) (by first | decide +kernel | kernel_rfl)) (fun _ _ _ _ _ => (pg_tup rfl (pgs_cons (pg_name (i := 7) sc_starts_within.nd rfl (Or.inl rfl)) (pgs_cons (pg_name (i := 8) sc_starts_within.nd rfl (Or.inl rfl)) pgs_nil)))) (fun _ _ _ _ _ => pts_nil) (fun _ _ _ _ _ => (pv 7))))))), ?_⟩)
  obtain ⟨S, ⟨n, bu, L, u⟩, k, ⟨v, r, rfl, hn, v', r', rfl, hb, v'', r'', rfl, hL, hr'⟩, p, q⟩ := h
  cases hr'
  have p : Mir.swPre n bu L = true := p
  have hn : v = .int n := hn
  have hb : jI S v' bu := hb
  have hL : jLay S v'' L := hL
  subst hn
  unfold Mir.swPre at p
  simp only [Bool.and_eq_true, decide_eq_true_eq] at p
  obtain ⟨p1, p2, p3⟩ := p
  refine q_set (ev_lst (R := jRow) (xs := [([], bu)]) (el_cons (ev_tup2 (ea_cons ev_nil (ea_cons (ev_var rfl hb) ea_nil))) el_nil) (by simp)) (.refl k) fun S1 H1 v1 t1 s1 t1' h1 => ?_
  refine q_for (ei_list (ev_var (x := L) rfl (Up.up s1 hL))) t1 (fun i S2 σ2 H2 => ∃ (vr : V) (o4 o5 o6 o7 o8 o9 : Option V), σ2 = [some (.int n), some v', some v'', some vr, o4, o5, o6, o7, o8, o9] ∧ jL jRow S2 vr ((L.take i).foldl (Mir.swTurn n) [([], bu)]) ∧ Mir.swOk n ((L.take i).foldl (Mir.swTurn n) [([], bu)]) (L.drop i) = true)
    (fun i S2 σ2 H2 S3 H3 ⟨vr, o4, o5, o6, o7, o8, o9, a, b, c⟩ t => ⟨vr, o4, o5, o6, o7, o8, o9, a, Up.up t.ss b, c⟩) ⟨v1, _, _, _, _, _, _, rfl, h1, p2⟩ ?_ ?_
  · rintro i ⟨b, l⟩ S2 σ2 H2 v2 N hx t2 s2 ⟨a, y, z, rfl, h2, h3, h4⟩ ⟨vr, o4, o5, o6, o7, o8, o9, rfl, hrw, hok⟩ hN
    have h3 : y = .int b := h3
    have h4 : z = .int l := h4
    subst h3 h4
    refine ⟨_, eg_tup2 h2 eg_name eg_name, ?_⟩
    have hd : L.drop i = (b, l) :: L.drop (i + 1) := by
      obtain ⟨hi, e⟩ := List.getElem?_eq_some_iff.mp hx
      rw [← e]
      exact List.drop_eq_getElem_cons hi
    have ht : (L.take (i + 1)).foldl (Mir.swTurn n) [([], bu)] = Mir.swTurn n ((L.take i).foldl (Mir.swTurn n) [([], bu)]) (b, l) := by
      rw [List.take_add_one, hx, List.foldl_append]
      rfl
    rw [ht] at hN
    generalize (L.take i).foldl (Mir.swTurn n) [([], bu)] = rows at hrw hok hN
    rw [hd] at hok
    unfold Mir.swOk at hok
    simp only [Bool.and_eq_true, decide_eq_true_eq] at hok
    obtain ⟨m1, m2, m3, m4, m5⟩ := hok
    unfold Mir.rowOk at m1
    rw [List.all_eq_true] at m1
    refine q_new (R := jRow) t2 fun ga H3 hg0 hg2 t3 t3' og => ?_
    have hsw : Mir.swTurn n rows (b, l) = rows.flatMap fun r => (rng 0 (n + 1 - l)).flatMap fun p => Mir.swPut (b, l) r p := rfl
    refine q_forA (R := jRow) (R' := jRow) (l := ga) (acc := []) (F := fun r => (rng 0 (n + 1 - l)).flatMap fun p => Mir.swPut (b, l) r p) (ei_list (ev_var (i := 3) rfl hrw)) t3
      (fun σ => ∃ o7 o8 o9, σ = [some (.int n), some v', some v'', some vr, some (.int b), some (.int l), some (.ref ga), o7, o8, o9]) (fun _ _ => True) (fun _ _ _ _ _ _ => trivial) ⟨_, _, _, rfl⟩ trivial og
      (fun ⟨rw', lf⟩ S4 σ4 H4 v4 acc1 N4 hmem t4 s4 ⟨a4, y4, z4, e4, g2, g3, g4⟩ ⟨o7, o8, o9, e4'⟩ _ og4 l4 hN4 => ?_) (fun S4 σ4 H4 t4 s4 ⟨o7, o8, o9, e4⟩ _ og4 => ?_)
    · subst e4 e4'
      have g4 : z4 = .int lf := g4
      subst g4
      refine ⟨_, eg_tup2 g2 eg_name eg_name, ?_⟩
      have hlen : rw'.length ≤ 100 := by
        have := m1 _ hmem
        simpa using this
      refine s_forA (R' := jRow) (l := ga) (acc := acc1) (F := fun p => Mir.swPut (b, l) (rw', lf) p) (ei_range1 (ea_cons (ev_II (g := fun i j => i - j) (ev_II (g := fun i j => i + j) (ev_var (i := 0) (x := n) rfl rfl) (ev_int (i := 1))) (ev_var (i := 5) (x := l) rfl rfl)) ea_nil) ⟨by omega, by omega⟩) t4
        (fun σ => ∃ o9, σ = [some (.int n), some v', some v'', some vr, some (.int b), some (.int l), some (.ref ga), some y4, some (.int lf), o9]) (fun _ _ => True) (fun _ _ _ _ _ _ => trivial) ⟨_, rfl⟩ trivial og4
        (fun pl S5 σ5 H5 v5 acc2 N5 hpl t5 s5 hv5 ⟨o9, e5⟩ _ og5 l5 hN5 => ?_) (fun S5 σ5 H5 t5 s5 ⟨o9, e5⟩ _ og5 => hN4 S5 σ5 H5 t5 s5 ⟨_, _, _, e5⟩ trivial og5)
      subst e5
      have hv5 : v5 = .int pl := hv5
      subst hv5
      refine ⟨_, eg_name, ?_⟩
      have hbd : acc2.length + (Mir.swPut (b, l) (rw', lf) pl).length ≤ 10000 := by
        have l4' : acc1.length + ((rng 0 (n + 1 - l)).flatMap fun p => Mir.swPut (b, l) (rw', lf) p).length ≤ 0 + (Mir.swTurn n rows (b, l)).length := l4
        have l5' : acc2.length + (Mir.swPut (b, l) (rw', lf) pl).length ≤ acc1.length + ((rng 0 (n + 1 - l)).flatMap fun p => Mir.swPut (b, l) (rw', lf) p).length := l5
        omega
      have hrow : jSt S5 y4 rw' := Up.up s5 g3
      have cat : ∀ S6, Same S5 S6 → EvR Z _ _ S6 jSt (rw' ++ [pl]) := fun S6 s6 => ev_cat (ev_var (σ := [some (.int n), some v', some v'', some vr, some (.int b), some (.int l), some (.ref ga), some y4, some (.int lf), some (.int pl)]) (i := 7) (x := rw') rfl (Up.up s6 hrow)) (ev_lst (xs := [pl]) (el_cons (ev_var (i := 9) (x := pl) rfl rfl) el_nil) (by simp)) (by show rw'.length + 1 ≤ 100000; omega)
      unfold Mir.swPut at hbd hN5
      refine s_if (et_test (ev_eqI (ev_var (x := pl) rfl rfl) (ev_var (x := b) rfl rfl))) t5.ok (fun hb S6 H6 t6 => ?_) (fun hb S6 H6 t6 => ?_)
      · have hb : pl = b := of_decide_eq_true hb
        rw [if_pos hb] at hN5 hbd
        refine s_app' (x := (rw' ++ [pl], lf)) rfl (og5.step t6) (ev_tup2 (ea_cons (cat S6 t6.ss) (ea_cons (ev_var (x := lf) rfl rfl) ea_nil))) (t5.trans t6) hg0 ?_ fun S7 H7 t7 s7 og7 _ => hN5 S7 _ H7 t7 (t6.ss.trans s7) ⟨_, rfl⟩ trivial og7
        have : acc2.length + 1 ≤ 10000 := hbd
        omega
      · have hb : ¬ pl = b := of_decide_eq_false hb
        rw [if_neg hb] at hN5 hbd
        refine s_if (et_test (ev_IB (ev_var (x := l) rfl rfl) (ev_var (x := lf) rfl rfl))) t6.ok (fun hb S7 H7 t7 => ?_) (fun hb S7 H7 t7 => ?_)
        · have hb : l ≤ lf := of_decide_eq_true hb
          rw [if_pos hb] at hN5 hbd
          refine s_app' (x := (rw' ++ [pl], lf - l)) rfl ((og5.step t6).step t7) (ev_tup2 (ea_cons (cat S7 (t6.ss.trans t7.ss)) (ea_cons (ev_II (g := fun i j => i - j) (ev_var (x := lf) rfl rfl) (ev_var (x := l) rfl rfl)) ea_nil))) ((t5.trans t6).trans t7) hg0 ?_ fun S8 H8 t8 s8 og8 _ => hN5 S8 _ H8 t8 ((t6.ss.trans t7.ss).trans s8) ⟨_, rfl⟩ trivial og8
          have : acc2.length + 1 ≤ 10000 := hbd
          omega
        · have hb : ¬ l ≤ lf := of_decide_eq_false hb
          rw [if_neg hb] at hN5 hbd
          refine hN5 S7 _ H7 ((t5.trans t6).trans t7) (t6.ss.trans t7.ss) ⟨_, rfl⟩ trivial ?_
          rw [List.append_nil]
          exact (og5.step t6).step t7
    · subst e4
      obtain ⟨S5, t5, s5, r5⟩ := og4.frz t4 hg0
      exact s_set (ev_var rfl r5) t5.ok fun S6 H6 v6 t6 h6 => hN S6 _ H6 (t5.trans t6) (s4.trans (s5.trans t6.ss)) ⟨_, _, _, _, _, _, _, rfl, h6, m5⟩
  · rintro S2 σ2 H2 t2 s2 ⟨vr, o4, o5, o6, o7, o8, o9, rfl, hrw, hok⟩
    rw [List.take_length] at hrw
    refine q_ret ((ev_lcM (ei_list (ev_var (i := 3) rfl hrw)) (fun r => r.1) (fun S1 v1 x hx s1 ⟨a, y, z, e, h1, h2, h3⟩ => ?_) ?_)) t2 q
    · subst e
      exact ⟨_, eg_tup2 h1 eg_name eg_name, rfl, ev_var rfl h2⟩
    · have : (Mir.startsWithin n bu L).length ≤ 10000 := p3
      unfold Mir.startsWithin at this
      rw [List.length_map] at this
      omega
abbrev N_relocations : List Str := ["contract", "layout", "rows", "row"]
theorem sc_relocations : FnScope N_relocations ["contract", "layout"] (defScope s_relocations) := ⟨rfl, rfl, rfl, by decide +kernel, rfl, by decide +kernel, by decide +kernel⟩
theorem ok_relocations (F : FnP K "relocations" "relocations" s_relocations f fd) (T : Txt K mg) (c_starts_within : Cal Pg w K mg base 1 (He.ga K "starts_within") ["size", "budget", "layout"] (spSW Z))
    (c_is_relocation : Cal Pg w K mg base 3 (He.ga K "is_relocation") ["size", "layout", "starts"] (spIsReloc Z)) : FnOk Pg w K mg base CX0 4 f fd ["contract", "layout"] (spReloc Z K) := by
  refine F.ok sc_relocations fn_len2 (fun cdv A outer s H vs Q E hr h => ⟨_, PSs.nox (pss_cons (ps_set (i := 2) sc_relocations.nd rfl (by first | exact Or.inl rfl | exact Or.inr rfl) (pe_call c_starts_within.ok (hr.mono (by decide)) rfl T.g_starts_within c_starts_within.kp c_starts_within.bd .nil pass0 (pa_cons (kFld K (pv 0)) (pa_cons (kFld K (pv 0)) (pa_cons (pv 1) pa_nil)))))
      (pss_one (ps_ret (pe_lc (own := [("row", 3)]) (g := gName 3) rfl sc_relocations.nd (kiList K (pv 2)) (blkOk_by (own := [("row", 3)]) (N := N_relocations) (sc := defScope s_relocations) (by first | decide +kernel | kernel_rfl)) (fun _ _ _ _ _ => (pg_name (i := 3) sc_relocations.nd rfl (Or.inl rfl))) (fun _ _ _ _ _ => (pts_one (pt_val (pe_call c_is_relocation.ok (hr.mono (by decide)) rfl T.g_is_relocation c_is_relocation.kp c_is_relocation.bd .nil pass0 (pa_cons (kFld K (pv 0)) (pa_cons (pv 1) (pa_cons (pv 3) pa_nil))))))) (fun _ _ _ _ _ => (pv 3)))))), ?_⟩)
  obtain ⟨S, ⟨c, L, u⟩, k, ⟨v, r, rfl, hc, v', r', rfl, hL, hr'⟩, p, q⟩ := h
  cases hr'
  have p : Mir.relPre c L = true := p
  unfold Mir.relPre at p
  simp only [Bool.and_eq_true, List.all_eq_true, decide_eq_true_eq] at p
  obtain ⟨p1, p2⟩ := p
  have p3 := p1
  unfold Mir.swPre at p3
  simp only [Bool.and_eq_true, decide_eq_true_eq] at p3
  obtain ⟨p3, _, p4⟩ := p3
  have hc : jCon K S v c := hc
  have hL : jLay S v' L := hL
  refine q_set (ev_call (x := (c.size, c.budget, L, ())) (ea_cons (ev_size T (ev_var rfl hc)) (ea_cons (ev_budget T (ev_var rfl hc)) (ea_cons (ev_var rfl hL) ea_nil))) p1) (.refl k) fun S1 H1 v1 t1 s1 t1' h1 => ?_
  refine q_ret ((ev_lc (ei_list (ev_var rfl h1)) (fun st => Mir.isReloc c.size L st) (fun st => st) (fun S2 v2 x hx s2 h2 => ?_) (Nat.le_trans p4 (by decide))).is (List.map_id _)) t1 q
  exact ⟨_, eg_name, rfl, et_B (ev_call (x := (c.size, L, x, ())) (ea_cons (ev_size T (ev_var (x := c) rfl (Up.up (s1.trans s2) hc))) (ea_cons (ev_var rfl (Up.up (s1.trans s2) hL)) (ea_cons (ev_var rfl h2) ea_nil))) ⟨p3, p2 x hx⟩), fun _ => ev_var rfl h2⟩
end
end Hg
end Z_D4

section Z_HgK
set_option maxHeartbeats 4000000
/-! sorted(xs, key=f), f a def, its keys any data (lists within them too). -/
namespace Hg
open PySem PySem.Spec PyProof.Rows L2
open PySem.W (EachIs)
/-- a def called two floors below -/
theorem run_in2 {X : Cx} {k : Nat} {f : Addr} {fd : FuncData} {ps : List Str} {sp : Sp} {pins : List (Addr × Obj)} {σ : L2.St} {H : Hp} {s : Shared} {Q : VK} {E : XK} {us : List Value} {vs : List V} {E' : Value → Shared → Prop}
    (F : FnOk X.prog X.w X.K X.mg X.base CX0 k f fd ps sp) (hr : Room (k + 2) X.A) (hb : Binds X.K fd ps []) (I : L2.Inv X pins σ H s) (r : Vals vs us) (h : sp vs H Q E) :
    wpAny (model X.prog X.w) X.A.in1.in1 (call (.ref f) us) (EP X pins σ Q) E' s := by
  have hl : (us ++ []).length = ps.length := by
    rw [List.append_nil, ← r.length]
    exact F.len _ _ _ _ h
  have hb' := hb s us I.kIn hl
  rw [List.append_nil] at hb'
  refine wpAny_call (codeAny_mono (F.run X.A.in1.in1 X.stack s H ⟨us, []⟩ us vs Q E hr.in1.in1 I.env0.in1.in1 hb' r h) fun r s' hq => ?_)
  cases r with
  | error e => exact False.elim hq
  | ok fl =>
    cases fl with
    | ret u => exact I.after hq
    | next => exact False.elim hq
    | brk => exact False.elim hq
    | cont => exact False.elim hq
section
variable {Z : List Addr} {α κ : Type} {R : Rp α} {R' : Rp κ} {pre : α × Unit → Prop} {g : α × Unit → κ} {enc : κ → PyData} {le : α → α → Bool}
/-- sorted(xs, key=f): f is called on each item, then the items are sorted by the keys -/
def rSortKey (Z : List Addr) (fk : Addr) (R : Rp α) (pre : α × Unit → Prop) (le : α → α → Bool) : List V → List V → Hp → VK → Prop := fun vs zs H Q => ∃ (S : Hp) (a : Addr) (xs : List α), vs = [.ref a] ∧ zs = [.ref fk] ∧ Ok Z S H ∧ jL R S (.ref a) xs ∧ (∀ x ∈ xs, pre (x, ())) ∧
  ∀ S' H' v, Stp Z S H S' H' → jL R S' v (Mir.isort le xs) → Q v H'
theorem each_of {S : Hp} {X : Cx} {pins : List (Addr × Obj)} {σ : L2.St} {H : Hp} {s : Shared} (I : L2.Inv X pins σ H s) (e : Same S H) (hd : ∀ S v y, R' S v y → Dp X.K S v (enc y)) : ∀ {kv : List V} {ku : List Value} {ys : List κ}, Pr R' S kv ys → Vals kv ku →
    (hu : ∀ S S' v y, Same S S' → R' S v y → R' S' v y) → EachIs (fun v k => ∃ as, Reads s.heap v k as) ku (ys.map enc)
  | _, _, _, .nil, .nil, _ => .nil
  | _, _, _, .cons r t, .cons r2 t2, hu => .cons (Dp.reads I (enc _) _ _ (hd _ _ _ (hu _ _ _ _ e r)) r2) (each_of I e hd t t2 hu)
theorem pinMem {X : Cx} {p : Addr × Obj} {l : List (Addr × Obj)} : p ∈ X.pn ++ p :: l := List.mem_append_right _ List.mem_cons_self
theorem cr_sortKey {X : Cx} [Up R] [Up R'] {k : Nat} {f : Addr} {fd : FuncData} {ps : List Str} (F : FnOk X.prog X.w X.K X.mg X.base CX0 k f fd ps (Fn Z (aC R aN) pre R' g)) (hr : Room (k + 2) X.A) (hb : Binds X.K fd ps [])
    (E : Enc (fun x => enc (g (x, ()))) le) (hd : ∀ S v y, R' S v y → Dp X.K S v (enc y)) : CallRK X (.builtin "sorted") [Str.ofString "key"] (rSortKey Z f R pre le) := by
  intro pins s σ H vs zs us ws Q I r1 r2 h
  obtain ⟨S, l, xs, rfl, rfl, hS, ⟨l', vv, el, hl, hp⟩, hpre, q⟩ := h
  cases el
  obtain rfl := Vals.ref1 r1
  obtain rfl := Vals.ref1 r2
  obtain ⟨its, rv, hL, hz⟩ := I.list (SqL.of (hS.le _ _ hl))
  have hlen : its.length = xs.length := by rw [← rv.length, hp.len]
  have hzi : its.length ≤ sizeLine := by rw [← rv.length]; exact hz
  show wpAny _ _ (call (.builtin "sorted") [.ref l] [(Str.ofString "key", .ref f)]) _ _ s
  refine PySem.W.sorted_of_sort hL.isList hzi (ksk_s1 _ _) (fun x => by unfold argsOk; kernel_rfl) fun E' => ?_
  rw [ksk_t1]
  have at0 := PySem.W.copyHeap_at s.heap its
  have old0 : ∀ b o, s.heap.get? b = some o → (PySem.W.copyHeap s.heap its).get? b = some o := fun b o e => PySem.W.copyHeap_old e
  have szc : s.heap.objs.size + 1 < (PySem.W.copyHeap s.heap its).objs.size := Heap.lt_size at0
  generalize PySem.W.copyHeap s.heap its = hc at at0 old0 szc
  obtain ⟨ep, at1⟩ : ∃ ep, (hc.update (s.heap.objs.size + 1) (Obj.mapSeq fun _ => (#[] : Array Value))).get? (s.heap.objs.size + 1) = some (seqObj "list" #[] ep) := ⟨_, get?_update_seq at0 fun _ => #[]⟩
  unfold ksk_tree
  refine wpAny_bind (listItems_at at0 rfl ?_)
  refine wpAny_bind (listUpdate_at at0 rfl ?_ (by rw [List.size_toArray]; exact hzi) (Nat.zero_le _))
  refine wpAny_bind (seqEpoch_at at1 rfl ?_)
  refine wpAny_bind (wpAny_newTuple ?_ (by show its.length ≤ _; exact hzi))
  refine wpAny_bind (wpAny_newList ?_ (Nat.zero_le _))
  refine wpAny_holding ?_
  -- the two lists of the sort stand in the heap, untracked
  have old1 : ∀ b o, s.heap.get? b = some o → (((hc.update (s.heap.objs.size + 1) (Obj.mapSeq fun _ => (#[] : Array Value))).push (seqObj "tuple" its.toArray 0)).push (seqObj "list" #[] 0)).get? b = some o := fun b o e => by
    have hlt := Heap.lt_size e
    refine Heap.get?_push_of_some _ (Heap.get?_push_of_some _ ?_)
    rw [Heap.get?_update_ne _ _ _ _ (Nat.ne_of_lt (Nat.lt_succ_of_lt hlt))]
    exact old0 b o e
  have szq : ((hc.update (s.heap.objs.size + 1) (Obj.mapSeq fun _ => (#[] : Array Value))).push (seqObj "tuple" its.toArray 0)).objs.size = hc.objs.size + 1 := by rw [Heap.size_push, Heap.size_update]
  have atq : (((hc.update (s.heap.objs.size + 1) (Obj.mapSeq fun _ => (#[] : Array Value))).push (seqObj "tuple" its.toArray 0)).push (seqObj "list" #[] 0)).get? ((hc.update (s.heap.objs.size + 1) (Obj.mapSeq fun _ => (#[] : Array Value))).push (seqObj "tuple" its.toArray 0)).objs.size = some (seqObj "list" #[] 0) := Heap.get?_push_size _ rfl
  have ata : (((hc.update (s.heap.objs.size + 1) (Obj.mapSeq fun _ => (#[] : Array Value))).push (seqObj "tuple" its.toArray 0)).push (seqObj "list" #[] 0)).get? (s.heap.objs.size + 1) = some (seqObj "list" #[] ep) := Heap.get?_push_of_some _ (Heap.get?_push_of_some _ at1)
  rw [szq] at atq
  have a2 : s.heap.objs.size + 1 ≠ hc.objs.size + 1 := by omega
  rw [szq]
  generalize ((hc.update (s.heap.objs.size + 1) (Obj.mapSeq fun _ => (#[] : Array Value))).push (seqObj "tuple" its.toArray 0)).push (seqObj "list" #[] 0) = h1 at old1 atq ata
  have aH : H (s.heap.objs.size + 1) = none := I.hok.fresh (Nat.le_succ _)
  have qH : H (hc.objs.size + 1) = none := I.hok.fresh (by omega)
  have fa : FpOk X pins H (s.heap.objs.size + 1) := I.fpOk (Nat.le_succ _) aH
  have fq : FpOk X pins H (hc.objs.size + 1) := I.fpOk (by omega) qH
  generalize s.heap.objs.size + 1 = A at *
  generalize hc.objs.size + 1 = B at *
  have I1 : L2.Inv X pins σ H { s with heap := h1, toks := s.toks } := I.kept old1
  have nocell : ∀ (T : String) (vs : Array Value) (n : Nat) (v : Option Value), (seqObj T vs n).data ≠ .cell v := fun T vs n v e => by cases e
  have pin2 : ∀ {H2 : Hp} {s2 : Shared} {ka : Array Value} {e : Nat}, L2.Inv X pins σ H2 s2 → s2.heap.get? B = some (seqObj "list" ka e) → s2.heap.get? A = some (seqObj "list" #[] ep) → H2 A = none → H2 B = none → L2.Inv X ((B, seqObj "list" ka e) :: (A, seqObj "list" #[] ep) :: pins) σ H2 s2 := fun {H2 s2 ka e} J h1 h2 h3 h4 => by
    refine J.pins_of fun p hp => ?_
    rcases List.mem_cons.mp hp with z | hp
    · rw [z]
      exact ⟨h1, h4, fq.2.1, fq.2.2.1, nocell _ _ _⟩
    rcases List.mem_cons.mp hp with z | hp
    · rw [z]
      exact ⟨h2, h3, fa.2.1, fa.2.2.1, nocell _ _ _⟩
    · exact J.pin p (List.mem_append_right _ hp)
  unfold ksk_rest
  refine wpAny_bind (wpAny_rule ?_)
  first
    | rw [List.forIn_toArray]
    | (rw [← Array.forIn_toList]; simp only [List.toList_toArray])
  refine wpAny_bind (ksk_fold (fun i s2 => ∃ (S2 H2 : Hp) (ka : Array Value) (e : Nat) (kv : List V), Stp Z S H S2 H2 ∧ L2.Inv X pins σ H2 s2 ∧ s2.heap.get? B = some (seqObj "list" ka e) ∧ s2.heap.get? A = some (seqObj "list" #[] ep) ∧ H2 A = none ∧ H2 B = none ∧ Vals kv ka.toList ∧ Pr R' S2 kv ((xs.take i).map fun x => g (x, ()))) its 0 _
    ⟨S, H, #[], 0, [], .refl hS, I1, atq, ata, aH, qH, .nil, by rw [List.take_zero]; exact .nil⟩ (fun j u s2 hj ⟨S2, H2, ka, e, kv, t2, I2, hB, hA, nA, nB, rk, pk⟩ => ?_) fun s2 ⟨S2, H2, ka, e, kv, t2, I2, hB, hA, nA, nB, rk, pk⟩ => ?_)
  · rw [Nat.zero_add] at pk ⊢
    have hjl : j < its.length := (List.getElem?_eq_some_iff.mp hj).1
    obtain ⟨v, hv⟩ : ∃ v, vv[j]? = some v := ⟨_, List.getElem?_eq_getElem (by rw [rv.length]; exact hjl)⟩
    obtain ⟨u', hu', ru⟩ := rv.get hv
    rw [hj] at hu'
    cases hu'
    obtain ⟨x, hx, rx⟩ := hp.get hv
    have kl : ka.size ≤ its.length := by
      have h1 : kv.length = ka.size := rk.length.trans (Array.length_toList)
      have h2 := pk.len
      rw [List.length_map, List.length_take] at h2
      omega
    refine wpAny_bind (wpAny_attempt (wpAny_mono (run_in2 (E := E0) (E' := fun _ _ => False) (Q := fun r H3 => ∃ S3, Stp Z S2 H2 S3 H3 ∧ R' S3 r (g (x, ()))) F hr hb (pin2 I2 hB hA nA nB) (.cons ru .nil) ⟨S2, (x, ()), t2.ok, ⟨v, [], rfl, Up.up t2.ss rx, rfl⟩, hpre x (List.mem_of_getElem? hx), fun S3 H3 r t rr => ⟨S3, t, rr⟩⟩) (fun y s3 he => ?_) fun _ _ z => z.elim))
    obtain ⟨r, H3, I3, ry, S3, t3, rr⟩ := he
    obtain ⟨b1, b2, b3, b4, b5⟩ := I3.pin _ pinMem
    obtain ⟨c1, c2, c3, c4, c5⟩ := I3.pin (A, seqObj "list" #[] ep) (List.mem_append_right _ (List.mem_cons_of_mem _ List.mem_cons_self))
    have J3 : L2.Inv X pins σ H3 s3 := I3.pins_of fun p hp => I3.pin p (List.mem_append_right _ (List.mem_cons_of_mem _ (List.mem_cons_of_mem _ hp)))
    obtain ⟨e2, at2⟩ : ∃ e2, (s3.heap.update B (Obj.mapSeq (·.push y))).get? B = some (seqObj "list" (ka.push y) e2) := ⟨_, get?_update_seq b1 (·.push y)⟩
    have ne : ∀ b, b ≠ B → (s3.heap.update B (Obj.mapSeq (·.push y))).get? b = s3.heap.get? b := fun b hb => Heap.get?_update_ne _ _ _ _ hb
    try dsimp only
    refine wpAny_bind (listUpdate_at b1 rfl ?_ (Nat.le_trans kl hzi) (Nat.le_trans (Nat.le_of_eq (Array.size_push ..)) (Nat.succ_le_succ (Nat.le_trans kl hzi))))
    refine wpAny_pure ⟨rfl, S3, H3, ka.push y, e2, kv ++ [r], t2.trans t3, ?_, at2, (ne A a2).trans c1, c2, b2, ?_, ?_⟩
    · exact J3.turnedL (ch := [B]) (t' := s3.toks) (fun b o hb ho => by
        rw [ne b (fun z => hb (by simp [z]))]
        exact ho) fun b hb => by
        have z : b = B := by simpa using hb
        rw [z]
        exact ⟨b2, fq.2⟩
    · rw [Array.toList_push]
      exact rk.append (.cons ry .nil)
    · rw [List.take_add_one, hx, List.map_append]
      exact (pk.up t3.ss).app (Pr.one rr)
  · rw [Nat.zero_add, List.take_of_length_le (by omega)] at pk
    have hks : ka.size = its.length := by
      have h1 : kv.length = ka.size := rk.length.trans (Array.length_toList)
      have h2 := pk.len
      rw [List.length_map] at h2
      omega
    have e1 : EachIs (fun v k => ∃ as, Reads s2.heap v k as) ka.toList ((xs.map fun x => g (x, ())).map enc) := each_of I2 t2.ok.le hd pk rk fun _ _ _ _ a b => Up.up a b
    have hkz : (xs.map fun x => g (x, ())).map enc = (vv.zip xs).map fun b => enc (g (b.2, ())) := by
      have : xs = (vv.zip xs).map (·.2) := by rw [List.map_snd_zip (Nat.le_of_eq hp.len.symm)]
      conv => lhs; rw [this]
      rw [List.map_map, List.map_map]
      rfl
    have e2 := each_zip (xs := xs) rv hp.len
    try dsimp only
    refine wpAny_bind (listItems_at hB rfl ?_)
    have al : PySem.W.AllAlike ((vv.zip xs).map fun b => enc (g (b.2, ()))) := PySem.W.AllAlike.of fun b b' => E.al b.2 b'.2
    have so : PySem.W.Sortable ((vv.zip xs).map fun b => enc (g (b.2, ()))) := by
      rcases E.so with h | h
      · exact PySem.W.Sortable.tuples fun b => h b.2
      · exact PySem.W.Sortable.others fun b => h b.2
    rw [hkz] at e1
    have dp : ∀ d, d ∈ (vv.zip xs).map (fun b => enc (g (b.2, ()))) → X.A.in1.in1.units + d.depth < cLine := fun d m => by
      obtain ⟨b, _, rfl⟩ := List.mem_map.mp m
      have h1 := E.dp b.2
      have h2 := hr.un
      show X.A.units + 1 + 1 + _ < cLine
      omega
    refine PySem.W.keyH_end (κ := PySem.W.dataKind s2.heap ((vv.zip xs).map fun b => enc (g (b.2, ())))) (h₁ := hidT s2.heap fun b => if b = B then some (.lst []) else none) (fun b o _ e => (of_hidT e).1) ?_ hB hA (Ne.symm a2) (PySem.W.SortsAt.data e1 al so dp) hks hzi fun h3 tk3 c k3 n3 => ⟨rfl, ?_⟩
    · cases z : (hidT s2.heap fun b => if b = B then some (HO.lst []) else none).get? B with
      | none => rfl
      | some o =>
        have z2 := (of_hidT z).2
        rw [if_pos rfl] at z2
        cases z2
    · have J : L2.Inv X pins σ H2 { s2 with heap := h3, toks := tk3 } := I2.turnedL (ch := [B, A]) (fun b o hb ho => by
        have n1 : b ≠ B := fun z => hb (by simp [z])
        have n2 : b ≠ A := fun z => hb (by simp [z])
        exact k3 b o n2 (hidT_get ho (if_neg n1))) fun b hb => by
        rcases List.mem_cons.mp hb with z | hb
        · rw [z]
          exact ⟨nB, fq.2⟩
        · have z : b = A := by simpa using hb
          rw [z]
          exact ⟨nA, fa.2⟩
      have ko := PySem.W.keyedOut_each (rev := false) (R := fun u (b : V × α) => RelV b.1 u) (bs := vv.zip xs) (fun b => enc (g (b.2, ()))) ⟨s2.heap, ka.toList, al, rfl, e1⟩ e2
      have rv3 := each_vals ko
      have hl3 : (((vv.zip xs).mergeSort (PySem.W.dataLe false fun b => enc (g (b.2, ())))).map (·.1)).length ≤ sizeLine := by
        rw [List.length_map, List.length_mergeSort, List.length_zip, hp.len, Nat.min_self, ← hlen]
        exact hzi
      refine ⟨.ref A, upd H2 A (.lst _), J.take (h' := h3) (t' := tk3) (fun b o _ e => e) ⟨nA, fa.2⟩ ⟨hl3, _, c, rv3, n3⟩, rfl, q (upd S2 A (.lst _)) _ _ (t2.trans (t2.ok.add nA)) ⟨A, _, rfl, upd_same, ?_⟩⟩
      exact ((pr_sort E hp).up t2.ss).up (same_upd (t2.ok.free nA))
end
end Hg
end Z_HgK

section Z_HgO
set_option maxHeartbeats 4000000
/-! Objects that are made; membership in a list of ints; sorted by a key. -/
namespace Hg
open PySem L2
section
variable {Z : List Addr} {σ : L2.St} {S S' H S0 H0 : Hp} {α β γ : Type} {R : Rp α} {R' : Rp β} {te ta tb tl : TE} {tt tu : TT} {tr : TA} {x : α} {y : β} {v : V} {K : PySem.W.Frag} {D : Ends} {t1 t2 rest : TS}
/-- what an __init__ promises: the fields that stand at its end -/
def Ini (Z : List Addr) (C : Addr) (A : Ra α) (pre : α → Prop) (post : Hp → List (Str × V) → α → Prop) : Sp := fun vs H Q _ => ∃ (S H0 : Hp) (x : α) (a dx : Addr) (r : List V), vs = .ref a :: r ∧ Ok Z S H0 ∧ H0 a = none ∧ H0 dx = none ∧ dx ≠ a ∧ H = upd (upd H0 dx (.own a)) a (.ins C dx []) ∧ A S r x ∧ pre x ∧
  ∀ S' H' fs, Stp Z S H0 S' H' → H' a = some (.ins C dx fs) → post S' fs x → Q .non H'
/-- an object of the class at C whose fields stand for x -/
def jOb (C : Addr) (post : Hp → List (Str × V) → α → Prop) : Rp α := fun S v x => ∃ a dx fs, v = .ref a ∧ S a = some (.ins C dx fs) ∧ post S fs x
theorem ev_make {C : Addr} {A : Ra α} {pre : α → Prop} {post : Hp → List (Str × V) → α → Prop} {E : XK} (hpost : ∀ S S' fs x, Same S S' → post S fs x → post S' fs x) (h : EvA Z tr σ S A x) (p : pre x) : EvR Z (tMake C (Ini Z C A pre post) [] E tr) σ S (jOb C post) x := fun S1 H s k Q q =>
  h S1 H s k _ fun S2 H2 vs t a => by
    intro p1 d1 n1 n2 ne
    rw [List.append_nil]
    exact ⟨S2, H2, x, p1, d1, vs, rfl, t.ok, n1, n2, ne, rfl, a, p, fun S3 H3 fs t3 o3 ps => ⟨rfl, by
      cases e : S3 p1 with
      | none => exact q _ _ _ (t.trans (t3.frz n1 o3)) ⟨p1, d1, fs, rfl, upd_same, hpost _ _ _ _ (same_upd e) ps⟩
      | some o =>
        have e2 := t3.ok.le _ _ e
        rw [o3] at e2
        cases e2
        exact q _ _ _ (t.trans t3) ⟨p1, d1, fs, rfl, e, ps⟩⟩⟩
/-- self at the beginning of an __init__ -/
theorem ini_stp {a dx : Addr} {C : Addr} (k : Ok Z S H0) (n1 : H0 a = none) (n2 : H0 dx = none) (ne : dx ≠ a) : Stp Z S H0 S (upd (upd H0 dx (.own a)) a (.ins C dx [])) ∧ Own Z S (upd (upd H0 dx (.own a)) a (.ins C dx [])) a (.ins C dx []) := by
  have t1 : Stp Z S H0 S (upd H0 dx (.own a)) := k.mk' n2
  have n3 : upd H0 dx (.own a) a = none := by rw [upd_ne (Ne.symm ne)]; exact n1
  exact ⟨t1.trans (t1.ok.mk' n3), Own.new t1.ok n3⟩
/-- self.f = e -/
theorem s_fld {i : Nat} {a dx C : Addr} {fs : List (Str × V)} {f : Str} (ho : σ[i]? = some (some (.ref a))) (w : Own Z S H a (.ins C dx fs)) (h : EvR Z te σ S R x) (k : Stp Z S0 H0 S H) (h0 : H0 a = none) (c : Cls K C) (n : NoAttr K C f) (hl : fs.length < 1000)
    (nx : ∀ S' H' v, Stp Z S0 H0 S' H' → Same S S' → R S' v x → Own Z S' H' a (.ins C dx (putF f v fs)) → D.nx σ H') : sFld K (tVar i) te f D σ H :=
  h S H (Same.refl _) k.ok _ fun S1 H1 v t r => by
    have o1 := w.step t
    exact ⟨.ref a, ho, a, C, dx, fs, rfl, o1.at_, c, n, hl, nx S1 _ v ((k.trans t).put h0 o1.off) t.ss r o1.put⟩
theorem q_fld {i : Nat} {a dx C : Addr} {fs : List (Str × V)} {f : Str} (ho : σ[i]? = some (some (.ref a))) (w : Own Z S H a (.ins C dx fs)) (h : EvR Z te σ S R x) (k : Stp Z S0 H0 S H) (h0 : H0 a = none) (c : Cls K C) (n : NoAttr K C f) (hl : fs.length < 1000)
    (nx : ∀ S' H' v, Stp Z S0 H0 S' H' → Same S S' → R S' v x → Own Z S' H' a (.ins C dx (putF f v fs)) → rest D σ H') : tSeq (sFld K (tVar i) te f) rest D σ H := s_seq (s_fld ho w h k h0 c n hl nx)
theorem putF_lt {f : Str} {v : V} {n : Nat} : ∀ {fs : List (Str × V)}, fs.length < n → (putF f v fs).length < n + 1
  | [], h => Nat.succ_lt_succ h
  | (g, x) :: r, h => by
    unfold putF
    split
    · exact Nat.lt_succ_of_lt h
    · cases n with
      | zero => cases h
      | succ n => exact Nat.succ_lt_succ (putF_lt (Nat.lt_of_succ_lt_succ h))
/-- self.f = [] -/
theorem q_fldL {i : Nat} {a dx C : Addr} {fs : List (Str × V)} {f : Str} (ho : σ[i]? = some (some (.ref a))) (w : Own Z S H a (.ins C dx fs)) (k : Stp Z S0 H0 S H) (h0 : H0 a = none) (c : Cls K C) (n : NoAttr K C f) (hl : fs.length < 1000)
    (nx : ∀ p H', H0 p = none → p ≠ a → Stp Z S0 H0 S H' → Own Z S H' a (.ins C dx (putF f (.ref p) fs)) → OwnL Z S H' p R [] → rest D σ H') : tSeq (sFld K (tVar i) (tLst tNil) f) rest D σ H :=
  s_seq ⟨Nat.zero_le _, fun p hp => by
    have ne : p ≠ a := fun z => by
      rw [z, w.at_] at hp
      cases hp
    have t := k.trans (k.ok.mk' (o := .lst []) hp)
    have o1 := w.step (k.ok.mk' (o := .lst []) hp)
    exact ⟨.ref a, ho, a, C, dx, fs, rfl, o1.at_, c, n, hl, nx p _ (k.none hp) ne (t.put h0 o1.off) o1.put ((OwnL.nil k.ok hp).other ne)⟩⟩
/-! membership -/
theorem inV_ints (i : Int) (ns : List Int) : inV (.int i) (ns.map V.int) = ns.any fun j => decide (j = i) := by
  induction ns with
  | nil => rfl
  | cons n r ih =>
    have e : eqV (.int n) (.int i) = decide (n = i) := by
      by_cases h : n = i
      · rw [h, decide_eq_true rfl]
        simp [eqV]
      · rw [decide_eq_false h]
        simp [eqV, h]
    show (eqV (.int n) (.int i) || inV (.int i) (r.map V.int)) = _
    rw [e, ih]
    rfl
theorem flat_ints : ∀ ns : List Int, (ns.map V.int).all flatV = true
  | [] => rfl
  | _ :: r => flat_ints r
theorem ev_inI {i : Int} {ns : List Int} (ha : EvR Z ta σ S jI i) (hb : EvR Z tb σ S (jL jI) ns) : EvR Z (tOp (rIn K false) ta tb) σ S jB (ns.any fun j => decide (j = i)) :=
  ev_op ha hb fun S1 H v w Q s k hv ⟨a, vs, e1, h1, p1⟩ q => by
    have hv : v = .int i := hv
    subst hv
    refine ⟨a, vs, e1, Or.inl (SqL.of (k.le _ _ h1)), rfl, ?_, q S1 H _ (.refl k) ?_⟩
    · rw [p1.ints]
      exact flat_ints ns
    · show V.bl _ = V.bl _
      rw [p1.ints, inV_ints]
      rfl
theorem ev_notinI {i : Int} {ns : List Int} (ha : EvR Z ta σ S jI i) (hb : EvR Z tb σ S (jL jI) ns) : EvR Z (tOp (rIn K true) ta tb) σ S jB (!ns.any fun j => decide (j = i)) :=
  ev_op ha hb fun S1 H v w Q s k hv ⟨a, vs, e1, h1, p1⟩ q => by
    have hv : v = .int i := hv
    subst hv
    refine ⟨a, vs, e1, Or.inl (SqL.of (k.le _ _ h1)), rfl, ?_, q S1 H _ (.refl k) ?_⟩
    · rw [p1.ints]
      exact flat_ints ns
    · show V.bl _ = V.bl _
      rw [p1.ints, inV_ints]
      rfl
/-! sorted by a key -/
theorem ev_sortKey [Up R] {xs : List α} {fk : Addr} {pre : α × Unit → Prop} {le : α → α → Bool} (ha : EvR Z ta σ S (jL R) xs) (hp : ∀ x ∈ xs, pre (x, ())) : EvR Z (tCKw (rSortKey Z fk R pre le) (tCons ta tNil) (tCons (tC (.ref fk)) tNil)) σ S (jL R) (Mir.isort le xs) := fun S1 H s k Q q =>
  ha S1 H s k _ fun S2 H2 v t ⟨a, vs, e, h, p⟩ => ⟨S2, a, xs, by rw [e], rfl, t.ok, ⟨a, vs, rfl, h, p⟩, hp, fun S3 H3 v3 t3 r3 => q S3 H3 v3 (t.trans t3) r3⟩
end
end Hg
end Z_HgO

section Z_D5
set_option maxHeartbeats 4000000
namespace Mir
def repPre (c : Con) (L : Lay) (len : Int) : Bool := (c.lengths.length ≤ 100 && (requestable c L).any fun z => decide (z = len)) && (decide (L.length ≤ 100) && (relPre c L && ((relocations c L).all (fun st => decide (st.length ≤ 100)) && (decide (-1000 ≤ c.size + 1 - len) && (decide (c.size + 1 - len ≤ 1000) && decide ((repliesRaw c L len).length ≤ 10000))))))
def afterPre (L : Lay) (r : Rep) : Bool := decide (L.length ≤ 100) && (decide (r.1.length ≤ 100) && decide ((relocated L r.1).length ≤ 100))
def betterPre (a b : Con) : Bool := decide (a.lengths.length ≤ 100) && decide (b.lengths.length ≤ 100)
end Mir
namespace Hg
open PySem L2
abbrev jRep : Rp Mir.Rep := j3 jSt jI jI
abbrev jFnd : Rp Mir.Fnd := j3 jI jSt jI
def spKey (Z : List Addr) : Sp := Fn Z (aC jRep aN) (fun _ => True) jFnd fun p => (p.1.2.2, p.1.1, p.1.2.1)
def spReplies (Z : List Addr) (K : PySem.W.Frag) : Sp := Fn Z (aC (jCon K) (aC jLay (aC jI aN))) (fun p => Mir.repPre p.1 p.2.1 p.2.2.1 = true) (jL jRep) fun p => Mir.replies p.1 p.2.1 p.2.2.1
def spAfter (Z : List Addr) : Sp := Fn Z (aC jLay (aC jI (aC jRep aN))) (fun p => Mir.afterPre p.1 p.2.2.1 = true) jLay fun p => Mir.after p.1 p.2.1 p.2.2.1
def spBetter (Z : List Addr) (K : PySem.W.Frag) : Sp := Fn Z (aC (jCon K) (aC (jCon K) aN)) (fun p => Mir.betterPre p.1 p.2.1 = true) jB fun p => Mir.isBetter p.1 p.2.1
def postCon (S : Hp) (fs : List (Str × V)) (c : Mir.Con) : Prop := ∃ l, fs.lookup ("size" : Str) = some (.int c.size) ∧ fs.lookup ("limit" : Str) = some (.int c.limit) ∧ fs.lookup ("lengths" : Str) = some l ∧ fs.lookup ("budget" : Str) = some (.int c.budget) ∧ jL jI S l c.lengths
def spConI (Z : List Addr) (K : PySem.W.Frag) : Sp := Ini Z (He.ga K "Contract") (aC jI (aC jI (aC (jL jI) (aC jI aN)))) (fun _ => True) fun S fs p => postCon S fs ⟨p.1, p.2.1, p.2.2.1, p.2.2.2.1⟩
section
variable {Pg : Program} {w : World} {K : PySem.W.Frag} {mg : Str → Option Value} {base : Heap} {Z : List Addr} {f : Addr} {fd : FuncData}
theorem jCon_of {S : Hp} {v : V} {c : Mir.Con} (h : jOb (He.ga K "Contract") postCon S v c) : jCon K S v c := let ⟨a, dx, fs, e1, e2, l, h1, h2, h3, h4, h5⟩ := h; ⟨a, dx, fs, l, e1, e2, h1, h2, h3, h4, h5⟩
theorem dp_Fnd (S : Hp) (v : V) (y : Mir.Fnd) (h : jFnd S v y) : Dp K S v (encF y) := dp_F S v y h
abbrev N_reply_key : List Str := ["reply"]
theorem sc_reply_key : FnScope N_reply_key ["reply"] (defScope s_reply_key) := ⟨rfl, rfl, rfl, by decide +kernel, rfl, by decide +kernel, by decide +kernel⟩
theorem ok_reply_key (F : FnP K "reply_key" "reply_key" s_reply_key f fd) (T : Txt K mg) : FnOk Pg w K mg base CX0 1 f fd ["reply"] (spKey Z) := by
  refine F.ok sc_reply_key fn_len1 (fun cdv A outer s H vs Q E hr h => ⟨_, PSs.nox (pss_one (ps_ret (pe_tup (pa_cons (pe_ix (kIxT K) (pv 0) pe_int (fun _ _ => rfl)) (pa_cons (pe_ix (kIxT K) (pv 0) pe_int (fun _ _ => rfl)) (pa_cons (pe_ix (kIxT K) (pv 0) pe_int (fun _ _ => rfl)) pa_nil)))))), ?_⟩)
  obtain ⟨S, ⟨⟨st, sa, pr⟩, u⟩, k, ⟨v, r, rfl, hv, hr'⟩, p, q⟩ := h
  cases hr'
  have hv : jRep S v (st, sa, pr) := hv
  exact s_ret (ev_tup3 (ea_cons (ev_3_2 (R := jSt) (R' := jI) (x := st) (y := sa) (ev_var rfl hv) (ev_int (i := 2))) (ea_cons (ev_3_0 (R' := jI) (R'' := jI) (y := sa) (z := pr) (ev_var rfl hv) (ev_int (i := 0))) (ea_cons (ev_3_1 (R := jSt) (R'' := jI) (x := st) (z := pr) (ev_var rfl hv) (ev_int (i := 1))) ea_nil)))) k q
abbrev N_after_reply : List Str := ["layout", "length", "reply"]
theorem sc_after_reply : FnScope N_after_reply ["layout", "length", "reply"] (defScope s_after_reply) := ⟨rfl, rfl, rfl, by decide +kernel, rfl, by decide +kernel, by decide +kernel⟩
theorem ok_after_reply (F : FnP K "after_reply" "after_reply" s_after_reply f fd) (T : Txt K mg) (c_with_block : Cal Pg w K mg base 1 (He.ga K "with_block") ["layout", "start", "length"] (spWithBlock Z))
    (c_relocated : Cal Pg w K mg base 2 (He.ga K "relocated") ["layout", "starts"] (spRelocated Z)) : FnOk Pg w K mg base CX0 3 f fd ["layout", "length", "reply"] (spAfter Z) := by
  refine F.ok sc_after_reply fn_len3 (fun cdv A outer s H vs Q E hr h => ⟨_, PSs.nox (pss_one (ps_ret (pe_call c_with_block.ok (hr.mono (by decide)) rfl T.g_with_block c_with_block.kp c_with_block.bd .nil pass0 (pa_cons (pe_call c_relocated.ok (hr.mono (by decide)) rfl T.g_relocated c_relocated.kp c_relocated.bd .nil pass0 (pa_cons (pv 0) (pa_cons (pe_ix (kIxT K) (pv 2) pe_int (fun _ _ => rfl)) pa_nil))) (pa_cons (pe_ix (kIxT K) (pv 2) pe_int (fun _ _ => rfl)) (pa_cons (pv 1) pa_nil)))))), ?_⟩)
  obtain ⟨S, ⟨L, ln, ⟨st, sa, pr⟩, u⟩, k, ⟨v, r, rfl, hL, v', r', rfl, hl, v'', r'', rfl, hv, hr'⟩, p, q⟩ := h
  cases hr'
  have p : Mir.afterPre L (st, sa, pr) = true := p
  unfold Mir.afterPre at p
  simp only [Bool.and_eq_true, decide_eq_true_eq] at p
  have hv : jRep S v'' (st, sa, pr) := hv
  exact s_ret (ev_call (x := (Mir.relocated L st, sa, ln, ())) (ea_cons (ev_call (x := (L, st, ())) (ea_cons (ev_var rfl hL) (ea_cons (ev_3_0 (R' := jI) (R'' := jI) (y := sa) (z := pr) (ev_var rfl hv) (ev_int (i := 0))) ea_nil)) ⟨p.1, p.2.1⟩) (ea_cons (ev_3_1 (R := jSt) (R'' := jI) (x := st) (z := pr) (ev_var rfl hv) (ev_int (i := 1))) (ea_cons (ev_var rfl hl) ea_nil))) p.2.2) k q
abbrev N_replies : List Str := ["contract", "layout", "length", "found", "starts", "moved", "price", "start"]
theorem sc_replies : FnScope N_replies ["contract", "layout", "length"] (defScope s_replies) := ⟨rfl, rfl, rfl, by decide +kernel, rfl, by decide +kernel, by decide +kernel⟩
theorem ok_replies (F : FnP K "replies" "replies" s_replies f fd) (T : Txt K mg) (c_requestable : Cal Pg w K mg base 2 (He.ga K "requestable") ["contract", "layout"] (spReq Z K)) (c_relocations : Cal Pg w K mg base 4 (He.ga K "relocations") ["contract", "layout"] (spReloc Z K))
    (c_relocated : Cal Pg w K mg base 2 (He.ga K "relocated") ["layout", "starts"] (spRelocated Z)) (c_cost : Cal Pg w K mg base 1 (He.ga K "cost") ["layout", "starts"] (spCost Z)) (c_fits : Cal Pg w K mg base 1 (He.ga K "fits") ["size", "layout", "start", "length"] (spFits Z))
    (c_reply_key : Cal Pg w K mg base 1 (He.ga K "reply_key") ["reply"] (spKey Z)) : FnOk Pg w K mg base CX0 5 f fd ["contract", "layout", "length"] (spReplies Z K) := by
  refine F.ok sc_replies fn_len3 (fun cdv A outer s H vs Q E hr h => ⟨_, PSs.nox (pss_cons (ps_if (pt_cmpR (kNotIn K) (pv 2) (pe_call c_requestable.ok (hr.mono (by decide)) rfl T.g_requestable c_requestable.kp c_requestable.bd .nil pass0 (pa_cons (pv 0) (pa_cons (pv 1) pa_nil))) (by rfl)) (pss_one ps_never) pss_nil)
      (pss_cons (ps_set (i := 3) sc_replies.nd rfl (by first | exact Or.inl rfl | exact Or.inr rfl) (pe_lst pa_nil))
      (pss_cons (ps_for PassesOwn.never rfl (kiList K (pe_call c_relocations.ok (hr.mono (by decide)) rfl T.g_relocations c_relocations.kp c_relocations.bd .nil pass0 (pa_cons (pv 0) (pa_cons (pv 1) pa_nil)))) (pg_name (i := 4) sc_replies.nd rfl (by first | exact Or.inl rfl | exact Or.inr rfl)) (pss_cons (ps_set (i := 5) sc_replies.nd rfl (by first | exact Or.inl rfl | exact Or.inr rfl) (pe_call c_relocated.ok (hr.mono (by decide)) rfl T.g_relocated c_relocated.kp c_relocated.bd .nil pass0 (pa_cons (pv 1) (pa_cons (pv 4) pa_nil))))
      (pss_cons (ps_set (i := 6) sc_replies.nd rfl (by first | exact Or.inl rfl | exact Or.inr rfl) (pe_call c_cost.ok (hr.mono (by decide)) rfl T.g_cost c_cost.kp c_cost.bd .nil pass0 (pa_cons (pv 1) (pa_cons (pv 4) pa_nil))))
      (pss_one (ps_for PassesOwn.never rfl (pi_range1 rfl T.f_range (pa_cons (pe_op op_sub (pe_op op_add (kFld K (pv 0)) pe_int) (pv 2)) pa_nil)) (pg_name (i := 7) sc_replies.nd rfl (by first | exact Or.inl rfl | exact Or.inr rfl)) (pss_one (ps_if (pt_val (pe_call c_fits.ok (hr.mono (by decide)) rfl T.g_fits c_fits.kp c_fits.bd .nil pass0 (pa_cons (kFld K (pv 0)) (pa_cons (pv 5) (pa_cons (pv 7) (pa_cons (pv 2) pa_nil)))))) (pss_one (ps_expr (pe_bm PySem.F.plainAttrs_list PySem.F.slot_list_append PySem.F.type_list_append mt_append (pv 3) (pa_cons (pe_tup (pa_cons (pv 4) (pa_cons (pv 7) (pa_cons (pv 6) pa_nil)))) pa_nil)))) pss_nil)))))))
      (pss_one (ps_ret (pe_callBK (cr_sortKey (Z := Z) (R := jRep) (le := Mir.leR) c_reply_key.ok (hr.mono (by decide)) c_reply_key.bd enc_R (fun S v y h => dp_Fnd S v y h)) rfl T.f_sorted (by decide +kernel) (pa_cons (pv 3) pa_nil) (pk_cons (pe_glob (v := .ref (He.ga K "reply_key")) rfl T.g_reply_key rfl) pk_nil))))))), ?_⟩)
  obtain ⟨S, ⟨c, L, ln, u⟩, k, ⟨v, r, rfl, hc, v', r', rfl, hL, v'', r'', rfl, hl, hr'⟩, p, q⟩ := h
  cases hr'
  have p : Mir.repPre c L ln = true := p
  unfold Mir.repPre at p
  simp only [Bool.and_eq_true, decide_eq_true_eq, List.all_eq_true] at p
  obtain ⟨⟨p1, p2⟩, p3, p4, p5, p6, p7, p8⟩ := p
  have hc : jCon K S v c := hc
  have hL : jLay S v' L := hL
  have hl : v'' = .int ln := hl
  subst hl
  refine q_if (et_test (ev_notinI (ev_var (x := ln) rfl rfl) (ev_call (x := (c, L, ())) (ea_cons (ev_var rfl hc) (ea_cons (ev_var rfl hL) ea_nil)) ⟨p3, p1⟩))) (.refl k) (fun hb S1 H1 t1 s1 t1' => ?_) (fun hb S1 H1 t1 s1 t1' => ?_)
  · have hb : (!(Mir.requestable c L).any fun z => decide (z = ln)) = true := hb
    rw [p2] at hb
    cases hb
  refine q_new (R := jRep) t1 fun ga H2 hg0 hg1 t2 t2' og => ?_
  have hraw : Mir.repliesRaw c L ln = (Mir.relocations c L).flatMap fun st => ((rng 0 (c.size + 1 - ln)).filter fun s => Mir.fits c.size (Mir.relocated L st) s ln).map fun s => (st, s, Mir.cost L st) := rfl
  refine q_forA (R := jSt) (R' := jRep) (l := ga) (acc := []) (F := fun st => ((rng 0 (c.size + 1 - ln)).filter fun s => Mir.fits c.size (Mir.relocated L st) s ln).map fun s => (st, s, Mir.cost L st)) (ei_list (ev_call (x := (c, L, ())) (ea_cons (ev_var rfl (Up.up t2.ss hc)) (ea_cons (ev_var rfl (Up.up t2.ss hL)) ea_nil)) p4)) t2
    (fun σ => ∃ o4 o5 o6 o7, σ = [some v, some v', some (.int ln), some (.ref ga), o4, o5, o6, o7]) (fun _ _ => True) (fun _ _ _ _ _ _ => trivial) ⟨_, _, _, _, rfl⟩ trivial og
    (fun st S3 σ3 H3 v3 acc1 N3 hmem t3 s3 hst ⟨o4, o5, o6, o7, e3⟩ _ og3 l3 hN3 => ?_) (fun S3 σ3 H3 t3 s3 ⟨o4, o5, o6, o7, e3⟩ _ og3 => ?_)
  · subst e3
    have hst100 : st.length ≤ 100 := p5 st hmem
    refine ⟨_, eg_name, ?_⟩
    refine q_set (ev_call (x := (L, st, ())) (ea_cons (ev_var rfl (Up.up t3.ss hL)) (ea_cons (ev_var rfl hst) ea_nil)) ⟨p3, hst100⟩) t3 fun S4 H4 v4 t4 s4 t4' h4 => ?_
    refine q_set (ev_call (x := (L, st, ())) (ea_cons (ev_var rfl (Up.up t4.ss hL)) (ea_cons (ev_var rfl (Up.up s4 hst)) ea_nil)) ⟨p3, hst100⟩) t4 fun S5 H5 v5 t5 s5 t5' h5 => ?_
    have h5 : v5 = .int (Mir.cost L st) := h5
    subst h5
    refine s_forT (R' := jRep) (l := ga) (acc := acc1) (b := fun s => Mir.fits c.size (Mir.relocated L st) s ln) (f := fun s => (st, s, Mir.cost L st)) (ei_range1 (ea_cons (ev_II (g := fun i j => i - j) (ev_II (g := fun i j => i + j) (ev_size T (ev_var (x := c) rfl (Up.up t5.ss hc))) (ev_int (i := 1))) (ev_var (x := ln) rfl rfl)) ea_nil) ⟨by omega, by omega⟩) t5
      (fun σ => ∃ o7, σ = [some v, some v', some (.int ln), some (.ref ga), some v3, some v4, some (.int (Mir.cost L st)), o7]) (fun _ _ => True) (fun _ _ _ _ _ _ => trivial) ⟨_, rfl⟩ trivial ((og3.step t4').step t5')
      (fun sa S6 σ6 H6 v6 acc2 N6 hsa t6 s6 hv6 ⟨o7, e6⟩ _ og6 l6 hN6 => ?_) (fun S6 σ6 H6 t6 s6 ⟨o7, e6⟩ _ og6 => hN3 S6 σ6 H6 t6 (s4.trans (s5.trans s6)) ⟨_, _, _, _, e6⟩ trivial og6)
    subst e6
    have hv6 : v6 = .int sa := hv6
    subst hv6
    have hst6 : jSt S6 v3 st := Up.up (s4.trans (s5.trans s6)) hst
    have h46 : jLay S6 v4 (Mir.relocated L st) := Up.up (s5.trans s6) h4
    refine ⟨_, eg_name, ?_⟩
    refine s_if (et_B (ev_call (x := (c.size, Mir.relocated L st, sa, ln, ())) (ea_cons (ev_size T (ev_var rfl (Up.up t6.ss hc))) (ea_cons (ev_var rfl h46) (ea_cons (ev_var (x := sa) rfl rfl) (ea_cons (ev_var (x := ln) rfl rfl) ea_nil)))) trivial)) t6.ok (fun hb S7 H7 t7 => ?_) (fun hb S7 H7 t7 => ?_)
    · have hb : Mir.fits c.size (Mir.relocated L st) sa ln = true := hb
      have l6' : acc2.length + (if Mir.fits c.size (Mir.relocated L st) sa ln = true then 1 else 0) ≤ acc1.length + (((rng 0 (c.size + 1 - ln)).filter fun s => Mir.fits c.size (Mir.relocated L st) s ln).map fun s => (st, s, Mir.cost L st)).length := l6
      have l3' : acc1.length + (((rng 0 (c.size + 1 - ln)).filter fun s => Mir.fits c.size (Mir.relocated L st) s ln).map fun s => (st, s, Mir.cost L st)).length ≤ 0 + (Mir.repliesRaw c L ln).length := l3
      rw [hb] at hN6 l6'
      refine s_app' (x := (st, sa, Mir.cost L st)) rfl (og6.step t7) (ev_tup3 (ea_cons (ev_var rfl (Up.up t7.ss hst6)) (ea_cons (ev_var (x := sa) rfl rfl) (ea_cons (ev_var (x := Mir.cost L st) rfl rfl) ea_nil)))) (t6.trans t7) hg0 ?_ fun S8 H8 t8 s8 og8 _ => hN6 S8 _ H8 t8 (t7.ss.trans s8) ⟨_, rfl⟩ trivial og8
      rw [if_pos rfl] at l6'
      omega
    · have hb : Mir.fits c.size (Mir.relocated L st) sa ln = false := hb
      rw [hb] at hN6
      refine hN6 S7 _ H7 (t6.trans t7) t7.ss ⟨_, rfl⟩ trivial ?_
      simpa using og6.step t7
  · subst e3
    obtain ⟨S4, t4, s4, r4⟩ := og3.frz t3 hg0
    exact q_ret (ev_sortKey (ev_var rfl r4) fun _ _ => trivial) t4 q
abbrev N_is_better : List Str := ["one", "other", "length"]
theorem sc_is_better : FnScope N_is_better ["one", "other"] (defScope s_is_better) := ⟨rfl, rfl, rfl, by decide +kernel, rfl, by decide +kernel, by decide +kernel⟩
theorem ok_is_better (F : FnP K "is_better" "is_better" s_is_better f fd) (T : Txt K mg) : FnOk Pg w K mg base CX0 1 f fd ["one", "other"] (spBetter Z K) := by
  refine F.ok sc_is_better fn_len2 (fun cdv A outer s H vs Q E hr h => ⟨_, PSs.nox (pss_cons (ps_if (PW.pt (pw_or (pt_cmpR op_lt (kFld K (pv 0)) (kFld K (pv 1)) (nomark _)) (pw_or (pt_cmpR op_lt (kFld K (pv 0)) (kFld K (pv 1)) (nomark _)) (pw_or1 (pt_cmpR op_gt (kFld K (pv 0)) (kFld K (pv 1)) (nomark _)))))) (pss_one (ps_ret pe_bl)) pss_nil)
      (pss_cons (ps_for PassesOwn.never rfl (kiList K (kFld K (pv 0))) (pg_name (i := 2) sc_is_better.nd rfl (by first | exact Or.inl rfl | exact Or.inr rfl)) (pss_one (ps_if (pt_cmpR (kNotIn K) (pv 2) (kFld K (pv 1)) (by rfl)) (pss_one (ps_ret pe_bl)) pss_nil)))
      (pss_one (ps_ret pe_bl)))), ?_⟩)
  obtain ⟨S, ⟨a, b, u⟩, k, ⟨v, r, rfl, ha, v', r', rfl, hb, hr'⟩, p, q⟩ := h
  cases hr'
  have ha : jCon K S v a := ha
  have hb : jCon K S v' b := hb
  have e0 : Mir.isBetter a b = if (decide (a.size < b.size) || (decide (a.budget < b.budget) || decide (b.limit < a.limit))) = true then false else a.lengths.all fun l => b.lengths.any fun z => decide (z = l) := by
    unfold Mir.isBetter
    rw [Bool.or_assoc]
  refine q_if (et_or (et_test (ev_IB (ev_size T (ev_var rfl ha)) (ev_size T (ev_var rfl hb)))) fun _ => et_or (et_test (ev_IB (ev_budget T (ev_var rfl ha)) (ev_budget T (ev_var rfl hb)))) fun _ => et_test (ev_IB (g := fun i j => decide (j < i)) (ev_limit T (ev_var rfl ha)) (ev_limit T (ev_var rfl hb)))) (.refl k) (fun hb1 S1 H1 t1 s1 t1' => ?_) (fun hb1 S1 H1 t1 s1 t1' => ?_)
  · refine q_ret (ev_bl (i := false)) t1 fun S2 H2 v2 t2 h2 => q S2 H2 v2 t2 ?_
    show jB S2 v2 (Mir.isBetter a b)
    rw [e0, if_pos hb1]
    exact h2
  · have e1 : Mir.isBetter a b = a.lengths.all fun l => b.lengths.any fun z => decide (z = l) := by
      rw [e0, if_neg (by rw [hb1]; exact Bool.false_ne_true)]
    refine q_for (ei_list (ev_lengths T (ev_var rfl (Up.up s1 ha)))) t1 (fun i S2 σ2 H2 => (∃ o, σ2 = [some v, some v', o]) ∧ ((a.lengths.take i).all fun l => b.lengths.any fun z => decide (z = l)) = true) (fun i S2 σ2 H2 S3 H3 h t => h) ⟨⟨_, rfl⟩, rfl⟩ ?_ ?_
    · rintro i l S2 σ2 H2 v2 N hx t2 s2 hl ⟨⟨o, rfl⟩, hall⟩ hN
      refine ⟨_, eg_name, ?_⟩
      refine s_if (et_test (ev_notinI (ev_var (x := l) rfl hl) (ev_lengths T (ev_var rfl (Up.up t2.ss hb))))) t2.ok (fun hb2 S3 H3 t3 => ?_) (fun hb2 S3 H3 t3 => ?_)
      · refine q_ret (ev_bl (i := false)) (t2.trans t3) fun S4 H4 v4 t4 h4 => q S4 H4 v4 t4 ?_
        have hb2 : (!b.lengths.any fun z => decide (z = l)) = true := hb2
        have e2 : Mir.isBetter a b = false := by
          rw [e1, Bool.eq_false_iff]
          intro hh
          rw [List.all_eq_true] at hh
          have := hh l (List.mem_of_getElem? hx)
          rw [this] at hb2
          cases hb2
        show jB S4 v4 (Mir.isBetter a b)
        rw [e2]
        exact h4
      · have hb2 : (!b.lengths.any fun z => decide (z = l)) = false := hb2
        refine hN S3 _ H3 (t2.trans t3) t3.ss ⟨⟨_, rfl⟩, ?_⟩
        rw [List.take_add_one, hx, List.all_append, hall]
        cases e : b.lengths.any fun z => decide (z = l) with
        | true => simp [e]
        | false => rw [e] at hb2; cases hb2
    · rintro S2 σ2 H2 t2 s2 ⟨⟨o, rfl⟩, hall⟩
      rw [List.take_length] at hall
      refine q_ret (ev_bl (i := true)) t2 fun S4 H4 v4 t4 h4 => q S4 H4 v4 t4 ?_
      show jB S4 v4 (Mir.isBetter a b)
      rw [e1, hall]
      exact h4
abbrev N_Contract_init : List Str := ["self", "size", "limit", "lengths", "budget"]
theorem sc_Contract_init : FnScope N_Contract_init ["self", "size", "limit", "lengths", "budget"] (defScope s_Contract_init) := ⟨rfl, rfl, rfl, by decide +kernel, rfl, by decide +kernel, by decide +kernel⟩
theorem ok_Contract_init (F : FnP K "__init__" "Contract.__init__" s_Contract_init f fd) (T : Txt K mg) : FnOk Pg w K mg base CX0 1 f fd ["self", "size", "limit", "lengths", "budget"] (spConI Z K) := by
  refine F.ok sc_Contract_init (fun vs H Q E ⟨S, H0, x, a, dx, r, e, h1, h2, h3, h4, h5, ⟨v1, r1, e1, _, v2, r2, e2, _, v3, r3, e3, _, v4, r4, e4, _, e5⟩, _⟩ => by
    have e5 : r4 = [] := e5
    rw [e, e1, e2, e3, e4, e5]
    rfl) (fun cdv A outer s H vs Q E hr h => ⟨_, PSs.nox (pss_cons (ps_fld (pv 0) (pv 1) rfl)
      (pss_cons (ps_fld (pv 0) (pv 2) rfl)
      (pss_cons (ps_fld (pv 0) (pe_callTy (kLst K) rfl T.f_list (by decide +kernel) (pa_cons (pv 3) pa_nil)) rfl)
      (pss_one (ps_fld (pv 0) (pv 4) rfl))))), ?_⟩)
  obtain ⟨S, H0, ⟨sz, lm, ls, bu, u⟩, a, dx, r, rfl, k, n1, n2, ne, rfl, ⟨v1, r1, rfl, h1, v2, r2, rfl, h2, v3, r3, rfl, h3, v4, r4, rfl, h4, hr'⟩, _, q⟩ := h
  cases hr'
  obtain ⟨t0, o0⟩ := ini_stp (C := He.ga K "Contract") k n1 n2 ne
  have h1 : v1 = .int sz := h1
  have h2 : v2 = .int lm := h2
  have h3 : jL jI S v3 ls := h3
  have h4 : v4 = .int bu := h4
  subst h1 h2 h4
  refine q_fld (R := jI) rfl o0 (ev_var (x := sz) rfl rfl) t0 n1 T.c_Contract T.n_Contract_size (by decide) fun S1 H1 w1 t1 s1 e1 o1 => ?_
  have e1 : w1 = .int sz := e1
  subst e1
  refine q_fld (R := jI) rfl o1 (ev_var (x := lm) rfl rfl) t1 n1 T.c_Contract T.n_Contract_limit (putF_lt (by decide)) fun S2 H2 w2 t2 s2 e2 o2 => ?_
  have e2 : w2 = .int lm := e2
  subst e2
  refine q_fld rfl o2 (ev_listL (ev_var (x := ls) rfl (Up.up t2.ss h3))) t2 n1 T.c_Contract T.n_Contract_lengths (putF_lt (putF_lt (by decide))) fun S3 H3 w3 t3 s3 e3 o3 => ?_
  refine s_fld (R := jI) rfl o3 (ev_var (x := bu) rfl rfl) t3 n1 T.c_Contract T.n_Contract_budget (putF_lt (putF_lt (putF_lt (by decide)))) fun S4 H4 w4 t4 s4 e4 o4 => ?_
  have e4 : w4 = .int bu := e4
  subst e4
  exact q S4 H4 _ t4 o4.at_ ⟨w3, rfl, rfl, rfl, rfl, Up.up s4 e3⟩
end
end Hg
end Z_D5

section Z_HgN
set_option maxHeartbeats 4000000
/-! Dicts whose keys are layouts, as tuples of pairs. -/
namespace Hg
open PySem PySem.Spec PyProof.Rows L2
/-! ### keys -/
def nkB (b : Mir.Blk) : NestedKey := .tup [.num b.1, .num b.2]
def nk (L : Mir.Lay) : NestedKey := .tup (L.map nkB)
theorem nkB_inj {a b : Mir.Blk} (h : nkB a = nkB b) : a = b := by
  unfold nkB at h
  injection h with h
  injection h with h1 h2
  injection h2 with h2 h3
  injection h1 with h1
  injection h2 with h2
  exact Prod.ext h1 h2
theorem nk_inj {L M : Mir.Lay} (h : nk L = nk M) : L = M := by
  unfold nk at h
  injection h with h
  induction L generalizing M with
  | nil =>
    cases M with
    | nil => rfl
    | cons => cases h
  | cons a r ih =>
    cases M with
    | nil => cases h
    | cons b t =>
      rw [List.map_cons, List.map_cons] at h
      injection h with h1 h2
      rw [nkB_inj h1, ih h2]
theorem nk_depth (L : Mir.Lay) : (nk L).depth ≤ 8 := by
  have h : ∀ L : Mir.Lay, NestedKey.depthAll (L.map nkB) ≤ 1 := fun L => by
    induction L with
    | nil => exact Nat.zero_le _
    | cons a r ih =>
      show max (NestedKey.depth (nkB a)) _ ≤ 1
      exact Nat.max_le.mpr ⟨Nat.le_refl _, ih⟩
  show NestedKey.depthAll (L.map nkB) + 1 ≤ 8
  have := h L
  omega
abbrev jK : Rp Mir.Lay := jU (j2 jI jI)
section
variable {P : Program} {w : World} {H : Hp} {h : Heap}
theorem nested_int {v : V} {u : Value} {i : Int} (e : v = .int i) (r : RelV v u) : NestedIs h (.num i) u := by
  rw [e] at r
  obtain ⟨t, rfl⟩ := r
  exact .int i t
theorem jB_nested (ok : HOk P w H h) {v : V} {u : Value} {b : Mir.Blk} (j : j2 jI jI H v b) (r : RelV v u) : NestedIs h (nkB b) u := by
  obtain ⟨a, x, y, rfl, ha, hx, hy⟩ := j
  obtain rfl : u = Value.ref a := r
  obtain ⟨_, its, rv, o, ho, hc, n, hd⟩ := (show ObjOk P w H h a (.tup [x, y]) from ok a _ ha)
  cases rv with
  | cons r1 t =>
    cases t with
    | cons r2 t2 =>
      cases t2
      refine .tup ho hc hd ?_
      exact .cons (nested_int hx r1) (.cons (nested_int hy r2) .nil)
theorem jK_is (ok : HOk P w H h) {a : Addr} {L : Mir.Lay} (j : jK H (.ref a) L) : (nestedKind P w).is h (nk L) a := by
  obtain ⟨a', vs, e, ha, hp⟩ := j
  cases e
  obtain ⟨_, its, rv, o, ho, hc, n, hd⟩ := (show ObjOk P w H h a (.tup vs) from ok a _ ha)
  refine ⟨.tup ho hc hd ?_, nk_depth L⟩
  have all : ∀ {vs : List V} {its : List Value} {L : Mir.Lay}, Vals vs its → Pr (j2 jI jI) H vs L → NestedAll h (L.map nkB) its := by
    intro vs its L rv hp
    induction hp generalizing its with
    | nil =>
      cases rv
      exact .nil
    | cons hb t ih =>
      cases rv with
      | cons r1 r2 => exact .cons (jB_nested ok hb r1) (ih r2)
  simpa using all rv hp
end
/-! ### the dict's object -/
abbrev Ent := NestedKey × Addr × Value
def XO (a : Addr) (o : Obj) : HO := .ext fun h => h.get? a = some o
structure NObj (P : Program) (w : World) (a : Addr) (o : Obj) (us : List Ent) : Prop where
  ns : (a == sysModules) = false
  ex : o.ExactDict
  dt : ∃ es ep, o.data = .dict es ep ∧ es.toList = us.map (entryOfKey (nestedKind P w))
  nd : (us.map (·.1)).Nodup
  sz : us.length ≤ 10000
/-- the entries stand for the pairs -/
def NRel {β : Type} (Rv : Rp β) (S : Hp) (us : List Ent) (d : Mir.Dct β) : Prop := Paired (fun (q : Ent) (p : Mir.Lay × β) => q.1 = nk p.1 ∧ jK S (.ref q.2.1) p.1 ∧ ∃ v, RelV v q.2.2 ∧ Rv S v p.2) us d
def jN {β : Type} (P : Program) (w : World) (Rv : Rp β) : Rp (Mir.Dct β) := fun S v d => ∃ a o us, v = .ref a ∧ S a = some (XO a o) ∧ NObj P w a o us ∧ NRel Rv S us d
section
variable {β : Type} {Rv : Rp β} {S S' : Hp} {us : List Ent} {d : Mir.Dct β}
theorem NRel.up [Up Rv] (e : Same S S') (h : NRel Rv S us d) : NRel Rv S' us d := Paired.mapP h fun _ _ ⟨h1, h2, v, h3, h4⟩ => ⟨h1, Up.up e h2, v, h3, Up.up e h4⟩
instance {P : Program} {w : World} [Up Rv] : Up (jN P w Rv) := ⟨fun e ⟨a, o, us, h1, h2, h3, h4⟩ => ⟨a, o, us, h1, e _ _ h2, h3, h4.up e⟩⟩
theorem NRel.len (h : NRel Rv S us d) : us.length = d.length := Paired.length h
theorem NRel.find : ∀ {us : List Ent} {d : Mir.Dct β}, NRel Rv S us d → ∀ L : Mir.Lay, (match atKey us (nk L), Mir.look d L with
    | some p, some b => ∃ v, RelV v p.2 ∧ Rv S v b
    | none, none => True
    | _, _ => False)
  | _, _, .nil, L => trivial
  | q :: us, p :: d, .cons ⟨h1, h2, v, h3, h4⟩ t, L => by
    have ih := NRel.find t L
    unfold atKey Mir.look at ih ⊢
    by_cases e : p.1 = L
    · have e2 : q.1 = nk L := by rw [h1, e]
      rw [List.find?_cons_of_pos (by simp [e2]), List.find?_cons_of_pos (by simp [e])]
      exact ⟨v, h3, h4⟩
    · have e2 : ¬ q.1 = nk L := fun z => e (nk_inj (h1.symm.trans z))
      rw [List.find?_cons_of_neg (by simp [e2]), List.find?_cons_of_neg (by simp [e])]
      exact ih
theorem look_has (d : Mir.Dct β) (L : Mir.Lay) : (Mir.look d L).isSome = Mir.has d L := by
  unfold Mir.look Mir.has
  rw [Option.isSome_map]
  induction d with
  | nil => rfl
  | cons p r ih =>
    rw [List.any_cons, ← ih]
    by_cases e : p.1 = L
    · rw [List.find?_cons_of_pos (by simp [e]), decide_eq_true e]
      rfl
    · rw [List.find?_cons_of_neg (by simp [e]), decide_eq_false e]
      rfl
theorem NRel.has (h : NRel Rv S us d) (L : Mir.Lay) : (atKey us (nk L)).isSome = Mir.has d L := by
  rw [← look_has]
  have q := h.find L
  cases h1 : atKey us (nk L) with
  | none =>
    cases h2 : Mir.look d L with
    | none => rfl
    | some b => rw [h1, h2] at q; exact q.elim
  | some p =>
    cases h2 : Mir.look d L with
    | none => rw [h1, h2] at q; exact q.elim
    | some b => rfl
theorem NRel.put {L : Mir.Lay} {ka : Addr} {u : Value} {b : β} {v : V} (h : NRel Rv S us d) (hk : jK S (.ref ka) L) (r : RelV v u) (rb : Rv S v b) : NRel Rv S (storedH us (nk L) ka u) (Mir.put d L b) := by
  unfold storedH Mir.put
  rw [h.has L]
  split
  · rename_i hh
    clear hh
    unfold NRel at h
    induction h with
    | nil => exact .nil
    | cons h t ih =>
      rename_i q p us d
      obtain ⟨h1, h2, v', h3, h4⟩ := h
      refine Paired.cons ?_ ih
      show (putAt (nk L) u q).1 = nk (if p.1 = L then (L, b) else p).1 ∧ jK S (.ref (putAt (nk L) u q).2.1) (if p.1 = L then (L, b) else p).1 ∧ ∃ v, RelV v (putAt (nk L) u q).2.2 ∧ Rv S v (if p.1 = L then (L, b) else p).2
      unfold putAt
      by_cases e : p.1 = L
      · have e2 : q.1 = nk L := by rw [h1, e]
        rw [if_pos e2, if_pos e]
        refine ⟨e2, ?_, v, r, rb⟩
        rw [← e]
        exact h2
      · have e2 : ¬ q.1 = nk L := fun z => e (nk_inj (h1.symm.trans z))
        rw [if_neg e2, if_neg e]
        exact ⟨h1, h2, v', h3, h4⟩
  · exact Paired.snoc h ⟨rfl, hk, v, r, rb⟩
/-- the keys stand in the heap -/
def KeysIn (H : Hp) (us : List Ent) : Prop := ∀ q ∈ us, ∃ L, q.1 = nk L ∧ jK H (.ref q.2.1) L
theorem NRel.keys (h : NRel Rv S us d) (e : Same S S') : KeysIn S' us := by
  intro q hq
  unfold NRel at h
  induction h with
  | nil => cases hq
  | cons h t ih =>
    rcases List.mem_cons.mp hq with z | hq
    · rw [z]
      exact ⟨_, h.1, Up.up e h.2.1⟩
    · exact ih hq
end
section
variable {X : Cx} {pins : List (Addr × Obj)} {σ : L2.St} {H : Hp} {s : Shared} {a ka : Addr} {o : Obj} {us : List Ent} {L : Mir.Lay} {A : Around} {E : Value → Shared → Prop}
theorem XO.get (I : L2.Inv X pins σ H s) (h : H a = some (XO a o)) : s.heap.get? a = some o := (I.hok a _ h).1
theorem dictOf (I : L2.Inv X pins σ H s) (h : H a = some (XO a o)) (n : NObj X.prog X.w a o us) (k : KeysIn H us) : s.heap.DictOfH (nestedKind X.prog X.w) a us := by
  obtain ⟨es, ep, h1, h2⟩ := n.dt
  refine ⟨o, es, ep, XO.get I h, n.ex, h1, h2, fun x hx => ?_, n.nd⟩
  obtain ⟨L, e, j⟩ := k x hx
  rw [e]
  exact jK_is I.hok j
theorem xo_ok {P : Program} {w : World} {H : Hp} {h : Heap} (e : h.get? a = some o) : ObjOk P w H h a (XO a o) := ⟨e, ⟨o, e⟩, fun _ _ q k => k _ q⟩
end
/-! ### readings and rules -/
/-- y in d -/
def tNIn (P : Program) (w : World) (ty td : TE) : TE := fun σ H Q => ty σ H fun y H1 => td σ H1 fun x H2 => ∃ a o us ka L, x = .ref a ∧ y = .ref ka ∧ H2 a = some (XO a o) ∧ NObj P w a o us ∧ KeysIn H2 us ∧ jK H2 (.ref ka) L ∧ Q (.bl (atKey us (nk L)).isSome) H2
def tNNotIn (P : Program) (w : World) (ty td : TE) : TE := fun σ H Q => ty σ H fun y H1 => td σ H1 fun x H2 => ∃ a o us ka L, x = .ref a ∧ y = .ref ka ∧ H2 a = some (XO a o) ∧ NObj P w a o us ∧ KeysIn H2 us ∧ jK H2 (.ref ka) L ∧ Q (.bl (!(atKey us (nk L)).isSome)) H2
/-- d[y] -/
def tNGet (P : Program) (w : World) (td ty : TE) : TE := fun σ H Q => td σ H fun x H1 => ty σ H1 fun y H2 => ∃ a o us ka L p v, x = .ref a ∧ y = .ref ka ∧ H2 a = some (XO a o) ∧ NObj P w a o us ∧ KeysIn H2 us ∧ jK H2 (.ref ka) L ∧ atKey us (nk L) = some p ∧ RelV v p.2 ∧ Q v H2
/-- d.get(y) -/
def tNGet1 (P : Program) (w : World) (td ty : TE) : TE := fun σ H Q => td σ H fun x H1 => ∃ a o us, x = .ref a ∧ H1 a = some (XO a o) ∧ NObj P w a o us ∧ ty σ H1 fun y H2 => H2 a = some (XO a o) ∧ ∃ ka L v, y = .ref ka ∧ KeysIn H2 us ∧ jK H2 (.ref ka) L ∧ RelV v (((atKey us (nk L)).map (·.2)).getD .none) ∧ Q v H2
/-- d[y] = v -/
def sNPut (P : Program) (w : World) (td ty tv : TE) : TS := fun D σ H => tv σ H fun v H1 => td σ H1 fun x H2 => ty σ H2 fun y H3 => ∃ a o us ka L, x = .ref a ∧ y = .ref ka ∧ H3 a = some (XO a o) ∧ NObj P w a o us ∧ us.length < 10000 ∧ KeysIn H3 us ∧ jK H3 (.ref ka) L ∧
  ∀ o' u, RelV v u → NObj P w a o' (storedH us (nk L) ka u) → D.nx σ (upd H3 a (XO a o'))
/-- {} -/
def tNNew : TE := fun _ H Q => ∀ p, (p == sysModules) = false → H p = none → Q (.ref p) (upd H p (XO p { cls := .type "dict", data := .dict #[] }))
section
variable {X : Cx} {e i o value : Expr} {pos pos' apos cpos : Pos} {td ty tv : TE} {k : Nat}
theorem room8 {A : Around} (hr : Room k A) : (nestedKind X.prog X.w).room A.in1 := by
  have := hr.un
  show A.units + 1 + 8 < cLine
  omega
theorem pc_nin (hr : Room k X.A) (hi : PE X i ty) (ho : PE X o td) : PC X .In i o (tNIn X.prog X.w ty td) := by
  refine ⟨fun pins s σ H Q I h => ?_⟩
  refine thn (hi.run pins s σ H _ I h) fun iv s1 ⟨y, H1, I1, ry, q1⟩ => thn (ho.run pins s1 σ H1 _ I1 q1) fun u s2 ⟨x, H2, I2, rx, a, ob, us, ka, L, ex, ey, ha, n, ks, jk, q2⟩ => ?_
  subst ex ey
  obtain rfl : u = Value.ref a := rx
  obtain rfl : iv = Value.ref ka := ry
  exact wpAny_in_heap (room8 hr) (jK_is I2.hok jk) n.ns (dictOf I2 ha n ks) ⟨.bl _, H2, I2.tok _, rfl, q2⟩
theorem pc_nnotin (hr : Room k X.A) (hi : PE X i ty) (ho : PE X o td) : PC X .NotIn i o (tNNotIn X.prog X.w ty td) := by
  refine ⟨fun pins s σ H Q I h => ?_⟩
  refine thn (hi.run pins s σ H _ I h) fun iv s1 ⟨y, H1, I1, ry, q1⟩ => thn (ho.run pins s1 σ H1 _ I1 q1) fun u s2 ⟨x, H2, I2, rx, a, ob, us, ka, L, ex, ey, ha, n, ks, jk, q2⟩ => ?_
  subst ex ey
  obtain rfl : u = Value.ref a := rx
  obtain rfl : iv = Value.ref ka := ry
  exact wpAny_notIn_heap (room8 hr) (jK_is I2.hok jk) n.ns (dictOf I2 ha n ks) ⟨.bl _, H2, I2.tok _, rfl, q2⟩
theorem pe_nget (hr : Room k X.A) (ho : PE X o td) (hi : PE X i ty) (hs : NoSl i) : PE X (.Subscript o i pos) (tNGet X.prog X.w td ty) := by
  refine ⟨fun pins s σ H Q I h => ?_⟩
  refine subD_of PySem.F.slot_dict_getitem.lookup hs (thn (ho.run pins s σ H _ I h) fun u s1 ⟨x, H1, I1, rx, q1⟩ => thn (hi.run pins s1 σ H1 _ I1 q1) fun iv s2 ⟨y, H2, I2, ry, a, ob, us, ka, L, p, v, ex, ey, ha, n, ks, jk, hp, rv, q2⟩ => ?_)
  subst ex ey
  obtain rfl : u = Value.ref a := rx
  obtain rfl : iv = Value.ref ka := ry
  exact ⟨⟨ob, XO.get I2 ha, n.ex.1⟩, wpAny_getItem_heap (room8 hr) (jK_is I2.hok jk) (dictOf I2 ha n ks) hp ⟨v, H2, I2.tok _, rv, q2⟩⟩
theorem pe_nget1 (hr : Room k X.A) (ho : PE X o td) (he : PE X e ty) (m : M1 X o "get" apos e cpos) : PE X (.Call (.Attribute o "get" apos) [e] [] cpos) (tNGet1 X.prog X.w td ty) := by
  refine ⟨fun pins s σ H Q I h => ?_⟩
  refine wpAny_Call_method m.base m.few m.line PySem.F.plainAttrs_dict PySem.F.slot_dict_get PySem.F.type_dict_get (thn (ho.run pins s σ H _ I h) fun u s1 ⟨x, H1, I1, rx, a, ob, us, ex, ha, n, q1⟩ => ?_)
  subst ex
  obtain rfl : u = Value.ref a := rx
  refine ⟨⟨ob, XO.get I1 ha, n.ex.1⟩, fun b q => ?_, ?_⟩
  · cases q
    exact ⟨ob, XO.get I1 ha, n.ex.2.1⟩
  rw [m.trees]
  refine Calls.callWith_builtin rfl (Calls.evalArgs_plain (Calls.spliced_cons (thn (he.run pins s1 σ H1 _ I1 q1) fun iv s2 ⟨y, H2, I2, ry, ha2, ka, L, v, ey, ks, jk, rv, q2⟩ => Calls.spliced_nil ?_)))
  subst ey
  obtain rfl : iv = Value.ref ka := ry
  refine call_meetsIn PySem.F.slot_dict_get ⟨ob, XO.get I2 ha2, n.ex.1⟩ PySem.F.entry_dict_get (PySem.F.args_dict_get_2 _ _) (meetsH_dict_get (nestedKind X.prog X.w) a ka n.ns) ⟨?_, nk L, us, jK_is I2.hok jk, dictOf I2 ha2 n ks, _, H2, I2.tok _, rv, q2⟩
  have := hr.un
  show X.A.units + 1 + 8 < cLine
  omega
theorem ps_nput (hr : Room k X.A) (ho : PE X o td) (hi : PE X i ty) (hv : PE X value tv) (hs : swapsWith value (some (.Subscript o i pos')) pos.line X.env = pure false) :
    PS X (.Assign [.Subscript o i pos'] value pos) (sNPut X.prog X.w td ty tv) := by
  refine ⟨fun pins s σ H D I h => ?_⟩
  refine wpAny_Assign_Subscript (thn (hv.run pins s σ H _ I h) fun r s1 ⟨v, H1, I1, rv, q1⟩ => thn (ho.run pins s1 σ H1 _ I1 q1) fun u s2 ⟨x, H2, I2, rx, q2⟩ => thn (hi.run pins s2 σ H2 _ I2 q2) fun iv s3 ⟨y, H3, I3, ry, a, ob, us, ka, L, ex, ey, ha, n, hz, ks, jk, q3⟩ => ?_) hs
  subst ex ey
  obtain rfl : u = Value.ref a := rx
  obtain rfl : iv = Value.ref ka := ry
  have hz' : us.length ≤ sizeLine := Nat.le_trans n.sz (by decide)
  refine wpAny_setItem_heap (hsz := hz') (room8 hr) (jK_is I3.hok jk) (dictOf I3 ha n ks) fun h' dd' hs' => ?_
  obtain ⟨o', es, ep, ho', hx, hdt, he, _, hnd⟩ := dd'
  have hl : (storedH us (nk L) ka r).length ≤ 10000 := by
    unfold storedH
    split
    · rw [List.length_map]
      exact n.sz
    · rw [List.length_append]
      exact hz
  exact ⟨σ, _, d_write I3 (by rw [ha]; exact True.intro) hs' ⟨o', ho'⟩ (xo_ok ho'), q3 o' r rv ⟨n.ns, hx, ⟨es, ep, hdt, he⟩, hnd, hl⟩⟩
theorem nobj_new {P : Program} {w : World} {p : Addr} (h : (p == sysModules) = false) : NObj P w p { cls := .type "dict", data := .dict #[] } [] := ⟨h, ⟨rfl, rfl, rfl⟩, ⟨#[], 0, rfl, rfl⟩, List.nodup_nil, Nat.zero_le _⟩
theorem pe_nnew : PE X (.Dict [] [] pos) tNNew := ⟨fun pins s σ H Q I h =>
  wpAny_Dict_empty ⟨.ref s.heap.objs.size, _, I.laid (a := s.heap.objs.size) (o := XO s.heap.objs.size { cls := .type "dict", data := .dict #[] }) (t' := s.toks) (fun _ _ q => Heap.get?_push_of_some _ q) (Nat.le_refl _) (xo_ok (Heap.get?_push_size _ rfl)), rfl, h _ (beq_eq_false_iff_ne.mpr (Ne.symm (Nat.ne_of_lt I.big))) (I.hok.fresh (Nat.le_refl _))⟩⟩
/-- len(d) -/
def rLenN (P : Program) (w : World) : List V → Hp → VK → Prop := fun xs H Q => ∃ a o us, xs = [.ref a] ∧ H a = some (XO a o) ∧ NObj P w a o us ∧ KeysIn H us ∧ Q (.int ((us.length : Nat) : Int)) H
theorem call_len_n : CallR X (.builtin "len") (rLenN X.prog X.w) := by
  intro pins s σ H xs vs Q I r h
  obtain ⟨a, ob, us, rfl, ha, n, ks, q⟩ := h
  obtain rfl := Vals.ref1 r
  have hl := n.sz
  exact call_len_dictH n.ns (dictOf I ha n ks) (by omega) ⟨.int _, H, I.tok _, ⟨_, rfl⟩, q⟩
/-- for k in d -/
def ItN (d : Addr) (o : Obj) (ks : List Addr) : It := ⟨fun i H => H d = some (XO d o) ∧ i < ks.length, fun i H x H' => H' = H ∧ ∃ q, ks[i]? = some q ∧ x = .ref q, fun i H => H d = some (XO d o) ∧ ks.length ≤ i⟩
theorem turn_n {P : Program} {w : World} {K : PySem.W.Frag} {tg : Expr} {d : Addr} {o : Obj} {es : Array DictEntry} {ep : Nat} {us : List Ent} (it : Addr) (hod : o.data = .dict es ep) (he : es.toList = us.map (entryOfKey (nestedKind P w))) :
    Turn P w K tg (ItN d o (us.map fun q => q.2.1)) [it] it (fun i h => h.IsKeyIter it d i es.size ep) where
  mem := by simp
  obj := fun i h st b hb => by
    have e : b = it := by simpa using hb
    subst e
    obtain ⟨oi, e, c, dd⟩ := st
    exact ⟨oi, e, fun v z => by rw [dd] at z; cases z⟩
  keep := fun i h h' st k => st.at fun oi e => k it (by simp) oi e
  item := by
    intro X hP hw hK hc i pins s σ H E I hf st hg
    subst hP hw hK
    obtain ⟨hd, hi⟩ := hg
    obtain ⟨f0, f1, f2, f3, f4, f5⟩ := hf it (by simp)
    rw [List.length_map] at hi
    have q := entry_at he i
    rw [List.getElem?_eq_getElem hi] at q
    refine next_key_item st (XO.get I hd) hod rfl q fun h' st' sb => ?_
    have I1 : L2.Inv X pins σ H { s with heap := h' } := I.turned (t' := s.toks) (fun b ob hb e => (sb.2 b hb).trans e) f0 f1 f3 f4 f5
    obtain ⟨oi, e, c, dd⟩ := id st'
    refine ⟨_, rfl, go_of (s := { s with heap := h' }) e c dd (by decide) ⟨.ref us[i].2.1, H, I1, rfl, ⟨rfl, us[i].2.1, ?_, rfl⟩, st', fun b hb => (hf b hb).1⟩⟩
    rw [List.getElem?_map, List.getElem?_eq_getElem hi]
    rfl
  done := by
    intro X hP hw hK hc i pins s σ H E I hf st hg
    subst hP hw hK
    obtain ⟨hd, hi⟩ := hg
    obtain ⟨f0, f1, f2, f3, f4, f5⟩ := hf it (by simp)
    have l1 : es.size = us.length := size_of_entries he
    rw [List.length_map] at hi
    exact next_key_end (I.ok.hd hc) st (XO.get I hd) hod rfl (by omega) fun h' eb => ⟨rfl, I.turned (t' := s.toks) (fun b ob hb e => eb b ob hb e) f0 f1 f3 f4 f5⟩
  self := fun A i s Q E st h => by
    refine wpAny_pyIter_slot st.typeIs F.slot_dict_keyiterator_iter (wpAny_call_entry F.slot_dict_keyiterator_iter st.typeIs F.entry_dict_keyiterator_iter ?_ (F.args_dict_keyiterator_iter_1 _))
    show wpAny _ _ (ret (.ref it)) _ _ s
    exact wpAny_pure ⟨_, rfl, "dict_keyiterator", _, st.typeIs, F.slot_dict_keyiterator_next.lookup, h⟩
def iNKeys (P : Program) (w : World) (td : TE) : TI := fun σ H R => td σ H fun x H1 => ∃ d o us, x = .ref d ∧ H1 d = some (XO d o) ∧ NObj P w d o us ∧ R (ItN d o (us.map fun q => q.2.1)) H1
theorem pi_nkeys {tg : Expr} (he : PE X e td) : PI X tg e (iNKeys X.prog X.w td) := by
  refine ⟨fun pins s σ H R I h => ?_⟩
  refine thn (he.run pins s σ H _ I h) fun u s1 ⟨x, H1, I1, rx, d, ob, us, ex, hd, n, q⟩ => ?_
  subst ex
  obtain rfl : u = Value.ref d := rx
  obtain ⟨es, ep, hdt, hes⟩ := n.dt
  exact iter_keys n.ns (XO.get I1 hd) n.ex hdt (pi_one (tk := s1.toks) I1 _ (turn_n _ hdt hes) ⟨_, Heap.get?_push_size _ rfl, rfl, rfl⟩ q)
theorem kNin (P : Program) (w : World) (hr : Room k X.A) (hi : PE X i ty) (ho : PE X o td) (hp : X.prog = P := by rfl) (hw : X.w = w := by rfl) : PC X .In i o (tNIn P w ty td) := by
  subst hp hw
  exact pc_nin hr hi ho
theorem kNnotin (P : Program) (w : World) (hr : Room k X.A) (hi : PE X i ty) (ho : PE X o td) (hp : X.prog = P := by rfl) (hw : X.w = w := by rfl) : PC X .NotIn i o (tNNotIn P w ty td) := by
  subst hp hw
  exact pc_nnotin hr hi ho
theorem kNget (P : Program) (w : World) (hr : Room k X.A) (ho : PE X o td) (hi : PE X i ty) (hs : NoSl i) (hp : X.prog = P := by rfl) (hw : X.w = w := by rfl) : PE X (.Subscript o i pos) (tNGet P w td ty) := by
  subst hp hw
  exact pe_nget hr ho hi hs
end
end Hg
end Z_HgN

section Z_HgM
set_option maxHeartbeats 4000000
/-! Rules for dicts keyed by layouts; lists compared with []; thawing. -/
namespace Hg
open PySem L2
section
variable {Z : List Addr} {σ : L2.St} {S S' H S0 H0 : Hp} {α β γ : Type} {R : Rp α} {R' : Rp β} {Rv : Rp β} {te ta tb tl td ty tv : TE} {tt tu : TT} {tr : TA} {x : α} {y : β} {b : β} {v : V} {K : PySem.W.Frag} {D : Ends} {t1 t2 rest : TS} {P : Program} {w : World} {d : Mir.Dct β} {L : Mir.Lay}
/-! ### reading a dict that stays -/
theorem keysOf (e : Same S H) {us : List Ent} (h : NRel Rv S us d) : KeysIn H us := h.keys e
theorem ref_of {R0 : Rp α} {S : Hp} {v : V} {xs : List α} (h : jU R0 S v xs) : ∃ a, v = .ref a := let ⟨a, _, e, _⟩ := h; ⟨a, e⟩
theorem ev_nin [Up Rv] (ha : EvR Z ty σ S jK L) (hd : EvR Z td σ S (jN P w Rv) d) : EvR Z (tNIn P w ty td) σ S jB (Mir.has d L) := fun S1 H s k Q q =>
  ha S1 H s k _ fun S2 H2 v t r => hd S2 H2 (s.trans t.ss) t.ok _ fun S3 H3 u t3 ⟨a, o, us, e, h, n, rl⟩ => by
    obtain ⟨ka, rfl⟩ := ref_of r
    exact ⟨a, o, us, ka, L, e, rfl, t3.ok.le _ _ h, n, rl.keys t3.ok.le, Up.up (t3.ss.trans t3.ok.le) r, q S3 H3 _ (t.trans t3) (by rw [rl.has L]; rfl)⟩
theorem ev_nnotin [Up Rv] (ha : EvR Z ty σ S jK L) (hd : EvR Z td σ S (jN P w Rv) d) : EvR Z (tNNotIn P w ty td) σ S jB (!Mir.has d L) := fun S1 H s k Q q =>
  ha S1 H s k _ fun S2 H2 v t r => hd S2 H2 (s.trans t.ss) t.ok _ fun S3 H3 u t3 ⟨a, o, us, e, h, n, rl⟩ => by
    obtain ⟨ka, rfl⟩ := ref_of r
    exact ⟨a, o, us, ka, L, e, rfl, t3.ok.le _ _ h, n, rl.keys t3.ok.le, Up.up (t3.ss.trans t3.ok.le) r, q S3 H3 _ (t.trans t3) (by rw [rl.has L]; rfl)⟩
theorem ev_nget [Up Rv] (hd : EvR Z td σ S (jN P w Rv) d) (ha : EvR Z ty σ S jK L) (hl : Mir.look d L = some b) : EvR Z (tNGet P w td ty) σ S Rv b := fun S1 H s k Q q =>
  hd S1 H s k _ fun S2 H2 u t ⟨a, o, us, e, h, n, rl⟩ => ha S2 H2 (s.trans t.ss) t.ok _ fun S3 H3 v t3 r => by
    obtain ⟨ka, rfl⟩ := ref_of r
    have f := (rl.up t3.ss).find L
    rw [hl] at f
    cases hp : atKey us (nk L) with
    | none => rw [hp] at f; exact f.elim
    | some p =>
      rw [hp] at f
      obtain ⟨v, rv, rb⟩ := f
      exact ⟨a, o, us, ka, L, p, v, e, rfl, t3.ok.le _ _ (t3.ss _ _ h), n, rl.keys (t3.ss.trans t3.ok.le), Up.up t3.ok.le r, hp, rv, q S3 H3 v (t.trans t3) rb⟩
theorem ev_nget1 [Up Rv] (hd : EvR Z td σ S (jN P w Rv) d) (ha : EvR Z ty σ S jK L) : EvR Z (tNGet1 P w td ty) σ S (jO Rv) (Mir.look d L) := fun S1 H s k Q q =>
  hd S1 H s k _ fun S2 H2 u t ⟨a, o, us, e, h, n, rl⟩ => ⟨a, o, us, e, t.ok.le _ _ h, n, ha S2 H2 (s.trans t.ss) t.ok _ fun S3 H3 v t3 r => by
    obtain ⟨ka, rfl⟩ := ref_of r
    refine ⟨t3.ok.le _ _ (t3.ss _ _ h), ?_⟩
    have f := (rl.up t3.ss).find L
    cases hp : atKey us (nk L) with
    | none =>
      cases hl : Mir.look d L with
      | none => exact ⟨ka, L, .non, rfl, rl.keys (t3.ss.trans t3.ok.le), Up.up t3.ok.le r, by rw [hp]; rfl, q S3 H3 _ (t.trans t3) (by rw [hl]; rfl)⟩
      | some b => rw [hp, hl] at f; exact f.elim
    | some p =>
      cases hl : Mir.look d L with
      | none => rw [hp, hl] at f; exact f.elim
      | some b =>
        rw [hp, hl] at f
        obtain ⟨v, rv, rb⟩ := f
        exact ⟨ka, L, v, rfl, rl.keys (t3.ss.trans t3.ok.le), Up.up t3.ok.le r, by rw [hp]; exact rv, q S3 H3 _ (t.trans t3) (by rw [hl]; exact rb)⟩⟩
theorem ev_lenN [Up Rv] (hd : EvR Z td σ S (jN P w Rv) d) : EvR Z (tCB (rLenN P w) (tCons td tNil)) σ S jI (d.length : Int) := fun S1 H s k Q q =>
  hd S1 H s k _ fun S2 H2 u t ⟨a, o, us, e, h, n, rl⟩ => ⟨a, o, us, by rw [e], t.ok.le _ _ h, n, rl.keys t.ok.le, q S2 H2 _ t (by rw [rl.len]; rfl)⟩
theorem NRel.keyAt {us : List Ent} (h : NRel Rv S us d) {i : Nat} {q : Addr} (hq : (us.map fun q => q.2.1)[i]? = some q) : ∃ L, (d.map (·.1))[i]? = some L ∧ jK S (.ref q) L := by
  induction h generalizing i with
  | nil => simp at hq
  | cons h t ih =>
    cases i with
    | zero =>
      rw [List.map_cons, List.getElem?_cons_zero] at hq
      cases hq
      exact ⟨_, rfl, h.2.1⟩
    | succ i =>
      rw [List.map_cons, List.getElem?_cons_succ] at hq
      obtain ⟨L, h1, h2⟩ := ih hq
      exact ⟨L, by rw [List.map_cons, List.getElem?_cons_succ]; exact h1, h2⟩
theorem walk_n {a : Addr} {o : Obj} {ks : List Addr} : Walk (ItN a o ks) ks.length (fun H => H a = some (XO a o)) (fun i H x H' => H' = H ∧ ∃ q, ks[i]? = some q ∧ x = .ref q) :=
  ⟨fun i _ hi q => ⟨q, hi⟩, fun _ q => ⟨q, Nat.le_refl _⟩, fun _ _ _ _ _ _ y => y⟩
theorem ei_nkeys [Up Rv] (hd : EvR Z td σ S (jN P w Rv) d) : EvI Z (iNKeys P w td) σ S jK (d.map (·.1)) := fun S1 H s k W q =>
  hd S1 H s k _ fun S2 H2 v t ⟨a, o, us, e, h, n, rl⟩ => ⟨a, o, us, e, t.ok.le _ _ h, n, q S2 H2 (ItN a o (us.map fun q => q.2.1)) (fun H => H a = some (XO a o)) (fun i H x H' => H' = H ∧ ∃ q, (us.map fun q => q.2.1)[i]? = some q ∧ x = .ref q) t (by
    rw [List.length_map, ← rl.len, ← List.length_map (f := fun q : Ent => q.2.1)]
    exact walk_n) (fun H3 s3 => s3 _ _ h) fun i H3 u H4 L hx ⟨e4, ka, hu, eu⟩ S3 k3 s3 => by
      obtain ⟨L', hL, r⟩ := rl.keyAt hu
      rw [hx] at hL
      cases hL
      subst e4 eu
      exact ⟨S3, .refl k3, Up.up s3 r⟩⟩
/-! ### a dict that is worked at -/
def OwnN (P : Program) (w : World) (Z : List Addr) (S H : Hp) (a : Addr) (Rv : Rp β) (d : Mir.Dct β) : Prop := ∃ o us, Own Z S H a (XO a o) ∧ NObj P w a o us ∧ NRel Rv S us d
theorem OwnN.step [Up Rv] {a : Addr} (n : OwnN P w Z S H a Rv d) {S1 H1 : Hp} (t : Stp Z S H S1 H1) : OwnN P w Z S1 H1 a Rv d := let ⟨o, us, h1, h2, h3⟩ := n; ⟨o, us, h1.step t, h2, h3.up t.ss⟩
theorem OwnN.frz [Up Rv] {a : Addr} (n : OwnN P w Z S H a Rv d) (k : Stp Z S0 H0 S H) (h0 : H0 a = none) : ∃ S', Stp Z S0 H0 S' H ∧ Same S S' ∧ jN P w Rv S' (.ref a) d ∧ ∃ o, S' = upd S a (XO a o) ∧ S a = none := by
  obtain ⟨o, us, h1, h2, h3⟩ := n
  exact ⟨_, k.frz h0 h1.at_, same_upd h1.off, ⟨a, o, us, rfl, upd_same, h2, h3.up (same_upd h1.off)⟩, o, rfl, h1.off⟩
theorem OwnN.ne {l p : Addr} (n : OwnN P w Z S H l Rv d) (h : H p = none) : l ≠ p := fun e => by
  obtain ⟨o, us, h1, _⟩ := n
  have h2 := h1.at_
  rw [e, h] at h2
  cases h2
/-- x = {} -/
theorem q_nnew {i : Nat} (k : Stp Z S0 H0 S H) (n : ∀ p H', H0 p = none → H p = none → Stp Z S0 H0 S H' → Stp Z S H S H' → OwnN P w Z S H' p Rv [] → rest D (σ.set i (some (.ref p))) H') : tSeq (tAsg tNNew (gName i)) rest D σ H :=
  s_seq fun p hs hp => n p _ (k.none hp) hp (k.trans (k.ok.mk' hp)) (k.ok.mk' hp) ⟨_, [], Own.new k.ok hp, nobj_new hs, .nil⟩
/-- what is at an address -/
def jAt (l : Addr) : Rp Unit := fun _ v _ => v = .ref l
instance {l : Addr} : Up (jAt l) := ⟨fun _ h => h⟩
/-- d[y] = e -/
theorem s_nput [Up Rv] {a : Addr} (hv : EvR Z tv σ S Rv b) (hd : EvR Z td σ S (jAt a) ()) (hy : EvR Z ty σ S jK L) (n : OwnN P w Z S H a Rv d) (k : Stp Z S0 H0 S H) (h0 : H0 a = none) (hl : d.length < 10000)
    (nx : ∀ S' H', Stp Z S0 H0 S' H' → Same S S' → OwnN P w Z S' H' a Rv (Mir.put d L b) → (∀ m u, m ≠ a → Own Z S H m u → Own Z S' H' m u) → D.nx σ H') : sNPut P w td ty tv D σ H :=
  hv S H (Same.refl _) k.ok _ fun S1 H1 v t1 rv => hd S1 H1 t1.ss t1.ok _ fun S2 H2 u t2 ru => hy S2 H2 (t1.ss.trans t2.ss) t2.ok _ fun S3 H3 yv t3 ry => by
    obtain ⟨ka, rfl⟩ := ref_of ry
    have t := (t1.trans t2).trans t3
    obtain ⟨o, us, ow, no, rl⟩ := n
    have ow3 := ow.step t
    have rl3 := rl.up t.ss
    refine ⟨a, o, us, ka, L, ru, rfl, ow3.at_, no, by rw [rl.len]; exact hl, rl3.keys t.ok.le, Up.up t.ok.le ry, fun o' u' ru' no' => ?_⟩
    exact nx S3 _ ((k.trans t).put h0 ow3.off) t.ss ⟨o', _, ow3.put, no', rl3.put ry ru' (Up.up (t2.ss.trans t3.ss) rv)⟩ fun m u' ne om => (om.step t).other ne
/-! ### thawing -/
def rem (S : Hp) (a : Addr) : Hp := fun b => if b = a then none else S b
theorem rem_ne {S : Hp} {a b : Addr} (h : b ≠ a) : rem S a b = S b := if_neg h
theorem rem_at {S : Hp} {a : Addr} : rem S a a = none := if_pos rfl
theorem Stp.thaw {a : Addr} {o : HO} {S1 H1 : Hp} (t : Stp Z S0 H0 S1 H1) (h0 : H0 a = Option.none) (ha : S1 a = some o) (hz : ¬ a ∈ Z) : Stp Z S0 H0 (rem S1 a) H1 ∧ Own Z (rem S1 a) H1 a o := by
  refine ⟨⟨t.ok0, ⟨fun b u e => ?_, fun p hp => ?_, t.ok.tab⟩, fun b u e => ?_, t.old, fun b u e n => ?_⟩, t.ok.le _ _ ha, rem_at, hz⟩
  · by_cases hb : b = a
    · rw [hb, rem_at] at e
      cases e
    · rw [rem_ne hb] at e
      exact t.ok.le b u e
  · rw [rem_ne (fun z => hz (by rw [← z]; exact hp))]
    exact t.ok.out p hp
  · have hb : b ≠ a := fun z => by
      rw [z, t.ok0.free h0] at e
      cases e
    rw [rem_ne hb]
    exact t.ss b u e
  · by_cases hb : b = a
    · rw [hb]
      exact rem_at
    · rw [rem_ne hb]
      exact t.new b u e n
/-- what stood before the freezing stands behind it -/
theorem same_rem {a : Addr} {S1 : Hp} (h : Same (upd S a o) S1) (n : S a = none) : Same S (rem S1 a) := fun b u e => by
  have hb : b ≠ a := ne_of_none e n
  rw [rem_ne hb]
  refine h b u ?_
  rw [upd_ne hb]
  exact e
/-- a reading that an object worked at plays no part in -/
def Thaw {α : Type} (R : Rp α) : Prop := ∀ (S : Hp) (a : Addr) (o : Obj) (v : V) (x : α), S a = some (XO a o) → R S v x → R (rem S a) v x
theorem thaw_I : Thaw jI := fun _ _ _ _ _ _ h => h
theorem Pr.thaw {S : Hp} {a : Addr} {o : Obj} {vs : List V} {xs : List α} (hR : Thaw R) (e : S a = some (XO a o)) (h : Pr R S vs xs) : Pr R (rem S a) vs xs := Paired.mapP h fun _ _ r => hR _ _ _ _ _ e r
theorem thaw_2 (h1 : Thaw R) (h2 : Thaw R') : Thaw (j2 R R') := fun S a o v p e ⟨c, x, y, ev, hc, hx, hy⟩ => ⟨c, x, y, ev, by
  rw [rem_ne (fun z => by rw [z, e] at hc; cases hc)]
  exact hc, h1 _ _ _ _ _ e hx, h2 _ _ _ _ _ e hy⟩
theorem thaw_U (h1 : Thaw R) : Thaw (jU R) := fun S a o v p e ⟨c, vs, ev, hc, hp⟩ => ⟨c, vs, ev, by
  rw [rem_ne (fun z => by rw [z, e] at hc; cases hc)]
  exact hc, hp.thaw h1 e⟩
theorem thaw_L (h1 : Thaw R) : Thaw (jL R) := fun S a o v p e ⟨c, vs, ev, hc, hp⟩ => ⟨c, vs, ev, by
  rw [rem_ne (fun z => by rw [z, e] at hc; cases hc)]
  exact hc, hp.thaw h1 e⟩
theorem thaw_K : Thaw jK := thaw_U (thaw_2 thaw_I thaw_I)
theorem OwnL.thaw {a l : Addr} {o : Obj} {xs : List α} (hR : Thaw R) (e : S a = some (XO a o)) (w : OwnL Z S H l R xs) : OwnL Z (rem S a) H l R xs := by
  obtain ⟨vs, ow, p⟩ := w
  refine ⟨vs, ⟨ow.at_, ?_, ow.nz⟩, p.thaw hR e⟩
  by_cases hb : l = a
  · rw [hb]
    exact rem_at
  · rw [rem_ne hb]
    exact ow.off
/-! ### lists and [] -/
theorem canAll {enc : α → PyData} (h : ∀ x, (enc x).canLay0 = true) : ∀ xs : List α, PyData.canLayAll0 (xs.map enc) = true
  | [] => rfl
  | x :: r => by
    show ((enc x).canLay0 && PyData.canLayAll0 (r.map enc)) = true
    rw [h x, canAll h r]
    rfl
theorem depAll {enc : α → PyData} (h : ∀ x, (enc x).depth ≤ 8) : ∀ xs : List α, PyData.depthAll (xs.map enc) ≤ 8
  | [] => Nat.zero_le _
  | x :: r => by
    show max _ _ ≤ 8
    exact Nat.max_le.mpr ⟨h x, depAll h r⟩
theorem shaped_list {enc : α → PyData} (h : ∀ x, (enc x).canLay0 = true) (h2 : ∀ x, (enc x).depth ≤ 8) (xs : List α) : SeqAt.shaped (.list (xs.map enc)) = true := by
  show (PyData.canLayAll0 (xs.map enc) && decide (PyData.depthAll (xs.map enc) + 1 ≤ 64)) = true
  rw [canAll h xs]
  have := depAll h2 xs
  rw [decide_eq_true (by omega)]
  rfl
theorem eqv_nil {enc : α → PyData} (xs : List α) : PyData.eqv (.list (xs.map enc)) (.list []) = xs.isEmpty := by
  cases xs <;> simp [PyData.eqv, PyData.eqvAll]
theorem dp_nil {S H : Hp} {v : V} (h : jL jI S v []) (e : Same S H) : Dp K H v (.list []) := dp_L (enc := encI) (fun _ _ h => dp_I h) (Up.up e h)
theorem ev_eqNil [Up R] {enc : α → PyData} {xs : List α} (hc : ∀ x, (enc x).canLay0 = true) (hdep : ∀ x, (enc x).depth ≤ 8) (hd : ∀ S v x, R S v x → Dp K S v (enc x)) (ha : EvR Z ta σ S (jL R) xs) : EvR Z (tOp (rEqD K) ta (tLst tNil)) σ S jB xs.isEmpty :=
  ev_op (z := xs.isEmpty) (R'' := jB) ha (ev_nil (R := jI)) fun S1 H v w Q s k hv hw q => ⟨_, _, dp_L (enc := enc) (fun v x h => hd H v x h) (Up.up k.le hv), dp_nil hw k.le, shaped_list hc hdep xs, shaped_list (enc := encI) (fun _ => rfl) (fun _ => Nat.zero_le _) [], q S1 H _ (.refl k) (by rw [eqv_nil]; rfl)⟩
theorem ev_neNil [Up R] {enc : α → PyData} {xs : List α} (hc : ∀ x, (enc x).canLay0 = true) (hdep : ∀ x, (enc x).depth ≤ 8) (hd : ∀ S v x, R S v x → Dp K S v (enc x)) (ha : EvR Z ta σ S (jL R) xs) : EvR Z (tOp (rNeD K) ta (tLst tNil)) σ S jB (!xs.isEmpty) :=
  ev_op (z := !xs.isEmpty) (R'' := jB) ha (ev_nil (R := jI)) fun S1 H v w Q s k hv hw q => ⟨_, _, dp_L (enc := enc) (fun v x h => hd H v x h) (Up.up k.le hv), dp_nil hw k.le, shaped_list hc hdep xs, shaped_list (enc := encI) (fun _ => rfl) (fun _ => Nat.zero_le _) [], q S1 H _ (.refl k) (by rw [eqv_nil]; rfl)⟩
def encK (L : Mir.Lay) : PyData := .tuple (L.map encB)
theorem can_B (b : Mir.Blk) : (encB b).canLay0 = true := rfl
theorem dep_B (b : Mir.Blk) : (encB b).depth ≤ 2 := by
  show (1 : Nat) ≤ 2
  decide
theorem can_K (L : Mir.Lay) : (encK L).canLay0 = true := canAll (enc := encB) can_B L
theorem dep_K (L : Mir.Lay) : (encK L).depth ≤ 8 := by
  show PyData.depthAll (L.map encB) + 1 ≤ 8
  have h : ∀ L : Mir.Lay, PyData.depthAll (L.map encB) ≤ 2 := fun L => by
    induction L with
    | nil => exact Nat.zero_le _
    | cons a r ih =>
      show max _ _ ≤ 2
      exact Nat.max_le.mpr ⟨dep_B a, ih⟩
  have := h L
  omega
theorem dp_K (S : Hp) (v : V) (L : Mir.Lay) (h : jK S v L) : Dp K S v (encK L) := dp_U (fun v x => dp_B S v x) h
/-! ### l.append(e) where l is any expression -/
theorem s_appE [Up R] {to : TE} {l : Addr} {xs : List α} (ho : EvR Z to σ S (jAt l) ()) (w : OwnL Z S H l R xs) (h : EvR Z te σ S R x) (k : Stp Z S0 H0 S H) (h0 : H0 l = none) (hl : xs.length < 100000)
    (n : ∀ S' H', Stp Z S0 H0 S' H' → Same S S' → OwnL Z S' H' l R (xs ++ [x]) → (∀ (β : Type) (R' : Rp β) (_ : Up R') m ys, m ≠ l → OwnL Z S H m R' ys → OwnL Z S' H' m R' ys) → D.nx σ H') : tDrop (tBM K "list" rAppend to (tCons te tNil)) D σ H :=
  ho S H (Same.refl _) k.ok _ fun S1 H1 v t1 e1 => by
    have e1 : v = .ref l := e1
    subst e1
    obtain ⟨vs, o, p⟩ := w.step t1
    refine ⟨Or.inl ⟨rfl, vs, SqL.of o.at_⟩, h S1 H1 t1.ss t1.ok _ fun S2 H2 v t r => ?_⟩
    have o1 := o.step t
    refine ⟨l, vs, v, rfl, rfl, o1.at_, ?_, n S2 _ (((k.trans t1).trans t).put h0 o1.off) (t1.ss.trans t.ss) ⟨vs ++ [v], o1.put, (p.up t.ss).app (Pr.one r)⟩ fun β R' hU m ys ne om => ((om.step t1).step t).other ne⟩
    rw [p.len]
    exact Nat.lt_trans hl (by decide)
theorem ev_int1 {i : Int} (h : EvR Z te σ S jI i) : EvR Z (tCB (fun xs H Q => (∃ i, xs = [.int i] ∧ Q (.int i) H) ∨ ∃ k, xs = [.bl k] ∧ Q (.int (if k then 1 else 0)) H) (tCons te tNil)) σ S jI i := fun S1 H s k Q q =>
  h S1 H s k _ fun S2 H2 v t r => Or.inl ⟨i, by rw [show v = .int i from r], q S2 H2 _ t rfl⟩
theorem ev_intB {i : Bool} (h : EvR Z te σ S jB i) : EvR Z (tCB (fun xs H Q => (∃ i, xs = [.int i] ∧ Q (.int i) H) ∨ ∃ k, xs = [.bl k] ∧ Q (.int (if k then 1 else 0)) H) (tCons te tNil)) σ S jI (if i then 1 else 0) := fun S1 H s k Q q =>
  h S1 H s k _ fun S2 H2 v t r => Or.inr ⟨i, by rw [show v = .bl i from r], q S2 H2 _ t rfl⟩
/-- i += e -/
theorem q_aug {i : Nat} {a b : Int} {g : Int → Int → Int} (ho : σ[i]? = some (some (.int a))) (h : EvR Z te σ S jI b) (k : Stp Z S0 H0 S H) (n : ∀ S' H', Stp Z S0 H0 S' H' → Same S S' → Stp Z S H S' H' → rest D (σ.set i (some (.int (g a b)))) H') : tSeq (tAug i te (ipI g)) rest D σ H :=
  s_seq ⟨.int a, ho, h S H (Same.refl _) k.ok _ fun S1 H1 v t r => ⟨a, b, rfl, r, n S1 H1 (k.trans t) t.ss t⟩⟩
/-- o.m(e, ..) -/
theorem ev_meth {A : Ra β} {C : Addr} {m : Str} {pre : α × β → Prop} {f : α × β → γ} {R3 : Rp γ} {E : XK} [Up R] (ho : EvR Z ta σ S R x) (hc : ∀ S1 v, R S1 v x → ∃ a dx fs, v = .ref a ∧ S1 a = some (.ins C dx fs) ∧ fs.lookup m = none) (h : EvA Z tr σ S A y) (p : pre (x, y)) :
    EvR Z (tMeth C m (Fn Z (aC R A) pre R3 f) [] E ta tr) σ S R3 (f (x, y)) := fun S1 H s k Q q =>
  ho S1 H s k _ fun S2 H2 v t r => by
    obtain ⟨a, dx, fs, e, hs, hl⟩ := hc S2 v r
    refine ⟨a, dx, fs, e, t.ok.le _ _ hs, hl, h S2 H2 (s.trans t.ss) t.ok _ fun S3 H3 vs t3 ra => ?_⟩
    rw [List.append_nil]
    exact ⟨S3, (x, y), t3.ok, ⟨v, vs, rfl, Up.up t3.ss r, ra⟩, p, fun S4 H4 r4 t4 hr => q S4 H4 r4 ((t.trans t3).trans t4) hr⟩
/-- self.f = {} -/
theorem q_fldN {i : Nat} {a dx C : Addr} {fs : List (Str × V)} {f : Str} (ho : σ[i]? = some (some (.ref a))) (ow : Own Z S H a (.ins C dx fs)) (k : Stp Z S0 H0 S H) (h0 : H0 a = none) (c : Cls K C) (n : NoAttr K C f) (hl : fs.length < 1000)
    (nx : ∀ p H', H0 p = none → p ≠ a → Stp Z S0 H0 S H' → Own Z S H' a (.ins C dx (putF f (.ref p) fs)) → OwnN P w Z S H' p Rv [] → rest D σ H') : tSeq (sFld K (tVar i) tNNew f) rest D σ H :=
  s_seq fun p hs hp => by
    have ne : p ≠ a := fun z => by
      rw [z, ow.at_] at hp
      cases hp
    have t := k.trans (k.ok.mk' (o := XO p { cls := .type "dict", data := .dict #[] }) hp)
    have o1 := ow.step (k.ok.mk' (o := XO p { cls := .type "dict", data := .dict #[] }) hp)
    exact ⟨.ref a, ho, a, C, dx, fs, rfl, o1.at_, c, n, hl, nx p _ (k.none hp) ne (t.put h0 o1.off) o1.put ⟨_, [], (Own.new k.ok hp).other ne, nobj_new hs, .nil⟩⟩
/-- a cell that is worked at is frozen: the others that are worked at go on so -/
theorem Own.keep {a l : Addr} {o u : HO} (ow : Own Z S H l o) (ne : l ≠ a) : Own Z (upd S a u) H l o := ⟨ow.at_, by rw [upd_ne ne]; exact ow.off, ow.nz⟩
theorem OwnL.keep [Up R] {a l : Addr} {xs : List α} {u : HO} (ow : OwnL Z S H l R xs) (ne : l ≠ a) (n : S a = none) : OwnL Z (upd S a u) H l R xs := let ⟨vs, o, p⟩ := ow; ⟨vs, o.keep ne, p.up (same_upd n)⟩
theorem OwnN.keep [Up Rv] {a l : Addr} {u : HO} (ow : OwnN P w Z S H l Rv d) (ne : l ≠ a) (n : S a = none) : OwnN P w Z (upd S a u) H l Rv d := let ⟨o, us, h1, h2, h3⟩ := ow; ⟨o, us, h1.keep ne, h2, h3.up (same_upd n)⟩
end
end Hg
end Z_HgM

section Z_D6
set_option maxHeartbeats 4000000
namespace Mir
def optPre (c : Con) (L : Lay) : Bool := decide (L.length ≤ 100) && (decide (c.lengths.length ≤ 100) && (requestable c L).all fun l => repPre c L l && (decide ((replies c L l).length ≤ 10000) && (replies c L l).all fun r => afterPre L r))
def forPre (o : Opt) : Bool := o.2.all fun ls => decide (ls.length ≤ 10000)
end Mir
namespace Hg
open PySem L2
abbrev CO (K : PySem.W.Frag) : Addr := He.ga K "Options"
def postOpt (S : Hp) (fs : List (Str × V)) (o : Mir.Opt) : Prop := ∃ l1 l2, fs.lookup ("released" : Str) = some l1 ∧ fs.lookup ("answered" : Str) = some l2 ∧ fs.lookup ("forced" : Str) = none ∧ jL jK S l1 o.1 ∧ jL (jL jK) S l2 o.2
abbrev jOpt (K : PySem.W.Frag) : Rp Mir.Opt := jOb (CO K) postOpt
theorem postOpt_up {S S' : Hp} {fs : List (Str × V)} {o : Mir.Opt} (e : Same S S') (h : postOpt S fs o) : postOpt S' fs o := let ⟨l1, l2, a, b, c, d, f⟩ := h; ⟨l1, l2, a, b, c, Up.up e d, Up.up e f⟩
instance {K : PySem.W.Frag} : Up (jOpt K) := ⟨fun e ⟨a, dx, fs, h1, h2, h3⟩ => ⟨a, dx, fs, h1, e _ _ h2, postOpt_up e h3⟩⟩
def spOptI (Z : List Addr) (K : PySem.W.Frag) : Sp := Ini Z (CO K) (aC (jCon K) (aC jLay aN)) (fun p => Mir.optPre p.1 p.2.1 = true) fun S fs p => postOpt S fs (Mir.options p.1 p.2.1)
def spForced (P : Program) (w : World) (Z : List Addr) (K : PySem.W.Frag) : Sp := Fn Z (aC (jOpt K) (aC (jN P w jI) aN)) (fun p => Mir.forPre p.1 = true) jB fun p => Mir.forced p.1 p.2.1
section
variable {Pg : Program} {w : World} {K : PySem.W.Frag} {mg : Str → Option Value} {base : Heap} {Z : List Addr} {f : Addr} {fd : FuncData} {σ : L2.St} {S : Hp} {te : TE}
theorem ev_rel (T : Txt K mg) {o : Mir.Opt} (h : EvR Z te σ S (jOpt K) o) : EvR Z (tFld K te "released") σ S (jL jK) o.1 := ev_fld h T.c_Options T.n_Options_released fun S1 v ⟨a, dx, fs, e1, e2, l1, l2, h1, h2, h3, h4, h5⟩ => ⟨a, dx, fs, l1, e1, e2, h1, h4⟩
theorem ev_ans (T : Txt K mg) {o : Mir.Opt} (h : EvR Z te σ S (jOpt K) o) : EvR Z (tFld K te "answered") σ S (jL (jL jK)) o.2 := ev_fld h T.c_Options T.n_Options_answered fun S1 v ⟨a, dx, fs, e1, e2, l1, l2, h1, h2, h3, h4, h5⟩ => ⟨a, dx, fs, l2, e1, e2, h2, h5⟩
/-- self, its field f the thing at l -/
def jSelf (C : Addr) (f : Str) (l : Addr) : Rp Unit := fun S v _ => ∃ a dx fs, v = .ref a ∧ S a = some (.ins C dx fs) ∧ fs.lookup f = some (.ref l)
instance {C l : Addr} {f : Str} : Up (jSelf C f l) := ⟨fun e ⟨a, dx, fs, h1, h2, h3⟩ => ⟨a, dx, fs, h1, e _ _ h2, h3⟩⟩
theorem ev_self {C l : Addr} {f : Str} (h : EvR Z te σ S (jSelf C f l) ()) (c : Cls K C) (n : NoAttr K C f) : EvR Z (tFld K te f) σ S (jAt l) () := ev_fld h c n fun S1 v ⟨a, dx, fs, e1, e2, h1⟩ => ⟨a, dx, fs, .ref l, e1, e2, h1, rfl⟩
theorem all_map {α : Type} (f : α → Bool) : ∀ xs : List α, (xs.map f).all id = xs.all f
  | [] => rfl
  | x :: r => by
    rw [List.map_cons, List.all_cons, List.all_cons, all_map f r]
    rfl
theorem ev_allB {ta : TE} {bs : List Bool} (ha : EvR Z ta σ S (jL jB) bs) : EvR Z (tCB (rAll K) (tCons ta tNil)) σ S jB (bs.all id) := fun S1 H s k Q q =>
  ha S1 H s k _ fun S2 H2 v t ⟨a, vs, e, h, p⟩ => ⟨a, bs, by rw [e], SqL.of (by rw [← p.bools]; exact t.ok.le _ _ h), q _ _ _ t rfl⟩
abbrev N_Options_init : List Str := ["self", "contract", "layout", "length", "found", "index", "reply"]
theorem sc_Options_init : FnScope N_Options_init ["self", "contract", "layout"] (defScope s_Options_init) := ⟨rfl, rfl, rfl, by decide +kernel, rfl, by decide +kernel, by decide +kernel⟩
theorem ok_Options_init (F : FnP K "__init__" "Options.__init__" s_Options_init f fd) (T : Txt K mg) (c_requestable : Cal Pg w K mg base 2 (He.ga K "requestable") ["contract", "layout"] (spReq Z K)) (c_without : Cal Pg w K mg base 1 (He.ga K "without") ["layout", "index"] (spWithout Z))
    (c_replies : Cal Pg w K mg base 5 (He.ga K "replies") ["contract", "layout", "length"] (spReplies Z K)) (c_after_reply : Cal Pg w K mg base 3 (He.ga K "after_reply") ["layout", "length", "reply"] (spAfter Z)) : FnOk Pg w K mg base CX0 6 f fd ["self", "contract", "layout"] (spOptI Z K) := by
  refine F.ok sc_Options_init (fun vs H Q E ⟨S, H0, x, a, dx, r, e, h1, h2, h3, h4, h5, ⟨v1, r1, e1, _, v2, r2, e2, _, e3⟩, _⟩ => by
    have e3 : r2 = [] := e3
    rw [e, e1, e2, e3]
    rfl) (fun cdv A outer s H vs Q E hr h => ⟨_, PSs.nox (pss_cons (ps_fld (pv 0) (pe_lc (own := [("index", 5)]) (g := gName 5) rfl sc_Options_init.nd (pi_range1 rfl T.f_range (pa_cons (pe_callB (kLen K) rfl T.f_len PySem.boot_len (pa_cons (pv 2) pa_nil)) pa_nil)) (blkOk_by (own := [("index", 5)]) (N := N_Options_init) (sc := defScope s_Options_init) (by first | decide +kernel | kernel_rfl)) (fun _ _ _ _ _ => (pg_name (i := 5) sc_Options_init.nd rfl (Or.inl rfl))) (fun _ _ _ _ _ => pts_nil) (fun _ _ _ _ _ => (pe_callTy (kTup K) rfl T.f_tuple (by decide +kernel) (pa_cons (pe_call c_without.ok (hr.mono (by decide)) rfl T.g_without c_without.kp c_without.bd .nil pass0 (pa_cons (pv 2) (pa_cons (pv 5) pa_nil))) pa_nil)))) rfl)
      (pss_cons (ps_fld (pv 0) (pe_lst pa_nil) rfl)
      (pss_one (ps_for PassesOwn.never rfl (kiList K (pe_call c_requestable.ok (hr.mono (by decide)) rfl T.g_requestable c_requestable.kp c_requestable.bd .nil pass0 (pa_cons (pv 1) (pa_cons (pv 2) pa_nil)))) (pg_name (i := 3) sc_Options_init.nd rfl (by first | exact Or.inl rfl | exact Or.inr rfl)) (pss_cons (ps_set (i := 4) sc_Options_init.nd rfl (by first | exact Or.inl rfl | exact Or.inr rfl) (pe_call c_replies.ok (hr.mono (by decide)) rfl T.g_replies c_replies.kp c_replies.bd .nil pass0 (pa_cons (pv 1) (pa_cons (pv 2) (pa_cons (pv 3) pa_nil)))))
      (pss_one (ps_expr (pe_bm PySem.F.plainAttrs_list PySem.F.slot_list_append PySem.F.type_list_append mt_append (kFld K (pv 0)) (pa_cons (pe_lc (own := [("reply", 6)]) (g := gName 6) rfl sc_Options_init.nd (kiList K (pv 4)) (blkOk_by (own := [("reply", 6)]) (N := N_Options_init) (sc := defScope s_Options_init) (by first | decide +kernel | kernel_rfl)) (fun _ _ _ _ _ => (pg_name (i := 6) sc_Options_init.nd rfl (Or.inl rfl))) (fun _ _ _ _ _ => pts_nil) (fun _ _ _ _ _ => (pe_callTy (kTup K) rfl T.f_tuple (by decide +kernel) (pa_cons (pe_call c_after_reply.ok (hr.mono (by decide)) rfl T.g_after_reply c_after_reply.kp c_after_reply.bd .nil pass0 (pa_cons (pv 2) (pa_cons (pv 3) (pa_cons (pv 6) pa_nil)))) pa_nil)))) pa_nil))))))))), ?_⟩)
  obtain ⟨S, H0, ⟨c, L, u⟩, a, dx, r, rfl, k, n1, n2, ne, rfl, ⟨v1, r1, rfl, hc, v2, r2, rfl, hL, hr'⟩, p, q⟩ := h
  cases hr'
  obtain ⟨t0, o0⟩ := ini_stp (C := CO K) k n1 n2 ne
  have hc : jCon K S v1 c := hc
  have hL : jLay S v2 L := hL
  have p : Mir.optPre c L = true := p
  unfold Mir.optPre at p
  simp only [Bool.and_eq_true, List.all_eq_true, decide_eq_true_eq] at p
  obtain ⟨p1, p2, p3⟩ := p
  refine q_fld (R := jL jK) (x := Mir.released L) rfl o0 ((ev_lcM (R := jI) (R' := jK) (ei_range1 (ea_cons (ev_len (ev_var rfl hL)) ea_nil) ⟨by omega, by omega⟩) (fun i => Mir.without L i.toNat) (fun S1 v x hx s1 h1 => ?_) (by rw [rng_len]; omega)).is rfl) t0 n1 T.c_Options T.n_Options_released (by decide) fun S1 H1 w1 t1 s1 e1 o1 => ?_
  · obtain ⟨i, hi⟩ := List.mem_iff_getElem?.mp hx
    obtain ⟨e1, e2⟩ := rng_at hi
    exact ⟨_, eg_name, rfl, ev_tupleL (ev_call (x := (L, x, ())) (ea_cons (ev_var rfl (Up.up s1 hL)) (ea_cons (ev_var (x := x) rfl h1) ea_nil)) ⟨by show 0 ≤ x; omega, by show x < (L.length : Int); omega, p1⟩)⟩
  refine q_fldL (R := jL jK) rfl o1 t1 n1 T.c_Options T.n_Options_answered (putF_lt (by decide)) fun l H2 l0 la t2 o2 ol => ?_
  obtain ⟨fs, hfs⟩ : ∃ fs, fs = putF ("answered" : Str) (.ref l) (putF ("released" : Str) w1 []) := ⟨_, rfl⟩
  rw [← hfs] at o2
  have f1 : fs.lookup ("released" : Str) = some w1 := by rw [hfs]; rfl
  have f2 : fs.lookup ("answered" : Str) = some (.ref l) := by rw [hfs]; rfl
  have f3 : fs.lookup ("forced" : Str) = none := by rw [hfs]; rfl
  have t3 := t2.frz n1 o2.at_
  have os : S1 a = none := o2.off
  have ol3 : OwnL Z (upd S1 a (.ins (CO K) dx fs)) H2 l (jL jK) [] := ol.keep la os
  have hself : jSelf (CO K) "answered" l (upd S1 a (.ins (CO K) dx fs)) (.ref a) () := ⟨a, dx, _, rfl, upd_same, f2⟩
  have e13 : jL jK (upd S1 a (.ins (CO K) dx fs)) w1 (Mir.released L) := Up.up (same_upd os) e1
  have at3 : upd S1 a (.ins (CO K) dx fs) a = some (.ins (CO K) dx fs) := upd_same
  generalize upd S1 a (.ins (CO K) dx fs) = S3 at t3 ol3 hself e13 at3
  refine s_forT (R := jI) (R' := jL jK) (l := l) (acc := []) (b := fun _ => true) (f := fun l => (Mir.replies c L l).map fun r => Mir.after L l r) (ei_list (ev_call (x := (c, L, ())) (ea_cons (ev_var rfl (Up.up t3.ss hc)) (ea_cons (ev_var rfl (Up.up t3.ss hL)) ea_nil)) ⟨p1, p2⟩)) t3
    (fun σ => ∃ o3 o4 o5 o6, σ = [some (.ref a), some v1, some v2, o3, o4, o5, o6]) (fun _ _ => True) (fun _ _ _ _ _ _ => trivial) ⟨_, _, _, _, rfl⟩ trivial ol3
    (fun ln S4 σ4 H4 v4 acc N4 hmem t4 s4 hv4 ⟨o3, o4, o5, o6, e4⟩ _ ol4 l4 hN4 => ?_) (fun S4 σ4 H4 t4 s4 ⟨o3, o4, o5, o6, e4⟩ _ ol4 => ?_)
  · subst e4
    have hv4 : v4 = .int ln := hv4
    subst hv4
    obtain ⟨m1, m2, m3⟩ := p3 ln hmem
    refine ⟨_, eg_name, ?_⟩
    refine q_set (ev_call (x := (c, L, ln, ())) (ea_cons (ev_var rfl (Up.up t4.ss hc)) (ea_cons (ev_var rfl (Up.up t4.ss hL)) (ea_cons (ev_var (x := ln) rfl rfl) ea_nil))) m1) t4 fun S5 H5 v5 t5 s5 t5' h5 => ?_
    refine s_appE (R := jL jK) (x := (Mir.replies c L ln).map fun r => Mir.after L ln r) (ev_self (ev_var rfl (Up.up (s4.trans s5) hself)) T.c_Options T.n_Options_answered) (ol4.step t5') (ev_lcM (R := jRep) (R' := jK) (ei_list (ev_var rfl h5)) (fun r => Mir.after L ln r) (fun S6 v6 x hx s6 h6 => ?_) (Nat.le_trans m2 (by decide))) t5 l0 ?_ fun S7 H7 t7 s7 ol7 _ => hN4 S7 _ H7 t7 (s5.trans s7) ⟨_, _, _, _, rfl⟩ trivial ol7
    · exact ⟨_, eg_name, rfl, ev_tupleL (ev_call (x := (L, ln, x, ())) (ea_cons (ev_var rfl (Up.up (t5.ss.trans s6) hL)) (ea_cons (ev_var (x := ln) rfl rfl) (ea_cons (ev_var rfl h6) ea_nil))) (m3 x hx))⟩
    · have l4' : acc.length + 1 ≤ 0 + (((Mir.requestable c L).filter fun _ => true).map fun l => (Mir.replies c L l).map fun r => Mir.after L l r).length := l4
      rw [List.length_map] at l4'
      have h1 := List.length_filter_le (fun _ : Int => true) (Mir.requestable c L)
      have h2 : (Mir.requestable c L).length ≤ c.lengths.length := List.length_filter_le _ _
      omega
  · subst e4
    obtain ⟨S5, t5, s5, r5⟩ := ol4.frz t4 l0
    refine q S5 H4 _ t5 (t5.ok.le _ _ (s5 _ _ (s4 _ _ at3))) ⟨w1, .ref l, f1, f2, f3, Up.up (s4.trans s5) e13, ?_⟩
    have ef : ∀ xs : List Int, xs.filter (fun _ => true) = xs := fun xs => by simp
    rw [List.nil_append, ef] at r5
    exact r5
abbrev N_Options_forced : List Str := ["self", "won", "layout", "layouts"]
theorem sc_Options_forced : FnScope N_Options_forced ["self", "won"] (defScope s_Options_forced) := ⟨rfl, rfl, rfl, by decide +kernel, rfl, by decide +kernel, by decide +kernel⟩
theorem ok_Options_forced (F : FnP K "forced" "Options.forced" s_Options_forced f fd) (T : Txt K mg) : FnOk Pg w K mg base CX0 1 f fd ["self", "won"] (spForced Pg w Z K) := by
  refine F.ok sc_Options_forced fn_len2 (fun cdv A outer s H vs Q E hr h => ⟨_, PSs.nox (pss_cons (ps_for PassesOwn.never rfl (kiList K (kFld K (pv 0))) (pg_name (i := 2) sc_Options_forced.nd rfl (by first | exact Or.inl rfl | exact Or.inr rfl)) (pss_one (ps_if (pt_cmp (kNin Pg w hr (pv 2) (pv 1))) (pss_one (ps_ret pe_bl)) pss_nil)))
      (pss_cons (ps_for PassesOwn.never rfl (kiList K (kFld K (pv 0))) (pg_name (i := 3) sc_Options_forced.nd rfl (by first | exact Or.inl rfl | exact Or.inr rfl)) (pss_one (ps_if (pt_val (pe_callB (kAll K rfl) rfl T.f_all (by decide +kernel) (pa_cons (pe_lc (own := [("layout", 2)]) (g := gName 2) rfl sc_Options_forced.nd (kiList K (pv 3)) (blkOk_by (own := [("layout", 2)]) (N := N_Options_forced) (sc := defScope s_Options_forced) (by first | decide +kernel | kernel_rfl)) (fun _ _ _ _ _ => (pg_name (i := 2) sc_Options_forced.nd rfl (Or.inl rfl))) (fun _ _ _ _ _ => pts_nil) (fun _ _ _ _ _ => (pe_cmp (kNin Pg w hr (pv 2) (pv 1))))) pa_nil))) (pss_one (ps_ret pe_bl)) pss_nil)))
      (pss_one (ps_ret pe_bl)))), ?_⟩)
  obtain ⟨S, ⟨o, d, u⟩, k, ⟨v, r, rfl, ho, v', r', rfl, hd, hr'⟩, p, q⟩ := h
  cases hr'
  have ho : jOpt K S v o := ho
  have hd : jN Pg w jI S v' d := hd
  have p : Mir.forPre o = true := p
  unfold Mir.forPre at p
  simp only [List.all_eq_true, decide_eq_true_eq] at p
  refine q_for (ei_list (ev_rel T (ev_var rfl ho))) (.refl k) (fun i S2 σ2 H2 => (∃ o2 o3, σ2 = [some v, some v', o2, o3]) ∧ (o.1.take i).any (fun k => Mir.has d k) = false) (fun i S2 σ2 H2 S3 H3 h t => h) ⟨⟨_, _, rfl⟩, rfl⟩ ?_ ?_
  · rintro i L S2 σ2 H2 v2 N hx t2 s2 hL ⟨⟨o2, o3, rfl⟩, hany⟩ hN
    refine ⟨_, eg_name, ?_⟩
    refine s_if (et_test (ev_nin (ev_var rfl hL) (ev_var rfl (Up.up s2 hd)))) t2.ok (fun hb S3 H3 t3 => ?_) (fun hb S3 H3 t3 => ?_)
    · refine q_ret (ev_bl (i := true)) (t2.trans t3) fun S4 H4 v4 t4 h4 => q S4 H4 v4 t4 ?_
      have hb : Mir.has d L = true := hb
      have e : Mir.forced o d = true := by
        unfold Mir.forced
        rw [Bool.or_eq_true, List.any_eq_true]
        exact Or.inl ⟨L, List.mem_of_getElem? hx, hb⟩
      show jB S4 v4 (Mir.forced o d)
      rw [e]
      exact h4
    · refine hN S3 _ H3 (t2.trans t3) t3.ss ⟨⟨_, _, rfl⟩, ?_⟩
      have hb : Mir.has d L = false := hb
      rw [List.take_add_one, hx, List.any_append, hany]
      simp [hb]
  · rintro S2 σ2 H2 t2 s2 ⟨⟨o2, o3, rfl⟩, hany⟩
    rw [List.take_length] at hany
    refine q_for (ei_list (ev_ans T (ev_var rfl (Up.up s2 ho)))) t2 (fun i S2 σ2 H2 => (∃ o2 o3, σ2 = [some v, some v', o2, o3]) ∧ (o.2.take i).any (fun ls => ls.all fun k => Mir.has d k) = false) (fun i S2 σ2 H2 S3 H3 h t => h) ⟨⟨_, _, rfl⟩, rfl⟩ ?_ ?_
    · rintro i ls S3 σ3 H3 v3 N hx t3 s3 hls ⟨⟨o2, o3, rfl⟩, hany2⟩ hN
      refine ⟨_, eg_name, ?_⟩
      have hlen := p ls (List.mem_of_getElem? hx)
      refine s_if (et_B ((ev_allB (ev_lcM (R' := jB) (ei_list (ev_var rfl hls)) (fun L => Mir.has d L) (fun S4 v4 x hx s4 h4 => ?_) (Nat.le_trans hlen (by decide)))).is (all_map _ _))) t3.ok (fun hb S4 H4 t4 => ?_) (fun hb S4 H4 t4 => ?_)
      · exact ⟨_, eg_name, rfl, ev_nin (ev_var rfl h4) (ev_var rfl (Up.up (t3.ss.trans s4) hd))⟩
      · refine q_ret (ev_bl (i := true)) (t3.trans t4) fun S4 H4 v4 t4 h4 => q S4 H4 v4 t4 ?_
        have e : Mir.forced o d = true := by
          unfold Mir.forced
          rw [Bool.or_eq_true, List.any_eq_true, List.any_eq_true]
          exact Or.inr ⟨ls, List.mem_of_getElem? hx, hb⟩
        show jB S4 v4 (Mir.forced o d)
        rw [e]
        exact h4
      · refine hN S4 _ H4 (t3.trans t4) t4.ss ⟨⟨_, _, rfl⟩, ?_⟩
        rw [List.take_add_one, hx, List.any_append, hany2]
        have hb : (ls.all fun L => Mir.has d L) = false := hb
        show (false || ((ls.all fun k => Mir.has d k) || false)) = false
        rw [hb]
        rfl
    · rintro S3 σ3 H3 t3 s3 ⟨⟨o2, o3, rfl⟩, hany2⟩
      rw [List.take_length] at hany2
      refine q_ret (ev_bl (i := false)) t3 fun S4 H4 v4 t4 h4 => q S4 H4 v4 t4 ?_
      have e : Mir.forced o d = false := by
        unfold Mir.forced
        rw [hany, hany2]
        rfl
      show jB S4 v4 (Mir.forced o d)
      rw [e]
      exact h4
end
end Hg
end Z_D6

section Z_D7
set_option maxHeartbeats 4000000
namespace Mir
def gOk (os : Dct Opt) : Nat → Int → Dct Int → Bool
  | 0, _, _ => true
  | m + 1, number, ranks => decide (ranks.length + (fresh os ranks).length ≤ 1000) && (if (fresh os ranks).isEmpty then true else gOk os m (number + 1) (putAll ranks (fresh os ranks) (number + 1)))
def osOk (os : Dct Opt) : Bool := os.all fun p => forPre p.2 && decide (look os p.1 = some p.2)
def gamePre (c : Con) : Bool := posPre c && (decide ((positions c).length ≤ 1000) && ((positions c).all (fun L => optPre c L) && (osOk (optsOf c) && (gOk (optsOf c) fuel 0 [] && (gameRun (optsOf c) fuel 0 []).isSome))))
theorem put_len {β : Type} (d : Dct β) (k : Lay) (v : β) : (put d k v).length ≤ d.length + 1 := by
  unfold put
  split
  · rw [List.length_map]
    omega
  · rw [List.length_append]
    exact Nat.le_refl _
theorem putAll_len (n : Int) : ∀ (ks : List Lay) (d : Dct Int), (putAll d ks n).length ≤ d.length + ks.length
  | [], d => Nat.le_refl _
  | k :: r, d => by
    have h1 := putAll_len n r (put d k n)
    have h2 := put_len d k n
    show (putAll (put d k n) r n).length ≤ _
    rw [List.length_cons]
    omega
theorem fold_len (c : Con) : ∀ (ks : List Lay) (d : Dct Opt), (ks.foldl (fun d L => put d L (options c L)) d).length ≤ d.length + ks.length
  | [], d => Nat.le_refl _
  | k :: r, d => by
    have h1 := fold_len c r (put d k (options c k))
    have h2 := put_len d k (options c k)
    show (r.foldl (fun d L => put d L (options c L)) (put d k (options c k))).length ≤ _
    rw [List.length_cons]
    omega
/-- what the loop over the keys finds -/
def freshB (os : Dct Opt) (ranks : Dct Int) (L : Lay) : Bool := !has ranks L && forced ((look os L).getD ([], [])) ranks
theorem fresh_keys (os : Dct Opt) (ranks : Dct Int) (h : osOk os = true) : ((os.map (·.1)).filter (freshB os ranks)).map (fun L => L) = fresh os ranks := by
  unfold osOk at h
  rw [List.all_eq_true] at h
  unfold fresh
  rw [List.filter_map, List.map_map]
  have e : os.filter (freshB os ranks ∘ fun p => p.1) = os.filter fun p => !has ranks p.1 && forced p.2 ranks := by
    refine List.filter_congr fun p hp => ?_
    have hh := h p hp
    simp only [Bool.and_eq_true, decide_eq_true_eq] at hh
    show (!has ranks p.1 && forced ((look os p.1).getD ([], [])) ranks) = _
    rw [hh.2]
    rfl
  rw [e]
  rfl
end Mir
namespace Hg
open PySem L2
abbrev CG (K : PySem.W.Frag) : Addr := He.ga K "Game"
def postGame (P : Program) (w : World) (S : Hp) (fs : List (Str × V)) (d : Mir.Dct Int) : Prop := ∃ rv, fs.lookup ("ranks" : Str) = some rv ∧ fs.lookup ("rank" : Str) = none ∧ fs.lookup ("winner" : Str) = none ∧ jN P w jI S rv d
abbrev jGame (P : Program) (w : World) (K : PySem.W.Frag) : Rp (Mir.Dct Int) := jOb (CG K) (postGame P w)
theorem postGame_up {P : Program} {w : World} {S S' : Hp} {fs : List (Str × V)} {d : Mir.Dct Int} (e : Same S S') (h : postGame P w S fs d) : postGame P w S' fs d := let ⟨rv, a, b, c, d⟩ := h; ⟨rv, a, b, c, Up.up e d⟩
instance {P : Program} {w : World} {K : PySem.W.Frag} : Up (jGame P w K) := ⟨fun e ⟨a, dx, fs, h1, h2, h3⟩ => ⟨a, dx, fs, h1, e _ _ h2, postGame_up e h3⟩⟩
def spGameI (P : Program) (w : World) (Z : List Addr) (K : PySem.W.Frag) : Sp := Ini Z (CG K) (aC (jCon K) aN) (fun p => Mir.gamePre p.1 = true) fun S fs p => postGame P w S fs (Mir.game p.1)
def spRank (P : Program) (w : World) (Z : List Addr) (K : PySem.W.Frag) : Sp := Fn Z (aC (jGame P w K) (aC jLay aN)) (fun _ => True) (jO jI) fun p => Mir.look p.1 p.2.1
def win (d : Mir.Dct Int) : Str := if (Mir.look d []).isNone then "manager" else "program"
def spWinner (P : Program) (w : World) (Z : List Addr) (K : PySem.W.Frag) : Sp := Fn Z (aC (jGame P w K) aN) (fun _ => True) jS fun p => win p.1
section
variable {Pg : Program} {w : World} {K : PySem.W.Frag} {mg : Str → Option Value} {base : Heap} {Z : List Addr} {f : Addr} {fd : FuncData} {σ : L2.St} {S : Hp} {te : TE}
theorem ev_ranks (T : Txt K mg) {d : Mir.Dct Int} (h : EvR Z te σ S (jGame Pg w K) d) : EvR Z (tFld K te "ranks") σ S (jN Pg w jI) d := ev_fld h T.c_Game T.n_Game_ranks fun S1 v ⟨a, dx, fs, e1, e2, rv, h1, h2, h3, h4⟩ => ⟨a, dx, fs, rv, e1, e2, h1, h4⟩
abbrev N_Game_rank : List Str := ["self", "layout"]
theorem sc_Game_rank : FnScope N_Game_rank ["self", "layout"] (defScope s_Game_rank) := ⟨rfl, rfl, rfl, by decide +kernel, rfl, by decide +kernel, by decide +kernel⟩
theorem ok_Game_rank (F : FnP K "rank" "Game.rank" s_Game_rank f fd) (T : Txt K mg) : FnOk Pg w K mg base CX0 1 f fd ["self", "layout"] (spRank Pg w Z K) := by
  refine F.ok sc_Game_rank fn_len2 (fun cdv A outer s H vs Q E hr h => ⟨_, PSs.nox (pss_one (ps_ret (pe_nget1 hr (kFld K (pv 0)) (pe_callTy (kTup K) rfl T.f_tuple (by decide +kernel) (pa_cons (pv 1) pa_nil)) ⟨rfl, rfl, rfl, rfl⟩))), ?_⟩)
  obtain ⟨S, ⟨d, L, u⟩, k, ⟨v, r, rfl, hd, v', r', rfl, hL, hr'⟩, p, q⟩ := h
  cases hr'
  exact s_ret (ev_nget1 (ev_ranks T (ev_var rfl hd)) (ev_tupleL (ev_var rfl hL))) k q
abbrev N_Game_winner : List Str := ["self"]
theorem sc_Game_winner : FnScope N_Game_winner ["self"] (defScope s_Game_winner) := ⟨rfl, rfl, rfl, by decide +kernel, rfl, by decide +kernel, by decide +kernel⟩
theorem ok_Game_winner (F : FnP K "winner" "Game.winner" s_Game_winner f fd) (T : Txt K mg) (c_Game_rank : Cal Pg w K mg base 1 (He.ma K (CG K) "rank") ["self", "layout"] (spRank Pg w Z K)) : FnOk Pg w K mg base CX0 2 f fd ["self"] (spWinner Pg w Z K) := by
  refine F.ok sc_Game_winner fn_len1 (fun cdv A outer s H vs Q E hr h => ⟨_, PSs.nox (pss_cons (ps_if (pt_cmp (pc_isN (pe_meth (pv 0) T.c_Game T.m_Game_rank c_Game_rank.ok (hr.mono (by decide)) c_Game_rank.bd .nil pass0 (pa_cons (pe_lst pa_nil) pa_nil)))) (pss_one (ps_ret pe_str)) pss_nil)
      (pss_one (ps_ret pe_str))), ?_⟩)
  obtain ⟨S, ⟨d, u⟩, k, ⟨v, r, rfl, hd, hr'⟩, p, q⟩ := h
  cases hr'
  have hd : jGame Pg w K S v d := hd
  refine q_if (et_B (ev_isN (R' := jI) (ev_meth (R := jGame Pg w K) (x := d) (y := (([] : Mir.Lay), ())) (f := fun p => Mir.look p.1 p.2.1) (ev_var rfl hd) (fun S1 v ⟨a, dx, fs, h1, h2, rv, h3, h4, h5, h6⟩ => ⟨a, dx, fs, h1, h2, h4⟩) (ea_cons ev_nil ea_nil) trivial) (fun S v y h => by
    have h : v = .int y := h
    rw [h]
    intro z
    cases z))) (.refl k) (fun hb S1 H1 t1 s1 t1' => ?_) (fun hb S1 H1 t1 s1 t1' => ?_)
  · refine q_ret (ev_str (i := "manager")) t1 fun S2 H2 v2 t2 h2 => q S2 H2 v2 t2 ?_
    show jS S2 v2 (win d)
    unfold win
    rw [if_pos hb]
    exact h2
  · refine q_ret (ev_str (i := "program")) t1 fun S2 H2 v2 t2 h2 => q S2 H2 v2 t2 ?_
    show jS S2 v2 (win d)
    unfold win
    rw [if_neg (by rw [hb]; exact Bool.false_ne_true)]
    exact h2
abbrev N_Game_init : List Str := ["self", "contract", "options", "layout", "number", "grown", "fresh"]
theorem sc_Game_init : FnScope N_Game_init ["self", "contract"] (defScope s_Game_init) := ⟨rfl, rfl, rfl, by decide +kernel, rfl, by decide +kernel, by decide +kernel⟩
theorem ok_Game_init (F : FnP K "__init__" "Game.__init__" s_Game_init f fd) (T : Txt K mg) (c_positions : Cal Pg w K mg base 2 (He.ga K "positions") ["contract"] (spPos Z K)) (c_Options_init : Cal Pg w K mg base 6 (He.ma K (CO K) "__init__") ["self", "contract", "layout"] (spOptI Z K))
    (c_Options_forced : Cal Pg w K mg base 1 (He.ma K (CO K) "forced") ["self", "won"] (spForced Pg w Z K)) : FnOk Pg w K mg base CX0 8 f fd ["self", "contract"] (spGameI Pg w Z K) := by
  refine F.ok sc_Game_init (fun vs H Q E ⟨S, H0, x, a, dx, r, e, h1, h2, h3, h4, h5, ⟨v1, r1, e1, _, e3⟩, _⟩ => by
    have e3 : r1 = [] := e3
    rw [e, e1, e3]
    rfl) (fun cdv A outer s H vs Q E hr h => ⟨_, PSs.nox (pss_cons (ps_fld (pv 0) (pv 1) rfl)
      (pss_cons (ps_fld (pv 0) pe_nnew rfl)
      (pss_cons (ps_set (i := 2) sc_Game_init.nd rfl (by first | exact Or.inl rfl | exact Or.inr rfl) pe_nnew)
      (pss_cons (ps_for PassesOwn.never rfl (kiList K (pe_call c_positions.ok (hr.mono (by decide)) rfl T.g_positions c_positions.kp c_positions.bd .nil pass0 (pa_cons (pv 1) pa_nil))) (pg_name (i := 3) sc_Game_init.nd rfl (by first | exact Or.inl rfl | exact Or.inr rfl)) (pss_one (ps_nput hr (pv 2) (pe_callTy (kTup K) rfl T.f_tuple (by decide +kernel) (pa_cons (pv 3) pa_nil)) (pe_make T.k_Options c_Options_init.ok (hr.mono (by decide)) rfl T.g_Options c_Options_init.bd .nil pass0 (pa_cons (pv 1) (pa_cons (pv 3) pa_nil))) rfl)))
      (pss_cons (ps_set (i := 4) sc_Game_init.nd rfl (by first | exact Or.inl rfl | exact Or.inr rfl) pe_int)
      (pss_cons (ps_set (i := 5) sc_Game_init.nd rfl (by first | exact Or.inl rfl | exact Or.inr rfl) pe_bl)
      (pss_one (ps_while PassesOwn.never (pt_val (pv 5)) (pss_cons (ps_aug (i := 4) sc_Game_init.nd rfl (by first | exact Or.inl rfl | exact Or.inr rfl) pe_int ip_add)
      (pss_cons (ps_set (i := 6) sc_Game_init.nd rfl (by first | exact Or.inl rfl | exact Or.inr rfl) (pe_lst pa_nil))
      (pss_cons (ps_for PassesOwn.never rfl (pi_nkeys (pv 2)) (pg_name (i := 3) sc_Game_init.nd rfl (by first | exact Or.inl rfl | exact Or.inr rfl)) (pss_one (ps_if (PW.pt (pw_and (pt_cmp (kNnotin Pg w hr (pv 3) (kFld K (pv 0)))) (pw_and1 (pt_val (pe_meth (kNget Pg w hr (pv 2) (pv 3) (fun _ _ => rfl)) T.c_Options T.m_Options_forced c_Options_forced.ok (hr.mono (by decide)) c_Options_forced.bd .nil pass0 (pa_cons (kFld K (pv 0)) pa_nil)))))) (pss_one (ps_expr (pe_bm PySem.F.plainAttrs_list PySem.F.slot_list_append PySem.F.type_list_append mt_append (pv 6) (pa_cons (pv 3) pa_nil)))) pss_nil)))
      (pss_cons (ps_for PassesOwn.never rfl (kiList K (pv 6)) (pg_name (i := 3) sc_Game_init.nd rfl (by first | exact Or.inl rfl | exact Or.inr rfl)) (pss_one (ps_nput hr (kFld K (pv 0)) (pv 3) (pv 4) rfl)))
      (pss_one (ps_set (i := 5) sc_Game_init.nd rfl (by first | exact Or.inl rfl | exact Or.inr rfl) (pe_cmpR (kNeD K hr.units) (pv 6) (pe_lst pa_nil) (nomark _)))))))))))))))), ?_⟩)
  obtain ⟨S, H0, ⟨c, u⟩, a, dx, r, rfl, k, n1, n2, ne, rfl, ⟨v1, r1, rfl, hc, hr'⟩, p, q⟩ := h
  cases hr'
  obtain ⟨t0, o0⟩ := ini_stp (C := CG K) k n1 n2 ne
  have hc : jCon K S v1 c := hc
  have p : Mir.gamePre c = true := p
  unfold Mir.gamePre at p
  simp only [Bool.and_eq_true, List.all_eq_true, decide_eq_true_eq] at p
  obtain ⟨p1, p2, p3, p4, p5, p6⟩ := p
  obtain ⟨fin, hfin⟩ := Option.isSome_iff_exists.mp p6
  have hgame : Mir.game c = fin := by
    unfold Mir.game
    rw [hfin]
    rfl
  refine q_fld (R := jCon K) rfl o0 (ev_var rfl hc) t0 n1 T.c_Game T.n_Game_contract (by decide) fun S1 H1 w1 t1 s1 e1 o1 => ?_
  refine q_fldN (P := Pg) (w := w) (Rv := jI) rfl o1 t1 n1 T.c_Game T.n_Game_ranks (putF_lt (by decide)) fun rk H2 rk0 rka t2 o2 or2 => ?_
  obtain ⟨fs, hfs⟩ : ∃ fs, fs = putF ("ranks" : Str) (.ref rk) (putF ("contract" : Str) w1 []) := ⟨_, rfl⟩
  rw [← hfs] at o2
  have f1 : fs.lookup ("ranks" : Str) = some (.ref rk) := by rw [hfs]; rfl
  have f2 : fs.lookup ("rank" : Str) = none := by rw [hfs]; rfl
  have f3 : fs.lookup ("winner" : Str) = none := by rw [hfs]; rfl
  have t3 := t2.frz n1 o2.at_
  have os1 : S1 a = none := o2.off
  have or3 : OwnN Pg w Z (upd S1 a (.ins (CG K) dx fs)) H2 rk jI [] := or2.keep rka os1
  have hself : jSelf (CG K) "ranks" rk (upd S1 a (.ins (CG K) dx fs)) (.ref a) () := ⟨a, dx, _, rfl, upd_same, f1⟩
  have at3 : upd S1 a (.ins (CG K) dx fs) a = some (.ins (CG K) dx fs) := upd_same
  generalize upd S1 a (.ins (CG K) dx fs) = S3 at t3 or3 hself at3
  refine q_nnew (P := Pg) (w := w) (Rv := jOpt K) t3 fun od H4 od0 od2 t4 t4' oo4 => ?_
  have or4 := or3.step t4'
  have rod : rk ≠ od := or3.ne od2
  refine q_for (ei_list (ev_call (x := (c, ())) (ea_cons (ev_var rfl (Up.up t4.ss hc)) ea_nil) p1)) t4 (fun i S5 σ5 H5 => (∃ o3 o4 o5 o6, σ5 = [some (.ref a), some v1, some (.ref od), o3, o4, o5, o6]) ∧ OwnN Pg w Z S5 H5 rk jI [] ∧ OwnN Pg w Z S5 H5 od (jOpt K) (((Mir.positions c).take i).foldl (fun d L => Mir.put d L (Mir.options c L)) []))
    (fun i S5 σ5 H5 S6 H6 ⟨h1, h2, h3⟩ t => ⟨h1, h2.step t, h3.step t⟩) ⟨⟨_, _, _, _, rfl⟩, or4, oo4⟩ ?_ ?_
  · rintro i L S5 σ5 H5 v5 N hx t5 s5 hL ⟨⟨o3, o4, o5, o6, rfl⟩, or5, oo5⟩ hN
    have hmem := List.mem_of_getElem? hx
    refine ⟨_, eg_name, ?_⟩
    refine s_nput (Rv := jOpt K) (b := Mir.options c L) (L := L) ?_ (ev_var (R := jAt od) (x := ()) rfl rfl) (ev_tupleL (ev_var rfl hL)) oo5 t5 od0 ?_ fun S6 H6 t6 s6 oo6 kp6 => hN S6 _ H6 t6 s6 ⟨⟨_, _, _, _, rfl⟩, ?_, ?_⟩
    · exact ev_make (pre := fun p => Mir.optPre p.1 p.2.1 = true) (post := fun S fs p => postOpt S fs (Mir.options p.1 p.2.1)) (fun S S' fs x e h => postOpt_up e h) (ea_cons (ev_var rfl (Up.up t5.ss hc)) (ea_cons (ev_var rfl hL) ea_nil)) (x := (c, L, ())) (p3 L hmem)
    · have := Mir.fold_len c ((Mir.positions c).take i) []
      have h2 : ((Mir.positions c).take i).length ≤ (Mir.positions c).length := by rw [List.length_take]; omega
      have h3 : ([] : Mir.Dct Mir.Opt).length = 0 := rfl
      omega
    · obtain ⟨o, us, h1, h2, h3⟩ := or5
      exact ⟨o, us, kp6 _ _ rod h1, h2, h3.up s6⟩
    · rw [List.take_add_one, hx, List.foldl_append]
      exact oo6
  rintro S5 σ5 H5 t5 s5 ⟨⟨o3, o4, o5, o6, rfl⟩, or5, oo5⟩
  rw [List.take_length] at oo5
  have oo5 : OwnN Pg w Z S5 H5 od (jOpt K) (Mir.optsOf c) := oo5
  obtain ⟨S6, t6, s6, r6, oob, eS6, nS6⟩ := oo5.frz t5 od0
  have or6 : OwnN Pg w Z S6 H5 rk jI [] := by
    rw [eS6]
    exact or5.keep rod nS6
  have hself6 : jSelf (CG K) "ranks" rk S6 (.ref a) () := Up.up (s5.trans s6) hself
  have at6 : S6 a = some (.ins (CG K) dx fs) := s6 _ _ (s5 _ _ at3)
  refine q_set (ev_int (i := 0)) t6 fun S7 H7 v7 t7 s7 t7' h7 => ?_
  have h7 : v7 = .int 0 := h7
  subst h7
  refine q_set (ev_bl (i := true)) t7 fun S8 H8 v8 t8 s8 t8' h8 => ?_
  have h8 : v8 = .bl true := h8
  subst h8
  have hos := r6
  generalize Mir.optsOf c = os at hos p4 p5 hfin
  refine s_while t8 (fun m S9 σ9 H9 => ∃ (num : Int) (d : Mir.Dct Int) (gr : Bool) (o3 o6 : Option V), σ9 = [some (.ref a), some v1, some (.ref od), o3, some (.int num), some (.bl gr), o6] ∧ OwnN Pg w Z S9 H9 rk jI d ∧
      (if gr = true then Mir.gameRun os m num d = some fin ∧ Mir.gOk os m num d = true else d = fin))
    (m0 := Mir.fuel) ⟨0, [], true, _, _, rfl, (or6.step t7').step t8', hfin, p5⟩ ?_
  rintro m S9 σ9 H9 Qb t9 s9 ⟨num, d, gr, o3, o6, rfl, or9, hst⟩ hT hF
  have hself9 : jSelf (CG K) "ranks" rk S9 (.ref a) () := Up.up (s7.trans (s8.trans s9)) hself6
  have at9 : S9 a = some (.ins (CG K) dx fs) := s9 _ _ (s8 _ _ (s7 _ _ at6))
  have hos9 : jN Pg w (jOpt K) S9 (.ref od) os := Up.up (s7.trans (s8.trans s9)) hos
  refine ⟨.bl gr, rfl, gr, rfl, ?_⟩
  cases gr with
  | false =>
    have hst : d = fin := hst
    subst hst
    obtain ⟨S10, t10, s10, r10, _⟩ := or9.frz t9 rk0
    refine hF H9 (q S10 H9 fs t10 (t10.ok.le _ _ (s10 _ _ at9)) ⟨.ref rk, f1, f2, f3, ?_⟩)
    show jN Pg w jI S10 (.ref rk) (Mir.game c)
    rw [hgame]
    exact r10
  | true =>
  obtain ⟨hrun, hok⟩ := hst
  cases m with
  | zero => cases hrun
  | succ n =>
  unfold Mir.gameRun at hrun
  unfold Mir.gOk at hok
  simp only [Bool.and_eq_true, decide_eq_true_eq] at hok
  obtain ⟨hok1, hok2⟩ := hok
  refine hT S9 H9 t9 (Same.refl _) fun N hN => ?_
  refine q_aug (g := fun i j => i + j) (a := num) rfl (ev_int (i := 1)) t9 fun S10 H10 t10 s10 t10' => ?_
  refine q_new (R := jK) t10 fun fl H11 fl0 fl1 t11 t11' of11 => ?_
  have or11 := (or9.step t10').step t11'
  obtain ⟨o, us, ow, no, rl⟩ := or11
  have rlf : rk ≠ fl := (or9.step t10').ne fl1
  -- the ranks are frozen while the loop runs
  have t12 := t11.frz rk0 ow.at_
  have of12 : OwnL Z (upd S10 rk (XO rk o)) H11 fl jK [] := of11.keep (Ne.symm rlf) ow.off
  have n10 : S10 rk = none := ow.off
  have hgm : jGame Pg w K (upd S10 rk (XO rk o)) (.ref a) d := by
    refine ⟨a, dx, fs, rfl, ?_, .ref rk, f1, f2, f3, rk, o, us, rfl, upd_same, no, rl.up (same_upd n10)⟩
    have h1 : S10 a = some (.ins (CG K) dx fs) := s10 _ _ at9
    exact same_upd n10 _ _ h1
  have hos12 : jN Pg w (jOpt K) (upd S10 rk (XO rk o)) (.ref od) os := Up.up (s10.trans (same_upd n10)) hos9
  have at12 : upd S10 rk (XO rk o) rk = some (XO rk o) := upd_same
  have s12 : Same (upd S10 rk (XO rk o)) (upd S10 rk (XO rk o)) := Same.refl _
  generalize hS12 : upd S10 rk (XO rk o) = S12 at t12 of12 hgm hos12 at12 s12
  rw [← hS12] at s12
  refine q_forT (R := jK) (R' := jK) (l := fl) (acc := []) (b := Mir.freshB os d) (f := fun L => L) (ei_nkeys (ev_var rfl hos12)) t12
    (fun σ => ∃ o3, σ = [some (.ref a), some v1, some (.ref od), o3, some (.int (num + 1)), some (.bl true), some (.ref fl)]) (fun _ _ => True) (fun _ _ _ _ _ _ => trivial) ⟨_, rfl⟩ trivial of12
    (fun L S13 σ13 H13 v13 acc N13 hmem t13 s13 hL ⟨o3, e13⟩ _ of13 l13 hN13 => ?_) (fun S13 σ13 H13 t13 s13 ⟨o3, e13⟩ _ of13 => ?_)
  · subst e13
    refine ⟨_, eg_name, ?_⟩
    obtain ⟨pr, hpr, epr⟩ := List.mem_map.mp hmem
    have hpo := p4
    unfold Mir.osOk at hpo
    rw [List.all_eq_true] at hpo
    have hpp := hpo pr hpr
    simp only [Bool.and_eq_true, decide_eq_true_eq] at hpp
    rw [epr] at hpp
    have hfb : Mir.freshB os d L = (!Mir.has d L && Mir.forced pr.2 d) := by
      unfold Mir.freshB
      rw [hpp.2]
      rfl
    have hgm13 : jGame Pg w K S13 (.ref a) d := Up.up s13 hgm
    have hos13 : jN Pg w (jOpt K) S13 (.ref od) os := Up.up s13 hos12
    refine s_if (et_and (et_test (ev_nnotin (ev_var rfl hL) (ev_ranks T (ev_var rfl hgm13)))) fun _ => et_B (ev_meth (R := jOpt K) (x := pr.2) (y := (d, ())) (f := fun p => Mir.forced p.1 p.2.1) (ev_nget (ev_var rfl hos13) (ev_var rfl hL) hpp.2) (fun S1 v ⟨a, dx, fs, h1, h2, l1, l2, h3, h4, h5, h6⟩ => ⟨a, dx, fs, h1, h2, h5⟩) (ea_cons (ev_ranks T (ev_var rfl hgm13)) ea_nil) hpp.1)) t13.ok (fun hb S14 H14 t14 => ?_) (fun hb S14 H14 t14 => ?_)
    · have hb : Mir.freshB os d L = true := hfb.trans hb
      rw [hb] at hN13 l13
      refine s_app' (x := L) rfl (of13.step t14) (ev_var rfl (Up.up t14.ss hL)) (t13.trans t14) fl0 ?_ fun S15 H15 t15 s15 of15 _ => hN13 S15 _ H15 t15 (t14.ss.trans s15) ⟨_, rfl⟩ trivial of15
      have l13' : acc.length + 1 ≤ 0 + (((os.map (·.1)).filter (Mir.freshB os d)).map fun L => L).length := l13
      rw [Mir.fresh_keys os d p4] at l13'
      omega
    · have hb : Mir.freshB os d L = false := hfb.trans hb
      rw [hb] at hN13
      refine hN13 S14 _ H14 (t13.trans t14) t14.ss ⟨_, rfl⟩ trivial ?_
      simpa using of13.step t14
  subst e13
  rw [List.nil_append, Mir.fresh_keys os d p4] at of13
  have at13 : S13 rk = some (XO rk o) := s13 _ _ at12
  obtain ⟨t14, ow14⟩ := t13.thaw rk0 at13 ow.nz
  have s14 : Same S10 (rem S13 rk) := same_rem (o := XO rk o) (by rw [hS12]; exact s13) n10
  have of14 := of13.thaw thaw_K at13
  have or14 : OwnN Pg w Z (rem S13 rk) H13 rk jI d := ⟨o, us, ow14, no, rl.up s14⟩
  generalize rem S13 rk = S14 at t14 ow14 s14 of14 or14
  obtain ⟨vs15, ow15, pr15⟩ := of14
  have t15 := t14.frz fl0 ow15.at_
  have n14 : S14 fl = none := ow15.off
  have or15 : OwnN Pg w Z (upd S14 fl (.lst vs15)) H13 rk jI d := or14.keep rlf n14
  have r15 : jL jK (upd S14 fl (.lst vs15)) (.ref fl) (Mir.fresh os d) := ⟨fl, vs15, rfl, upd_same, pr15.up (same_upd n14)⟩
  have s15 : Same S9 (upd S14 fl (.lst vs15)) := s10.trans (s14.trans (same_upd n14))
  generalize upd S14 fl (.lst vs15) = S15 at t15 or15 r15 s15
  have hself15 : jSelf (CG K) "ranks" rk S15 (.ref a) () := Up.up s15 hself9
  refine q_for (ei_list (ev_var (x := Mir.fresh os d) rfl r15)) t15 (fun i S16 σ16 H16 => (∃ o3, σ16 = [some (.ref a), some v1, some (.ref od), o3, some (.int (num + 1)), some (.bl true), some (.ref fl)]) ∧ OwnN Pg w Z S16 H16 rk jI (Mir.putAll d ((Mir.fresh os d).take i) (num + 1)))
    (fun i S16 σ16 H16 S17 H17 ⟨h1, h2⟩ t => ⟨h1, h2.step t⟩) ⟨⟨_, rfl⟩, or15⟩ ?_ ?_
  · rintro i L S16 σ16 H16 v16 N16 hx t16 s16 hL ⟨⟨o3, rfl⟩, or16⟩ hN16
    refine ⟨_, eg_name, ?_⟩
    refine s_nput (Rv := jI) (b := num + 1) (L := L) (ev_var (x := num + 1) rfl rfl) (ev_self (ev_var rfl (Up.up s16 hself15)) T.c_Game T.n_Game_ranks) (ev_var rfl hL) or16 t16 rk0 ?_ fun S17 H17 t17 s17 or17 _ => hN16 S17 _ H17 t17 s17 ⟨⟨_, rfl⟩, ?_⟩
    · have h1 := Mir.putAll_len (num + 1) ((Mir.fresh os d).take i) d
      have h2 : ((Mir.fresh os d).take i).length ≤ (Mir.fresh os d).length := by rw [List.length_take]; omega
      omega
    · unfold Mir.putAll
      rw [List.take_add_one, hx, List.foldl_append]
      exact or17
  rintro S16 σ16 H16 t16 s16 ⟨⟨o3, rfl⟩, or16⟩
  rw [List.take_length] at or16
  refine s_set (ev_neNil (K := K) (enc := encK) can_K dep_K dp_K (ev_var (x := Mir.fresh os d) rfl (Up.up s16 r15))) t16.ok fun S17 H17 v17 t17 h17 => ?_
  have h17 : v17 = .bl (!(Mir.fresh os d).isEmpty) := h17
  subst h17
  refine hN n S17 _ H17 (Nat.lt_succ_self n) (t16.trans t17) (s15.trans (s16.trans t17.ss)) ⟨num + 1, Mir.putAll d (Mir.fresh os d) (num + 1), !(Mir.fresh os d).isEmpty, _, _, rfl, or16.step t17, ?_⟩
  cases e : (Mir.fresh os d).isEmpty with
  | true =>
    simp only [e] at hrun
    exact Option.some.inj hrun
  | false =>
    simp only [e] at hrun hok2
    exact ⟨hrun, hok2⟩
end
end Hg
end Z_D7

section Z_D8
set_option maxHeartbeats 4000000
/-! The heap of a contract, and its words. -/
namespace Hg
open PySem L2
def jDk : Rp Unit := fun S v _ => ∃ d, v = .ref d ∧ S d = some (.dK [])
instance : Up jDk := ⟨fun e ⟨d, h1, h2⟩ => ⟨d, h1, e _ _ h2⟩⟩
def postStore (S : Hp) (fs : List (Str × V)) (_ : Unit) : Prop := ∃ v, fs.lookup ("objects" : Str) = some v ∧ jDk S v ()
abbrev jStore (K : PySem.W.Frag) : Rp Unit := jOb (He.ga K "Store") postStore
instance {K : PySem.W.Frag} : Up (jStore K) := ⟨fun e ⟨a, dx, fs, h1, h2, v, h3, h4⟩ => ⟨a, dx, fs, h1, e _ _ h2, v, h3, Up.up e h4⟩⟩
def postState (K : PySem.W.Frag) (S : Hp) (fs : List (Str × V)) (_ : Unit) : Prop := ∃ v, fs.lookup ("store" : Str) = some v ∧ jStore K S v ()
abbrev jState (K : PySem.W.Frag) : Rp Unit := jOb (He.ga K "State") (postState K)
instance {K : PySem.W.Frag} : Up (jState K) := ⟨fun e ⟨a, dx, fs, h1, h2, v, h3, h4⟩ => ⟨a, dx, fs, h1, e _ _ h2, v, h3, Up.up e h4⟩⟩
def postMan (S : Hp) (fs : List (Str × V)) (n : Int) : Prop := fs.lookup ("size" : Str) = some (.int n)
abbrev jMan (K : PySem.W.Frag) : Rp Int := jOb (He.ga K "StrategyManager") postMan
instance {K : PySem.W.Frag} : Up (jMan K) := ⟨fun e ⟨a, dx, fs, h1, h2, h3⟩ => ⟨a, dx, fs, h1, e _ _ h2, h3⟩⟩
def postHeap (K : PySem.W.Frag) (S : Hp) (fs : List (Str × V)) (n : Int) : Prop := ∃ mv sv, fs.lookup ("manager" : Str) = some mv ∧ fs.lookup ("state" : Str) = some sv ∧ fs.lookup ("words" : Str) = none ∧ jMan K S mv n ∧ jState K S sv ()
abbrev jHeap (K : PySem.W.Frag) : Rp Int := jOb (He.ga K "ManagedHeap") (postHeap K)
theorem postHeap_up {K : PySem.W.Frag} {S S' : Hp} {fs : List (Str × V)} {n : Int} (e : Same S S') (h : postHeap K S fs n) : postHeap K S' fs n := let ⟨mv, sv, a, b, c, d, f⟩ := h; ⟨mv, sv, a, b, c, Up.up e d, Up.up e f⟩
instance {K : PySem.W.Frag} : Up (jHeap K) := ⟨fun e ⟨a, dx, fs, h1, h2, h3⟩ => ⟨a, dx, fs, h1, e _ _ h2, postHeap_up e h3⟩⟩
def spStoreI (Z : List Addr) (K : PySem.W.Frag) : Sp := Ini Z (He.ga K "Store") aN (fun _ => True) postStore
def spStateI (Z : List Addr) (K : PySem.W.Frag) : Sp := Ini Z (He.ga K "State") (aC (jStore K) (aC jDk (aC jI aN))) (fun _ => True) fun S fs _ => postState K S fs ()
def spManI (Z : List Addr) (K : PySem.W.Frag) : Sp := Ini Z (He.ga K "StrategyManager") (aC (jCon K) aN) (fun p => Mir.gamePre p.1 = true ∧ win (Mir.game p.1) = "manager") fun S fs p => postMan S fs p.1.size
def spHeapI (Z : List Addr) (K : PySem.W.Frag) : Sp := Ini Z (He.ga K "ManagedHeap") (aC (jMan K) aN) (fun _ => True) fun S fs p => postHeap K S fs p.1
def spCH (Z : List Addr) (K : PySem.W.Frag) : Sp := Fn Z (aC (jCon K) aN) (fun p => Mir.gamePre p.1 = true ∧ win (Mir.game p.1) = "manager") (jHeap K) fun p => p.1.size
def spWords (Z : List Addr) (K : PySem.W.Frag) : Sp := Fn Z (aC (jHeap K) aN) (fun p => 0 ≤ p.1 ∧ p.1 ≤ 1000) (jL jS) fun p => List.replicate p.1.toNat ("free" : Str)
section
variable {Z : List Addr} {σ : L2.St} {S S' H S0 H0 : Hp} {α : Type} {R : Rp α} {te ta tb td : TE} {tr : TA} {x : α} {v : V} {K : PySem.W.Frag} {D : Ends}
theorem ev_dnewK : EvR Z tDNewK σ S jDk () := fun S1 H s k Q q => fun p hp => q _ _ _ (k.add hp) ⟨p, rfl, upd_same⟩
theorem Pr.rep {vs : List V} {xs : List α} (h : Pr R S vs xs) : ∀ n : Nat, Pr R S (List.replicate n vs).flatten (List.replicate n xs).flatten
  | 0 => .nil
  | n + 1 => by
    rw [List.replicate_succ, List.replicate_succ, List.flatten_cons, List.flatten_cons]
    exact h.app (Pr.rep h n)
theorem ev_rep [Up R] {xs : List α} {n : Int} (ha : EvR Z ta σ S (jL R) xs) (hb : EvR Z tb σ S jI n) (hn : -1000 ≤ n ∧ n ≤ 1000) (hl : xs.length ≤ 100) : EvR Z (tOp rRep ta tb) σ S (jL R) (List.replicate n.toNat xs).flatten :=
  ev_op ha hb fun S1 H v w Q s k ⟨a, vs, e1, h1, p1⟩ hw q => ⟨a, n, vs, e1, hw, k.le _ _ h1, by omega, by omega, by
    rw [p1.len]
    have h2 : n.toNat ≤ 1000 := by omega
    refine Nat.le_trans (Nat.mul_le_mul hl h2) (by decide), fun p hp => q _ _ _ (k.add hp) ⟨p, _, rfl, upd_same, (p1.rep _).up (same_upd (k.free hp))⟩⟩
/-- known cells -/
def jAts (v0 : V) (ps : List (Addr × HO)) : Rp Unit := fun S v _ => v = v0 ∧ ∀ p ∈ ps, S p.1 = some p.2
instance {v0 : V} {ps : List (Addr × HO)} : Up (jAts v0 ps) := ⟨fun e ⟨h1, h2⟩ => ⟨h1, fun p hp => e _ _ (h2 p hp)⟩⟩
theorem s_never_for {g : TG} {tb : TS} {d : Addr} (hd : EvR Z td σ (rem S d) (jAt d) ()) (ha : S d = some (.dK [])) (hz : ¬ d ∈ Z) (k : Stp Z S0 H0 S H)
    (n : ∀ H', Stp Z S H S H' → D.nx σ H') : tLock (tFor (iKeys td) g tb) D σ H := by
  refine ⟨d, .dK [], k.ok.le _ _ ha, trivial, fun od => ?_⟩
  have le0 : Same (rem S d) (upd H d (.frz od (.dK []))) := fun b u e => by
    have hb : b ≠ d := fun z => by
      rw [z, rem_at] at e
      cases e
    rw [rem_ne hb] at e
    rw [upd_ne hb]
    exact k.ok.le b u e
  have ok0 : Ok Z (rem S d) (upd H d (.frz od (.dK []))) := ⟨le0, fun p hp => by
    rw [rem_ne (fun z => hz (by rw [← z]; exact hp))]
    exact k.ok.out p hp, fun p hp => tab_upd (k.ok.tab p hp) fun z => hz (by rw [← z]; exact hp)⟩
  refine hd (rem S d) _ (Same.refl _) ok0 _ fun S2 H2 v t e => ?_
  have e : v = .ref d := e
  have at2 : H2 d = some (.frz od (.dK [])) := t.old d _ hz upd_same
  refine ⟨d, od, e, Or.inl ⟨[], at2, ?_⟩⟩
  refine for_it (walk_keys (kvs := [])) (fun i σ' H' => σ' = σ ∧ H' = H2) ⟨rfl, rfl⟩ (fun i σ' H' _ h => by rw [h.2]; exact at2) (fun i x σ' H' H'' hi => by cases hi) fun σ' H' ⟨e1, e2⟩ => ?_
  subst e1 e2
  refine ⟨at2, n _ ⟨k.ok, ⟨fun b u e => ?_, k.ok.out, fun p hp => tab_upd (t.ok.tab p hp) fun z => hz (by rw [← z]; exact hp)⟩, Same.refl _, fun b u hb e => ?_, fun b u e n => n⟩⟩
  · by_cases hb : b = d
    · rw [hb] at e ⊢
      rw [upd_same, ← ha]
      exact e
    · rw [upd_ne hb]
      refine t.ok.le b u (t.ss b u ?_)
      rw [rem_ne hb]
      exact e
  · by_cases hbd : b = d
    · rw [hbd] at e ⊢
      rw [upd_same, ← k.ok.le _ _ ha]
      exact e
    · rw [upd_ne hbd]
      refine t.old b u hb ?_
      rw [upd_ne hbd]
      exact e
end
section
variable {Pg : Program} {w : World} {K : PySem.W.Frag} {mg : Str → Option Value} {base : Heap} {Z : List Addr} {f : Addr} {fd : FuncData} {σ : L2.St} {S : Hp} {te : TE}
abbrev N_Store_init : List Str := ["self"]
theorem sc_Store_init : FnScope N_Store_init ["self"] (defScope s_Store_init) := ⟨rfl, rfl, rfl, by decide +kernel, rfl, by decide +kernel, by decide +kernel⟩
theorem ok_Store_init (F : FnP K "__init__" "Store.__init__" s_Store_init f fd) (T : Txt K mg) : FnOk Pg w K mg base CX0 1 f fd ["self"] (spStoreI Z K) := by
  refine F.ok sc_Store_init (fun vs H Q E ⟨S, H0, x, a, dx, r, e, h1, h2, h3, h4, h5, e3, _⟩ => by
    have e3 : r = [] := e3
    rw [e, e3]
    rfl) (fun cdv A outer s H vs Q E hr h => ⟨_, PSs.nox (pss_cons (ps_fld (pv 0) pe_dnewK rfl)
      (pss_cons (ps_fld (pv 0) (pe_lst pa_nil) rfl)
      (pss_one (ps_fld (pv 0) pe_int rfl)))), ?_⟩)
  obtain ⟨S, H0, u, a, dx, r, rfl, k, n1, n2, ne, rfl, hr', p, q⟩ := h
  cases hr'
  obtain ⟨t0, o0⟩ := ini_stp (C := He.ga K "Store") k n1 n2 ne
  refine q_fld rfl o0 ev_dnewK t0 n1 T.c_Store T.n_Store_objects (by decide) fun S1 H1 w1 t1 s1 e1 o1 => ?_
  refine q_fld (R := jL jI) rfl o1 ev_nil t1 n1 T.c_Store T.n_Store_roots (putF_lt (by decide)) fun S2 H2 w2 t2 s2 e2 o2 => ?_
  refine s_fld rfl o2 (ev_int (i := 0)) t2 n1 T.c_Store T.n_Store_next_number (putF_lt (putF_lt (by decide))) fun S3 H3 w3 t3 s3 e3 o3 => ?_
  exact q S3 H3 _ t3 o3.at_ ⟨w1, rfl, Up.up (s2.trans s3) e1⟩
abbrev N_State_init : List Str := ["self", "store", "starts", "cursor"]
theorem sc_State_init : FnScope N_State_init ["self", "store", "starts", "cursor"] (defScope s_State_init) := ⟨rfl, rfl, rfl, by decide +kernel, rfl, by decide +kernel, by decide +kernel⟩
theorem ok_State_init (F : FnP K "__init__" "State.__init__" s_State_init f fd) (T : Txt K mg) : FnOk Pg w K mg base CX0 1 f fd ["self", "store", "starts", "cursor"] (spStateI Z K) := by
  refine F.ok sc_State_init (fun vs H Q E ⟨S, H0, x, a, dx, r, e, h1, h2, h3, h4, h5, ⟨v1, r1, e1, _, v2, r2, e2, _, v3, r3, e3, _, e4⟩, _⟩ => by
    have e4 : r3 = [] := e4
    rw [e, e1, e2, e3, e4]
    rfl) (fun cdv A outer s H vs Q E hr h => ⟨_, PSs.nox (pss_cons (ps_fld (pv 0) (pv 1) rfl)
      (pss_cons (ps_fld (pv 0) (pv 2) rfl)
      (pss_one (ps_fld (pv 0) (pv 3) rfl)))), ?_⟩)
  obtain ⟨S, H0, ⟨u1, u2, n, u⟩, a, dx, r, rfl, k, n1, n2, ne, rfl, ⟨v1, r1, rfl, h1, v2, r2, rfl, h2, v3, r3, rfl, h3, hr'⟩, p, q⟩ := h
  cases hr'
  obtain ⟨t0, o0⟩ := ini_stp (C := He.ga K "State") k n1 n2 ne
  have h1 : jStore K S v1 () := h1
  have h2 : jDk S v2 () := h2
  have h3 : jI S v3 n := h3
  refine q_fld rfl o0 (ev_var rfl h1) t0 n1 T.c_State T.n_State_store (by decide) fun S1 H1 w1 t1 s1 e1 o1 => ?_
  refine q_fld rfl o1 (ev_var rfl (Up.up s1 h2)) t1 n1 T.c_State T.n_State_starts (putF_lt (by decide)) fun S2 H2 w2 t2 s2 e2 o2 => ?_
  refine s_fld rfl o2 (ev_var rfl (Up.up (s1.trans s2) h3)) t2 n1 T.c_State T.n_State_cursor (putF_lt (putF_lt (by decide))) fun S3 H3 w3 t3 s3 e3 o3 => ?_
  exact q S3 H3 _ t3 o3.at_ ⟨w1, rfl, Up.up (s2.trans s3) e1⟩
abbrev N_ManagedHeap_init : List Str := ["self", "manager"]
theorem sc_ManagedHeap_init : FnScope N_ManagedHeap_init ["self", "manager"] (defScope s_ManagedHeap_init) := ⟨rfl, rfl, rfl, by decide +kernel, rfl, by decide +kernel, by decide +kernel⟩
theorem ok_ManagedHeap_init (F : FnP K "__init__" "ManagedHeap.__init__" s_ManagedHeap_init f fd) (T : Txt K mg) (c_State_init : Cal Pg w K mg base 1 (He.ma K (He.ga K "State") "__init__") ["self", "store", "starts", "cursor"] (spStateI Z K))
    (c_Store_init : Cal Pg w K mg base 1 (He.ma K (He.ga K "Store") "__init__") ["self"] (spStoreI Z K)) : FnOk Pg w K mg base CX0 3 f fd ["self", "manager"] (spHeapI Z K) := by
  refine F.ok sc_ManagedHeap_init (fun vs H Q E ⟨S, H0, x, a, dx, r, e, h1, h2, h3, h4, h5, ⟨v1, r1, e1, _, e4⟩, _⟩ => by
    have e4 : r1 = [] := e4
    rw [e, e1, e4]
    rfl) (fun cdv A outer s H vs Q E hr h => ⟨_, PSs.nox (pss_cons (ps_fld (pv 0) (pv 1) rfl)
      (pss_cons (ps_fld (pv 0) (pe_make T.k_State c_State_init.ok (hr.mono (by decide)) rfl T.g_State c_State_init.bd .nil pass0 (pa_cons (pe_make0 T.k_Store c_Store_init.ok (hr.mono (by decide)) rfl T.g_Store c_Store_init.bd .nil pass0) (pa_cons pe_dnewK (pa_cons pe_int pa_nil)))) rfl)
      (pss_cons (ps_fld (pv 0) (pe_lst pa_nil) rfl)
      (pss_one (ps_fld (pv 0) (pe_lst pa_nil) rfl))))), ?_⟩)
  obtain ⟨S, H0, ⟨n, u⟩, a, dx, r, rfl, k, n1, n2, ne, rfl, ⟨v1, r1, rfl, h1, hr'⟩, p, q⟩ := h
  cases hr'
  obtain ⟨t0, o0⟩ := ini_stp (C := He.ga K "ManagedHeap") k n1 n2 ne
  have h1 : jMan K S v1 n := h1
  refine q_fld rfl o0 (ev_var rfl h1) t0 n1 T.c_ManagedHeap T.n_ManagedHeap_manager (by decide) fun S1 H1 w1 t1 s1 e1 o1 => ?_
  have hst : EvR Z _ [some (V.ref a), some v1] S1 (jState K) () := ev_make (C := He.ga K "State") (pre := fun _ => True) (post := fun S fs _ => postState K S fs ()) (x := ((), (), (0 : Int), ())) (fun S S' fs x e ⟨v, h3, h4⟩ => ⟨v, h3, Up.up e h4⟩)
    (ea_cons (ev_make (C := He.ga K "Store") (A := aN) (pre := fun _ => True) (post := postStore) (x := ()) (E := E0) (fun S S' fs x e ⟨v, h3, h4⟩ => ⟨v, h3, Up.up e h4⟩) ea_nil trivial) (ea_cons ev_dnewK (ea_cons (ev_int (i := 0)) ea_nil))) (E := E0) trivial
  refine q_fld rfl o1 hst t1 n1 T.c_ManagedHeap T.n_ManagedHeap_state (putF_lt (by decide)) fun S2 H2 w2 t2 s2 e2 o2 => ?_
  refine q_fld (R := jL jI) rfl o2 ev_nil t2 n1 T.c_ManagedHeap T.n_ManagedHeap_earlier (putF_lt (putF_lt (by decide))) fun S3 H3 w3 t3 s3 e3 o3 => ?_
  refine s_fld (R := jL jI) rfl o3 ev_nil t3 n1 T.c_ManagedHeap T.n_ManagedHeap_events (putF_lt (putF_lt (putF_lt (by decide)))) fun S4 H4 w4 t4 s4 e4 o4 => ?_
  exact q S4 H4 _ t4 o4.at_ ⟨w1, w2, rfl, rfl, rfl, Up.up (s2.trans (s3.trans s4)) e1, Up.up (s3.trans s4) e2⟩
abbrev N_StrategyManager_init : List Str := ["self", "contract"]
theorem sc_StrategyManager_init : FnScope N_StrategyManager_init ["self", "contract"] (defScope s_StrategyManager_init) := ⟨rfl, rfl, rfl, by decide +kernel, rfl, by decide +kernel, by decide +kernel⟩
theorem ok_StrategyManager_init (F : FnP K "__init__" "StrategyManager.__init__" s_StrategyManager_init f fd) (T : Txt K mg) (c_Game_init : Cal Pg w K mg base 8 (He.ma K (CG K) "__init__") ["self", "contract"] (spGameI Pg w Z K))
    (c_Game_winner : Cal Pg w K mg base 2 (He.ma K (CG K) "winner") ["self"] (spWinner Pg w Z K)) : FnOk Pg w K mg base CX0 10 f fd ["self", "contract"] (spManI Z K) := by
  refine F.ok sc_StrategyManager_init (fun vs H Q E ⟨S, H0, x, a, dx, r, e, h1, h2, h3, h4, h5, ⟨v1, r1, e1, _, e4⟩, _⟩ => by
    have e4 : r1 = [] := e4
    rw [e, e1, e4]
    rfl) (fun cdv A outer s H vs Q E hr h => ⟨_, PSs.nox (pss_cons (ps_fld (pv 0) (pe_make T.k_Game c_Game_init.ok (hr.mono (by decide)) rfl T.g_Game c_Game_init.bd .nil pass0 (pa_cons (pv 1) pa_nil)) rfl)
      (pss_cons (ps_fld (pv 0) (kFld K (pv 1)) rfl)
      (pss_cons (ps_fld (pv 0) pe_bl rfl)
      (pss_one (ps_if (pt_cmpR op_ne (pe_meth0 (kFld K (pv 0)) T.c_Game T.m_Game_winner c_Game_winner.ok (hr.mono (by decide)) c_Game_winner.bd .nil pass0) pe_str (nomark _)) (pss_one ps_never) pss_nil))))), ?_⟩)
  obtain ⟨S, H0, ⟨c, u⟩, a, dx, r, rfl, k, n1, n2, ne, rfl, ⟨v1, r1, rfl, hc, hr'⟩, ⟨p1, p2⟩, q⟩ := h
  cases hr'
  obtain ⟨t0, o0⟩ := ini_stp (C := He.ga K "StrategyManager") k n1 n2 ne
  have hc : jCon K S v1 c := hc
  refine q_fld (R := jGame Pg w K) (x := Mir.game c) rfl o0 (ev_make (pre := fun p => Mir.gamePre p.1 = true) (post := fun S fs p => postGame Pg w S fs (Mir.game p.1)) (x := (c, ())) (fun S S' fs x e h => postGame_up e h) (ea_cons (ev_var rfl hc) ea_nil) p1) t0 n1 T.c_StrategyManager T.n_StrategyManager_game (by decide) fun S1 H1 w1 t1 s1 e1 o1 => ?_
  refine q_fld rfl o1 (ev_size T (ev_var rfl (Up.up s1 hc))) t1 n1 T.c_StrategyManager T.n_StrategyManager_size (putF_lt (by decide)) fun S2 H2 w2 t2 s2 e2 o2 => ?_
  refine q_fld rfl o2 (ev_bl (i := true)) t2 n1 T.c_StrategyManager T.n_StrategyManager_strategy (putF_lt (putF_lt (by decide))) fun S3 H3 w3 t3 s3 e3 o3 => ?_
  have e2 : w2 = .int c.size := e2
  obtain ⟨fs, hfs⟩ : ∃ fs, fs = putF ("strategy" : Str) w3 (putF ("size" : Str) w2 (putF ("game" : Str) w1 [])) := ⟨_, rfl⟩
  rw [← hfs] at o3
  have f1 : fs.lookup ("game" : Str) = some w1 := by rw [hfs]; rfl
  have f2 : fs.lookup ("size" : Str) = some (.int c.size) := by rw [hfs, e2]; rfl
  have t4 := t3.frz n1 o3.at_
  have hg : jOb (He.ga K "StrategyManager") (fun S fs d => ∃ v, fs.lookup ("game" : Str) = some v ∧ jGame Pg w K S v d) (upd S3 a (.ins (He.ga K "StrategyManager") dx fs)) (.ref a) (Mir.game c) := ⟨a, dx, fs, rfl, upd_same, w1, f1, Up.up (s2.trans (s3.trans (same_upd o3.off))) e1⟩
  haveI : Up (jOb (He.ga K "StrategyManager") (fun S fs (d : Mir.Dct Int) => ∃ v, fs.lookup ("game" : Str) = some v ∧ jGame Pg w K S v d)) := ⟨fun e ⟨a, dx, fs, h1, h2, v, h3, h4⟩ => ⟨a, dx, fs, h1, e _ _ h2, v, h3, Up.up e h4⟩⟩
  have at4 : upd S3 a (.ins (He.ga K "StrategyManager") dx fs) a = some (.ins (He.ga K "StrategyManager") dx fs) := upd_same
  generalize upd S3 a (.ins (He.ga K "StrategyManager") dx fs) = S4 at t4 hg at4
  refine s_if (et_test (ev_neS (ev_meth (R := jGame Pg w K) (x := Mir.game c) (y := ()) (f := fun p => win p.1) (ev_fld (ev_var rfl hg) T.c_StrategyManager T.n_StrategyManager_game fun S1 v ⟨a, dx, fs, h1, h2, v', h3, h4⟩ => ⟨a, dx, fs, v', h1, h2, h3, h4⟩) (fun S1 v ⟨a, dx, fs, h1, h2, rv, h3, h4, h5, h6⟩ => ⟨a, dx, fs, h1, h2, h5⟩) ea_nil trivial) (ev_str (i := "manager")))) t4.ok (fun hb S5 H5 t5 => ?_) (fun hb S5 H5 t5 => ?_)
  · have hb : (!decide (win (Mir.game c) = "manager")) = true := hb
    have p2 : win (Mir.game c) = "manager" := p2
    rw [p2, decide_eq_true rfl] at hb
    cases hb
  · exact q S5 H5 fs (t4.trans t5) (t5.ok.le _ _ (t5.ss _ _ at4)) f2
abbrev N_contract_heap : List Str := ["contract"]
theorem sc_contract_heap : FnScope N_contract_heap ["contract"] (defScope s_contract_heap) := ⟨rfl, rfl, rfl, by decide +kernel, rfl, by decide +kernel, by decide +kernel⟩
theorem ok_contract_heap (F : FnP K "contract_heap" "contract_heap" s_contract_heap f fd) (T : Txt K mg) (c_ManagedHeap_init : Cal Pg w K mg base 3 (He.ma K (He.ga K "ManagedHeap") "__init__") ["self", "manager"] (spHeapI Z K))
    (c_StrategyManager_init : Cal Pg w K mg base 10 (He.ma K (He.ga K "StrategyManager") "__init__") ["self", "contract"] (spManI Z K)) : FnOk Pg w K mg base CX0 12 f fd ["contract"] (spCH Z K) := by
  refine F.ok sc_contract_heap fn_len1 (fun cdv A outer s H vs Q E hr h => ⟨_, PSs.nox (pss_one (ps_ret (pe_make T.k_ManagedHeap c_ManagedHeap_init.ok (hr.mono (by decide)) rfl T.g_ManagedHeap c_ManagedHeap_init.bd .nil pass0 (pa_cons (pe_make T.k_StrategyManager c_StrategyManager_init.ok (hr.mono (by decide)) rfl T.g_StrategyManager c_StrategyManager_init.bd .nil pass0 (pa_cons (pv 0) pa_nil)) pa_nil)))), ?_⟩)
  obtain ⟨S, ⟨c, u⟩, k, ⟨v, r, rfl, hc, hr'⟩, p, q⟩ := h
  cases hr'
  have hc : jCon K S v c := hc
  have hm : EvR Z _ [some v] S (jMan K) c.size := ev_make (C := He.ga K "StrategyManager") (pre := fun p => Mir.gamePre p.1 = true ∧ win (Mir.game p.1) = "manager") (post := fun S fs p => postMan S fs p.1.size) (x := (c, ())) (E := E0) (fun S S' fs x e h => h) (ea_cons (ev_var (i := 0) rfl hc) ea_nil) p
  exact s_ret (R := jHeap K) (x := c.size) (ev_make (pre := fun _ => True) (post := fun S fs p => postHeap K S fs p.1) (x := (c.size, ())) (fun S S' fs x e h => postHeap_up e h) (ea_cons hm ea_nil) trivial) k q
abbrev N_ManagedHeap_words : List Str := ["self", "cells", "number", "index", "value"]
theorem sc_ManagedHeap_words : FnScope N_ManagedHeap_words ["self"] (defScope s_ManagedHeap_words) := ⟨rfl, rfl, rfl, by decide +kernel, rfl, by decide +kernel, by decide +kernel⟩
theorem ok_words (F : FnP K "words" "ManagedHeap.words" s_ManagedHeap_words f fd) (T : Txt K mg) : FnOk Pg w K mg base CX0 1 f fd ["self"] (spWords Z K) := by
  refine F.ok sc_ManagedHeap_words fn_len1 (fun cdv A outer s H vs Q E hr h => ⟨_, PSs.nox (pss_cons (ps_set (i := 1) sc_ManagedHeap_words.nd rfl (by first | exact Or.inl rfl | exact Or.inr rfl) (pe_op op_rep (pe_lst (pa_cons pe_str pa_nil)) (kFld K (kFld K (pv 0)))))
      (pss_cons (ps_lock (ps_for PassesOwn.never rfl (pi_keys (kFld K (kFld K (kFld K (pv 0))))) (pg_name (i := 2) sc_ManagedHeap_words.nd rfl (by first | exact Or.inl rfl | exact Or.inr rfl)) pss_never))
      (pss_one (ps_ret (pv 1))))), ?_⟩)
  obtain ⟨S, ⟨n, u⟩, k, ⟨v, r, rfl, hv, hr'⟩, ⟨p1, p2⟩, q⟩ := h
  cases hr'
  have hv : jHeap K S v n := hv
  have p1 : 0 ≤ n := p1
  have p2 : n ≤ 1000 := p2
  refine q_set (ev_rep (xs := [("free" : Str)]) (ev_lst (el_cons (ev_str (i := "free")) el_nil) (by simp)) (ev_fld (R' := jI) (y := n) (ev_fld (R' := jMan K) (y := n) (ev_var rfl hv) T.c_ManagedHeap T.n_ManagedHeap_manager fun S1 v ⟨a, dx, fs, h1, h2, mv, sv, h3, h4, h5, h6, h7⟩ => ⟨a, dx, fs, mv, h1, h2, h3, h6⟩) T.c_StrategyManager T.n_StrategyManager_size fun S1 v ⟨a, dx, fs, h1, h2, h3⟩ => ⟨a, dx, fs, _, h1, h2, h3, rfl⟩) ⟨by omega, by omega⟩ (by simp)) (.refl k) fun S1 H1 v1 t1 s1 t1' h1 => ?_
  obtain ⟨a, dx, fs, ea, ha, mv, sv, f1, f2, f3, hm, ⟨b, dxb, fsb, eb, hb, stv, f4, ⟨c, dxc, fsc, ec, hc, dv, f5, ⟨d, ed, hd⟩⟩⟩⟩ := Up.up (R := jHeap K) s1 hv
  subst ea eb ec ed
  have nz : ¬ d ∈ Z := fun z => by
    rw [t1.ok.out d z] at hd
    cases hd
  have r1 : rem S1 d a = some (.ins (He.ga K "ManagedHeap") dx fs) := by
    rw [rem_ne (fun z => by rw [z, hd] at ha; cases ha)]
    exact ha
  have r2 : rem S1 d b = some (.ins (He.ga K "State") dxb fsb) := by
    rw [rem_ne (fun z => by rw [z, hd] at hb; cases hb)]
    exact hb
  have r3 : rem S1 d c = some (.ins (He.ga K "Store") dxc fsc) := by
    rw [rem_ne (fun z => by rw [z, hd] at hc; cases hc)]
    exact hc
  refine s_seq (s_never_for (Z := Z) (S0 := S) (H0 := H) ?_ hd nz t1 fun H2 t2 => ?_)
  · refine ev_fld (R := jAts (.ref c) [(c, .ins (He.ga K "Store") dxc fsc)]) (x := ()) (ev_fld (R := jAts (.ref b) [(b, .ins (He.ga K "State") dxb fsb), (c, .ins (He.ga K "Store") dxc fsc)]) (x := ())
      (ev_fld (R := jAts (.ref a) [(a, .ins (He.ga K "ManagedHeap") dx fs), (b, .ins (He.ga K "State") dxb fsb), (c, .ins (He.ga K "Store") dxc fsc)]) (x := ()) (ev_var rfl ⟨rfl, fun p hp => ?_⟩) T.c_ManagedHeap T.n_ManagedHeap_state fun S2 v ⟨h1, h2⟩ => ⟨a, dx, fs, .ref b, h1, h2 (a, _) (by simp), f2, rfl, fun p hp => h2 p (List.mem_cons_of_mem _ hp)⟩)
      T.c_State T.n_State_store fun S2 v ⟨h1, h2⟩ => ⟨b, dxb, fsb, .ref c, h1, h2 (b, _) (by simp), f4, rfl, fun p hp => h2 p (List.mem_cons_of_mem _ hp)⟩)
      T.c_Store T.n_Store_objects fun S2 v ⟨h1, h2⟩ => ⟨c, dxc, fsc, .ref d, h1, h2 (c, _) (by simp), f5, rfl⟩
    rcases List.mem_cons.mp hp with z | hp
    · rw [z]; exact r1
    rcases List.mem_cons.mp hp with z | hp
    · rw [z]; exact r2
    rcases List.mem_cons.mp hp with z | hp
    · rw [z]; exact r3
    cases hp
  · have e : (List.replicate n.toNat [("free" : Str)]).flatten = List.replicate n.toNat ("free" : Str) := by
      simp
    rw [e] at h1
    exact q_ret (ev_var rfl h1) (t1.trans t2) q
end
end Hg
end Z_D8

section Z_HgX
set_option maxHeartbeats 4000000
/-! Sets of ints by their size; lists of ranges; promises that leave the answer open; the script; what is worked at and read. -/
namespace Hg
open PySem PySem.Spec PyProof.Rows L2
/-! ### len(set(xs)) -/
theorem met_dd (ns : List Int) : (firstMet (fun i => ns.getD i 0) ns.length) = Mir.dd ns := by
  unfold firstMet
  have e : (List.range ns.length).map (fun i => ns.getD i 0) = ns := by
    refine List.ext_getElem? fun i => ?_
    rw [List.getElem?_map]
    by_cases h : i < ns.length
    · rw [List.getElem?_range h, List.getElem?_eq_getElem h]
      show some (ns.getD i 0) = _
      rw [List.getD_eq_getElem?_getD, List.getElem?_eq_getElem h]
      rfl
    · rw [List.getElem?_eq_none (by simpa using h), List.getElem?_eq_none (by omega)]
      rfl
  rw [e]
  rfl
theorem ints_of : ∀ {ns : List Int} {its : List Value}, Vals (ns.map V.int) its → IntsAre its ns
  | [], [], .nil => .nil
  | n :: ns, _ :: _, .cons r t => by
    obtain ⟨k, rfl⟩ := r
    exact .cons n k (ints_of t)
def tLenSetN (K : PySem.W.Frag) (ta : TE) : TE := fun σ H Q => ta σ H fun x H1 => ∃ (l : Addr) (ns : List Int), x = .ref l ∧ SqL K H1 l (ns.map V.int) ∧ ns.length ≤ 4000 ∧ Q (.int ((Mir.dd ns).length : Nat)) H1
theorem pe_lenSetN {X : Cx} {a : Expr} {ta : TE} {p p2 q pos : Pos} (hg : Gl X "len") (hm : X.mg "len" = none) (hg2 : Gl X "set") (hm2 : X.mg "set" = none) (ha : PE X a ta) (hc : X.calm = true := by rfl)
    (na : starEach [a] X.env = (false, eval a X.env) :: starEach [] X.env := by rfl) : PE X (.Call (.Name "len" p) [.Call (.Name "set" p2) [a] [] q] [] pos) (tLenSetN X.K ta) := by
  refine ⟨fun pins s σ H Q I h => Call_ (ld_blt I hg hm PySem.boot_len (PyProof.Rows.callWith_builtin1 (PyProof.Rows.args_cons (Call_ (ld_blt I hg2 hm2 PyProof.Rows.boot_set (PyProof.Rows.callWith_type1 (PyProof.Rows.args_cons (thn (ha.run pins s σ H _ I h) fun v s1 ⟨x, H1, I1, r1, q1⟩ => PyProof.Rows.args_nil ?_) na) na rfl))) rfl) rfl rfl))⟩
  obtain ⟨l, ns, rfl, hq, hl, q2⟩ := q1
  cases r1
  obtain ⟨its, rv, pl, hz⟩ := I1.list hq
  have hsz : its.toArray.size = ns.length := by rw [List.size_toArray, ← rv.length, List.length_map]
  refine call_set_list (I1.ok.hd hc) pl.isList (ns := ns) (by simpa using ints_of rv) (by rw [hsz]; unfold scanBound; omega) fun h' tk hS hk => PyProof.Rows.args_nil ?_
  rw [hsz, met_dd] at hS
  obtain ⟨o, es, ep, t, ho, hex, hd, _, _, _, hf, hn⟩ := hS
  have J : L2.Inv X pins σ H1 { s1 with heap := h', toks := tk } := I1.kept fun b o e => hk b o (Heap.lt_size e) e
  have hle : (Mir.dd ns).length ≤ 4000 := by
    rw [← met_dd]
    exact Nat.le_trans (firstMet_length_le _ _) hl
  exact call_len_set ho hex hd hf (by rw [hn]; omega) ⟨.int (Mir.dd ns).length, H1, J.tok _, ⟨_, by rw [hn]⟩, q2⟩
section
variable {Z : List Addr} {σ : L2.St} {S S' H S0 H0 : Hp} {α β γ : Type} {R : Rp α} {R' : Rp β} {te ta tb tc tl : TE} {tt : TT} {tr : TA} {x : α} {y : β} {v : V} {K : PySem.W.Frag} {D : Ends} {t1 t2 rest : TS}
theorem ev_lenSetN {ns : List Int} (h : EvR Z ta σ S (jL jI) ns) (hl : ns.length ≤ 4000) : EvR Z (tLenSetN K ta) σ S jI ((Mir.dd ns).length : Int) := fun S1 H s k Q q =>
  h S1 H s k _ fun S2 H2 v t ⟨a, vs, e, hs, p⟩ => ⟨a, ns, e, SqL.of (by rw [← p.ints]; exact t.ok.le _ _ hs), hl, q _ _ _ t rfl⟩
theorem pr_ints {S : Hp} : ∀ ns : List Int, Pr jI S (ns.map V.int) ns
  | [] => .nil
  | n :: r => .cons rfl (pr_ints r)
theorem rgV_rng (i j : Int) : rgV i j = (rng i j).map V.int := by
  unfold rgV rng
  rw [List.map_map]
  rfl
theorem ev_listRg {i j : Int} (ha : EvR Z ta σ S jI i) (hb : EvR Z tb σ S jI j) (h : -1000 ≤ i ∧ i ≤ 1000 ∧ -1000 ≤ j ∧ j ≤ 1000) : EvR Z (tLstRg (tRg2 ta tb)) σ S (jL jI) (rng i j) := fun S1 H s k Q q =>
  ha S1 H s k _ fun S2 H2 v t r => hb S2 H2 (s.trans t.ss) t.ok _ fun S3 H3 u t3 r3 => ⟨i, j, r, r3, ⟨by omega, by omega, by omega, by omega, by omega⟩, fun l hl =>
    q _ _ _ ((t.trans t3).trans (t3.ok.add hl)) ⟨l, _, rfl, upd_same, by
      rw [rgV_rng]
      exact pr_ints _⟩⟩
theorem ev_chain {p p' : Int → Int → Bool} {i j n : Int} (ha : EvR Z ta σ S jI i) (hb : EvR Z tb σ S jI j) (hc : EvR Z tc σ S jI n) : EvR Z (tChain (rI0 fun i j => .bl (p i j)) (rI0 fun i j => .bl (p' i j)) ta tb tc) σ S jB (p i j && p' j n) := fun S1 H s k Q q =>
  ha S1 H s k _ fun S2 H2 v t r => hb S2 H2 (s.trans t.ss) t.ok _ fun S3 H3 u t3 r3 => ⟨i, j, r, r3, p i j, rfl, by
    cases e : p i j with
    | false => exact iteF (q S3 H3 _ (t.trans t3) (by rw [e]; rfl))
    | true => exact iteT (hc S3 H3 ((s.trans t.ss).trans t3.ss) t3.ok _ fun S4 H4 w t4 r4 => ⟨j, n, r3, r4, q S4 H4 _ ((t.trans t3).trans t4) (by rw [e]; rfl)⟩)⟩
/-! ### promises that leave the answer open -/
def FnX (Z : List Addr) (A : Ra α) (pre : α → Prop) (R : Rp β) (post : α → β → Prop) : Sp := fun vs H Q _ => ∃ S x, Ok Z S H ∧ A S vs x ∧ pre x ∧ ∀ S' H' r y, Stp Z S H S' H' → R S' r y → post x y → Q r H'
def EvX (Z : List Addr) (te : TE) (σ : L2.St) (S : Hp) (R : Rp α) (p : α → Prop) : Prop := ∀ S1 H, Same S S1 → Ok Z S1 H → ∀ Q : VK, (∀ S2 H2 v x, Stp Z S1 H S2 H2 → R S2 v x → p x → Q v H2) → te σ H Q
theorem ex_call {A : Ra α} {pre : α → Prop} {post : α → β → Prop} {E : XK} (h : EvA Z tr σ S A x) (p : pre x) : EvX Z (tCall (FnX Z A pre R' post) [] E tr) σ S R' (post x) := fun S1 H s k Q q =>
  h S1 H s k _ fun S2 H2 vs t a => by
    rw [List.append_nil]
    exact ⟨S2, x, t.ok, a, p, fun S3 H3 r y t' hr hp => q S3 H3 r y (t.trans t') hr hp⟩
theorem ex_op [Up R] {p : β → Prop} {R'' : Rp γ} {p' : γ → Prop} {r : R2} (ha : EvR Z ta σ S R x) (hb : EvX Z tb σ S R' p)
    (hr : ∀ S1 H v w y (Q : VK), Same S S1 → Ok Z S1 H → R S1 v x → R' S1 w y → p y → (∀ S2 H2 u z, Stp Z S1 H S2 H2 → R'' S2 u z → p' z → Q u H2) → r v w H Q) : EvX Z (tOp r ta tb) σ S R'' p' := fun S1 H s k Q q =>
  ha S1 H s k _ fun S2 H2 v t rv => hb S2 H2 (s.trans t.ss) t.ok _ fun S3 H3 w y t' rw hp => hr S3 H3 v w y Q ((s.trans t.ss).trans t'.ss) t'.ok (Up.up t'.ss rv) rw hp fun S4 H4 u z t'' ru pu => q S4 H4 u z ((t.trans t').trans t'') ru pu
theorem q_setX {p : α → Prop} {i : Nat} (h : EvX Z te σ S R p) (k : Stp Z S0 H0 S H) (n : ∀ S' H' v x, Stp Z S0 H0 S' H' → Same S S' → R S' v x → p x → rest D (σ.set i (some v)) H') : tSeq (tAsg te (gName i)) rest D σ H :=
  s_seq (h S H (Same.refl _) k.ok _ fun S' H' v x t r hp => n S' H' v x (k.trans t) t.ss r hp)
theorem s_setX {p : α → Prop} {i : Nat} (h : EvX Z te σ S R p) (k : Stp Z S0 H0 S H) (n : ∀ S' H' v x, Stp Z S0 H0 S' H' → Same S S' → R S' v x → p x → D.nx (σ.set i (some v)) H') : tAsg te (gName i) D σ H :=
  h S H (Same.refl _) k.ok _ fun S' H' v x t r hp => n S' H' v x (k.trans t) t.ss r hp
/-! ### the script -/
theorem sqL_up {a : Addr} {xs : List V} (e : Same S H) (h : SqL K S a xs) : SqL K H a xs := by
  rcases h with h | h
  · rcases h with h | ⟨o, h⟩
    · exact .inl (.inl (e _ _ h))
    · exact .inl (.inr ⟨o, e _ _ h⟩)
  · exact .inr h
def jScr (K : PySem.W.Frag) : Rp (List Int) := fun S v ns => ∃ a, v = .ref a ∧ SqL K S a (ns.map V.int)
instance : Up (jScr K) := ⟨fun e ⟨a, h1, h2⟩ => ⟨a, h1, sqL_up e h2⟩⟩
theorem ev_lenS {ns : List Int} (ha : EvR Z ta σ S (jScr K) ns) : EvR Z (tCB (rLenK K) (tCons ta tNil)) σ S jI (ns.length : Int) := fun S1 H s k Q q =>
  ha S1 H s k _ fun S2 H2 v t ⟨a, e, h⟩ => ⟨a, _, by rw [e], Or.inl (sqL_up t.ok.le h), q _ _ _ t (by rw [List.length_map]; rfl)⟩
theorem ev_ixS {ns : List Int} {i : Int} {j : Nat} {n : Int} (ha : EvR Z ta σ S (jScr K) ns) (hb : EvR Z tb σ S jI i) (hi : i = (j : Int)) (hj : ns[j]? = some n) : EvR Z (tOp (rIxL K) ta tb) σ S jI n :=
  ev_op ha hb fun S1 H v w Q s k ⟨a, e1, h1⟩ hw q => ⟨a, _, i, .int n, e1, hw, sqL_up k.le h1, by rw [hi]; exact atI_nat (by rw [List.getElem?_map, hj]; rfl), q _ _ _ (.refl k) rfl⟩
/-! ### an object that is worked at is changed by a callee: the heap without it -/
theorem upd_rem {l : Addr} {o : HO} (h : H l = some o) : upd (rem H l) l o = H := by
  funext b
  by_cases hb : b = l
  · rw [hb, upd_same, h]
  · rw [upd_ne hb, rem_ne hb]
theorem Ok.without {l : Addr} (k : Ok Z S H) (n : S l = none) (hz : ¬ l ∈ Z) : Ok Z S (rem H l) := ⟨fun b u e => by
    have hb : b ≠ l := ne_of_none e n
    rw [rem_ne hb]
    exact k.le b u e, k.out, fun p hp => by
    obtain ⟨ps, e, t⟩ := k.tab p hp
    exact ⟨ps, by rw [rem_ne (fun z => hz (by rw [← z]; exact hp))]; exact e, t⟩⟩
theorem Stp.over {l : Addr} {S1 H1 : Hp} (k : Stp Z S0 H0 S H) (h0 : H0 l = Option.none) (hz : ¬ l ∈ Z) (t : Stp Z S (rem H l) S1 H1) : Stp Z S0 H0 S1 H1 where
  ok0 := k.ok0
  ok := t.ok
  ss := k.ss.trans t.ss
  old := fun b u hb e => by
    have ne : b ≠ l := ne_of_none e h0
    refine t.old b u hb ?_
    rw [rem_ne ne]
    exact k.old b u hb e
  new := fun b u e n => by
    have ne : b ≠ l := ne_of_none e h0
    by_cases hb : b ∈ Z
    · exact t.ok.out b hb
    · refine t.new b u ?_ (k.new b u e n)
      rw [rem_ne ne]
      exact k.old b u hb e
end
end Hg
end Z_HgX

section Z_D9
set_option maxHeartbeats 4000000
/-! The law's own draws. -/
namespace Hg
open PySem L2
section
variable {Z : List Addr} {σ : L2.St} {S S' H S0 H0 : Hp} {α β γ : Type} {R : Rp α} {R' : Rp β} {te ta tb tc tl tm : TE} {tt : TT} {tr : TA} {x : α} {y : β} {v : V} {K : PySem.W.Frag} {D : Ends} {t1 t2 rest : TS} {Q : VK}
theorem u_op {r : R2} (h : ta σ H fun x H1 => tb σ H1 fun y H2 => r x y H2 Q) : tOp r ta tb σ H Q := h
theorem u_c (h : Q v H) : tC v σ H Q := h
theorem u_var {i : Nat} (e : σ[i]? = some (some v)) (h : Q v H) : tVar i σ H Q := ⟨v, e, h⟩
theorem u_cons {Q : List V → Hp → Prop} (h : te σ H fun v H1 => tr σ H1 fun vs H2 => Q (v :: vs) H2) : tCons te tr σ H Q := h
theorem u_nil {Q : List V → Hp → Prop} (h : Q [] H) : tNil σ H Q := h
theorem u_cb {r : List V → Hp → VK → Prop} (h : tr σ H fun vs H1 => r vs H1 Q) : tCB r tr σ H Q := h
theorem u_ev (h : EvR Z te σ S R x) (k : Stp Z S0 H0 S H) (n : ∀ S' H' v, Stp Z S0 H0 S' H' → Same S S' → Stp Z S H S' H' → R S' v x → Q v H') : te σ H Q := h S H (Same.refl _) k.ok _ fun S' H' v t r => n S' H' v (k.trans t) t.ss t r
theorem u_set {i : Nat} (h : te σ H fun v H1 => rest D (σ.set i (some v)) H1) : tSeq (tAsg te (gName i)) rest D σ H := h
/-- the box of a law: a row of numbers, and the place in it -/
def Bx (Z : List Addr) (S H : Hp) (b : Addr) : Prop := ∃ rv ns at_, Own Z S H b (.lst [rv, .int at_]) ∧ jL jI S rv ns ∧ 0 ≤ at_
theorem Bx.step {b : Addr} (w : Bx Z S H b) {S1 H1 : Hp} (t : Stp Z S H S1 H1) : Bx Z S1 H1 b := let ⟨rv, ns, a, o, h1, h2⟩ := w; ⟨rv, ns, a, o.step t, Up.up t.ss h1, h2⟩
theorem Bx.base {b : Addr} (w : Bx Z S H b) (k : Ok Z S H) : Stp Z S (rem H b) S H := by
  obtain ⟨rv, ns, a, o, h1, h2⟩ := w
  have t := (Ok.without (l := b) k o.off o.nz).mk' (p := b) (o := .lst [rv, .int a]) rem_at
  rw [upd_rem o.at_] at t
  exact t
def spCell (Z : List Addr) (K : PySem.W.Frag) : Sp := Fn Z (aC (jScr K) (aC jI aN)) (fun p => 0 ≤ p.2.1) jI fun p => p.1.getD p.2.1.toNat 0
def spRow (Z : List Addr) : Sp := FnX Z (aC jI (aC jI (aC jI aN))) (fun p => 0 ≤ p.2.2.1 ∧ p.2.2.1 ≤ 100) (jL jI) fun _ ys => ys.length ≤ 100
def spBox (Z : List Addr) (K : PySem.W.Frag) : Sp := fun vs H Q _ => ∃ S ns i j, Ok Z S H ∧ (aC (jScr K) (aC jI (aC jI aN))) S vs (ns, i, j, ()) ∧ (0 ≤ i ∧ j ≤ i + 10 ∧ i ≤ 1000 ∧ -1000 ≤ j) ∧ ∀ S' H' b, H b = none → Stp Z S H S' H' → Bx Z S' H' b → Q (.ref b) H'
def spDraw (Z : List Addr) : Sp := fun vs H Q _ => ∃ S b m, Ok Z S H ∧ vs = [.ref b, .int m] ∧ 0 < m ∧ Bx Z S H b ∧ ∀ S' H' i, Stp Z S (rem H b) S' H' → Bx Z S' H' b → 0 ≤ i → i < m → Q (.int i) H'
theorem draw_run {b : Addr} {j : Nat} {m : Int} {E : XK} (hb : σ[j]? = some (some (.ref b))) (k : Stp Z S0 H0 S H) (h0 : H0 b = none) (bx : Bx Z S H b) (hm : EvR Z tm σ S jI m) (hp : 0 < m)
    (n : ∀ S' H' i, Stp Z S0 H0 S' H' → Same S S' → Bx Z S' H' b → 0 ≤ i → i < m → Q (.int i) H') : tCall (spDraw Z) [] E (tCons (tVar j) (tCons tm tNil)) σ H Q := by
  refine ⟨.ref b, hb, hm S H (Same.refl _) k.ok _ fun S1 H1 v t r => ?_⟩
  have r : v = .int m := r
  subst r
  obtain ⟨rv, ns, a, o, h1, h2⟩ := bx.step t
  exact ⟨S1, b, m, t.ok, rfl, hp, bx.step t, fun S2 H2 i t2 bx2 i0 i1 => n S2 H2 i ((k.trans t).over h0 o.nz t2) (t.ss.trans t2.ss) bx2 i0 i1⟩
def jBx : Rp (List Int) := fun S v ns => ∃ b rv a, v = .ref b ∧ S b = some (.lst [rv, .int a]) ∧ jL jI S rv ns
instance : Up jBx := ⟨fun e ⟨b, rv, a, h1, h2, h3⟩ => ⟨b, rv, a, h1, e _ _ h2, Up.up e h3⟩⟩
theorem ev_box0 {ns : List Int} (ha : EvR Z ta σ S jBx ns) (hb : EvR Z tb σ S jI 0) : EvR Z (tOp (rIxL K) ta tb) σ S (jL jI) ns :=
  ev_op ha hb fun S1 H v w Q s k ⟨b, rv, a, e1, h1, h2⟩ hw q => ⟨b, _, 0, rv, e1, hw, SqL.of (k.le _ _ h1), rfl, q _ _ _ (.refl k) h2⟩
theorem getD_at {ns : List Int} {n : Nat} (h : n < ns.length) : ns[n]? = some (ns.getD n 0) := by
  rw [List.getD_eq_getElem?_getD, List.getElem?_eq_getElem h]
  rfl
end
section
variable {Pg : Program} {w : World} {K : PySem.W.Frag} {mg : Str → Option Value} {base : Heap} {Z : List Addr} {f : Addr} {fd : FuncData}
abbrev N_law_cell : List Str := ["_law_script", "_law_k"]
theorem sc_law_cell : FnScope N_law_cell ["_law_script", "_law_k"] (defScope s_law_cell) := ⟨rfl, rfl, rfl, by decide +kernel, rfl, by decide +kernel, by decide +kernel⟩
theorem ok_law_cell (F : FnP K "_law_cell" "_law_cell" s_law_cell f fd) (T : Txt K mg) : FnOk Pg w K mg base CX0 1 f fd ["_law_script", "_law_k"] (spCell Z K) := by
  refine F.ok sc_law_cell fn_len2 (fun cdv A outer s H vs Q E hr h => ⟨_, PSs.nox (pss_cons (ps_if (pt_cmpR op_lt (pv 1) (pe_callB (kLen K) rfl T.f_len PySem.boot_len (pa_cons (pv 0) pa_nil)) (nomark _)) (pss_one (ps_ret (pe_ix (kIxL K) (pv 0) (pv 1) (fun _ _ => rfl)))) pss_nil)
      (pss_one (ps_ret pe_int))), ?_⟩)
  obtain ⟨S, ⟨ns, i, u⟩, k, ⟨v, r, rfl, hs, v', r', rfl, hi, hr'⟩, p, q⟩ := h
  cases hr'
  have p : 0 ≤ i := p
  obtain ⟨n, rfl⟩ := Int.eq_ofNat_of_zero_le p
  have hs : jScr K S v ns := hs
  have hi : jI S v' (n : Int) := hi
  refine q_if (et_test (ev_IB (ev_var rfl hi) (ev_lenS (ev_var rfl hs)))) (.refl k) (fun hb S1 H1 t1 s1 t1' => ?_) (fun hb S1 H1 t1 s1 t1' => ?_)
  · have hb : (n : Int) < (ns.length : Int) := of_decide_eq_true hb
    have hn : n < ns.length := by omega
    exact q_ret (ev_ixS (j := n) (ev_var rfl (Up.up s1 hs)) (ev_var rfl hi) rfl (getD_at hn)) t1 q
  · have hb : ¬ (n : Int) < (ns.length : Int) := of_decide_eq_false hb
    have hn : ¬ n < ns.length := by omega
    refine q_ret ((ev_int (i := 0)).is ?_) t1 q
    show (0 : Int) = ns.getD n 0
    rw [List.getD_eq_getElem?_getD, List.getElem?_eq_none (by omega)]
    rfl
abbrev N_law_row : List Str := ["_law_cell_here", "_law_k", "_law_many", "_law_row_here", "_law_turn", "_law_seed"]
theorem sc_law_row : FnScope N_law_row ["_law_cell_here", "_law_k", "_law_many"] (defScope s_law_row) := ⟨rfl, rfl, rfl, by decide +kernel, rfl, by decide +kernel, by decide +kernel⟩
theorem ok_law_row (F : FnP K "_law_row" "_law_row" s_law_row f fd) (T : Txt K mg) : FnOk Pg w K mg base CX0 1 f fd ["_law_cell_here", "_law_k", "_law_many"] (spRow Z) := by
  refine F.ok sc_law_row (fun vs H Q E ⟨S, x, k, ⟨v, r, e, _, v', r', e1, _, v'', r'', e2, _, e'⟩, _⟩ => by
    have e' : r'' = [] := e'
    rw [e, e1, e2, e']
    rfl) (fun cdv A outer s H vs Q E hr h => ⟨_, PSs.nox (pss_cons (ps_set (i := 3) sc_law_row.nd rfl (by first | exact Or.inl rfl | exact Or.inr rfl) (pe_lst pa_nil))
      (pss_cons (ps_if (pt_cmpR op_lt (pv 0) pe_int (nomark _)) (pss_one (ps_set (i := 0) sc_law_row.nd rfl (by first | exact Or.inl rfl | exact Or.inr rfl) (pe_op op_sub pe_int (pe_op op_mul pe_int (pv 0))))) pss_nil)
      (pss_cons (ps_if (pt_cmpR op_ge (pv 0) (pe_op op_pow pe_int pe_int) (nomark _)) (pss_cons (ps_for PassesOwn.never rfl (pi_range1 rfl T.f_range (pa_cons pe_int pa_nil)) (pg_name (i := 4) sc_law_row.nd rfl (by first | exact Or.inl rfl | exact Or.inr rfl)) (pss_one (ps_if (PW.pt (pw_and (pt_cmpR op_gt (pv 0) pe_int (nomark _)) (pw_and1 (pt_cmpR op_lt (pe_callB (kLen K) rfl T.f_len PySem.boot_len (pa_cons (pv 3) pa_nil)) (pv 2) (nomark _))))) (pss_cons (ps_expr (pe_bm PySem.F.plainAttrs_list PySem.F.slot_list_append PySem.F.type_list_append mt_append (pv 3) (pa_cons (pe_op op_mod (pe_callTy call_int1 rfl T.f_int (by decide +kernel) (pa_cons (pv 0) pa_nil)) pe_int) pa_nil)))
      (pss_one (ps_set (i := 0) sc_law_row.nd rfl (by first | exact Or.inl rfl | exact Or.inr rfl) (pe_op op_fdiv (pv 0) pe_int)))) pss_nil)))
      (pss_one (ps_ret (pv 3)))) pss_nil)
      (pss_cons (ps_set (i := 5) sc_law_row.nd rfl (by first | exact Or.inl rfl | exact Or.inr rfl) (pe_op op_mod (pe_callTy call_int1 rfl T.f_int (by decide +kernel) (pa_cons (pe_op op_add (pe_op op_add (pe_op op_mul (pv 0) pe_int) (pe_op op_mul (pv 1) pe_int)) pe_int) pa_nil)) pe_int))
      (pss_cons (ps_for PassesOwn.never rfl (pi_range1 rfl T.f_range (pa_cons (pv 2) pa_nil)) (pg_name (i := 4) sc_law_row.nd rfl (by first | exact Or.inl rfl | exact Or.inr rfl)) (pss_cons (ps_set (i := 5) sc_law_row.nd rfl (by first | exact Or.inl rfl | exact Or.inr rfl) (pe_op op_mod (pe_callTy call_int1 rfl T.f_int (by decide +kernel) (pa_cons (pe_op op_add (pe_op op_add (pe_op op_mul (pv 5) pe_int) (pe_op op_mul pe_int (pv 4))) pe_int) pa_nil)) pe_int))
      (pss_one (ps_expr (pe_bm PySem.F.plainAttrs_list PySem.F.slot_list_append PySem.F.type_list_append mt_append (pv 3) (pa_cons (pe_op op_mod (pe_callTy call_int1 rfl T.f_int (by decide +kernel) (pa_cons (pe_op op_fdiv (pv 5) pe_int) pa_nil)) pe_int) pa_nil))))))
      (pss_one (ps_ret (pv 3)))))))), ?_⟩)
  obtain ⟨S, ⟨c, kk, m, u⟩, k, ⟨v, r, rfl, hc, v', r', rfl, hk, v'', r'', rfl, hm, hr'⟩, ⟨p1, p2⟩, q⟩ := h
  cases hr'
  have hc : v = .int c := hc
  have hk : v' = .int kk := hk
  have hm : v'' = .int m := hm
  subst hc hk hm
  have p1 : 0 ≤ m := p1
  have p2 : m ≤ 100 := p2
  refine q_new (R := jI) (.refl k) fun l H1 l0 _ t1 _ ol1 => ?_
  refine q_ifJ (et_test (ev_IB (ev_var (x := c) rfl rfl) (ev_int (i := 0)))) t1 (fun S2 σ2 H2 => (∃ c2, σ2 = [some (.int c2), some (.int kk), some (.int m), some (.ref l), none, none]) ∧ OwnL Z S2 H2 l jI []) (fun hb S2 H2 N t2 s2 t2' hN => ?_) (fun hb S2 H2 t2 s2 t2' => ⟨⟨_, rfl⟩, ol1.step t2'⟩) fun S2 σ2 H2 t2 s2 ⟨⟨c2, e2⟩, ol2⟩ => ?_
  · refine s_set (ev_II (g := fun i j => i - j) (ev_int (i := 1)) (ev_I (R := jI) (x := 2 * c) (C := L2.CMul) (g := fun i j => .int (i * j)) (ev_int (i := 2)) (ev_var (x := c) rfl rfl) (Or.inl ⟨by decide, by decide⟩) fun _ => rfl)) t2.ok fun S3 H3 v3 t3 h3 => hN _ _ _ (t2.trans t3) (s2.trans t3.ss) ⟨⟨1 - 2 * c, ?_⟩, (ol1.step t2').step t3⟩
    have h3 : v3 = .int (1 - 2 * c) := h3
    rw [h3]
    rfl
  subst e2
  refine q_if (et_test (ev_IB (ev_var (x := c2) rfl rfl) (ev_I (R := jI) (x := 10 ^ (18 : Int).toNat) (C := L2.CPow) (g := fun i j => .int (i ^ j.toNat)) (ev_int (i := 10)) (ev_int (i := 18)) ⟨by decide, by decide, by decide⟩ fun _ => rfl))) t2 (fun hb S3 H3 t3 s3 t3' => ?_) (fun hb S3 H3 t3 s3 t3' => ?_)
  · refine q_for (ei_range1 (ea_cons (ev_int (i := 60)) ea_nil) ⟨by decide, by decide⟩) t3 (fun i S4 σ4 H4 => (∃ c4 o4, σ4 = [some (.int c4), some (.int kk), some (.int m), some (.ref l), o4, none]) ∧ ∃ xs, OwnL Z S4 H4 l jI xs ∧ xs.length ≤ i) (fun i S4 σ4 H4 S5 H5 ⟨h1, xs, h2, h3⟩ t => ⟨h1, xs, h2.step t, h3⟩) ⟨⟨_, _, rfl⟩, [], ol2.step t3', Nat.le_refl _⟩ ?_ ?_
    · rintro i tn S4 σ4 H4 v4 N hx t4 s4 hv4 ⟨⟨c4, o4, rfl⟩, xs, ol4, hl4⟩ hN
      have hi60 : i < 60 := by
        have h1 := (List.getElem?_eq_some_iff.mp hx).1
        rw [rng_len] at h1
        exact h1
      refine ⟨_, eg_name, ?_⟩
      obtain ⟨us, ow, pr⟩ := ol4
      refine ⟨.int c4, rfl, c4, 0, rfl, rfl, _, rfl, ?_⟩
      cases e1 : decide (c4 > 0) with
      | false => exact iteF (hN S4 _ H4 t4 (Same.refl _) ⟨⟨_, _, rfl⟩, xs, ⟨us, ow, pr⟩, Nat.le_succ_of_le hl4⟩)
      | true =>
      refine iteT ⟨.ref l, rfl, l, us, rfl, Or.inl (SqL.of ow.at_), .int m, rfl, us.length, m, rfl, rfl, _, rfl, ?_⟩
      cases e2 : decide ((us.length : Int) < m) with
      | false => exact iteF (hN S4 _ H4 t4 (Same.refl _) ⟨⟨_, _, rfl⟩, xs, ⟨us, ow, pr⟩, Nat.le_succ_of_le hl4⟩)
      | true =>
      refine iteT ?_
      refine q_app (R := jI) (x := c4 % 1000) rfl ⟨us, ow, pr⟩ (ev_I (R := jI) (x := c4 % 1000) (C := fun _ j => 0 < j) (g := fun i j => .int (i % j)) (ev_int1 (ev_var (x := c4) rfl rfl)) (ev_int (i := 1000)) (by decide) fun _ => rfl) t4 l0 (by omega) fun S5 H5 t5 s5 ol5 _ => ?_
      refine s_set (ev_I (R := jI) (x := c4 / 1000) (C := L2.CDiv) (g := fun i j => .int (i / j)) (ev_var (x := c4) rfl rfl) (ev_int (i := 1000)) ⟨by decide, by decide⟩ fun _ => rfl) t5.ok fun S6 H6 v6 t6 h6 => ?_
      have h6 : v6 = .int (c4 / 1000) := h6
      subst h6
      exact hN S6 _ H6 (t5.trans t6) (s5.trans t6.ss) ⟨⟨_, _, rfl⟩, _, ol5.step t6, by rw [List.length_append]; exact Nat.succ_le_succ hl4⟩
    · rintro S4 σ4 H4 t4 s4 ⟨⟨c4, o4, rfl⟩, xs, ol4, hl4⟩
      obtain ⟨S5, t5, s5, r5⟩ := ol4.frz t4 l0
      have hl : xs.length ≤ 60 := hl4
      exact q_ret (ev_var rfl r5) t5 fun S6 H6 v6 t6 h6 => q S6 H6 v6 xs t6 h6 (by omega)
  · refine q_set (ev_I (R := jI) (x := _ % 2147483647) (C := fun _ j => 0 < j) (g := fun i j => .int (i % j)) (ev_int1 (ev_II (g := fun i j => i + j) (ev_II (g := fun i j => i + j) (ev_I (R := jI) (x := c2 * 48271) (C := L2.CMul) (g := fun i j => .int (i * j)) (ev_var (x := c2) rfl rfl) (ev_int (i := 48271)) (Or.inr ⟨by decide, by decide⟩) fun _ => rfl) (ev_I (R := jI) (x := kk * 69621) (C := L2.CMul) (g := fun i j => .int (i * j)) (ev_var (x := kk) rfl rfl) (ev_int (i := 69621)) (Or.inr ⟨by decide, by decide⟩) fun _ => rfl)) (ev_int (i := 11)))) (ev_int (i := 2147483647)) (by decide) fun _ => rfl) t3 fun S4 H4 v4 t4 s4 t4' h4 => ?_
    have h4 : v4 = .int ((c2 * 48271 + kk * 69621 + 11) % 2147483647) := h4
    subst h4
    refine q_for (ei_range1 (ea_cons (ev_var (x := m) rfl rfl) ea_nil) ⟨by omega, by omega⟩) t4 (fun i S4 σ4 H4 => (∃ sd o4, σ4 = [some (.int c2), some (.int kk), some (.int m), some (.ref l), o4, some (.int sd)]) ∧ ∃ xs, OwnL Z S4 H4 l jI xs ∧ xs.length ≤ i) (fun i S4 σ4 H4 S5 H5 ⟨h1, xs, h2, h3⟩ t => ⟨h1, xs, h2.step t, h3⟩) ⟨⟨_, _, rfl⟩, [], (ol2.step t3').step t4', Nat.le_refl _⟩ ?_ ?_
    · rintro i tn S5 σ5 H5 v5 N hx t5 s5 hv5 ⟨⟨sd, o4, rfl⟩, xs, ol5, hl5⟩ hN
      have him : (i : Int) < m := by
        have h1 := (List.getElem?_eq_some_iff.mp hx).1
        rw [rng_len] at h1
        omega
      have hv5 : v5 = .int tn := hv5
      subst hv5
      refine ⟨_, eg_name, ?_⟩
      refine q_set (ev_I (R := jI) (x := _ % 2147483647) (C := fun _ j => 0 < j) (g := fun i j => .int (i % j)) (ev_int1 (ev_II (g := fun i j => i + j) (ev_II (g := fun i j => i + j) (ev_I (R := jI) (x := sd * 16807) (C := L2.CMul) (g := fun i j => .int (i * j)) (ev_var (x := sd) rfl rfl) (ev_int (i := 16807)) (Or.inr ⟨by decide, by decide⟩) fun _ => rfl) (ev_I (R := jI) (x := 7 * tn) (C := L2.CMul) (g := fun i j => .int (i * j)) (ev_int (i := 7)) (ev_var (x := tn) rfl rfl) (Or.inl ⟨by decide, by decide⟩) fun _ => rfl)) (ev_int (i := 1)))) (ev_int (i := 2147483647)) (by decide) fun _ => rfl) t5 fun S6 H6 v6 t6 s6 t6' h6 => ?_
      have h6 : v6 = .int ((sd * 16807 + 7 * tn + 1) % 2147483647) := h6
      subst h6
      generalize (sd * 16807 + 7 * tn + 1) % 2147483647 = sd2
      refine s_app' (R := jI) (x := sd2 / 997 % 1000) rfl (ol5.step t6') (ev_I (R := jI) (x := sd2 / 997 % 1000) (C := fun _ j => 0 < j) (g := fun i j => .int (i % j)) (ev_int1 (ev_I (R := jI) (x := sd2 / 997) (C := L2.CDiv) (g := fun i j => .int (i / j)) (ev_var (x := sd2) rfl rfl) (ev_int (i := 997)) ⟨by decide, by decide⟩ fun _ => rfl)) (ev_int (i := 1000)) (by decide) fun _ => rfl) t6 l0 (by omega) fun S7 H7 t7 s7 ol7 _ => hN S7 _ H7 t7 (s6.trans s7) ⟨⟨_, _, rfl⟩, _, ol7, by rw [List.length_append]; exact Nat.succ_le_succ hl5⟩
    · rintro S5 σ5 H5 t5 s5 ⟨⟨sd, o4, rfl⟩, xs, ol5, hl5⟩
      obtain ⟨S6, t6, s6, r6⟩ := ol5.frz t5 l0
      rw [rng_len] at hl5
      exact q_ret (ev_var rfl r6) t6 fun S7 H7 v7 t7 h7 => q S7 H7 v7 xs t7 h7 (by omega)
end
end Hg
end Z_D9

section Z_D10
set_option maxHeartbeats 4000000
/-! The box, a draw, a drawn contract. -/
namespace Hg
open PySem L2
/-- what a drawn contract is like -/
def DrawnC (m : Int) (c : Mir.Con) : Prop := 1 ≤ c.size ∧ c.size ≤ m ∧ 0 ≤ c.limit ∧ c.limit ≤ m ∧ c.lengths ∈ Mir.menu ∧ 0 ≤ c.budget ∧ c.budget ≤ 2
def spLC (Z : List Addr) (K : PySem.W.Frag) : Sp := fun vs H Q _ => ∃ S b m, Ok Z S H ∧ vs = [.ref b, .int m] ∧ 0 < m ∧ Bx Z S H b ∧ ∀ S' H' v c, Stp Z S (rem H b) S' H' → Bx Z S' H' b → jCon K S' v c → DrawnC m c → Q v H'
section
variable {Pg : Program} {w : World} {K : PySem.W.Frag} {mg : Str → Option Value} {base : Heap} {Z : List Addr} {f : Addr} {fd : FuncData}
abbrev N_law_box : List Str := ["_law_script", "_law_first", "_law_last", "_law_row_here", "_law_k"]
theorem sc_law_box : FnScope N_law_box ["_law_script", "_law_first", "_law_last"] (defScope s_law_box) := ⟨rfl, rfl, rfl, by decide +kernel, rfl, by decide +kernel, by decide +kernel⟩
theorem ok_law_box (F : FnP K "_law_box" "_law_box" s_law_box f fd) (T : Txt K mg) (c_law_row : Cal Pg w K mg base 1 (He.ga K "_law_row") ["_law_cell_here", "_law_k", "_law_many"] (spRow Z)) (c_law_cell : Cal Pg w K mg base 1 (He.ga K "_law_cell") ["_law_script", "_law_k"] (spCell Z K)) :
    FnOk Pg w K mg base CX0 2 f fd ["_law_script", "_law_first", "_law_last"] (spBox Z K) := by
  refine F.ok sc_law_box (fun vs H Q E ⟨S, ns, i, j, k, ⟨v, r, e, _, v', r', e1, _, v'', r'', e2, _, e'⟩, _⟩ => by
    have e' : r'' = [] := e'
    rw [e, e1, e2, e']
    rfl) (fun cdv A outer s H vs Q E hr h => ⟨_, PSs.nox (pss_cons (ps_set (i := 3) sc_law_box.nd rfl (by first | exact Or.inl rfl | exact Or.inr rfl) (pe_lst pa_nil))
      (pss_cons (ps_for PassesOwn.never rfl (pi_range2 rfl T.f_range (pa_cons (pv 1) (pa_cons (pv 2) pa_nil))) (pg_name (i := 4) sc_law_box.nd rfl (by first | exact Or.inl rfl | exact Or.inr rfl)) (pss_one (ps_set (i := 3) sc_law_box.nd rfl (by first | exact Or.inl rfl | exact Or.inr rfl) (pe_op op_cat (pv 3) (pe_call c_law_row.ok (hr.mono (by decide)) rfl T.g_law_row c_law_row.kp c_law_row.bd .nil pass0 (pa_cons (pe_call c_law_cell.ok (hr.mono (by decide)) rfl T.g_law_cell c_law_cell.kp c_law_cell.bd .nil pass0 (pa_cons (pv 0) (pa_cons (pv 4) pa_nil))) (pa_cons (pv 4) (pa_cons pe_int pa_nil))))))))
      (pss_one (ps_ret (pe_lst (pa_cons (pv 3) (pa_cons pe_int pa_nil))))))), ?_⟩)
  obtain ⟨S, ns, i, j, k, ⟨v, r, rfl, hs, v', r', rfl, hi, v'', r'', rfl, hj, hr'⟩, ⟨p1, p2, p3, p4⟩, q⟩ := h
  cases hr'
  have hs : jScr K S v ns := hs
  have hi : jI S v' i := hi
  have hj : jI S v'' j := hj
  refine q_set (ev_nil (R := jI)) (.refl k) fun S1 H1 v1 t1 s1 _ h1 => ?_
  refine q_for (ei_range2 (ea_cons (ev_var rfl (Up.up s1 hi)) (ea_cons (ev_var rfl (Up.up s1 hj)) ea_nil)) ⟨by omega, by omega, by omega, by omega⟩) t1 (fun n S2 σ2 H2 => ∃ rv o4 xs, σ2 = [some v, some v', some v'', some rv, o4] ∧ jL jI S2 rv xs ∧ xs.length ≤ 100 * n) (fun n S2 σ2 H2 S3 H3 ⟨rv, o4, xs, h1, h2, h3⟩ t => ⟨rv, o4, xs, h1, Up.up t.ss h2, h3⟩) ⟨v1, none, [], rfl, h1, Nat.zero_le _⟩ ?_ ?_
  · rintro n kk S2 σ2 H2 v2 N hx t2 s2 hv2 ⟨rv, o4, xs, rfl, h2, l2⟩ hN
    have hn : n < 10 := by
      have h1 := (List.getElem?_eq_some_iff.mp hx).1
      rw [rng_len] at h1
      omega
    have hk0 : 0 ≤ kk := by
      have := (rng_at hx).1
      omega
    refine ⟨_, eg_name, ?_⟩
    refine s_setX (p := fun ys => ys.length ≤ 100 * (n + 1)) (ex_op (R := jL jI) (x := xs) (R' := jL jI) (R'' := jL jI) (p' := fun ys : List Int => ys.length ≤ 100 * (n + 1)) (ev_var rfl h2) (ex_call (x := (ns.getD kk.toNat 0, kk, (12 : Int), ())) (ea_cons (ev_call (x := (ns, kk, ())) (ea_cons (ev_var rfl (Up.up t2.ss hs)) (ea_cons (ev_var (x := kk) rfl hv2) ea_nil)) hk0) (ea_cons (ev_var (x := kk) rfl hv2) (ea_cons (ev_int (i := 12)) ea_nil))) ⟨by show (0 : Int) ≤ 12; decide, by show (12 : Int) ≤ 100; decide⟩)
      fun S3 H3 a b ys Q3 s3 k3 ⟨a1, us, ea, ha, pa⟩ ⟨b1, ws, eb, hb, pb⟩ hy q3 => ⟨a1, b1, us, ws, ea, eb, k3.le _ _ ha, k3.le _ _ hb, ?_, fun p hp => q3 _ _ _ (xs ++ ys) (k3.add hp) ⟨p, _, rfl, upd_same, (pa.app pb).up (same_upd (k3.free hp))⟩ ?_⟩) t2 fun S3 H3 v3 zs t3 s3 h3 l3 => hN S3 _ H3 t3 s3 ⟨v3, _, zs, rfl, h3, l3⟩
    · rw [pa.len, pb.len]
      have hy : ys.length ≤ 100 := hy
      exact Nat.le_trans (show xs.length + ys.length ≤ 2000 by omega) (by decide)
    · have hy : ys.length ≤ 100 := hy
      show (xs ++ ys).length ≤ 100 * (n + 1)
      rw [List.length_append]
      omega
  · rintro S2 σ2 H2 t2 s2 ⟨rv, o4, xs, rfl, h2, l2⟩
    refine ⟨rv, rfl, ?_⟩
    refine ⟨(by show 2 ≤ sizeLine; decide), fun p hp => ?_⟩
    exact q S2 _ p (t2.none hp) (t2.trans (t2.ok.mk' hp)) ⟨rv, xs, 0, Own.new t2.ok hp, h2, Int.le_refl _⟩
abbrev N_law_draw : List Str := ["_law_box_here", "_law_many", "_law_at"]
theorem sc_law_draw : FnScope N_law_draw ["_law_box_here", "_law_many"] (defScope s_law_draw) := ⟨rfl, rfl, rfl, by decide +kernel, rfl, by decide +kernel, by decide +kernel⟩
theorem ok_law_draw (F : FnP K "_law_draw" "_law_draw" s_law_draw f fd) (T : Txt K mg) : FnOk Pg w K mg base CX0 1 f fd ["_law_box_here", "_law_many"] (spDraw Z) := by
  refine F.ok sc_law_draw (fun vs H Q E ⟨S, b, m, k, e, _⟩ => by
    rw [e]
    rfl) (fun cdv A outer s H vs Q E hr h => ⟨_, PSs.nox (pss_cons (ps_set (i := 2) sc_law_draw.nd rfl (by first | exact Or.inl rfl | exact Or.inr rfl) (pe_ix (kIxL K) (pv 0) pe_int (fun _ _ => rfl)))
      (pss_cons (ps_asg (pe_op op_add (pv 2) pe_int) (pg_sub (pv 0) pe_int set_list))
      (pss_cons (ps_if (pt_cmpR op_lt (pv 2) (pe_callB (kLen K) rfl T.f_len PySem.boot_len (pa_cons (pe_ix (kIxL K) (pv 0) pe_int (fun _ _ => rfl)) pa_nil)) (nomark _)) (pss_one (ps_ret (pe_op op_mod (pe_callTy call_int1 rfl T.f_int (by decide +kernel) (pa_cons (pe_ix (kIxL K) (pe_ix (kIxL K) (pv 0) pe_int (fun _ _ => rfl)) (pv 2) (fun _ _ => rfl)) pa_nil)) (pv 1)))) pss_nil)
      (pss_one (ps_ret (pe_op op_mod (pe_callTy call_int1 rfl T.f_int (by decide +kernel) (pa_cons (pe_op op_add (pe_op op_mul (pv 2) pe_int) pe_int) pa_nil)) (pv 1))))))), ?_⟩)
  obtain ⟨S, b, m, k, rfl, hm, bx, q⟩ := h
  obtain ⟨rv, ns, a, ow, hrv, ha⟩ := bx
  refine u_set ⟨.ref b, rfl, b, _, 1, .int a, rfl, rfl, SqL.of ow.at_, rfl, ?_⟩
  show tSeq (tAsg (tOp (rI0 fun i j => V.int (i + j)) (tVar 2) (tC (V.int 1))) (gSub (tVar 0) (tC (V.int 1)) rSetL)) _ _ _ _
  refine s_seq ⟨.int a, rfl, a, 1, rfl, rfl, .ref b, rfl, b, _, 1, 1, rfl, rfl, ow.at_, rfl, ?_⟩
  have t0 : Stp Z S (rem H b) S (upd H b (.lst [rv, .int (a + 1)])) := by
    have t := (Ok.without (l := b) k ow.off ow.nz).mk' (p := b) (o := .lst [rv, .int (a + 1)]) rem_at
    have e : upd (rem H b) b (.lst [rv, .int (a + 1)]) = upd H b (.lst [rv, .int (a + 1)]) := by
      funext c
      by_cases hc : c = b
      · rw [hc, upd_same, upd_same]
      · rw [upd_ne hc, upd_ne hc, rem_ne hc]
    rw [e] at t
    exact t
  have ow1 : Own Z S (upd H b (.lst [rv, .int (a + 1)])) b (.lst [rv, .int (a + 1)]) := ow.put
  show tSeq _ _ _ _ (upd H b (.lst [rv, .int (a + 1)]))
  generalize upd H b (.lst [rv, .int (a + 1)]) = H1 at t0 ow1
  have t1 := t0.frz (l := b) rem_at ow1.at_
  have hbx : jBx (upd S b (.lst [rv, .int (a + 1)])) (.ref b) ns := ⟨b, rv, a + 1, rfl, upd_same, Up.up (same_upd ow.off) hrv⟩
  have fin : ∀ S2 H2 i, Same (upd S b (.lst [rv, .int (a + 1)])) S2 → Stp Z S (rem H b) S2 H2 → 0 ≤ i → i < m → Q (.int i) H2 := fun S2 H2 i s2 t2 i0 i1 => by
    obtain ⟨t3, ow3⟩ := t2.thaw (a := b) rem_at (s2 _ _ upd_same) ow.nz
    refine q (rem S2 b) H2 i t3 ⟨rv, ns, a + 1, ow3, Up.up (fun c u e => ?_) hrv, by omega⟩ i0 i1
    have hc : c ≠ b := ne_of_none e ow.off
    rw [rem_ne hc]
    refine s2 c u ?_
    rw [upd_ne hc]
    exact e
  generalize hSb : upd S b (.lst [rv, .int (a + 1)]) = Sb at t1 hbx fin
  obtain ⟨n, rfl⟩ := Int.eq_ofNat_of_zero_le ha
  refine q_if (et_test (ev_IB (ev_var (v := .int (n : Int)) (x := (n : Int)) rfl rfl) (ev_len (ev_box0 (ev_var (v := .ref b) rfl hbx) (ev_int (i := 0)))))) t1 (fun hb S2 H2 t2 s2 _ => ?_) (fun hb S2 H2 t2 s2 _ => ?_)
  · have hb : (n : Int) < (ns.length : Int) := of_decide_eq_true hb
    have hn : n < ns.length := by omega
    refine s_ret (ev_I (R := jI) (x := ns.getD n 0 % m) (C := fun _ j => 0 < j) (g := fun i j => .int (i % j)) (ev_int1 (ev_ixL (j := n) (ev_box0 (ev_var (v := .ref b) rfl (Up.up s2 hbx)) (ev_int (i := 0))) (ev_var (v := .int (n : Int)) (x := (n : Int)) rfl rfl) rfl (getD_at hn))) (ev_var (v := .int m) (x := m) rfl rfl) hm fun _ => rfl) t2.ok fun S3 H3 v3 t3 h3 => ?_
    have h3 : v3 = .int (ns.getD n 0 % m) := h3
    rw [h3]
    exact fin S3 H3 _ (s2.trans t3.ss) (t2.trans t3) (Int.emod_nonneg _ (by omega)) (Int.emod_lt_of_pos _ hm)
  · refine s_ret (ev_I (R := jI) (x := ((n : Int) * 7 + 3) % m) (C := fun _ j => 0 < j) (g := fun i j => .int (i % j)) (ev_int1 (ev_II (g := fun i j => i + j) (ev_I (R := jI) (x := (n : Int) * 7) (C := L2.CMul) (g := fun i j => .int (i * j)) (ev_var (v := .int (n : Int)) (x := (n : Int)) rfl rfl) (ev_int (i := 7)) (Or.inr ⟨by decide, by decide⟩) fun _ => rfl) (ev_int (i := 3)))) (ev_var (v := .int m) (x := m) rfl rfl) hm fun _ => rfl) t2.ok fun S3 H3 v3 t3 h3 => ?_
    have h3 : v3 = .int (((n : Int) * 7 + 3) % m) := h3
    rw [h3]
    exact fin S3 H3 _ (s2.trans t3.ss) (t2.trans t3) (Int.emod_nonneg _ (by omega)) (Int.emod_lt_of_pos _ hm)
theorem u_ret {te : TE} {σ : L2.St} {H : Hp} {D : Ends} (h : te σ H D.rt) : tRet te D σ H := h
theorem u_make {C : Addr} {sp : Sp} {E : XK} {tr : TA} {σ : L2.St} {H : Hp} {Q : VK} (h : tr σ H fun vs H1 => ∀ x dx, H1 x = none → H1 dx = none → dx ≠ x → sp (.ref x :: (vs ++ [])) (upd (upd H1 dx (.own x)) x (.ins C dx [])) (fun v H2 => v = .non ∧ Q (.ref x) H2) E) : tMake C sp [] E tr σ H Q := h
def menuTE : TE := tLst (tCons (tLst (tCons (tC (.int 1)) tNil)) (tCons (tLst (tCons (tC (.int 2)) tNil)) (tCons (tLst (tCons (tC (.int 1)) (tCons (tC (.int 2)) tNil))) (tCons (tLst (tCons (tC (.int 1)) (tCons (tC (.int 2)) tNil))) (tCons (tLst (tCons (tC (.int 1)) (tCons (tC (.int 3)) tNil))) (tCons (tLst (tCons (tC (.int 2)) (tCons (tC (.int 3)) tNil))) (tCons (tLst (tCons (tC (.int 1)) (tCons (tC (.int 2)) (tCons (tC (.int 3)) tNil)))) (tCons (tLst (tCons (tC (.int 3)) tNil)) tNil))))))))
theorem ev_menu {σ : L2.St} {S : Hp} : EvR Z menuTE σ S (jL (jL jI)) Mir.menu := by
  have o1 : ∀ i : Int, EvR Z (tLst (tCons (tC (.int i)) tNil)) σ S (jL jI) [i] := fun i => ev_lst (el_cons ev_int el_nil) (by simp)
  have o2 : ∀ i j : Int, EvR Z (tLst (tCons (tC (.int i)) (tCons (tC (.int j)) tNil))) σ S (jL jI) [i, j] := fun i j => ev_lst (el_cons ev_int (el_cons ev_int el_nil)) (by simp)
  have o3 : ∀ i j k : Int, EvR Z (tLst (tCons (tC (.int i)) (tCons (tC (.int j)) (tCons (tC (.int k)) tNil)))) σ S (jL jI) [i, j, k] := fun i j k => ev_lst (el_cons ev_int (el_cons ev_int (el_cons ev_int el_nil))) (by simp)
  exact ev_lst (xs := Mir.menu) (el_cons (o1 1) (el_cons (o1 2) (el_cons (o2 1 2) (el_cons (o2 1 2) (el_cons (o2 1 3) (el_cons (o2 2 3) (el_cons (o3 1 2 3) (el_cons (o1 3) el_nil)))))))) (by decide)
abbrev N_law_contract : List Str := ["_law_box_here", "_law_most", "_law_lengths"]
theorem sc_law_contract : FnScope N_law_contract ["_law_box_here", "_law_most"] (defScope s_law_contract) := ⟨rfl, rfl, rfl, by decide +kernel, rfl, by decide +kernel, by decide +kernel⟩
theorem ok_law_contract (F : FnP K "_law_contract" "_law_contract" s_law_contract f fd) (T : Txt K mg) (c_law_draw : Cal Pg w K mg base 1 (He.ga K "_law_draw") ["_law_box_here", "_law_many"] (spDraw Z)) (c_Contract_init : Cal Pg w K mg base 1 (He.ma K (He.ga K "Contract") "__init__") ["self", "size", "limit", "lengths", "budget"] (spConI Z K)) :
    FnOk Pg w K mg base CX0 3 f fd ["_law_box_here", "_law_most"] (spLC Z K) := by
  refine F.ok sc_law_contract (fun vs H Q E ⟨S, b, m, k, e, _⟩ => by
    rw [e]
    rfl) (fun cdv A outer s H vs Q E hr h => ⟨_, PSs.nox (pss_cons (ps_set (i := 2) sc_law_contract.nd rfl (by first | exact Or.inl rfl | exact Or.inr rfl) (pe_ix (kIxL K) (pe_lst (pa_cons (pe_lst (pa_cons pe_int pa_nil)) (pa_cons (pe_lst (pa_cons pe_int pa_nil)) (pa_cons (pe_lst (pa_cons pe_int (pa_cons pe_int pa_nil))) (pa_cons (pe_lst (pa_cons pe_int (pa_cons pe_int pa_nil))) (pa_cons (pe_lst (pa_cons pe_int (pa_cons pe_int pa_nil))) (pa_cons (pe_lst (pa_cons pe_int (pa_cons pe_int pa_nil))) (pa_cons (pe_lst (pa_cons pe_int (pa_cons pe_int (pa_cons pe_int pa_nil)))) (pa_cons (pe_lst (pa_cons pe_int pa_nil)) pa_nil))))))))) (pe_call c_law_draw.ok (hr.mono (by decide)) rfl T.g_law_draw c_law_draw.kp c_law_draw.bd .nil pass0 (pa_cons (pv 0) (pa_cons pe_int pa_nil))) (fun _ _ => rfl)))
      (pss_one (ps_ret (pe_make T.k_Contract c_Contract_init.ok (hr.mono (by decide)) rfl T.g_Contract c_Contract_init.bd .nil pass0 (pa_cons (pe_op op_add pe_int (pe_call c_law_draw.ok (hr.mono (by decide)) rfl T.g_law_draw c_law_draw.kp c_law_draw.bd .nil pass0 (pa_cons (pv 0) (pa_cons (pv 1) pa_nil)))) (pa_cons (pe_call c_law_draw.ok (hr.mono (by decide)) rfl T.g_law_draw c_law_draw.kp c_law_draw.bd .nil pass0 (pa_cons (pv 0) (pa_cons (pe_op op_add (pv 1) pe_int) pa_nil))) (pa_cons (pv 2) (pa_cons (pe_call c_law_draw.ok (hr.mono (by decide)) rfl T.g_law_draw c_law_draw.kp c_law_draw.bd .nil pass0 (pa_cons (pv 0) (pa_cons pe_int pa_nil))) pa_nil)))))))), ?_⟩)
  obtain ⟨S, b, m, k, rfl, hm, bx, q⟩ := h
  have k0 := bx.base k
  have b0 : rem H b b = none := rem_at
  refine u_set (u_op ?_)
  show menuTE _ _ _
  refine u_ev ev_menu k0 fun S1 H1 v1 t1 s1 t1' h1 => ?_
  refine draw_run (S0 := S) (H0 := rem H b) (b := b) rfl t1 b0 (bx.step t1') (ev_int (i := 8)) (by decide) fun S2 H2 i t2 s2 bx2 i0 i1 => ?_
  obtain ⟨n, rfl⟩ := Int.eq_ofNat_of_zero_le i0
  have hn : n < Mir.menu.length := by
    show n < 8
    omega
  obtain ⟨a, us, e, ha, pa⟩ := Up.up s2 h1
  obtain ⟨u, hu, ru⟩ := pa.at (List.getElem?_eq_getElem hn)
  refine ⟨a, us, n, u, e, rfl, SqL.of (t2.ok.le _ _ ha), atI_nat hu, ?_⟩
  have hmem : Mir.menu[n] ∈ Mir.menu := List.getElem_mem hn
  generalize Mir.menu[n] = ls at ru hmem
  -- the contract
  refine u_ret (u_make (u_cons (u_op (u_c ?_))))
  refine draw_run (S0 := S) (H0 := rem H b) (b := b) rfl t2 b0 bx2 (ev_var (v := .int m) (x := m) rfl rfl) hm fun S3 H3 i3 t3 s3 bx3 i30 i31 => ?_
  refine ⟨1, i3, rfl, rfl, ?_⟩
  refine u_cons (draw_run (S0 := S) (H0 := rem H b) (b := b) rfl t3 b0 bx3 (ev_II (g := fun i j => i + j) (ev_var (v := .int m) (x := m) rfl rfl) (ev_int (i := 1))) (by omega) fun S4 H4 i4 t4 s4 bx4 i40 i41 => ?_)
  refine u_cons (u_var rfl ?_)
  refine u_cons (draw_run (S0 := S) (H0 := rem H b) (b := b) rfl t4 b0 bx4 (ev_int (i := 3)) (by decide) fun S5 H5 i5 t5 s5 bx5 i50 i51 => ?_)
  refine u_nil ?_
  have hls : jL jI S5 u ls := Up.up (s3.trans (s4.trans s5)) ru
  have hc := ev_make (Z := Z) (σ := []) (S := S5) (C := He.ga K "Contract") (pre := fun _ => True) (post := fun S fs (p : Int × Int × List Int × Int × Unit) => postCon S fs ⟨p.1, p.2.1, p.2.2.1, p.2.2.2.1⟩) (A := aC jI (aC jI (aC (jL jI) (aC jI aN)))) (E := E0) (x := (1 + i3, i4, ls, i5, ()))
    (tr := fun _ H Q => Q [.int (1 + i3), .int i4, u, .int i5] H) (fun S S' fs x e ⟨l, h1, h2, h3, h4, h5⟩ => ⟨l, h1, h2, h3, h4, Up.up e h5⟩) (fun S1 H s k Q q => q S1 H _ (.refl k) ⟨_, _, rfl, rfl, _, _, rfl, rfl, _, _, rfl, Up.up s hls, _, _, rfl, rfl, rfl⟩) trivial
  show tMake (He.ga K "Contract") (spConI Z K) [] E0 (fun _ H Q => Q [.int (1 + i3), .int i4, u, .int i5] H) [] H5 Q
  refine u_ev (H := H5) hc t5 fun S6 H6 v6 t6 s6 t6' h6 => ?_
  exact q S6 H6 v6 ⟨1 + i3, i4, ls, i5⟩ t6 (bx5.step t6') (jCon_of h6) ⟨by show 1 ≤ 1 + i3; omega, by show 1 + i3 ≤ m; omega, i40, by show i4 ≤ m; omega, hmem, i50, by show i5 ≤ 2; omega⟩
end
end Hg
end Z_D10

section Z_D11
set_option maxHeartbeats 4000000
namespace Mir
def apPre (bs : Lay) : Bool := (bs.all fun b => (decide (-1000 ≤ b.1) && decide (b.1 ≤ 1000)) && (decide (-1000 ≤ b.1 + b.2) && decide (b.1 + b.2 ≤ 1000))) && decide ((cells bs).length ≤ 4000)
def lpOk (c : Con) : Nat → Nat → List Lay → Bool
  | n, place, found => match n, found[place]? with
    | _, none => true
    | 0, some _ => false
    | n + 1, some L => decide (L.length ≤ 100) && (decide ((found ++ kids c L).length ≤ 1000) && (decide (-1000 ≤ beginOf L) && (decide (beginOf L ≤ 1000) && lpOk c n (place + 1) (found ++ kids c L))))
def lPosPre (c : Con) : Bool := lpOk c fuel 0 [[]] && (decide (-1000 ≤ c.size) && (decide (c.size ≤ 1000) && decide (c.lengths.length ≤ 100)))
theorem lpRun_0 (c : Con) (n place : Nat) (found : List Lay) (h : found[place]? = none) : lpRun c n place found = some found := by
  unfold lpRun
  rw [h]
theorem lpRun_1 (c : Con) (n place : Nat) (found : List Lay) (L : Lay) (h : found[place]? = some L) : lpRun c (n + 1) place found = lpRun c n (place + 1) (found ++ kids c L) := by
  conv => lhs; unfold lpRun
  rw [h]
theorem lpOk_1 (c : Con) (n place : Nat) (found : List Lay) (L : Lay) (h : found[place]? = some L) : lpOk c (n + 1) place found = (decide (L.length ≤ 100) && (decide ((found ++ kids c L).length ≤ 1000) && (decide (-1000 ≤ beginOf L) && (decide (beginOf L ≤ 1000) && lpOk c n (place + 1) (found ++ kids c L))))) := by
  conv => lhs; unfold lpOk
  rw [h]
theorem lpOk_0 (c : Con) (place : Nat) (found : List Lay) (L : Lay) (h : found[place]? = some L) : lpOk c 0 place found = false := by
  unfold lpOk
  rw [h]
end Mir
namespace Hg
open PySem L2
def spLLive (Z : List Addr) : Sp := Fn Z (aC jLay aN) (fun p => p.1.length ≤ 100) jI fun p => Mir.live p.1
def spApart (Z : List Addr) : Sp := Fn Z (aC jI (aC jLay aN)) (fun p => Mir.apPre p.2.1 = true) jB fun p => Mir.lApart p.1 p.2.1
def spLPos (Z : List Addr) (K : PySem.W.Frag) : Sp := Fn Z (aC (jCon K) aN) (fun p => Mir.lPosPre p.1 = true) (jL jLay) fun p => Mir.lPositions p.1
def spAllowed (Z : List Addr) (K : PySem.W.Frag) : Sp := Fn Z (aC (jCon K) (aC jLay aN)) (fun p => p.2.1.length ≤ 100 ∧ p.1.lengths.length ≤ 100) (jL jI) fun p => Mir.requestable p.1 p.2.1
section
variable {Pg : Program} {w : World} {K : PySem.W.Frag} {mg : Str → Option Value} {base : Heap} {Z : List Addr} {f : Addr} {fd : FuncData}
abbrev N_law_live : List Str := ["_law_layout", "_law_block"]
theorem sc_law_live : FnScope N_law_live ["_law_layout"] (defScope s_law_live) := ⟨rfl, rfl, rfl, by decide +kernel, rfl, by decide +kernel, by decide +kernel⟩
theorem ok_law_live (F : FnP K "_law_live" "_law_live" s_law_live f fd) (T : Txt K mg) : FnOk Pg w K mg base CX0 1 f fd ["_law_layout"] (spLLive Z) := by
  refine F.ok sc_law_live fn_len1 (fun cdv A outer s H vs Q E hr h => ⟨_, PSs.nox (pss_one (ps_ret (pe_callB (kSum K rfl) rfl T.f_sum (by decide +kernel) (pa_cons (pe_lc (own := [("_law_block", 1)]) (g := gName 1) rfl sc_law_live.nd (kiList K (pv 0)) (blkOk_by (own := [("_law_block", 1)]) (N := N_law_live) (sc := defScope s_law_live) (by first | decide +kernel | kernel_rfl)) (fun _ _ _ _ _ => (pg_name (i := 1) sc_law_live.nd rfl (Or.inl rfl))) (fun _ _ _ _ _ => pts_nil) (fun _ _ _ _ _ => (pe_ix (kIxT K) (pv 1) pe_int (fun _ _ => rfl)))) pa_nil)))), ?_⟩)
  obtain ⟨S, ⟨L, u⟩, k, ⟨v, r, rfl, hL, hr'⟩, p, q⟩ := h
  cases hr'
  exact s_ret (ev_sum (ev_lcM (R := jB2) (R' := jI) (ei_list (ev_var rfl hL)) (fun b => b.2) (fun S1 v1 x hx s1 h1 => ⟨_, eg_name, rfl, ev_snd (R := jI) (x := x.1) (ev_var rfl h1) (ev_int (i := 1))⟩) (Nat.le_trans p (by decide)))) k q
abbrev N_law_allowed : List Str := ["_law_contract_here", "_law_layout", "_law_length"]
theorem sc_law_allowed : FnScope N_law_allowed ["_law_contract_here", "_law_layout"] (defScope s_law_allowed) := ⟨rfl, rfl, rfl, by decide +kernel, rfl, by decide +kernel, by decide +kernel⟩
theorem ok_law_allowed (F : FnP K "_law_allowed" "_law_allowed" s_law_allowed f fd) (T : Txt K mg) (c_law_live : Cal Pg w K mg base 1 (He.ga K "_law_live") ["_law_layout"] (spLLive Z)) : FnOk Pg w K mg base CX0 2 f fd ["_law_contract_here", "_law_layout"] (spAllowed Z K) := by
  refine F.ok sc_law_allowed fn_len2 (fun cdv A outer s H vs Q E hr h => ⟨_, PSs.nox (pss_one (ps_ret (pe_lc (own := [("_law_length", 2)]) (g := gName 2) rfl sc_law_allowed.nd (kiList K (kFld K (pv 0))) (blkOk_by (own := [("_law_length", 2)]) (N := N_law_allowed) (sc := defScope s_law_allowed) (by first | decide +kernel | kernel_rfl)) (fun _ _ _ _ _ => (pg_name (i := 2) sc_law_allowed.nd rfl (Or.inl rfl))) (fun _ _ _ _ _ => (pts_one (pt_cmpR op_le (pe_op op_add (pe_call c_law_live.ok (hr.mono (by decide)) rfl T.g_law_live c_law_live.kp c_law_live.bd .nil pass0 (pa_cons (pv 1) pa_nil)) (pv 2)) (kFld K (pv 0)) (nomark _)))) (fun _ _ _ _ _ => (pv 2))))), ?_⟩)
  obtain ⟨S, ⟨c, L, u⟩, k, ⟨v, r, rfl, hc, v', r', rfl, hL, hr'⟩, p, q⟩ := h
  cases hr'
  have hc : jCon K S v c := hc
  have hL : jLay S v' L := hL
  refine s_ret ((ev_lc (ei_list (ev_lengths T (ev_var rfl hc))) (fun l => decide (Mir.live L + l ≤ c.limit)) (fun l => l) (fun S2 v2 x hx s2 h2 => ?_) (Nat.le_trans p.2 (by decide))).is (List.map_id _)) k q
  exact ⟨_, eg_name, rfl, et_test (ev_IB (ev_II (ev_call (x := (L, ())) (ea_cons (ev_var rfl (Up.up s2 hL)) ea_nil) p.1) (ev_var (x := x) rfl h2)) (ev_limit T (ev_var rfl (Up.up s2 hc)))), fun _ => ev_var rfl h2⟩
abbrev N_law_apart : List Str := ["_law_size", "_law_blocks", "_law_cells", "_law_start", "_law_length", "_law_cell_here"]
theorem sc_law_apart : FnScope N_law_apart ["_law_size", "_law_blocks"] (defScope s_law_apart) := ⟨rfl, rfl, rfl, by decide +kernel, rfl, by decide +kernel, by decide +kernel⟩
theorem ok_law_apart (F : FnP K "_law_apart" "_law_apart" s_law_apart f fd) (T : Txt K mg) : FnOk Pg w K mg base CX0 1 f fd ["_law_size", "_law_blocks"] (spApart Z) := by
  refine F.ok sc_law_apart fn_len2 (fun cdv A outer s H vs Q E hr h => ⟨_, PSs.nox (pss_cons (ps_set (i := 2) sc_law_apart.nd rfl (by first | exact Or.inl rfl | exact Or.inr rfl) (pe_lst pa_nil))
      (pss_cons (ps_for PassesOwn.never rfl (kiList K (pv 1)) (pg_tup rfl (pgs_cons (pg_name (i := 3) sc_law_apart.nd rfl (by first | exact Or.inl rfl | exact Or.inr rfl)) (pgs_cons (pg_name (i := 4) sc_law_apart.nd rfl (by first | exact Or.inl rfl | exact Or.inr rfl)) pgs_nil))) (pss_one (ps_set (i := 2) sc_law_apart.nd rfl (by first | exact Or.inl rfl | exact Or.inr rfl) (pe_op op_cat (pv 2) (pe_listRg rfl rfl T.f_list (prg_2 rfl T.f_range (pv 3) (pe_op op_add (pv 3) (pv 4))))))))
      (pss_one (ps_ret (pe_and (pe_cmpR op_eq (pe_callB (kLen K) rfl T.f_len PySem.boot_len (pa_cons (pv 2) pa_nil)) (pe_lenSetN rfl T.f_len rfl T.f_set (pv 2)) (nomark _)) (pe_one (pe_cmpR (kEqD K hr.units) (pe_lc (own := [("_law_cell_here", 5)]) (g := gName 5) rfl sc_law_apart.nd (kiList K (pv 2)) (blkOk_by (own := [("_law_cell_here", 5)]) (N := N_law_apart) (sc := defScope s_law_apart) (by first | decide +kernel | kernel_rfl)) (fun _ _ _ _ _ => (pg_name (i := 5) sc_law_apart.nd rfl (Or.inl rfl))) (fun _ _ _ _ _ => (pts_one (pt_not (pt_chain op_le op_lt pe_int (pv 5) (pv 0))))) (fun _ _ _ _ _ => (pv 5))) (pe_lst pa_nil) (nomark _)))))))), ?_⟩)
  obtain ⟨S, ⟨n, bs, u⟩, k, ⟨v, r, rfl, hn, v', r', rfl, hb, hr'⟩, p, q⟩ := h
  cases hr'
  have hn : jI S v n := hn
  have hb : jLay S v' bs := hb
  have p : Mir.apPre bs = true := p
  unfold Mir.apPre at p
  simp only [Bool.and_eq_true, List.all_eq_true, decide_eq_true_eq] at p
  obtain ⟨p1, p2⟩ := p
  refine q_set (ev_nil (R := jI)) (.refl k) fun S1 H1 v1 t1 s1 _ h1 => ?_
  refine q_for (ei_list (ev_var (x := bs) rfl (Up.up s1 hb))) t1 (fun i S2 σ2 H2 => ∃ rv o3 o4 o5, σ2 = [some v, some v', some rv, o3, o4, o5] ∧ jL jI S2 rv (Mir.cells (bs.take i))) (fun i S2 σ2 H2 S3 H3 ⟨rv, o3, o4, o5, h1, h2⟩ t => ⟨rv, o3, o4, o5, h1, Up.up t.ss h2⟩) ⟨v1, _, _, _, rfl, h1⟩ ?_ ?_
  · rintro i ⟨b, l⟩ S2 σ2 H2 v2 N hx t2 s2 ⟨a, y, z, rfl, g2, g3, g4⟩ ⟨rv, o3, o4, o5, rfl, h2⟩ hN
    have g3 : y = .int b := g3
    have g4 : z = .int l := g4
    subst g3 g4
    obtain ⟨⟨b1, b2⟩, b3, b4⟩ := p1 _ (List.mem_of_getElem? hx)
    have b1 : -1000 ≤ b := b1
    have b2 : b ≤ 1000 := b2
    have b3 : -1000 ≤ b + l := b3
    have b4 : b + l ≤ 1000 := b4
    have ec : Mir.cells (bs.take (i + 1)) = Mir.cells (bs.take i) ++ rng b (b + l) := take_flat (fun b : Mir.Blk => Mir.rng b.1 (b.1 + b.2)) hx
    have hle : (Mir.cells (bs.take i)).length + (rng b (b + l)).length ≤ (Mir.cells bs).length := flat_le (fun b : Mir.Blk => Mir.rng b.1 (b.1 + b.2)) hx
    refine ⟨_, eg_tup2 g2 eg_name eg_name, ?_⟩
    exact s_set (ev_cat (ev_var rfl h2) (ev_listRg (ev_var (x := b) rfl rfl) (ev_II (g := fun i j => i + j) (ev_var (x := b) rfl rfl) (ev_var (x := l) rfl rfl)) ⟨b1, b2, b3, b4⟩) (by omega)) t2.ok fun S3 H3 v3 t3 h3 => hN S3 _ H3 (t2.trans t3) t3.ss ⟨v3, _, _, _, rfl, by rw [ec]; exact h3⟩
  · rintro S2 σ2 H2 t2 s2 ⟨rv, o3, o4, o5, rfl, h2⟩
    rw [List.take_length] at h2
    refine q_ret (ev_andV (a := decide (((Mir.cells bs).length : Int) = ((Mir.dd (Mir.cells bs)).length : Int))) (b := ((Mir.cells bs).filter fun x => !(decide (0 ≤ x) && decide (x < n))).isEmpty) (ev_eqI (ev_len (ev_var (x := Mir.cells bs) rfl h2)) (ev_lenSetN (ev_var (x := Mir.cells bs) rfl h2) p2)) fun _ => ?_) t2 q
    refine (ev_eqNil (K := K) (R := jI) (enc := encI) (fun _ => rfl) (fun _ => Nat.zero_le _) (fun S v x h => dp_I h) ((ev_lc (R := jI) (R' := jI) (ei_list (ev_var (x := Mir.cells bs) rfl h2)) (fun x => !(decide (0 ≤ x) && decide (x < n))) (fun x => x) (fun S3 v3 x hx s3 h3 => ?_) (Nat.le_trans p2 (by decide))).is (List.map_id _)))
    exact ⟨_, eg_name, rfl, et_not (et_test (ev_chain (ev_int (i := 0)) (ev_var (x := x) rfl h3) (ev_var (x := n) rfl (Up.up (t2.ss.trans s3) hn)))), fun _ => ev_var rfl h3⟩
abbrev N_law_positions : List Str := ["_law_contract_here", "_law_found", "_law_place", "_law_layout", "_law_end", "_law_start", "_law_length"]
theorem sc_law_positions : FnScope N_law_positions ["_law_contract_here"] (defScope s_law_positions) := ⟨rfl, rfl, rfl, by decide +kernel, rfl, by decide +kernel, by decide +kernel⟩
theorem ok_law_positions (F : FnP K "_law_positions" "_law_positions" s_law_positions f fd) (T : Txt K mg) (c_law_live : Cal Pg w K mg base 1 (He.ga K "_law_live") ["_law_layout"] (spLLive Z)) : FnOk Pg w K mg base CX0 2 f fd ["_law_contract_here"] (spLPos Z K) := by
  refine F.ok sc_law_positions fn_len1 (fun cdv A outer s H vs Q E hr h => ⟨_, PSs.nox (pss_cons (ps_set (i := 1) sc_law_positions.nd rfl (by first | exact Or.inl rfl | exact Or.inr rfl) (pe_lst (pa_cons (pe_lst pa_nil) pa_nil)))
      (pss_cons (ps_set (i := 2) sc_law_positions.nd rfl (by first | exact Or.inl rfl | exact Or.inr rfl) pe_int)
      (pss_cons (ps_while PassesOwn.never (pt_cmpR op_lt (pv 2) (pe_callB (kLen K) rfl T.f_len PySem.boot_len (pa_cons (pv 1) pa_nil)) (nomark _)) (pss_cons (ps_set (i := 3) sc_law_positions.nd rfl (by first | exact Or.inl rfl | exact Or.inr rfl) (pe_ix (kIxL K) (pv 1) (pv 2) (fun _ _ => rfl)))
      (pss_cons (ps_set (i := 2) sc_law_positions.nd rfl (by first | exact Or.inl rfl | exact Or.inr rfl) (pe_op op_add (pv 2) pe_int))
      (pss_cons (ps_set (i := 4) sc_law_positions.nd rfl (by first | exact Or.inl rfl | exact Or.inr rfl) pe_int)
      (pss_cons (ps_if (pt_truth (pv 3) (by intro _; rfl)) (pss_one (ps_set (i := 4) sc_law_positions.nd rfl (by first | exact Or.inl rfl | exact Or.inr rfl) (pe_op op_add (pe_ix (kIxT K) (pe_ix (kIxL K) (pv 3) (pe_un un_neg pe_int) (fun _ _ => rfl)) pe_int (fun _ _ => rfl)) (pe_ix (kIxT K) (pe_ix (kIxL K) (pv 3) (pe_un un_neg pe_int) (fun _ _ => rfl)) pe_int (fun _ _ => rfl))))) pss_nil)
      (pss_one (ps_for PassesOwn.never rfl (pi_range2 rfl T.f_range (pa_cons (pv 4) (pa_cons (kFld K (pv 0)) pa_nil))) (pg_name (i := 5) sc_law_positions.nd rfl (by first | exact Or.inl rfl | exact Or.inr rfl)) (pss_one (ps_for PassesOwn.never rfl (kiList K (kFld K (pv 0))) (pg_name (i := 6) sc_law_positions.nd rfl (by first | exact Or.inl rfl | exact Or.inr rfl)) (pss_one (ps_if (PW.pt (pw_and (pt_cmpR op_le (pe_op op_add (pv 5) (pv 6)) (kFld K (pv 0)) (nomark _)) (pw_and1 (pt_cmpR op_le (pe_op op_add (pe_call c_law_live.ok (hr.mono (by decide)) rfl T.g_law_live c_law_live.kp c_law_live.bd .nil pass0 (pa_cons (pv 3) pa_nil)) (pv 6)) (kFld K (pv 0)) (nomark _))))) (pss_one (ps_expr (pe_bm PySem.F.plainAttrs_list PySem.F.slot_list_append PySem.F.type_list_append mt_append (pv 1) (pa_cons (pe_op op_cat (pv 3) (pe_lst (pa_cons (pe_tup (pa_cons (pv 5) (pa_cons (pv 6) pa_nil))) pa_nil))) pa_nil)))) pss_nil)))))))))))
      (pss_one (ps_ret (pe_callB (cr_sortA K enc_L hr.units) rfl T.f_sorted (by decide +kernel) (pa_cons (pv 1) pa_nil))))))), ?_⟩)
  obtain ⟨S, ⟨c, u⟩, k, ⟨v, r, rfl, hc, hr'⟩, p, q⟩ := h
  cases hr'
  have hc : jCon K S v c := hc
  have p : Mir.lPosPre c = true := p
  unfold Mir.lPosPre at p
  simp only [Bool.and_eq_true, decide_eq_true_eq] at p
  obtain ⟨p0, p1, p2, p3⟩ := p
  refine q_newL (R := jLay) (xs := [[]]) (el_cons ev_nil el_nil) (by decide) (.refl k) fun S2 H2 ga H3 hga0 t2 hg t3 t3' og => ?_
  refine q_set (ev_int (i := 0)) t3 fun S3 H3 v3 t3 s3 t3' h3 => ?_
  have h3 : v3 = .int 0 := h3
  subst h3
  refine q_while t3 (fun m S4 σ4 H4 => ∃ (fnd : List Mir.Lay) (pl : Nat) (o3 o4 o5 o6 : Option V), σ4 = [some v, some (.ref ga), some (.int (pl : Int)), o3, o4, o5, o6] ∧ OwnL Z S4 H4 ga jLay fnd ∧ pl ≤ fnd.length ∧ fnd.length ≤ 1000 ∧ Mir.lpRun c m pl fnd = Mir.lpRun c Mir.fuel 0 [[]] ∧ Mir.lpOk c m pl fnd = true)
    (m0 := Mir.fuel) ⟨[[]], 0, none, none, none, none, rfl, og.step t3', Nat.zero_le _, by decide, rfl, p0⟩ ?_
  rintro m S4 σ4 H4 Qb t4 s4 ⟨fnd, pl, o3, o4, o5, o6, rfl, og4, hpl, hl4, e4, k4⟩ hT hF
  obtain ⟨vs, ow, pg⟩ := og4
  refine ⟨.int pl, rfl, .ref ga, rfl, ga, vs, rfl, Or.inl (SqL.of ow.at_), pl, vs.length, rfl, rfl, decide ((pl : Int) < (vs.length : Int)), rfl, ?_⟩
  have og4 : OwnL Z S4 H4 ga jLay fnd := ⟨vs, ow, pg⟩
  have hvl := pg.len
  cases hcond : decide ((pl : Int) < (vs.length : Int)) with
  | false =>
    have hc1 := of_decide_eq_false hcond
    refine hF H4 ?_
    rw [Mir.lpRun_0 c m pl fnd (List.getElem?_eq_none (by omega))] at e4
    obtain ⟨S5, t5, s5, r5⟩ := og4.frz t4 hga0
    refine q_ret ((ev_sorted (K := K) enc_L (ev_var (x := fnd) rfl r5) dp_Lay).is ?_) t5 q
    show Mir.isort Mir.leLay fnd = Mir.isort Mir.leLay ((Mir.lpRun c Mir.fuel 0 [[]]).getD [])
    rw [← e4]
    rfl
  | true =>
  have hc1 := of_decide_eq_true hcond
  have hlt : pl < fnd.length := by omega
  obtain ⟨L, hL⟩ : ∃ L, fnd[pl]? = some L := ⟨_, List.getElem?_eq_getElem hlt⟩
  cases m with
  | zero =>
    rw [Mir.lpOk_0 c pl fnd L hL] at k4
    cases k4
  | succ n =>
  rw [Mir.lpRun_1 c n pl fnd L hL] at e4
  rw [Mir.lpOk_1 c n pl fnd L hL] at k4
  simp only [Bool.and_eq_true, decide_eq_true_eq] at k4
  obtain ⟨k5, k6, k7, k8, k9⟩ := k4
  refine hT S4 H4 t4 (Same.refl _) fun N hN => ?_
  obtain ⟨vL, hvL, rL⟩ := pg.at hL
  refine u_set ⟨.ref ga, rfl, .int pl, rfl, ga, vs, pl, vL, rfl, rfl, SqL.of ow.at_, atI_nat hvL, ?_⟩
  refine q_set (ev_II (g := fun i j => i + j) (ev_var (x := (pl : Int)) rfl rfl) (ev_int (i := 1))) t4 fun S6 H6 v6 t6 s6 t6' h6 => ?_
  have h6 : v6 = .int ((pl + 1 : Nat) : Int) := h6
  subst h6
  refine q_set (ev_int (i := 0)) t6 fun S7 H7 v7 t7 s7 t7' h7 => ?_
  have og7 := (og4.step t6').step t7'
  have hL7 : jLay S7 vL L := Up.up (s6.trans s7) rL
  let Fl : Int → Int → Bool := fun s l => decide (s + l ≤ c.size) && decide (Mir.live L + l ≤ c.limit)
  have hk : Mir.kids c L = (rng (Mir.beginOf L) c.size).flatMap fun s => (c.lengths.filter (Fl s)).map fun l => L ++ [(s, l)] := rfl
  refine q_ifJ (et_tru (ev_var (x := L) rfl hL7)) t7 (fun S8 σ8 H8 => σ8 = [some v, some (.ref ga), some (.int ((pl + 1 : Nat) : Int)), some vL, some (.int (Mir.beginOf L)), o5, o6] ∧ OwnL Z S8 H8 ga jLay fnd)
    (fun hb S8 H8 N8 t8 s8 t8' hN8 => ?_) (fun hb S8 H8 t8 s8 t8' => ?_) (fun S8 σ8 H8 t8 s8 ⟨e8, og8⟩ => ?_)
  · rcases List.eq_nil_or_concat L with rfl | ⟨ys, ⟨b1, b2⟩, rfl⟩
    · cases hb
    rw [List.concat_eq_append] at *
    have hL8 := Up.up s8 hL7
    refine s_set (ev_II (g := fun i j => i + j) (ev_fst (R' := jI) (y := b2) (ev_ixLast (R := jB2) (x := (b1, b2)) (xs := ys) (ev_var rfl hL8) ev_neg1) (ev_int (i := 0))) (ev_snd (R := jI) (x := b1) (ev_ixLast (R := jB2) (x := (b1, b2)) (xs := ys) (ev_var rfl hL8) ev_neg1) (ev_int (i := 1)))) t8.ok fun S9 H9 v9 t9 h9 => hN8 _ _ _ (t8.trans t9) (s8.trans t9.ss) ⟨?_, (og7.step t8').step t9⟩
    have h9 : v9 = .int (b1 + b2) := h9
    rw [h9, beginOf_last]
    rfl
  · have e : L = [] := by
      cases L with
      | nil => rfl
      | cons => cases hb
    have h7 : v7 = .int 0 := h7
    refine ⟨?_, og7.step t8'⟩
    rw [e, h7]
    rfl
  · subst e8
    have hL8 := Up.up s8 hL7
    refine s_forA (R' := jLay) (l := ga) (acc := fnd) (F := fun s => (c.lengths.filter (Fl s)).map fun l => L ++ [(s, l)]) (ei_range2 (ea_cons (ev_var (i := 4) (x := Mir.beginOf L) rfl rfl) (ea_cons (ev_size T (ev_var (i := 0) (x := c) rfl (Up.up t8.ss hc))) ea_nil)) ⟨by omega, by omega, by omega, by omega⟩) t8
      (fun σ => ∃ o5 o6, σ = [some v, some (.ref ga), some (.int ((pl + 1 : Nat) : Int)), some vL, some (.int (Mir.beginOf L)), o5, o6]) (fun _ _ => True) (fun _ _ _ _ _ _ => trivial) ⟨_, _, rfl⟩ trivial og8
      (fun st S9 σ9 H9 v9 acc1 N9 hst t9 s9 hv9 ⟨o5, o6, e9⟩ _ og9 l9 hN9 => ?_) (fun S9 σ9 H9 t9 s9 ⟨o5, o6, e9⟩ _ og9 => ?_)
    · subst e9
      refine ⟨_, eg_name, ?_⟩
      refine s_forT (R' := jLay) (l := ga) (acc := acc1) (b := Fl st) (f := fun l => L ++ [(st, l)]) (ei_list (ev_lengths T (ev_var (i := 0) (x := c) rfl (Up.up t9.ss hc)))) t9
        (fun σ => ∃ o6, σ = [some v, some (.ref ga), some (.int ((pl + 1 : Nat) : Int)), some vL, some (.int (Mir.beginOf L)), some v9, o6]) (fun _ _ => True) (fun _ _ _ _ _ _ => trivial) ⟨_, rfl⟩ trivial og9
        (fun ln S10 σ10 H10 v10 acc2 N10 hln t10 s10 hv10 ⟨o6, e10⟩ _ og10 l10 hN10 => ?_) (fun S10 σ10 H10 t10 s10 ⟨o6, e10⟩ _ og10 => hN9 S10 σ10 H10 t10 s10 ⟨_, _, e10⟩ trivial og10)
      subst e10
      refine ⟨_, eg_name, ?_⟩
      have hL10 := Up.up (s9.trans s10) hL8
      have st10 := Up.up s10 hv9
      refine s_if (et_and (et_test (ev_IB (ev_II (ev_var (x := st) rfl st10) (ev_var (x := ln) rfl hv10)) (ev_size T (ev_var (i := 0) (x := c) rfl (Up.up t10.ss hc))))) fun _ => et_test (ev_IB (ev_II (ev_call (x := (L, ())) (ea_cons (ev_var rfl hL10) ea_nil) k5) (ev_var (x := ln) rfl hv10)) (ev_limit T (ev_var (i := 0) (x := c) rfl (Up.up t10.ss hc))))) t10.ok
        (fun hb S11 H11 t11 => ?_) (fun hb S11 H11 t11 => ?_)
      · have hb : Fl st ln = true := hb
        rw [hb] at hN10 l10
        refine s_app' (x := L ++ [(st, ln)]) rfl (og10.step t11) (ev_cat (ev_var rfl (Up.up t11.ss hL10)) (ev_lst (xs := [(st, ln)]) (el_cons (ev_tup2 (ea_cons (ev_var rfl (Up.up t11.ss st10)) (ea_cons (ev_var rfl (Up.up t11.ss hv10)) ea_nil))) el_nil) (by simp)) (by show L.length + 1 ≤ 100000; omega)) (t10.trans t11) hga0 ?_ fun S12 H12 t12 s12 og12 kp12 => hN10 S12 _ H12 t12 (t11.ss.trans s12) ⟨_, rfl⟩ trivial og12
        have l10' : acc2.length + 1 ≤ acc1.length + ((c.lengths.filter (Fl st)).map fun l => L ++ [(st, l)]).length := l10
        have l9' : acc1.length + ((c.lengths.filter (Fl st)).map fun l => L ++ [(st, l)]).length ≤ fnd.length + ((rng (Mir.beginOf L) c.size).flatMap fun s => (c.lengths.filter (Fl s)).map fun l => L ++ [(s, l)]).length := l9
        rw [List.length_append, hk] at k6
        omega
      · have hb : Fl st ln = false := hb
        rw [hb] at hN10
        refine hN10 S11 _ H11 (t10.trans t11) t11.ss ⟨_, rfl⟩ trivial ?_
        simpa using og10.step t11
    · exact hN n S9 σ9 H9 (Nat.lt_succ_self n) t9 (s6.trans (s7.trans (s8.trans s9))) ⟨fnd ++ Mir.kids c L, pl + 1, _, _, _, _, e9, og9, by rw [List.length_append]; omega, k6, e4, k9⟩
end
end Hg
end Z_D11

section Z_D12
set_option maxHeartbeats 4000000
namespace Mir
def lrOk (c : Con) : List (List Int × Int) → Lay → Bool
  | _, [] => true
  | rows, b :: r => rowOk rows && (decide ((lTurn c rows b).length ≤ 10000) && lrOk c (lTurn c rows b) r)
def lrPre (c : Con) (L : Lay) (len : Int) : Bool := (decide (L.length ≤ 100) && (decide (0 ≤ c.size) && decide (c.size ≤ 1000))) && (lrOk c [([], 0)] L && (((lRows c L).all fun r => decide (r.1.length = L.length) && (rng 0 c.size).all fun s => apPre (lBlocks L r.1 ++ [(s, len)])) && decide ((lRaw c L len).length ≤ 10000)))
def laPre (L : Lay) (r : Rep) : Bool := decide (L.length ≤ 100) && decide (r.1.length = L.length)
theorem isort_len {α : Type} (le : α → α → Bool) : ∀ xs : List α, (isort le xs).length = xs.length
  | [] => rfl
  | x :: r => by
    have h : ∀ ys : List α, (ins le x ys).length = ys.length + 1 := fun ys => by
      induction ys with
      | nil => rfl
      | cons y t ih =>
        unfold ins
        split
        · rfl
        · show (ins le x t).length + 1 = _
          rw [ih]
          rfl
    show (ins le x (isort le r)).length = _
    rw [h, isort_len le r]
    rfl
end Mir
namespace Hg
open PySem L2
def spLRep (Z : List Addr) (K : PySem.W.Frag) : Sp := Fn Z (aC (jCon K) (aC jLay (aC jI aN))) (fun p => Mir.lrPre p.1 p.2.1 p.2.2.1 = true) (jL jRep) fun p => Mir.lReplies p.1 p.2.1 p.2.2.1
def spLAfter (Z : List Addr) : Sp := Fn Z (aC jLay (aC jI (aC jRep aN))) (fun p => Mir.laPre p.1 p.2.2.1 = true) jLay fun p => Mir.lAfter p.1 p.2.1 p.2.2.1
def spLWithout (Z : List Addr) : Sp := Fn Z (aC jLay (aC jI aN)) (fun p => p.1.length ≤ 100) jLay fun p => Mir.lWithout p.1 p.2.1
section
variable {Z : List Addr} {σ : L2.St} {S : Hp} {K : PySem.W.Frag} {ta tb tc td : TE}
theorem lay_at {L : Mir.Lay} {n : Nat} (h : n < L.length) : L[n]? = some (L.getD n (0, 0)) := by
  rw [List.getD_eq_getElem?_getD, List.getElem?_eq_getElem h]
  rfl
/-- (starts[k], layout[k][1]) -/
theorem ev_blk {L : Mir.Lay} {st : List Int} {i : Int} (ha : EvR Z ta σ S jSt st) (hb : EvR Z tb σ S jI i) (hc : EvR Z tc σ S jLay L) (hi : ∃ n : Nat, i = (n : Int) ∧ n < L.length) (hl : st.length = L.length) :
    EvR Z (tTup (tCons (tOp (rIxL K) ta tb) (tCons (tOp (rIxT K) (tOp (rIxL K) tc tb) (tC (.int 1))) tNil))) σ S jB2 (st.getD i.toNat 0, (L.getD i.toNat (0, 0)).2) := by
  obtain ⟨n, rfl, hn⟩ := hi
  exact ev_tup2 (ea_cons (ev_ixL (j := n) ha hb rfl (getD_at (by omega))) (ea_cons (ev_snd (R := jI) (x := (L.getD n (0, 0)).1) (ev_ixL (R := jB2) (j := n) hc hb rfl (lay_at hn)) (ev_int (i := 1))) ea_nil))
theorem rng_nat {n : Nat} {x : Int} (h : x ∈ rng 0 (n : Int)) : ∃ m : Nat, x = (m : Int) ∧ m < n := by
  obtain ⟨i, hi⟩ := List.mem_iff_getElem?.mp h
  obtain ⟨e1, e2⟩ := rng_at hi
  exact ⟨i, by omega, by omega⟩
end
section
variable {Pg : Program} {w : World} {K : PySem.W.Frag} {mg : Str → Option Value} {base : Heap} {Z : List Addr} {f : Addr} {fd : FuncData}
abbrev N_law_without : List Str := ["_law_layout", "_law_index", "_law_k"]
theorem sc_law_without : FnScope N_law_without ["_law_layout", "_law_index"] (defScope s_law_without) := ⟨rfl, rfl, rfl, by decide +kernel, rfl, by decide +kernel, by decide +kernel⟩
theorem ok_law_without (F : FnP K "_law_without" "_law_without" s_law_without f fd) (T : Txt K mg) : FnOk Pg w K mg base CX0 1 f fd ["_law_layout", "_law_index"] (spLWithout Z) := by
  refine F.ok sc_law_without fn_len2 (fun cdv A outer s H vs Q E hr h => ⟨_, PSs.nox (pss_one (ps_ret (pe_lc (own := [("_law_k", 2)]) (g := gName 2) rfl sc_law_without.nd (pi_range1 rfl T.f_range (pa_cons (pe_callB (kLen K) rfl T.f_len PySem.boot_len (pa_cons (pv 0) pa_nil)) pa_nil)) (blkOk_by (own := [("_law_k", 2)]) (N := N_law_without) (sc := defScope s_law_without) (by first | decide +kernel | kernel_rfl)) (fun _ _ _ _ _ => (pg_name (i := 2) sc_law_without.nd rfl (Or.inl rfl))) (fun _ _ _ _ _ => (pts_one (pt_cmpR op_ne (pv 2) (pv 1) (nomark _)))) (fun _ _ _ _ _ => (pe_ix (kIxL K) (pv 0) (pv 2) (fun _ _ => rfl)))))), ?_⟩)
  obtain ⟨S, ⟨L, i, u⟩, k, ⟨v, r, rfl, hL, v', r', rfl, hi, hr'⟩, p, q⟩ := h
  cases hr'
  have hL : jLay S v L := hL
  have hi : jI S v' i := hi
  have p : L.length ≤ 100 := p
  refine s_ret (ev_lc (R := jI) (R' := jB2) (ei_range1 (ea_cons (ev_len (ev_var rfl hL)) ea_nil) ⟨by omega, by omega⟩) (fun k => !decide (k = i)) (fun k => L.getD k.toNat (0, 0)) (fun S2 v2 x hx s2 h2 => ?_) (by rw [rng_len]; omega)) k q
  obtain ⟨n, rfl, hn⟩ := rng_nat hx
  exact ⟨_, eg_name, rfl, et_test (ev_neI (ev_var (x := (n : Int)) rfl h2) (ev_var (x := i) rfl hi)), fun _ => ev_ixL (R := jB2) (j := n) (ev_var rfl (Up.up s2 hL)) (ev_var (x := (n : Int)) rfl h2) rfl (lay_at hn)⟩
abbrev N_law_after : List Str := ["_law_layout", "_law_length", "_law_reply", "_law_blocks", "_law_k"]
theorem sc_law_after : FnScope N_law_after ["_law_layout", "_law_length", "_law_reply"] (defScope s_law_after) := ⟨rfl, rfl, rfl, by decide +kernel, rfl, by decide +kernel, by decide +kernel⟩
theorem ok_law_after (F : FnP K "_law_after" "_law_after" s_law_after f fd) (T : Txt K mg) : FnOk Pg w K mg base CX0 1 f fd ["_law_layout", "_law_length", "_law_reply"] (spLAfter Z) := by
  refine F.ok sc_law_after fn_len3 (fun cdv A outer s H vs Q E hr h => ⟨_, PSs.nox (pss_cons (ps_setLc (i := 3) (own := [("_law_k", 4)]) (g := gName 4) rfl sc_law_after.nd rfl rfl (sw_true rfl rfl rfl (by decide +kernel)) (pi_range1 rfl T.f_range (pa_cons (pe_callB (kLen K) rfl T.f_len PySem.boot_len (pa_cons (pv 0) pa_nil)) pa_nil)) (blkOk_by (own := [("_law_k", 4)]) (N := N_law_after) (sc := defScope s_law_after) (by first | decide +kernel | kernel_rfl)) (fun _ _ _ _ _ => (pg_name (i := 4) sc_law_after.nd rfl (Or.inl rfl))) (fun _ _ _ _ _ => pts_nil) (fun _ _ _ _ _ => (pe_tup (pa_cons (pe_ix (kIxL K) (pe_ix (kIxT K) (pv 2) pe_int (fun _ _ => rfl)) (pv 4) (fun _ _ => rfl)) (pa_cons (pe_ix (kIxT K) (pe_ix (kIxL K) (pv 0) (pv 4) (fun _ _ => rfl)) pe_int (fun _ _ => rfl)) pa_nil)))))
      (pss_one (ps_ret (pe_callB (cr_sortA K enc_B hr.units) rfl T.f_sorted (by decide +kernel) (pa_cons (pe_op op_cat (pv 3) (pe_lst (pa_cons (pe_tup (pa_cons (pe_ix (kIxT K) (pv 2) pe_int (fun _ _ => rfl)) (pa_cons (pv 1) pa_nil))) pa_nil))) pa_nil))))), ?_⟩)
  obtain ⟨S, ⟨L, ln, ⟨st, sa, pr⟩, u⟩, k, ⟨v, r, rfl, hL, v', r', rfl, hl, v'', r'', rfl, hv, hr'⟩, p, q⟩ := h
  cases hr'
  have hL : jLay S v L := hL
  have hl : jI S v' ln := hl
  have hv : jRep S v'' (st, sa, pr) := hv
  have p : Mir.laPre L (st, sa, pr) = true := p
  unfold Mir.laPre at p
  simp only [Bool.and_eq_true, decide_eq_true_eq] at p
  obtain ⟨p1, p2⟩ := p
  refine q_set (ev_lcM (R := jI) (R' := jB2) (ei_range1 (ea_cons (ev_len (ev_var rfl hL)) ea_nil) ⟨by omega, by omega⟩) (fun k => (st.getD k.toNat 0, (L.getD k.toNat (0, 0)).2)) (fun S2 v2 x hx s2 h2 => ?_) (by rw [rng_len]; omega)) (.refl k) fun S1 H1 v1 t1 s1 t1' h1 => ?_
  · exact ⟨_, eg_name, rfl, ev_blk (ev_3_0 (R' := jI) (R'' := jI) (y := sa) (z := pr) (ev_var rfl (Up.up s2 hv)) (ev_int (i := 0))) (ev_var (x := x) rfl h2) (ev_var rfl (Up.up s2 hL)) (rng_nat hx) p2⟩
  have h1 : jLay S1 v1 (Mir.lBlocks L st) := h1
  have hlb : (Mir.lBlocks L st).length = L.length := by
    show ((rng 0 (L.length : Int)).map _).length = _
    rw [List.length_map, rng_len]
    omega
  exact q_ret (ev_sorted enc_B (ev_cat (ev_var rfl h1) (ev_lst (xs := [(sa, ln)]) (el_cons (ev_tup2 (ea_cons (ev_3_1 (R := jSt) (R'' := jI) (x := st) (z := pr) (ev_var rfl (Up.up s1 hv)) (ev_int (i := 1))) (ea_cons (ev_var (x := ln) rfl (Up.up s1 hl)) ea_nil))) el_nil) (by simp)) (by rw [hlb]; show L.length + 1 ≤ 100000; omega)) dp_B) t1 q
abbrev N_law_replies : List Str := ["_law_contract_here", "_law_layout", "_law_length", "_law_rows", "_law_block", "_law_longer", "_law_row_here", "_law_start", "_law_price", "_law_found", "_law_blocks", "_law_k", "_law_reply"]
theorem sc_law_replies : FnScope N_law_replies ["_law_contract_here", "_law_layout", "_law_length"] (defScope s_law_replies) := ⟨rfl, rfl, rfl, by decide +kernel, rfl, by decide +kernel, by decide +kernel⟩
theorem ok_law_replies (F : FnP K "_law_replies" "_law_replies" s_law_replies f fd) (T : Txt K mg) (c_law_apart : Cal Pg w K mg base 1 (He.ga K "_law_apart") ["_law_size", "_law_blocks"] (spApart Z)) : FnOk Pg w K mg base CX0 2 f fd ["_law_contract_here", "_law_layout", "_law_length"] (spLRep Z K) := by
  refine F.ok sc_law_replies fn_len3 (fun cdv A outer s H vs Q E hr h => ⟨_, PSs.nox (pss_cons (ps_set (i := 3) sc_law_replies.nd rfl (by first | exact Or.inl rfl | exact Or.inr rfl) (pe_lst (pa_cons (pe_tup (pa_cons (pe_lst pa_nil) (pa_cons pe_int pa_nil))) pa_nil)))
      (pss_cons (ps_for PassesOwn.never rfl (kiList K (pv 1)) (pg_name (i := 4) sc_law_replies.nd rfl (by first | exact Or.inl rfl | exact Or.inr rfl)) (pss_cons (ps_set (i := 5) sc_law_replies.nd rfl (by first | exact Or.inl rfl | exact Or.inr rfl) (pe_lst pa_nil))
      (pss_cons (ps_for PassesOwn.never rfl (kiList K (pv 3)) (pg_name (i := 6) sc_law_replies.nd rfl (by first | exact Or.inl rfl | exact Or.inr rfl)) (pss_one (ps_for PassesOwn.never rfl (pi_range1 rfl T.f_range (pa_cons (kFld K (pv 0)) pa_nil)) (pg_name (i := 7) sc_law_replies.nd rfl (by first | exact Or.inl rfl | exact Or.inr rfl)) (pss_cons (ps_set (i := 8) sc_law_replies.nd rfl (by first | exact Or.inl rfl | exact Or.inr rfl) (pe_op op_add (pe_ix (kIxT K) (pv 6) pe_int (fun _ _ => rfl)) (pe_op op_mul (pe_ix (kIxT K) (pv 4) pe_int (fun _ _ => rfl)) (pe_callTy call_int1 rfl T.f_int (by decide +kernel) (pa_cons (pe_cmpR op_ne (pv 7) (pe_ix (kIxT K) (pv 4) pe_int (fun _ _ => rfl)) (nomark _)) pa_nil)))))
      (pss_one (ps_if (pt_cmpR op_le (pv 8) (kFld K (pv 0)) (nomark _)) (pss_one (ps_expr (pe_bm PySem.F.plainAttrs_list PySem.F.slot_list_append PySem.F.type_list_append mt_append (pv 5) (pa_cons (pe_tup (pa_cons (pe_op op_cat (pe_ix (kIxT K) (pv 6) pe_int (fun _ _ => rfl)) (pe_lst (pa_cons (pv 7) pa_nil))) (pa_cons (pv 8) pa_nil))) pa_nil)))) pss_nil))))))
      (pss_one (ps_set (i := 3) sc_law_replies.nd rfl (by first | exact Or.inl rfl | exact Or.inr rfl) (pv 5))))))
      (pss_cons (ps_set (i := 9) sc_law_replies.nd rfl (by first | exact Or.inl rfl | exact Or.inr rfl) (pe_lst pa_nil))
      (pss_cons (ps_for PassesOwn.never rfl (kiList K (pv 3)) (pg_name (i := 6) sc_law_replies.nd rfl (by first | exact Or.inl rfl | exact Or.inr rfl)) (pss_cons (ps_setLc (i := 10) (own := [("_law_k", 11)]) (g := gName 11) rfl sc_law_replies.nd rfl rfl (sw_true rfl rfl rfl (by decide +kernel)) (pi_range1 rfl T.f_range (pa_cons (pe_callB (kLen K) rfl T.f_len PySem.boot_len (pa_cons (pv 1) pa_nil)) pa_nil)) (blkOk_by (own := [("_law_k", 11)]) (N := N_law_replies) (sc := defScope s_law_replies) (by first | decide +kernel | kernel_rfl)) (fun _ _ _ _ _ => (pg_name (i := 11) sc_law_replies.nd rfl (Or.inl rfl))) (fun _ _ _ _ _ => pts_nil) (fun _ _ _ _ _ => (pe_tup (pa_cons (pe_ix (kIxL K) (pe_ix (kIxT K) (pv 6) pe_int (fun _ _ => rfl)) (pv 11) (fun _ _ => rfl)) (pa_cons (pe_ix (kIxT K) (pe_ix (kIxL K) (pv 1) (pv 11) (fun _ _ => rfl)) pe_int (fun _ _ => rfl)) pa_nil)))))
      (pss_one (ps_for PassesOwn.never rfl (pi_range1 rfl T.f_range (pa_cons (kFld K (pv 0)) pa_nil)) (pg_name (i := 7) sc_law_replies.nd rfl (by first | exact Or.inl rfl | exact Or.inr rfl)) (pss_one (ps_if (pt_val (pe_call c_law_apart.ok (hr.mono (by decide)) rfl T.g_law_apart c_law_apart.kp c_law_apart.bd .nil pass0 (pa_cons (kFld K (pv 0)) (pa_cons (pe_op op_cat (pv 10) (pe_lst (pa_cons (pe_tup (pa_cons (pv 7) (pa_cons (pv 2) pa_nil))) pa_nil))) pa_nil)))) (pss_one (ps_expr (pe_bm PySem.F.plainAttrs_list PySem.F.slot_list_append PySem.F.type_list_append mt_append (pv 9) (pa_cons (pe_tup (pa_cons (pe_ix (kIxT K) (pv 6) pe_int (fun _ _ => rfl)) (pa_cons (pe_ix (kIxT K) (pv 6) pe_int (fun _ _ => rfl)) (pa_cons (pv 7) pa_nil)))) pa_nil)))) pss_nil))))))
      (pss_one (ps_ret (pe_lc (own := [("_law_reply", 12)]) (g := gName 12) rfl sc_law_replies.nd (kiList K (pe_callB (cr_sortA K enc_F hr.units) rfl T.f_sorted (by decide +kernel) (pa_cons (pv 9) pa_nil))) (blkOk_by (own := [("_law_reply", 12)]) (N := N_law_replies) (sc := defScope s_law_replies) (by first | decide +kernel | kernel_rfl)) (fun _ _ _ _ _ => (pg_name (i := 12) sc_law_replies.nd rfl (Or.inl rfl))) (fun _ _ _ _ _ => pts_nil) (fun _ _ _ _ _ => (pe_tup (pa_cons (pe_ix (kIxT K) (pv 12) pe_int (fun _ _ => rfl)) (pa_cons (pe_ix (kIxT K) (pv 12) pe_int (fun _ _ => rfl)) (pa_cons (pe_ix (kIxT K) (pv 12) pe_int (fun _ _ => rfl)) pa_nil)))))))))))), ?_⟩)
  obtain ⟨S, ⟨c, L, ln, u⟩, k, ⟨v, r, rfl, hc, v', r', rfl, hL, v'', r'', rfl, hl, hr'⟩, p, q⟩ := h
  cases hr'
  have p : Mir.lrPre c L ln = true := p
  have hc : jCon K S v c := hc
  have hL : jLay S v' L := hL
  have hl : v'' = .int ln := hl
  subst hl
  unfold Mir.lrPre at p
  simp only [Bool.and_eq_true, decide_eq_true_eq] at p
  obtain ⟨⟨p1, p2, p3⟩, p4, p5, p6⟩ := p
  rw [List.all_eq_true] at p5
  refine q_set (ev_lst (R := jRow) (xs := [([], 0)]) (el_cons (ev_tup2 (ea_cons ev_nil (ea_cons (ev_int (i := 0)) ea_nil))) el_nil) (by simp)) (.refl k) fun S1 H1 v1 t1 s1 t1' h1 => ?_
  refine q_for (ei_list (ev_var (x := L) rfl (Up.up s1 hL))) t1 (fun i S2 σ2 H2 => ∃ (vr : V) (o4 o5 o6 o7 o8 : Option V), σ2 = [some v, some v', some (.int ln), some vr, o4, o5, o6, o7, o8, none, none, none, none] ∧ jL jRow S2 vr ((L.take i).foldl (Mir.lTurn c) [([], 0)]) ∧ Mir.lrOk c ((L.take i).foldl (Mir.lTurn c) [([], 0)]) (L.drop i) = true)
    (fun i S2 σ2 H2 S3 H3 ⟨vr, o4, o5, o6, o7, o8, a, b, c⟩ t => ⟨vr, o4, o5, o6, o7, o8, a, Up.up t.ss b, c⟩) ⟨v1, _, _, _, _, _, rfl, h1, p4⟩ ?_ ?_
  · rintro i ⟨b, l⟩ S2 σ2 H2 v2 N hx t2 s2 hblk ⟨vr, o4, o5, o6, o7, o8, rfl, hrw, hok⟩ hN
    refine ⟨_, eg_name, ?_⟩
    have hd : L.drop i = (b, l) :: L.drop (i + 1) := by
      obtain ⟨hi, e⟩ := List.getElem?_eq_some_iff.mp hx
      rw [← e]
      exact List.drop_eq_getElem_cons hi
    have ht : (L.take (i + 1)).foldl (Mir.lTurn c) [([], 0)] = Mir.lTurn c ((L.take i).foldl (Mir.lTurn c) [([], 0)]) (b, l) := by
      rw [List.take_add_one, hx, List.foldl_append]
      rfl
    rw [ht] at hN
    generalize (L.take i).foldl (Mir.lTurn c) [([], 0)] = rows at hrw hok hN
    rw [hd] at hok
    unfold Mir.lrOk at hok
    simp only [Bool.and_eq_true, decide_eq_true_eq] at hok
    obtain ⟨m1, m2, m3⟩ := hok
    unfold Mir.rowOk at m1
    rw [List.all_eq_true] at m1
    have hblk : jB2 S2 v2 (b, l) := hblk
    refine q_new (R := jRow) t2 fun ga H3 hg0 hg2 t3 t3' og => ?_
    refine q_forA (R := jRow) (R' := jRow) (l := ga) (acc := []) (F := fun r => ((rng 0 c.size).filter fun s => decide (Mir.lPrice (b, l) r s ≤ c.budget)).map fun s => (r.1 ++ [s], Mir.lPrice (b, l) r s)) (ei_list (ev_var (i := 3) rfl hrw)) t3
      (fun σ => ∃ o6 o7 o8, σ = [some v, some v', some (.int ln), some vr, some v2, some (.ref ga), o6, o7, o8, none, none, none, none]) (fun _ _ => True) (fun _ _ _ _ _ _ => trivial) ⟨_, _, _, rfl⟩ trivial og
      (fun ⟨rw', lf⟩ S4 σ4 H4 v4 acc1 N4 hmem t4 s4 hrow ⟨o6, o7, o8, e4⟩ _ og4 l4 hN4 => ?_) (fun S4 σ4 H4 t4 s4 ⟨o6, o7, o8, e4⟩ _ og4 => ?_)
    · subst e4
      have hrow : jRow S4 v4 (rw', lf) := hrow
      have hlen : rw'.length ≤ 100 := by
        have := m1 _ hmem
        simpa using this
      refine ⟨_, eg_name, ?_⟩
      refine s_forT (R' := jRow) (l := ga) (acc := acc1) (b := fun s => decide (Mir.lPrice (b, l) (rw', lf) s ≤ c.budget)) (f := fun s => (rw' ++ [s], Mir.lPrice (b, l) (rw', lf) s)) (ei_range1 (ea_cons (ev_size T (ev_var (i := 0) (x := c) rfl (Up.up t4.ss hc))) ea_nil) ⟨by omega, by omega⟩) t4
        (fun σ => ∃ o7 o8, σ = [some v, some v', some (.int ln), some vr, some v2, some (.ref ga), some v4, o7, o8, none, none, none, none]) (fun _ _ => True) (fun _ _ _ _ _ _ => trivial) ⟨_, _, rfl⟩ trivial og4
        (fun pl S5 σ5 H5 v5 acc2 N5 hpl t5 s5 hv5 ⟨o7, o8, e5⟩ _ og5 l5 hN5 => ?_) (fun S5 σ5 H5 t5 s5 ⟨o7, o8, e5⟩ _ og5 => hN4 S5 σ5 H5 t5 s5 ⟨_, _, _, e5⟩ trivial og5)
      subst e5
      have hv5 : v5 = .int pl := hv5
      subst hv5
      refine ⟨_, eg_name, ?_⟩
      have hrow5 : jRow S5 v4 (rw', lf) := Up.up s5 hrow
      have hblk5 : jB2 S5 v2 (b, l) := Up.up (s4.trans s5) hblk
      have hpr : lf + l * (if (!decide (pl = b)) = true then 1 else 0) = Mir.lPrice (b, l) (rw', lf) pl := by
        unfold Mir.lPrice
        by_cases e : pl = b
        · simp [e]
        · simp [e]
      refine q_set ((ev_II (g := fun i j => i + j) (ev_snd (R := jSt) (x := rw') (ev_var rfl hrow5) (ev_int (i := 1))) (ev_I (R := jI) (x := l * (if (!decide (pl = b)) = true then 1 else 0)) (C := L2.CMul) (g := fun i j => .int (i * j)) (ev_snd (R := jI) (x := b) (ev_var rfl hblk5) (ev_int (i := 1))) (ev_intB (ev_neI (ev_var (x := pl) rfl rfl) (ev_fst (R' := jI) (y := l) (ev_var rfl hblk5) (ev_int (i := 0))))) (Or.inr (by split <;> decide)) fun _ => rfl)).is hpr) t5 fun S6 H6 v6 t6 s6 t6' h6 => ?_
      have h6 : v6 = .int (Mir.lPrice (b, l) (rw', lf) pl) := h6
      subst h6
      refine s_if (et_test (ev_IB (ev_var (x := Mir.lPrice (b, l) (rw', lf) pl) rfl rfl) (ev_budget T (ev_var (x := c) rfl (Up.up t6.ss hc))))) t6.ok (fun hb S7 H7 t7 => ?_) (fun hb S7 H7 t7 => ?_)
      · have l5' : acc2.length + (if decide (Mir.lPrice (b, l) (rw', lf) pl ≤ c.budget) = true then 1 else 0) ≤ acc1.length + (((rng 0 c.size).filter fun s => decide (Mir.lPrice (b, l) (rw', lf) s ≤ c.budget)).map fun s => (rw' ++ [s], Mir.lPrice (b, l) (rw', lf) s)).length := l5
        have l4' : acc1.length + (((rng 0 c.size).filter fun s => decide (Mir.lPrice (b, l) (rw', lf) s ≤ c.budget)).map fun s => (rw' ++ [s], Mir.lPrice (b, l) (rw', lf) s)).length ≤ 0 + (Mir.lTurn c rows (b, l)).length := l4
        rw [if_pos hb] at hN5 l5'
        refine s_app' (x := (rw' ++ [pl], Mir.lPrice (b, l) (rw', lf) pl)) rfl ((og5.step t6').step t7) (ev_tup2 (ea_cons (ev_cat (ev_fst (R' := jI) (y := lf) (ev_var rfl (Up.up (s6.trans t7.ss) hrow5)) (ev_int (i := 0))) (ev_lst (xs := [pl]) (el_cons (ev_var (x := pl) rfl rfl) el_nil) (by simp)) (by show rw'.length + 1 ≤ 100000; omega)) (ea_cons (ev_var (x := Mir.lPrice (b, l) (rw', lf) pl) rfl rfl) ea_nil))) (t6.trans t7) hg0 (by omega) fun S8 H8 t8 s8 og8 _ => hN5 S8 _ H8 t8 (s6.trans (t7.ss.trans s8)) ⟨_, _, rfl⟩ trivial og8
      · rw [if_neg (by rw [hb]; exact Bool.false_ne_true)] at hN5
        refine hN5 S7 _ H7 (t6.trans t7) (s6.trans t7.ss) ⟨_, _, rfl⟩ trivial ?_
        rw [List.append_nil]
        exact (og5.step t6').step t7
    · subst e4
      obtain ⟨S5, t5, s5, r5⟩ := og4.frz t4 hg0
      exact s_set (ev_var rfl r5) t5.ok fun S6 H6 v6 t6 h6 => hN S6 _ H6 (t5.trans t6) (s4.trans (s5.trans t6.ss)) ⟨_, _, _, _, _, _, rfl, h6, m3⟩
  rintro S2 σ2 H2 t2 s2 ⟨vr, o4, o5, o6, o7, o8, rfl, hrw, _⟩
  rw [List.take_length] at hrw
  have hrw : jL jRow S2 vr (Mir.lRows c L) := hrw
  refine q_new (R := jFnd) t2 fun ga H3 hg0 hg2 t3 t3' og => ?_
  refine q_forA (R := jRow) (R' := jFnd) (l := ga) (acc := []) (F := fun r => ((rng 0 c.size).filter fun s => Mir.lApart c.size (Mir.lBlocks L r.1 ++ [(s, ln)])).map fun s => (r.2, r.1, s)) (ei_list (ev_var (i := 3) rfl hrw)) t3
    (fun σ => ∃ o6 o7 o10, σ = [some v, some v', some (.int ln), some vr, o4, o5, o6, o7, o8, some (.ref ga), o10, none, none]) (fun _ _ => True) (fun _ _ _ _ _ _ => trivial) ⟨_, _, _, rfl⟩ trivial og
    (fun ⟨st, pr⟩ S4 σ4 H4 v4 acc1 N4 hmem t4 s4 hrow ⟨o6, o7, o10, e4⟩ _ og4 l4 hN4 => ?_) (fun S4 σ4 H4 t4 s4 ⟨o6, o7, o10, e4⟩ _ og4 => ?_)
  · subst e4
    have hrow : jRow S4 v4 (st, pr) := hrow
    have hp5 := p5 _ hmem
    simp only [Bool.and_eq_true, decide_eq_true_eq] at hp5
    obtain ⟨hst, hap⟩ := hp5
    rw [List.all_eq_true] at hap
    refine ⟨_, eg_name, ?_⟩
    refine q_set (ev_lcM (R := jI) (R' := jB2) (ei_range1 (ea_cons (ev_len (ev_var rfl (Up.up t4.ss hL))) ea_nil) ⟨by omega, by omega⟩) (fun k => (st.getD k.toNat 0, (L.getD k.toNat (0, 0)).2)) (fun S5 v5 x hx s5 h5 => ?_) (by rw [rng_len]; omega)) t4 fun S5 H5 v5 t5 s5 t5' h5 => ?_
    · exact ⟨_, eg_name, rfl, ev_blk (ev_fst (R' := jI) (y := pr) (ev_var rfl (Up.up s5 hrow)) (ev_int (i := 0))) (ev_var (x := x) rfl h5) (ev_var rfl (Up.up (t4.ss.trans s5) hL)) (rng_nat hx) hst⟩
    have h5 : jLay S5 v5 (Mir.lBlocks L st) := h5
    have hlb : (Mir.lBlocks L st).length = L.length := by
      show ((rng 0 (L.length : Int)).map _).length = _
      rw [List.length_map, rng_len]
      omega
    refine s_forT (R' := jFnd) (l := ga) (acc := acc1) (b := fun s => Mir.lApart c.size (Mir.lBlocks L st ++ [(s, ln)])) (f := fun s => (pr, st, s)) (ei_range1 (ea_cons (ev_size T (ev_var (i := 0) (x := c) rfl (Up.up t5.ss hc))) ea_nil) ⟨by omega, by omega⟩) t5
      (fun σ => ∃ o7, σ = [some v, some v', some (.int ln), some vr, o4, o5, some v4, o7, o8, some (.ref ga), some v5, none, none]) (fun _ _ => True) (fun _ _ _ _ _ _ => trivial) ⟨_, rfl⟩ trivial (og4.step t5')
      (fun sa S6 σ6 H6 v6 acc2 N6 hsa t6 s6 hv6 ⟨o7, e6⟩ _ og6 l6 hN6 => ?_) (fun S6 σ6 H6 t6 s6 ⟨o7, e6⟩ _ og6 => hN4 S6 σ6 H6 t6 (s5.trans s6) ⟨_, _, _, e6⟩ trivial og6)
    subst e6
    have hv6 : v6 = .int sa := hv6
    subst hv6
    refine ⟨_, eg_name, ?_⟩
    have hrow6 : jRow S6 v4 (st, pr) := Up.up (s5.trans s6) hrow
    refine s_if (et_B (ev_call (x := (c.size, Mir.lBlocks L st ++ [(sa, ln)], ())) (ea_cons (ev_size T (ev_var (x := c) rfl (Up.up t6.ss hc))) (ea_cons (ev_cat (ev_var rfl (Up.up s6 h5)) (ev_lst (xs := [(sa, ln)]) (el_cons (ev_tup2 (ea_cons (ev_var (x := sa) rfl rfl) (ea_cons (ev_var (x := ln) rfl rfl) ea_nil))) el_nil) (by simp)) (by rw [hlb]; show L.length + 1 ≤ 100000; omega)) ea_nil)) (hap sa hsa))) t6.ok (fun hb S7 H7 t7 => ?_) (fun hb S7 H7 t7 => ?_)
    · have hb : Mir.lApart c.size (Mir.lBlocks L st ++ [(sa, ln)]) = true := hb
      have l6' : acc2.length + (if Mir.lApart c.size (Mir.lBlocks L st ++ [(sa, ln)]) = true then 1 else 0) ≤ acc1.length + (((rng 0 c.size).filter fun s => Mir.lApart c.size (Mir.lBlocks L st ++ [(s, ln)])).map fun s => (pr, st, s)).length := l6
      have l4' : acc1.length + (((rng 0 c.size).filter fun s => Mir.lApart c.size (Mir.lBlocks L st ++ [(s, ln)])).map fun s => (pr, st, s)).length ≤ 0 + (Mir.lRaw c L ln).length := l4
      rw [hb] at hN6 l6'
      rw [if_pos rfl] at l6'
      exact s_app' (x := (pr, st, sa)) rfl (og6.step t7) (ev_tup3 (ea_cons (ev_snd (R := jSt) (x := st) (ev_var rfl (Up.up t7.ss hrow6)) (ev_int (i := 1))) (ea_cons (ev_fst (R' := jI) (y := pr) (ev_var rfl (Up.up t7.ss hrow6)) (ev_int (i := 0))) (ea_cons (ev_var (x := sa) rfl rfl) ea_nil)))) (t6.trans t7) hg0 (by omega) fun S8 H8 t8 s8 og8 _ => hN6 S8 _ H8 t8 (t7.ss.trans s8) ⟨_, rfl⟩ trivial og8
    · have hb : Mir.lApart c.size (Mir.lBlocks L st ++ [(sa, ln)]) = false := hb
      rw [hb] at hN6
      refine hN6 S7 _ H7 (t6.trans t7) t7.ss ⟨_, rfl⟩ trivial ?_
      simpa using og6.step t7
  · subst e4
    obtain ⟨S5, t5, s5, r5⟩ := og4.frz t4 hg0
    have r5 : jL jFnd S5 (.ref ga) (Mir.lRaw c L ln) := r5
    refine q_ret (ev_lcM (R := jFnd) (R' := jRep) (ei_list (ev_sorted enc_F (ev_var (x := Mir.lRaw c L ln) rfl r5) (fun S v x h => dp_F S v x h))) (fun f => (f.2.1, f.2.2, f.1)) (fun S6 v6 x hx s6 h6 => ?_) (by rw [Mir.isort_len]; omega)) t5 q
    exact ⟨_, eg_name, rfl, ev_tup3 (ea_cons (ev_3_1 (R := jI) (R'' := jI) (x := x.1) (z := x.2.2) (ev_var rfl h6) (ev_int (i := 1))) (ea_cons (ev_3_2 (R := jI) (R' := jSt) (x := x.1) (y := x.2.1) (ev_var rfl h6) (ev_int (i := 2))) (ea_cons (ev_3_0 (R' := jSt) (R'' := jI) (y := x.2.1) (z := x.2.2) (ev_var rfl h6) (ev_int (i := 0))) ea_nil)))⟩
end
end Hg
end Z_D12

section Z_D13
set_option maxHeartbeats 4000000
namespace Mir
def lfPre (o : Opt) : Bool := decide (o.1.length ≤ 10000) && (decide (o.2.length ≤ 10000) && o.2.all fun ls => decide (ls.length ≤ 10000))
def wayPre (c : Con) (L : Lay) : Bool := decide (L.length ≤ 100) && (decide (c.lengths.length ≤ 100) && (requestable c L).all fun l => lrPre c L l && (decide ((lReplies c L l).length ≤ 10000) && (lReplies c L l).all fun r => laPre L r))
def lwPre (c : Con) : Bool := lPosPre c && (decide ((lPositions c).length ≤ 1000) && (lPositions c).all fun L => wayPre c L)
def wsOk (ws : Dct Opt) : Bool := decide (ws.length ≤ 1000) && ws.all fun p => lfPre p.2 && decide (look ws p.1 = some p.2)
def lkOk (ws : Dct Opt) : List Int → Dct Int → Bool
  | [], _ => true
  | n :: r, d => decide (d.length + (lFresh ws d).length ≤ 1000) && lkOk ws r (putAll d (lFresh ws d) n)
def lkPre (c : Con) : Bool := lwPre c && (wsOk (lWays c) && lkOk (lWays c) (rng 1 ((lWays c).length + 2)) [])
theorem ways_len (c : Con) : ∀ (ks : List Lay) (d : Dct Opt), (ks.foldl (fun d L => put d L (lWay c L)) d).length ≤ d.length + ks.length
  | [], d => Nat.le_refl _
  | k :: r, d => by
    have h1 := ways_len c r (put d k (lWay c k))
    have h2 := put_len d k (lWay c k)
    show (r.foldl (fun d L => put d L (lWay c L)) (put d k (lWay c k))).length ≤ _
    rw [List.length_cons]
    omega
def lfreshB (ws : Dct Opt) (ranks : Dct Int) (L : Lay) : Bool := !has ranks L && lForced ((look ws L).getD ([], [])) ranks
theorem lfresh_keys (ws : Dct Opt) (ranks : Dct Int) (h : wsOk ws = true) : ((ws.map (·.1)).filter (lfreshB ws ranks)).map (fun L => L) = lFresh ws ranks := by
  unfold wsOk at h
  simp only [Bool.and_eq_true, List.all_eq_true, decide_eq_true_eq] at h
  unfold lFresh
  rw [List.filter_map, List.map_map]
  have e : ws.filter (lfreshB ws ranks ∘ fun p => p.1) = ws.filter fun p => !has ranks p.1 && lForced p.2 ranks := by
    refine List.filter_congr fun p hp => ?_
    show (!has ranks p.1 && lForced ((look ws p.1).getD ([], [])) ranks) = _
    rw [(h.2 p hp).2]
    rfl
  rw [e]
  rfl
end Mir
namespace Hg
open PySem L2
abbrev jWay : Rp Mir.Opt := j2 (jL jK) (jL (jL jK))
def spWays (P : Program) (w : World) (Z : List Addr) (K : PySem.W.Frag) : Sp := Fn Z (aC (jCon K) aN) (fun p => Mir.lwPre p.1 = true) (jN P w jWay) fun p => Mir.lWays p.1
def spLForced (P : Program) (w : World) (Z : List Addr) : Sp := Fn Z (aC jWay (aC (jN P w jI) aN)) (fun p => Mir.lfPre p.1 = true) jB fun p => Mir.lForced p.1 p.2.1
def spLRanks (P : Program) (w : World) (Z : List Addr) (K : PySem.W.Frag) : Sp := Fn Z (aC (jCon K) aN) (fun p => Mir.lkPre p.1 = true) (jN P w jI) fun p => Mir.lRanks p.1
theorem encK3 (L : Mir.Lay) : (encK L).depth ≤ 3 := by
  show PyData.depthAll (L.map encB) + 1 ≤ 3
  have h : ∀ L : Mir.Lay, PyData.depthAll (L.map encB) ≤ 2 := fun L => by
    induction L with
    | nil => exact Nat.zero_le _
    | cons a r ih =>
      show max _ _ ≤ 2
      exact Nat.max_le.mpr ⟨dep_B a, ih⟩
  have := h L
  omega
def encKs (ls : List Mir.Lay) : PyData := .list (ls.map encK)
theorem can_Ks (ls : List Mir.Lay) : (encKs ls).canLay0 = true := canAll (enc := encK) can_K ls
theorem dep_Ks (ls : List Mir.Lay) : (encKs ls).depth ≤ 8 := by
  show PyData.depthAll (ls.map encK) + 1 ≤ 8
  have h : ∀ ls : List Mir.Lay, PyData.depthAll (ls.map encK) ≤ 3 := fun ls => by
    induction ls with
    | nil => exact Nat.zero_le _
    | cons a r ih =>
      show max _ _ ≤ 3
      exact Nat.max_le.mpr ⟨encK3 a, ih⟩
  have := h ls
  omega
section
variable {Pg : Program} {w : World} {K : PySem.W.Frag} {mg : Str → Option Value} {base : Heap} {Z : List Addr} {f : Addr} {fd : FuncData}
abbrev N_law_forced : List Str := ["_law_way", "_law_won", "_law_key", "_law_row_here"]
theorem sc_law_forced : FnScope N_law_forced ["_law_way", "_law_won"] (defScope s_law_forced) := ⟨rfl, rfl, rfl, by decide +kernel, rfl, by decide +kernel, by decide +kernel⟩
theorem ok_law_forced (F : FnP K "_law_forced" "_law_forced" s_law_forced f fd) (T : Txt K mg) : FnOk Pg w K mg base CX0 1 f fd ["_law_way", "_law_won"] (spLForced Pg w Z) := by
  refine F.ok sc_law_forced fn_len2 (fun cdv A outer s H vs Q E hr h => ⟨_, PSs.nox (pss_cons (ps_if (pt_truth (pe_lc (own := [("_law_key", 2)]) (g := gName 2) rfl sc_law_forced.nd (kiList K (pe_ix (kIxT K) (pv 0) pe_int (fun _ _ => rfl))) (blkOk_by (own := [("_law_key", 2)]) (N := N_law_forced) (sc := defScope s_law_forced) (by first | decide +kernel | kernel_rfl)) (fun _ _ _ _ _ => (pg_name (i := 2) sc_law_forced.nd rfl (Or.inl rfl))) (fun _ _ _ _ _ => (pts_one (pt_cmp (kNin Pg w hr (pv 2) (pv 1))))) (fun _ _ _ _ _ => (pv 2))) (by intro _; rfl)) (pss_one (ps_ret pe_bl)) pss_nil)
      (pss_one (ps_ret (pe_cmpR (kNeD K hr.units) (pe_lc (own := [("_law_row_here", 3)]) (g := gName 3) rfl sc_law_forced.nd (kiList K (pe_ix (kIxT K) (pv 0) pe_int (fun _ _ => rfl))) (blkOk_by (own := [("_law_row_here", 3)]) (N := N_law_forced) (sc := defScope s_law_forced) (by first | decide +kernel | kernel_rfl)) (fun _ _ _ _ _ => (pg_name (i := 3) sc_law_forced.nd rfl (Or.inl rfl))) (fun _ _ _ _ _ => (pts_one (pt_cmpR (kEqD K hr.units) (pe_lc (own := [("_law_key", 2)]) (g := gName 2) rfl sc_law_forced.nd (kiList K (pv 3)) (blkOk_by (own := [("_law_key", 2)]) (N := N_law_forced) (by first | decide +kernel | kernel_rfl)) (fun _ _ _ _ _ => (pg_name (i := 2) sc_law_forced.nd rfl (Or.inl rfl))) (fun _ _ _ _ _ => (pts_one (pt_cmp (kNnotin Pg w hr (pv 2) (pv 1))))) (fun _ _ _ _ _ => (pv 2))) (pe_lst pa_nil) (nomark _)))) (fun _ _ _ _ _ => (pv 3))) (pe_lst pa_nil) (nomark _))))), ?_⟩)
  obtain ⟨S, ⟨⟨o1, o2⟩, d, u⟩, k, ⟨v, r, rfl, ho, v', r', rfl, hd, hr'⟩, p, q⟩ := h
  cases hr'
  have ho : jWay S v (o1, o2) := ho
  have hd : jN Pg w jI S v' d := hd
  have p : Mir.lfPre (o1, o2) = true := p
  unfold Mir.lfPre at p
  simp only [Bool.and_eq_true, List.all_eq_true, decide_eq_true_eq] at p
  obtain ⟨p1, p2, p3⟩ := p
  have e0 : Mir.lForced (o1, o2) d = if (!((o1.filter fun k => Mir.has d k).map fun k => k).isEmpty) = true then true else !((o2.filter fun ls => ((ls.filter fun k => !Mir.has d k).map fun k => k).isEmpty).map fun ls => ls).isEmpty := by
    unfold Mir.lForced
    simp only [List.map_id']
  refine q_if (et_tru (ev_lc (R := jK) (R' := jK) (ei_list (ev_fst (R' := jL (jL jK)) (y := o2) (ev_var rfl ho) (ev_int (i := 0)))) (fun k => Mir.has d k) (fun k => k) (fun S2 v2 x hx s2 h2 => ?_) (Nat.le_trans p1 (by decide)))) (.refl k) (fun hb S1 H1 t1 s1 t1' => ?_) (fun hb S1 H1 t1 s1 t1' => ?_)
  · exact ⟨_, eg_name, rfl, et_B (ev_nin (ev_var rfl h2) (ev_var rfl (Up.up s2 hd))), fun _ => ev_var rfl h2⟩
  · refine q_ret (ev_bl (i := true)) t1 fun S2 H2 v2 t2 h2 => q S2 H2 v2 t2 ?_
    show jB S2 v2 (Mir.lForced (o1, o2) d)
    rw [e0, if_pos hb]
    exact h2
  · refine q_ret ((ev_neNil (K := K) (R := jL jK) (enc := encKs) can_Ks dep_Ks (fun S v x h => dp_L (fun v x => dp_K S v x) h) (ev_lc (R := jL jK) (R' := jL jK) (ei_list (ev_snd (R := jL jK) (x := o1) (ev_var rfl (Up.up s1 ho)) (ev_int (i := 1)))) (fun ls => ((ls.filter fun k => !Mir.has d k).map fun k => k).isEmpty) (fun ls => ls) (fun S2 v2 ls hx s2 h2 => ?_) (Nat.le_trans p2 (by decide)))).is ?_) t1 q
    · refine ⟨_, eg_name, rfl, et_test (ev_eqNil (K := K) (R := jK) (enc := encK) can_K dep_K dp_K (ev_lc (R := jK) (R' := jK) (ei_list (ev_var (x := ls) rfl h2)) (fun k => !Mir.has d k) (fun k => k) (fun S3 v3 x hx3 s3 h3 => ?_) (Nat.le_trans (p3 ls hx) (by decide)))), fun _ => ev_var rfl h2⟩
      exact ⟨_, eg_name, rfl, et_B (ev_nnotin (ev_var rfl h3) (ev_var rfl (Up.up (s1.trans (s2.trans s3)) hd))), fun _ => ev_var rfl h3⟩
    · show _ = Mir.lForced (o1, o2) d
      rw [e0, if_neg (by rw [hb]; exact Bool.false_ne_true)]
abbrev N_law_ways : List Str := ["_law_contract_here", "_law_ways_here", "_law_layout", "_law_released", "_law_answered", "_law_length", "_law_k", "_law_reply"]
theorem sc_law_ways : FnScope N_law_ways ["_law_contract_here"] (defScope s_law_ways) := ⟨rfl, rfl, rfl, by decide +kernel, rfl, by decide +kernel, by decide +kernel⟩
theorem ok_law_ways (F : FnP K "_law_ways" "_law_ways" s_law_ways f fd) (T : Txt K mg) (c_law_positions : Cal Pg w K mg base 2 (He.ga K "_law_positions") ["_law_contract_here"] (spLPos Z K)) (c_law_without : Cal Pg w K mg base 1 (He.ga K "_law_without") ["_law_layout", "_law_index"] (spLWithout Z))
    (c_law_allowed : Cal Pg w K mg base 2 (He.ga K "_law_allowed") ["_law_contract_here", "_law_layout"] (spAllowed Z K)) (c_law_replies : Cal Pg w K mg base 2 (He.ga K "_law_replies") ["_law_contract_here", "_law_layout", "_law_length"] (spLRep Z K))
    (c_law_after : Cal Pg w K mg base 1 (He.ga K "_law_after") ["_law_layout", "_law_length", "_law_reply"] (spLAfter Z)) : FnOk Pg w K mg base CX0 3 f fd ["_law_contract_here"] (spWays Pg w Z K) := by
  refine F.ok sc_law_ways fn_len1 (fun cdv A outer s H vs Q E hr h => ⟨_, PSs.nox (pss_cons (ps_set (i := 1) sc_law_ways.nd rfl (by first | exact Or.inl rfl | exact Or.inr rfl) pe_nnew)
      (pss_cons (ps_for PassesOwn.never rfl (kiList K (pe_call c_law_positions.ok (hr.mono (by decide)) rfl T.g_law_positions c_law_positions.kp c_law_positions.bd .nil pass0 (pa_cons (pv 0) pa_nil))) (pg_name (i := 2) sc_law_ways.nd rfl (by first | exact Or.inl rfl | exact Or.inr rfl)) (pss_cons (ps_setLc (i := 3) (own := [("_law_k", 6)]) (g := gName 6) rfl sc_law_ways.nd rfl rfl (sw_true rfl rfl rfl (by decide +kernel)) (pi_range1 rfl T.f_range (pa_cons (pe_callB (kLen K) rfl T.f_len PySem.boot_len (pa_cons (pv 2) pa_nil)) pa_nil)) (blkOk_by (own := [("_law_k", 6)]) (N := N_law_ways) (sc := defScope s_law_ways) (by first | decide +kernel | kernel_rfl)) (fun _ _ _ _ _ => (pg_name (i := 6) sc_law_ways.nd rfl (Or.inl rfl))) (fun _ _ _ _ _ => pts_nil) (fun _ _ _ _ _ => (pe_callTy (kTup K) rfl T.f_tuple (by decide +kernel) (pa_cons (pe_call c_law_without.ok (hr.mono (by decide)) rfl T.g_law_without c_law_without.kp c_law_without.bd .nil pass0 (pa_cons (pv 2) (pa_cons (pv 6) pa_nil))) pa_nil))))
      (pss_cons (ps_set (i := 4) sc_law_ways.nd rfl (by first | exact Or.inl rfl | exact Or.inr rfl) (pe_lst pa_nil))
      (pss_cons (ps_for PassesOwn.never rfl (kiList K (pe_call c_law_allowed.ok (hr.mono (by decide)) rfl T.g_law_allowed c_law_allowed.kp c_law_allowed.bd .nil pass0 (pa_cons (pv 0) (pa_cons (pv 2) pa_nil)))) (pg_name (i := 5) sc_law_ways.nd rfl (by first | exact Or.inl rfl | exact Or.inr rfl)) (pss_one (ps_expr (pe_bm PySem.F.plainAttrs_list PySem.F.slot_list_append PySem.F.type_list_append mt_append (pv 4) (pa_cons (pe_lc (own := [("_law_reply", 7)]) (g := gName 7) rfl sc_law_ways.nd (kiList K (pe_call c_law_replies.ok (hr.mono (by decide)) rfl T.g_law_replies c_law_replies.kp c_law_replies.bd .nil pass0 (pa_cons (pv 0) (pa_cons (pv 2) (pa_cons (pv 5) pa_nil))))) (blkOk_by (own := [("_law_reply", 7)]) (N := N_law_ways) (sc := defScope s_law_ways) (by first | decide +kernel | kernel_rfl)) (fun _ _ _ _ _ => (pg_name (i := 7) sc_law_ways.nd rfl (Or.inl rfl))) (fun _ _ _ _ _ => pts_nil) (fun _ _ _ _ _ => (pe_callTy (kTup K) rfl T.f_tuple (by decide +kernel) (pa_cons (pe_call c_law_after.ok (hr.mono (by decide)) rfl T.g_law_after c_law_after.kp c_law_after.bd .nil pass0 (pa_cons (pv 2) (pa_cons (pv 5) (pa_cons (pv 7) pa_nil)))) pa_nil)))) pa_nil)))))
      (pss_one (ps_nput hr (pv 1) (pe_callTy (kTup K) rfl T.f_tuple (by decide +kernel) (pa_cons (pv 2) pa_nil)) (pe_tup (pa_cons (pv 3) (pa_cons (pv 4) pa_nil))) rfl))))))
      (pss_one (ps_ret (pv 1))))), ?_⟩)
  obtain ⟨S, ⟨c, u⟩, k, ⟨v, r, rfl, hc, hr'⟩, p, q⟩ := h
  cases hr'
  have hc : jCon K S v c := hc
  have p : Mir.lwPre c = true := p
  unfold Mir.lwPre at p
  simp only [Bool.and_eq_true, List.all_eq_true, decide_eq_true_eq] at p
  obtain ⟨p1, p2, p3⟩ := p
  refine q_nnew (P := Pg) (w := w) (Rv := jWay) (.refl k) fun wd H1 wd0 _ t1 _ ow1 => ?_
  refine q_for (ei_list (ev_call (x := (c, ())) (ea_cons (ev_var rfl (Up.up t1.ss hc)) ea_nil) p1)) t1 (fun i S5 σ5 H5 => (∃ o2 o3 o4 o5, σ5 = [some v, some (.ref wd), o2, o3, o4, o5, none, none]) ∧ OwnN Pg w Z S5 H5 wd jWay (((Mir.lPositions c).take i).foldl (fun d L => Mir.put d L (Mir.lWay c L)) []))
    (fun i S5 σ5 H5 S6 H6 ⟨h1, h2⟩ t => ⟨h1, h2.step t⟩) ⟨⟨_, _, _, _, rfl⟩, ow1⟩ ?_ ?_
  · rintro i L S5 σ5 H5 v5 N hx t5 s5 hL ⟨⟨o2, o3, o4, o5, rfl⟩, ow5⟩ hN
    have hmem := List.mem_of_getElem? hx
    have hway := p3 L hmem
    unfold Mir.wayPre at hway
    simp only [Bool.and_eq_true, List.all_eq_true, decide_eq_true_eq] at hway
    obtain ⟨w1, w2, w3⟩ := hway
    have hd1 : (((Mir.lPositions c).take i).foldl (fun d L => Mir.put d L (Mir.lWay c L)) []).length < 10000 := by
      have h1 := Mir.ways_len c ((Mir.lPositions c).take i) []
      have h2 : ((Mir.lPositions c).take i).length ≤ (Mir.lPositions c).length := by rw [List.length_take]; omega
      have h3 : ([] : Mir.Dct Mir.Opt).length = 0 := rfl
      omega
    have ht : ((Mir.lPositions c).take (i + 1)).foldl (fun d L => Mir.put d L (Mir.lWay c L)) [] = Mir.put (((Mir.lPositions c).take i).foldl (fun d L => Mir.put d L (Mir.lWay c L)) []) L (Mir.lWay c L) := by
      rw [List.take_add_one, hx, List.foldl_append]
      rfl
    rw [ht] at hN
    generalize ((Mir.lPositions c).take i).foldl (fun d L => Mir.put d L (Mir.lWay c L)) [] = d at ow5 hN hd1
    refine ⟨_, eg_name, ?_⟩
    refine q_set (ev_lcM (R := jI) (R' := jK) (ei_range1 (ea_cons (ev_len (ev_var rfl hL)) ea_nil) ⟨by omega, by omega⟩) (fun k => Mir.lWithout L k) (fun S6 v6 x hx6 s6 h6 => ?_) (by rw [rng_len]; omega)) t5 fun S6 H6 v6 t6 s6 t6' h6 => ?_
    · exact ⟨_, eg_name, rfl, ev_tupleL (ev_call (x := (L, x, ())) (ea_cons (ev_var rfl (Up.up s6 hL)) (ea_cons (ev_var (x := x) rfl h6) ea_nil)) w1)⟩
    have ow6 := ow5.step t6'
    refine q_new (R := jL jK) t6 fun al H7 al0 al1 t7 t7' oa7 => ?_
    have ow7 := ow6.step t7'
    have wal : wd ≠ al := ow6.ne al1
    have hL6 : jLay S6 v5 L := Up.up s6 hL
    refine q_forT (R := jI) (R' := jL jK) (l := al) (acc := []) (b := fun _ => true) (f := fun l => (Mir.lReplies c L l).map fun r => Mir.lAfter L l r) (ei_list (ev_call (x := (c, L, ())) (ea_cons (ev_var rfl (Up.up t7.ss hc)) (ea_cons (ev_var rfl hL6) ea_nil)) ⟨w1, w2⟩)) t7
      (fun σ => ∃ o5, σ = [some v, some (.ref wd), some v5, some v6, some (.ref al), o5, none, none]) (fun S H => OwnN Pg w Z S H wd jWay d) (fun S1 H1 S2 H2 a t => a.step t) ⟨_, rfl⟩ ow7 oa7
      (fun ln S8 σ8 H8 v8 acc N8 hm8 t8 s8 hv8 ⟨o5, e8⟩ ow8 oa8 l8 hN8 => ?_) (fun S8 σ8 H8 t8 s8 ⟨o5, e8⟩ ow8 oa8 => ?_)
    · subst e8
      have hv8 : v8 = .int ln := hv8
      subst hv8
      obtain ⟨m1, m2, m3⟩ := w3 ln hm8
      refine ⟨_, eg_name, ?_⟩
      refine s_app (R := jL jK) (x := (Mir.lReplies c L ln).map fun r => Mir.lAfter L ln r) rfl oa8 (ev_lcM (R := jRep) (R' := jK) (ei_list (ev_call (x := (c, L, ln, ())) (ea_cons (ev_var rfl (Up.up t8.ss hc)) (ea_cons (ev_var rfl (Up.up s8 hL6)) (ea_cons (ev_var (x := ln) rfl rfl) ea_nil))) m1)) (fun r => Mir.lAfter L ln r) (fun S9 v9 x hx9 s9 h9 => ?_) (Nat.le_trans m2 (by decide))) t8 al0 ?_ fun S9 H9 t9 s9 oa9 kp9 => hN8 S9 _ H9 t9 s9 ⟨_, rfl⟩ ?_ oa9
      · exact ⟨_, eg_name, rfl, ev_tupleL (ev_call (x := (L, ln, x, ())) (ea_cons (ev_var rfl (Up.up (s8.trans s9) hL6)) (ea_cons (ev_var (x := ln) rfl rfl) (ea_cons (ev_var rfl h9) ea_nil))) (m3 x hx9))⟩
      · have l8' : acc.length + 1 ≤ 0 + (((Mir.requestable c L).filter fun _ => true).map fun l => (Mir.lReplies c L l).map fun r => Mir.lAfter L l r).length := l8
        rw [List.length_map] at l8'
        have h1 := List.length_filter_le (fun _ : Int => true) (Mir.requestable c L)
        have h2 : (Mir.requestable c L).length ≤ c.lengths.length := List.length_filter_le _ _
        omega
      · obtain ⟨o, us, h1, h2, h3⟩ := ow8
        exact ⟨o, us, kp9 _ _ wal h1, h2, h3.up s9⟩
    · subst e8
      obtain ⟨vs9, oa9, pa9⟩ := oa8
      have t9 := t8.frz al0 oa9.at_
      have n9 : S8 al = none := oa9.off
      have ow9 : OwnN Pg w Z (upd S8 al (.lst vs9)) H8 wd jWay d := ow8.keep wal n9
      have ef : ∀ xs : List Int, xs.filter (fun _ => true) = xs := fun xs => by simp
      rw [List.nil_append, ef] at pa9
      have r9 : jL (jL jK) (upd S8 al (.lst vs9)) (.ref al) (Mir.lWay c L).2 := ⟨al, vs9, rfl, upd_same, pa9.up (same_upd n9)⟩
      have s9 : Same S6 (upd S8 al (.lst vs9)) := s8.trans (same_upd n9)
      generalize upd S8 al (.lst vs9) = S9 at t9 ow9 r9 s9
      have h69 : jL jK S9 v6 (Mir.lWay c L).1 := Up.up s9 h6
      exact s_nput (Rv := jWay) (b := Mir.lWay c L) (L := L) (ev_tup2 (x := (Mir.lWay c L).1) (y := (Mir.lWay c L).2) (ea_cons (ev_var rfl h69) (ea_cons (ev_var rfl r9) ea_nil))) (ev_var (R := jAt wd) (x := ()) rfl rfl) (ev_tupleL (ev_var rfl (Up.up s9 hL6))) ow9 t9 wd0 hd1 fun S10 H10 t10 s10 ow10 _ => hN S10 _ H10 t10 (s6.trans (s9.trans s10)) ⟨⟨_, _, _, _, rfl⟩, ow10⟩
  · rintro S5 σ5 H5 t5 s5 ⟨⟨o2, o3, o4, o5, rfl⟩, ow5⟩
    rw [List.take_length] at ow5
    obtain ⟨S6, t6, s6, r6, _⟩ := ow5.frz t5 wd0
    exact q_ret (ev_var (x := Mir.lWays c) rfl r6) t6 q
abbrev N_law_ranks : List Str := ["_law_contract_here", "_law_ways_here", "_law_ranks_here", "_law_number", "_law_fresh", "_law_key"]
theorem sc_law_ranks : FnScope N_law_ranks ["_law_contract_here"] (defScope s_law_ranks) := ⟨rfl, rfl, rfl, by decide +kernel, rfl, by decide +kernel, by decide +kernel⟩
theorem ok_law_ranks (F : FnP K "_law_ranks" "_law_ranks" s_law_ranks f fd) (T : Txt K mg) (c_law_ways : Cal Pg w K mg base 3 (He.ga K "_law_ways") ["_law_contract_here"] (spWays Pg w Z K)) (c_law_forced : Cal Pg w K mg base 1 (He.ga K "_law_forced") ["_law_way", "_law_won"] (spLForced Pg w Z)) :
    FnOk Pg w K mg base CX0 4 f fd ["_law_contract_here"] (spLRanks Pg w Z K) := by
  refine F.ok sc_law_ranks fn_len1 (fun cdv A outer s H vs Q E hr h => ⟨_, PSs.nox (pss_cons (ps_set (i := 1) sc_law_ranks.nd rfl (by first | exact Or.inl rfl | exact Or.inr rfl) (pe_call c_law_ways.ok (hr.mono (by decide)) rfl T.g_law_ways c_law_ways.kp c_law_ways.bd .nil pass0 (pa_cons (pv 0) pa_nil)))
      (pss_cons (ps_set (i := 2) sc_law_ranks.nd rfl (by first | exact Or.inl rfl | exact Or.inr rfl) pe_nnew)
      (pss_cons (ps_for PassesOwn.never rfl (pi_range2 rfl T.f_range (pa_cons pe_int (pa_cons (pe_op op_add (pe_callB call_len_n rfl T.f_len PySem.boot_len (pa_cons (pv 1) pa_nil)) pe_int) pa_nil))) (pg_name (i := 3) sc_law_ranks.nd rfl (by first | exact Or.inl rfl | exact Or.inr rfl)) (pss_cons (ps_setLc (i := 4) (own := [("_law_key", 5)]) (g := gName 5) rfl sc_law_ranks.nd rfl rfl (sw_true rfl rfl rfl (by decide +kernel)) (pi_nkeys (pv 1)) (blkOk_by (own := [("_law_key", 5)]) (N := N_law_ranks) (sc := defScope s_law_ranks) (by first | decide +kernel | kernel_rfl)) (fun _ _ _ _ _ => (pg_name (i := 5) sc_law_ranks.nd rfl (Or.inl rfl))) (fun _ _ _ _ _ => (pts_one (PW.pt (pw_and (pt_cmp (kNnotin Pg w hr (pv 5) (pv 2))) (pw_and1 (pt_val (pe_call c_law_forced.ok (hr.mono (by decide)) rfl T.g_law_forced c_law_forced.kp c_law_forced.bd .nil pass0 (pa_cons (kNget Pg w hr (pv 1) (pv 5) (fun _ _ => rfl)) (pa_cons (pv 2) pa_nil))))))))) (fun _ _ _ _ _ => (pv 5)))
      (pss_one (ps_for PassesOwn.never rfl (kiList K (pv 4)) (pg_name (i := 5) sc_law_ranks.nd rfl (by first | exact Or.inl rfl | exact Or.inr rfl)) (pss_one (ps_nput hr (pv 2) (pv 5) (pv 3) rfl))))))
      (pss_one (ps_ret (pv 2)))))), ?_⟩)
  obtain ⟨S, ⟨c, u⟩, k, ⟨v, r, rfl, hc, hr'⟩, p, q⟩ := h
  cases hr'
  have hc : jCon K S v c := hc
  have p : Mir.lkPre c = true := p
  unfold Mir.lkPre at p
  simp only [Bool.and_eq_true] at p
  obtain ⟨p1, p2, p3⟩ := p
  refine q_set (ev_call (x := (c, ())) (ea_cons (ev_var rfl hc) ea_nil) p1) (.refl k) fun S1 H1 v1 t1 s1 t1' h1 => ?_
  have h1 : jN Pg w jWay S1 v1 (Mir.lWays c) := h1
  have hres : Mir.lRanks c = (Mir.rng 1 ((Mir.lWays c).length + 2)).foldl (fun r n => Mir.putAll r (Mir.lFresh (Mir.lWays c) r) n) [] := rfl
  have q : ∀ S' H' r, Stp Z S H S' H' → jN Pg w jI S' r (Mir.lRanks c) → Q r H' := q
  rw [hres] at q
  generalize Mir.lWays c = ws at h1 p2 p3 q
  have hws := p2
  unfold Mir.wsOk at hws
  simp only [Bool.and_eq_true, List.all_eq_true, decide_eq_true_eq] at hws
  obtain ⟨wl, wa⟩ := hws
  refine q_nnew (P := Pg) (w := w) (Rv := jI) t1 fun rk H2 rk0 _ t2 _ or2 => ?_
  refine q_for (ei_range2 (ea_cons (ev_int (i := 1)) (ea_cons (ev_II (g := fun i j => i + j) (ev_lenN (ev_var (x := ws) rfl h1)) (ev_int (i := 2))) ea_nil)) ⟨by decide, by decide, by omega, by omega⟩) t2 (fun i S5 σ5 H5 => ∃ (d : Mir.Dct Int) (o3 o4 o5 : Option V), σ5 = [some v, some v1, some (.ref rk), o3, o4, o5] ∧ OwnN Pg w Z S5 H5 rk jI d ∧
      ((Mir.rng 1 ((ws.length : Int) + 2)).drop i).foldl (fun r n => Mir.putAll r (Mir.lFresh ws r) n) d = (Mir.rng 1 ((ws.length : Int) + 2)).foldl (fun r n => Mir.putAll r (Mir.lFresh ws r) n) [] ∧ Mir.lkOk ws ((Mir.rng 1 ((ws.length : Int) + 2)).drop i) d = true)
    (fun i S5 σ5 H5 S6 H6 ⟨d, o3, o4, o5, h1, h2, h3⟩ t => ⟨d, o3, o4, o5, h1, h2.step t, h3⟩) ⟨[], none, none, none, rfl, or2, by rw [List.drop_zero], by rw [List.drop_zero]; exact p3⟩ ?_ ?_
  · rintro i num S5 σ5 H5 v5 N hx t5 s5 hnum ⟨d, o3, o4, o5, rfl, or5, hf, hk⟩ hN
    have hdrop : (Mir.rng 1 ((ws.length : Int) + 2)).drop i = num :: (Mir.rng 1 ((ws.length : Int) + 2)).drop (i + 1) := by
      obtain ⟨hi, e⟩ := List.getElem?_eq_some_iff.mp hx
      rw [← e]
      exact List.drop_eq_getElem_cons hi
    rw [hdrop] at hf hk
    unfold Mir.lkOk at hk
    simp only [Bool.and_eq_true, decide_eq_true_eq] at hk
    obtain ⟨hk1, hk2⟩ := hk
    rw [List.foldl_cons] at hf
    have hnum : v5 = .int num := hnum
    subst hnum
    refine ⟨_, eg_name, ?_⟩
    -- the ranks are frozen while the keys are looked for
    obtain ⟨o, us, ow, no, rl⟩ := or5
    have t12 := t5.frz rk0 ow.at_
    have n5 : S5 rk = none := ow.off
    have hrk : jN Pg w jI (upd S5 rk (XO rk o)) (.ref rk) d := ⟨rk, o, us, rfl, upd_same, no, rl.up (same_upd n5)⟩
    have hws12 : jN Pg w jWay (upd S5 rk (XO rk o)) v1 ws := Up.up (s5.trans (same_upd n5)) h1
    have at12 : upd S5 rk (XO rk o) rk = some (XO rk o) := upd_same
    generalize hS12 : upd S5 rk (XO rk o) = S12 at t12 hrk hws12 at12
    refine q_set ((ev_lc (R := jK) (R' := jK) (ei_nkeys (ev_var rfl hws12)) (Mir.lfreshB ws d) (fun L => L) (fun S6 v6 L hm6 s6 h6 => ?_) (by rw [List.length_map]; exact Nat.le_trans wl (by decide))).is (Mir.lfresh_keys ws d p2)) t12 fun S13 H13 v13 t13 s13 t13' h13 => ?_
    · obtain ⟨pr, hpr, epr⟩ := List.mem_map.mp hm6
      have hpp := wa pr hpr
      rw [epr] at hpp
      have hfb : (!Mir.has d L && Mir.lForced pr.2 d) = Mir.lfreshB ws d L := by
        unfold Mir.lfreshB
        rw [hpp.2]
        rfl
      exact ⟨_, eg_name, rfl, (et_and (et_B (ev_nnotin (ev_var rfl h6) (ev_var rfl (Up.up s6 hrk)))) fun _ => et_B (ev_call (x := (pr.2, d, ())) (ea_cons (ev_nget (ev_var rfl (Up.up s6 hws12)) (ev_var rfl h6) hpp.2) (ea_cons (ev_var rfl (Up.up s6 hrk)) ea_nil)) hpp.1)).is hfb, fun _ => ev_var rfl h6⟩
    have at13 : S13 rk = some (XO rk o) := s13 _ _ at12
    obtain ⟨t14, ow14⟩ := t13.thaw rk0 at13 ow.nz
    have s14 : Same S5 (rem S13 rk) := same_rem (o := XO rk o) (by rw [hS12]; exact s13) n5
    have h14 : jL jK (rem S13 rk) v13 (Mir.lFresh ws d) := thaw_L thaw_K _ _ _ _ _ at13 h13
    have or14 : OwnN Pg w Z (rem S13 rk) H13 rk jI d := ⟨o, us, ow14, no, rl.up s14⟩
    generalize rem S13 rk = S14 at t14 s14 h14 or14
    refine s_for (ei_list (ev_var (x := Mir.lFresh ws d) rfl h14)) t14 (fun j S16 σ16 H16 => (∃ o5, σ16 = [some v, some v1, some (.ref rk), some (.int num), some v13, o5]) ∧ OwnN Pg w Z S16 H16 rk jI (Mir.putAll d ((Mir.lFresh ws d).take j) num))
      (fun j S16 σ16 H16 S17 H17 ⟨h1, h2⟩ t => ⟨h1, h2.step t⟩) ⟨⟨_, rfl⟩, or14⟩ ?_ ?_
    · rintro j L S16 σ16 H16 v16 N16 hx16 t16 s16 hL ⟨⟨o5, rfl⟩, or16⟩ hN16
      refine ⟨_, eg_name, ?_⟩
      refine s_nput (Rv := jI) (b := num) (L := L) (ev_var (x := num) rfl rfl) (ev_var (R := jAt rk) (x := ()) rfl rfl) (ev_var rfl hL) or16 t16 rk0 ?_ fun S17 H17 t17 s17 or17 _ => hN16 S17 _ H17 t17 s17 ⟨⟨_, rfl⟩, ?_⟩
      · have h1 := Mir.putAll_len num ((Mir.lFresh ws d).take j) d
        have h2 : ((Mir.lFresh ws d).take j).length ≤ (Mir.lFresh ws d).length := by rw [List.length_take]; omega
        omega
      · unfold Mir.putAll
        rw [List.take_add_one, hx16, List.foldl_append]
        exact or17
    · rintro S16 σ16 H16 t16 s16 ⟨⟨o5, rfl⟩, or16⟩
      rw [List.take_length] at or16
      exact hN S16 _ H16 t16 (s14.trans s16) ⟨_, _, _, _, rfl, or16, hf, hk2⟩
  · rintro S5 σ5 H5 t5 s5 ⟨d, o3, o4, o5, rfl, or5, hf, _⟩
    have hdrop : (Mir.rng 1 ((ws.length : Int) + 2)).drop (rng 1 ((ws.length : Int) + 2)).length = [] := List.drop_length
    rw [hdrop] at hf
    have hf : d = _ := hf
    obtain ⟨S6, t6, s6, r6, _⟩ := or5.frz t5 rk0
    rw [← hf] at q
    exact q_ret (ev_var (x := d) rfl r6) t6 q
end
end Hg
end Z_D13

section Z_Fin1
set_option maxHeartbeats 0
/-! The finite check: each contract that may be drawn or made better. -/
namespace Mir
def lens : List (List Int) := [[1], [2], [1, 2], [1, 3], [2, 3], [1, 2, 3], [3]]
def box (ss ms bs : List Int) : List Con := lens.flatMap fun l => ss.flatMap fun s => ms.flatMap fun m => bs.map fun b => ⟨s, m, l, b⟩
theorem mem_box {ss ms bs : List Int} {c : Con} (h1 : c.size ∈ ss) (h2 : c.limit ∈ ms) (h3 : c.budget ∈ bs) (h4 : c.lengths ∈ lens) : c ∈ box ss ms bs :=
  List.mem_flatMap.mpr ⟨c.lengths, h4, List.mem_flatMap.mpr ⟨c.size, h1, List.mem_flatMap.mpr ⟨c.limit, h2, List.mem_map.mpr ⟨c.budget, h3, rfl⟩⟩⟩⟩
/-- the contracts that the manager wins -/
def winT (c : Con) : Bool := !(decide (c.size = 1) && (decide (c.limit = 2) && !decide (c.lengths = [3])))
def chkC (c : Con) : Bool := gamePre c && (lkPre c && (decide ((look (game c) []).isNone = winT c) && decide (has (lRanks c) [] = !winT c)))
theorem fin1 : ((box [1, 2, 3] [0, 1, 2] [0, 1, 2]).all chkC) = true := by decide +kernel
/-- a contract made better: k the kind, the flags of size, budget, limit -/
def bet (c : Con) (k : Int) (f1 f2 f3 : Bool) : Con :=
  ⟨c.size + (if f1 = true then 1 else 0), max 0 (c.limit - (if f3 = true then 1 else 0)), c.lengths.take (max 1 ((c.lengths.length : Int) - (if decide (k = 3) = true then 1 else 0))).toNat, min 2 (c.budget + (if f2 = true then 1 else 0))⟩
def tf : List Bool := [false, true]
def bets (c : Con) : List Con := [(0 : Int), 1, 2, 3].flatMap fun k => tf.flatMap fun b1 => tf.flatMap fun b2 => tf.map fun b3 => bet c k (decide (k = 0) || b1) (decide (k = 1) || b2) (decide (k = 2) || b3)
def inC (c : Con) : Bool := ([(1 : Int), 2, 3].contains c.size && [(0 : Int), 1, 2].contains c.limit) && ([(0 : Int), 1, 2].contains c.budget && lens.contains c.lengths)
def chkB (c b : Con) : Bool := inC b && (isBetter b c && (betterPre b c && (!winT c || winT b)))
theorem fin2 : ((box [1, 2] [0, 1, 2] [0, 1, 2]).all fun c => (bets c).all fun b => chkB c b) = true := by decide +kernel
end Mir
end Z_Fin1

section Z_D14
set_option maxHeartbeats 4000000
/-! The law. -/
namespace Mir
theorem winT_mem {c : Con} (h : c ∈ box [1, 2, 3] [0, 1, 2] [0, 1, 2]) : gamePre c = true ∧ lkPre c = true ∧ (look (game c) []).isNone = winT c ∧ has (lRanks c) [] = !winT c := by
  have h1 := (List.all_eq_true.mp fin1) c h
  unfold chkC at h1
  simp only [Bool.and_eq_true, decide_eq_true_eq] at h1
  exact ⟨h1.1, h1.2.1, h1.2.2.1, h1.2.2.2⟩
theorem inC_mem {c : Con} (h : inC c = true) : c ∈ box [1, 2, 3] [0, 1, 2] [0, 1, 2] := by
  unfold inC at h
  simp only [Bool.and_eq_true, List.contains_iff_mem] at h
  exact mem_box h.1.1 h.1.2 h.2.1 h.2.2
theorem bet_mem {c : Con} {k : Int} {b1 b2 b3 : Bool} (hk : k ∈ [(0 : Int), 1, 2, 3]) : bet c k (decide (k = 0) || b1) (decide (k = 1) || b2) (decide (k = 2) || b3) ∈ bets c := by
  have ht : ∀ b : Bool, b ∈ tf := fun b => by cases b <;> decide
  exact List.mem_flatMap.mpr ⟨k, hk, List.mem_flatMap.mpr ⟨b1, ht b1, List.mem_flatMap.mpr ⟨b2, ht b2, List.mem_map.mpr ⟨b3, ht b3, rfl⟩⟩⟩⟩
theorem fin2_at {c b : Con} (hc : c ∈ box [1, 2] [0, 1, 2] [0, 1, 2]) (hb : b ∈ bets c) : inC b = true ∧ isBetter b c = true ∧ betterPre b c = true ∧ (winT c = true → winT b = true) := by
  have h1 := (List.all_eq_true.mp ((List.all_eq_true.mp fin2) c hc)) b hb
  unfold chkB at h1
  simp only [Bool.and_eq_true, Bool.or_eq_true, Bool.not_eq_true'] at h1
  refine ⟨h1.1, h1.2.1, h1.2.2.1, fun h => ?_⟩
  rcases h1.2.2.2 with z | z
  · rw [h] at z
    cases z
  · exact z
theorem menu_lens {l : List Int} (h : l ∈ menu) : l ∈ lens := by
  unfold menu at h
  simp only [List.mem_cons, List.not_mem_nil, or_false] at h
  rcases h with rfl | rfl | rfl | rfl | rfl | rfl | rfl | rfl <;> decide
end Mir
namespace Hg
open PySem L2
theorem drawn_mem {c : Mir.Con} (h : DrawnC 2 c) : c ∈ Mir.box [1, 2] [0, 1, 2] [0, 1, 2] ∧ c ∈ Mir.box [1, 2, 3] [0, 1, 2] [0, 1, 2] := by
  obtain ⟨h1, h2, h3, h4, h5, h6, h7⟩ := h
  have e1 : c.size = 1 ∨ c.size = 2 := by omega
  have e2 : c.limit = 0 ∨ c.limit = 1 ∨ c.limit = 2 := by omega
  have e3 : c.budget = 0 ∨ c.budget = 1 ∨ c.budget = 2 := by omega
  refine ⟨Mir.mem_box ?_ ?_ ?_ (Mir.menu_lens h5), Mir.mem_box ?_ ?_ ?_ (Mir.menu_lens h5)⟩
  · rcases e1 with e | e <;> rw [e] <;> decide
  · rcases e2 with e | e | e <;> rw [e] <;> decide
  · rcases e3 with e | e | e <;> rw [e] <;> decide
  · rcases e1 with e | e <;> rw [e] <;> decide
  · rcases e2 with e | e | e <;> rw [e] <;> decide
  · rcases e3 with e | e | e <;> rw [e] <;> decide
def spLaw (Z : List Addr) (K : PySem.W.Frag) : Sp := fun vs H Q _ => ∃ S v ns, Ok Z S H ∧ vs = [v] ∧ jScr K S v ns ∧ ∀ H', Q (.bl true) H'
def encS (x : Str) : PyData := .str x
theorem win_str (d : Mir.Dct Int) : win d = "manager" ↔ (Mir.look d []).isNone = true := by
  unfold win
  constructor
  · intro h
    by_cases e : (Mir.look d []).isNone = true
    · exact e
    · rw [if_neg e] at h
      exact absurd h (by decide)
  · intro h
    rw [if_pos h]
section
variable {Z : List Addr} {σ : L2.St} {S S' H S0 H0 : Hp} {α β : Type} {R : Rp α} {te ta tb tc : TE} {tr : TA} {v : V} {K : PySem.W.Frag} {D : Ends} {Q : VK}
theorem ev_notB {i j : Bool} (ha : EvR Z ta σ S jB i) (hb : EvR Z tb σ S jB j) : EvR Z (tOp rNotB ta tb) σ S jB (!decide (i = j)) :=
  ev_op ha hb fun S1 H v w Q s k hv hw q => ⟨i, j, hv, hw, q S1 H _ (.refl k) rfl⟩
theorem ev_tup0 : EvR Z (tTup tNil) σ S (jU R) [] := fun S1 H s k Q q => ⟨Nat.zero_le _, fun p hp => q _ _ _ (k.add hp) ⟨p, [], rfl, upd_same, .nil⟩⟩
theorem free_can : ∀ n : Nat, PyData.canLayAll0 ((List.replicate n ("free" : Str)).map encS) = true
  | 0 => rfl
  | n + 1 => by
    show ((encS "free").canLay0 && PyData.canLayAll0 ((List.replicate n ("free" : Str)).map encS)) = true
    rw [free_can n]
    decide +kernel
theorem free_dep : ∀ n : Nat, PyData.depthAll ((List.replicate n ("free" : Str)).map encS) ≤ 1
  | 0 => Nat.zero_le _
  | n + 1 => by
    show max 0 (PyData.depthAll ((List.replicate n ("free" : Str)).map encS)) ≤ 1
    exact Nat.max_le.mpr ⟨Nat.zero_le _, free_dep n⟩
theorem free_shaped (n : Nat) : SeqAt.shaped (.list ((List.replicate n ("free" : Str)).map encS)) = true := by
  show (PyData.canLayAll0 ((List.replicate n ("free" : Str)).map encS) && decide (PyData.depthAll ((List.replicate n ("free" : Str)).map encS) + 1 ≤ 64)) = true
  rw [free_can n]
  have := free_dep n
  rw [decide_eq_true (by omega)]
  rfl
theorem free_eqv : ∀ n : Nat, PyData.eqvAll ((List.replicate n ("free" : Str)).map encS) ((List.replicate n ("free" : Str)).map encS) = true
  | 0 => rfl
  | n + 1 => by
    show (PyData.eqv (encS "free") (encS "free") && PyData.eqvAll ((List.replicate n ("free" : Str)).map encS) ((List.replicate n ("free" : Str)).map encS)) = true
    rw [free_eqv n]
    decide +kernel
theorem dp_S (S : Hp) (v : V) (x : Str) (h : jS S v x) : Dp K S v (encS x) := by
  have h : v = .str x := h
  rw [h]
  exact .str x
theorem ev_eqFree {n : Nat} (ha : EvR Z ta σ S (jL jS) (List.replicate n "free")) (hb : EvR Z tb σ S (jL jS) (List.replicate n "free")) : EvR Z (tOp (rEqD K) ta tb) σ S jB true :=
  ev_op (z := true) (R'' := jB) ha hb fun S1 H v w Q s k hv hw q => ⟨_, _, dp_L (enc := encS) (fun v x h => dp_S H v x h) (Up.up k.le hv), dp_L (enc := encS) (fun v x h => dp_S H v x h) (Up.up k.le hw), free_shaped n, free_shaped n, q S1 H _ (.refl k) (congrArg V.bl (free_eqv n))⟩
theorem ev_max2 {a x : Int} (h : EvR Z te σ S jI x) : EvR Z (tCB (rMax K) (tCons (tLst (tCons (tC (.int a)) (tCons te tNil))) tNil)) σ S jI (max a x) := fun S1 H s k Q q =>
  h S1 H s k _ fun S2 H2 v t r => ⟨(by show 2 ≤ sizeLine; decide), fun p hp => ⟨p, [a, x], rfl, SqL.of (by
    have r : v = .int x := r
    rw [r]
    exact upd_same), (by show 0 < 2; decide), fun m hm hmax => q S2 _ _ (t.trans (t.ok.mk' hp)) (by
      have h1 := hmax a (by simp)
      have h2 := hmax x (by simp)
      simp only [List.mem_cons, List.not_mem_nil, or_false] at hm
      have e : m = max a x := by omega
      show V.int m = V.int (max a x)
      rw [e])⟩⟩
/-- int(kind == j or draw(box, 3) == 0) -/
theorem flag_run {b : Addr} {kd j : Int} (hk : σ[3]? = some (some (.int kd))) (hb : σ[1]? = some (some (.ref b))) (k : Stp Z S0 H0 S H) (h0 : H0 b = none) (bx : Bx Z S H b)
    (n : ∀ S' H' (f : Bool), Stp Z S0 H0 S' H' → Same S S' → Bx Z S' H' b → (∃ bb : Bool, f = (decide (kd = j) || bb)) → Q (.int (if f = true then 1 else 0)) H') :
    tCB (fun xs H Q => (∃ i, xs = [.int i] ∧ Q (.int i) H) ∨ ∃ k, xs = [.bl k] ∧ Q (.int (if k then 1 else 0)) H) (tCons (tOrV (tOp rEq (tVar 3) (tC (.int j))) (tOp rEq (tCall (spDraw Z) [] E0 (tCons (tVar 1) (tCons (tC (.int 3)) tNil))) (tC (.int 0)))) tNil) σ H Q := by
  refine u_cb (u_cons ?_)
  show (tOp rEq (tVar 3) (tC (.int j))) σ H _
  refine u_ev (ev_eqI (ev_var (x := kd) hk rfl) (ev_int (i := j))) k fun S1 H1 v1 t1 s1 t1' h1 => ⟨decide (kd = j), h1, ?_⟩
  cases e : decide (kd = j) with
  | true => exact iteT (u_nil (Or.inr ⟨true, rfl, n S1 H1 true t1 s1 (bx.step t1') ⟨true, by rw [e]; rfl⟩⟩))
  | false =>
    refine iteF (u_op (draw_run hb t1 h0 (bx.step t1') (ev_int (i := 3)) (by decide) fun S2 H2 i t2 s2 bx2 i0 i1 => u_c ⟨rfl, u_nil (Or.inr ⟨decide (V.int i = V.int 0), rfl, ?_⟩)⟩))
    exact n S2 H2 _ t2 (s1.trans s2) bx2 ⟨decide (V.int i = V.int 0), by rw [e]; rfl⟩
end
section
variable {Pg : Program} {w : World} {K : PySem.W.Frag} {mg : Str → Option Value} {base : Heap} {Z : List Addr} {f : Addr} {fd : FuncData}
abbrev N_law : List Str := ["_law_script", "_law_box_here", "_law_contract_here", "_law_kind", "_law_size", "_law_budget", "_law_limit", "_law_lengths", "_law_better"]
theorem sc_law : FnScope N_law ["_law_script"] (defScope s_law) := ⟨rfl, rfl, rfl, by decide +kernel, rfl, by decide +kernel, by decide +kernel⟩
theorem ok_law (F : FnP K "law" "law" s_law f fd) (T : Txt K mg) (c_law_box : Cal Pg w K mg base 2 (He.ga K "_law_box") ["_law_script", "_law_first", "_law_last"] (spBox Z K)) (c_law_contract : Cal Pg w K mg base 3 (He.ga K "_law_contract") ["_law_box_here", "_law_most"] (spLC Z K))
    (c_law_draw : Cal Pg w K mg base 1 (He.ga K "_law_draw") ["_law_box_here", "_law_many"] (spDraw Z)) (c_Contract_init : Cal Pg w K mg base 1 (He.ma K (He.ga K "Contract") "__init__") ["self", "size", "limit", "lengths", "budget"] (spConI Z K))
    (c_is_better : Cal Pg w K mg base 1 (He.ga K "is_better") ["one", "other"] (spBetter Z K)) (c_Game_init : Cal Pg w K mg base 8 (He.ma K (CG K) "__init__") ["self", "contract"] (spGameI Pg w Z K)) (c_Game_winner : Cal Pg w K mg base 2 (He.ma K (CG K) "winner") ["self"] (spWinner Pg w Z K))
    (c_law_ranks : Cal Pg w K mg base 4 (He.ga K "_law_ranks") ["_law_contract_here"] (spLRanks Pg w Z K)) (c_contract_heap : Cal Pg w K mg base 12 (He.ga K "contract_heap") ["contract"] (spCH Z K)) (c_ManagedHeap_words : Cal Pg w K mg base 1 (He.ma K (He.ga K "ManagedHeap") "words") ["self"] (spWords Z K)) :
    FnOk Pg w K mg base CX0 13 f fd ["_law_script"] (spLaw Z K) := by
  refine F.ok sc_law (fun vs H Q E ⟨S, v, ns, _, e, _⟩ => by
    rw [e]
    rfl) (fun cdv A outer s H vs Q E hr h => ⟨_, PSs.nox (pss_cons (ps_set (i := 1) sc_law.nd rfl (by first | exact Or.inl rfl | exact Or.inr rfl) (pe_call c_law_box.ok (hr.mono (by decide)) rfl T.g_law_box c_law_box.kp c_law_box.bd .nil pass0 (pa_cons (pv 0) (pa_cons pe_int (pa_cons pe_int pa_nil)))))
      (pss_cons (ps_set (i := 2) sc_law.nd rfl (by first | exact Or.inl rfl | exact Or.inr rfl) (pe_call c_law_contract.ok (hr.mono (by decide)) rfl T.g_law_contract c_law_contract.kp c_law_contract.bd .nil pass0 (pa_cons (pv 1) (pa_cons pe_int pa_nil))))
      (pss_cons (ps_set (i := 3) sc_law.nd rfl (by first | exact Or.inl rfl | exact Or.inr rfl) (pe_call c_law_draw.ok (hr.mono (by decide)) rfl T.g_law_draw c_law_draw.kp c_law_draw.bd .nil pass0 (pa_cons (pv 1) (pa_cons pe_int pa_nil))))
      (pss_cons (ps_set (i := 4) sc_law.nd rfl (by first | exact Or.inl rfl | exact Or.inr rfl) (pe_op op_add (kFld K (pv 2)) (pe_callTy call_int1 rfl T.f_int (by decide +kernel) (pa_cons (pe_or (pe_cmpR op_eq (pv 3) pe_int (nomark _)) (pe_one (pe_cmpR op_eq (pe_call c_law_draw.ok (hr.mono (by decide)) rfl T.g_law_draw c_law_draw.kp c_law_draw.bd .nil pass0 (pa_cons (pv 1) (pa_cons pe_int pa_nil))) pe_int (nomark _)))) pa_nil))))
      (pss_cons (ps_set (i := 5) sc_law.nd rfl (by first | exact Or.inl rfl | exact Or.inr rfl) (pe_callB (kMin K rfl) rfl T.f_min (by decide +kernel) (pa_cons (pe_lst (pa_cons pe_int (pa_cons (pe_op op_add (kFld K (pv 2)) (pe_callTy call_int1 rfl T.f_int (by decide +kernel) (pa_cons (pe_or (pe_cmpR op_eq (pv 3) pe_int (nomark _)) (pe_one (pe_cmpR op_eq (pe_call c_law_draw.ok (hr.mono (by decide)) rfl T.g_law_draw c_law_draw.kp c_law_draw.bd .nil pass0 (pa_cons (pv 1) (pa_cons pe_int pa_nil))) pe_int (nomark _)))) pa_nil))) pa_nil))) pa_nil)))
      (pss_cons (ps_set (i := 6) sc_law.nd rfl (by first | exact Or.inl rfl | exact Or.inr rfl) (pe_callB (kMax K rfl) rfl T.f_max (by decide +kernel) (pa_cons (pe_lst (pa_cons pe_int (pa_cons (pe_op op_sub (kFld K (pv 2)) (pe_callTy call_int1 rfl T.f_int (by decide +kernel) (pa_cons (pe_or (pe_cmpR op_eq (pv 3) pe_int (nomark _)) (pe_one (pe_cmpR op_eq (pe_call c_law_draw.ok (hr.mono (by decide)) rfl T.g_law_draw c_law_draw.kp c_law_draw.bd .nil pass0 (pa_cons (pv 1) (pa_cons pe_int pa_nil))) pe_int (nomark _)))) pa_nil))) pa_nil))) pa_nil)))
      (pss_cons (ps_set (i := 7) sc_law.nd rfl (by first | exact Or.inl rfl | exact Or.inr rfl) (pe_slice (kSl K) (kFld K (pv 2)) po_none (po_some (pe_callB (kMax K rfl) rfl T.f_max (by decide +kernel) (pa_cons (pe_lst (pa_cons pe_int (pa_cons (pe_op op_sub (pe_callB (kLen K) rfl T.f_len PySem.boot_len (pa_cons (kFld K (pv 2)) pa_nil)) (pe_callTy call_int1 rfl T.f_int (by decide +kernel) (pa_cons (pe_cmpR op_eq (pv 3) pe_int (nomark _)) pa_nil))) pa_nil))) pa_nil)))))
      (pss_cons (ps_set (i := 8) sc_law.nd rfl (by first | exact Or.inl rfl | exact Or.inr rfl) (pe_make T.k_Contract c_Contract_init.ok (hr.mono (by decide)) rfl T.g_Contract c_Contract_init.bd .nil pass0 (pa_cons (pv 4) (pa_cons (pv 6) (pa_cons (pv 7) (pa_cons (pv 5) pa_nil))))))
      (pss_cons (ps_if (pt_cmpR op_notBl (pe_call c_is_better.ok (hr.mono (by decide)) rfl T.g_is_better c_is_better.kp c_is_better.bd .nil pass0 (pa_cons (pv 8) (pa_cons (pv 2) pa_nil))) pe_bl (nomark _)) (pss_one (ps_ret pe_bl)) pss_nil)
      (pss_cons (ps_if (pt_cmpR op_eq (pe_meth0 (pe_make T.k_Game c_Game_init.ok (hr.mono (by decide)) rfl T.g_Game c_Game_init.bd .nil pass0 (pa_cons (pv 2) pa_nil)) T.c_Game T.m_Game_winner c_Game_winner.ok (hr.mono (by decide)) c_Game_winner.bd .nil pass0) pe_str (nomark _)) (pss_cons (ps_if (PW.pt (pw_or (pt_cmpR op_ne (pe_meth0 (pe_make T.k_Game c_Game_init.ok (hr.mono (by decide)) rfl T.g_Game c_Game_init.bd .nil pass0 (pa_cons (pv 8) pa_nil)) T.c_Game T.m_Game_winner c_Game_winner.ok (hr.mono (by decide)) c_Game_winner.bd .nil pass0) pe_str (nomark _)) (pw_or1 (pt_cmp (kNin Pg w hr (pe_tup pa_nil) (pe_call c_law_ranks.ok (hr.mono (by decide)) rfl T.g_law_ranks c_law_ranks.kp c_law_ranks.bd .nil pass0 (pa_cons (pv 8) pa_nil))))))) (pss_one (ps_ret pe_bl)) pss_nil)
      (pss_one (ps_ret (pe_cmpR (kEqD K hr.units) (pe_meth0 (pe_call c_contract_heap.ok (hr.mono (by decide)) rfl T.g_contract_heap c_contract_heap.kp c_contract_heap.bd .nil pass0 (pa_cons (pv 8) pa_nil)) T.c_ManagedHeap T.m_ManagedHeap_words c_ManagedHeap_words.ok (hr.mono (by decide)) c_ManagedHeap_words.bd .nil pass0) (pe_op op_rep (pe_lst (pa_cons pe_str pa_nil)) (pv 4)) (nomark _))))) pss_nil)
      (pss_one (ps_ret (pe_cmp (kNin Pg w hr (pe_tup pa_nil) (pe_call c_law_ranks.ok (hr.mono (by decide)) rfl T.g_law_ranks c_law_ranks.kp c_law_ranks.bd .nil pass0 (pa_cons (pv 2) pa_nil)))))))))))))))), ?_⟩)
  obtain ⟨S, v, ns, k, rfl, hs, q⟩ := h
  -- the box
  refine u_set ⟨v, rfl, S, ns, 0, 3, k, ⟨v, _, rfl, hs, _, _, rfl, rfl, _, _, rfl, rfl, rfl⟩, ⟨by decide, by decide, by decide, by decide⟩, fun S1 H1 b b0 t1 bx1 => ?_⟩
  -- the contract
  refine u_set ⟨.ref b, rfl, S1, b, 2, t1.ok, rfl, by decide, bx1, fun S2 H2 vc c t2' bx2 hc hdr => ?_⟩
  have bz : ¬ b ∈ Z := by
    obtain ⟨_, _, _, o, _⟩ := bx1
    exact o.nz
  have t2 := t1.over b0 bz t2'
  obtain ⟨hc1, hc2⟩ := drawn_mem hdr
  obtain ⟨g1, g2, g3, g4⟩ := Mir.winT_mem hc2
  -- the kind
  refine u_set (draw_run (S0 := S) (H0 := H) (b := b) rfl t2 b0 bx2 (ev_int (i := 4)) (by decide) fun S3 H3 kd t3 s3 bx3 k0 k1 => ?_)
  have hkd : kd ∈ [(0 : Int), 1, 2, 3] := by
    have e : kd = 0 ∨ kd = 1 ∨ kd = 2 ∨ kd = 3 := by omega
    rcases e with e | e | e | e <;> rw [e] <;> decide
  have hc3 : jCon K S3 vc c := Up.up s3 hc
  -- the size
  refine u_set (u_op (u_ev (ev_size T (ev_var (x := c) rfl hc3)) t3 fun S4 H4 v4 t4 s4 t4' h4 => ?_))
  refine flag_run (S0 := S) (H0 := H) (kd := kd) (b := b) rfl rfl t4 b0 (bx3.step t4') fun S5 H5 f1 t5 s5 bx5 hf1 => ?_
  refine ⟨c.size, _, h4, rfl, ?_⟩
  -- the budget
  refine u_set (u_cb (u_cons (u_cons (u_c (u_cons (u_op (u_ev (ev_budget T (ev_var (x := c) rfl (Up.up (s4.trans s5) hc3))) t5 fun S6 H6 v6 t6 s6 t6' h6 => ?_)))))))
  refine flag_run (S0 := S) (H0 := H) (kd := kd) (b := b) rfl rfl t6 b0 (bx5.step t6') fun S7 H7 f2 t7 s7 bx7 hf2 => ?_
  refine ⟨c.budget, _, h6, rfl, u_nil ⟨(by show 2 ≤ sizeLine; decide), fun p1 hp1 => u_nil ⟨p1, [2, c.budget + (if f2 = true then 1 else 0)], rfl, SqL.of upd_same, (by show 0 < 2; decide), fun m2 hm2 hmin => ?_⟩⟩⟩
  have hm2' : m2 = min 2 (c.budget + (if f2 = true then 1 else 0)) := by
    have h1 := hmin 2 (by simp)
    have h2 := hmin (c.budget + (if f2 = true then 1 else 0)) (by simp)
    simp only [List.mem_cons, List.not_mem_nil, or_false] at hm2
    omega
  have t8' := t7.ok.mk' (o := .lst [.int 2, .int (c.budget + (if f2 = true then 1 else 0))]) hp1
  have t8 := t7.trans t8'
  have bx8 := bx7.step t8'
  have s38 : Same S3 S7 := s4.trans (s5.trans (s6.trans s7))
  -- the limit
  refine u_set (u_cb (u_cons (u_cons (u_c (u_cons (u_op (u_ev (ev_limit T (ev_var (x := c) rfl (Up.up s38 hc3))) t8 fun S9 H9 v9 t9 s9 t9' h9 => ?_)))))))
  refine flag_run (S0 := S) (H0 := H) (kd := kd) (b := b) rfl rfl t9 b0 (bx8.step t9') fun S10 H10 f3 t10 s10 bx10 hf3 => ?_
  refine ⟨c.limit, _, h9, rfl, u_nil ⟨(by show 2 ≤ sizeLine; decide), fun p2 hp2 => u_nil ⟨p2, [0, c.limit - (if f3 = true then 1 else 0)], rfl, SqL.of upd_same, (by show 0 < 2; decide), fun m3 hm3 hmax => ?_⟩⟩⟩
  have hm3' : m3 = max 0 (c.limit - (if f3 = true then 1 else 0)) := by
    have h1 := hmax 0 (by simp)
    have h2 := hmax (c.limit - (if f3 = true then 1 else 0)) (by simp)
    simp only [List.mem_cons, List.not_mem_nil, or_false] at hm3
    omega
  have t11 := t10.trans (t10.ok.mk' (o := .lst [.int 0, .int (c.limit - (if f3 = true then 1 else 0))]) hp2)
  have s311 : Same S3 S10 := s38.trans (s9.trans s10)
  have hc11 : jCon K S10 vc c := Up.up s311 hc3
  have hl1 : 1 ≤ c.lengths.length := by
    have h := Mir.menu_lens hdr.2.2.2.2.1
    unfold Mir.lens at h
    simp only [List.mem_cons, List.not_mem_nil, or_false] at h
    rcases h with e | e | e | e | e | e | e <;> rw [e] <;> decide
  -- the lengths
  have hM : (max 1 ((c.lengths.length : Int) - (if decide (kd = 3) = true then 1 else 0))) = (((max 1 ((c.lengths.length : Int) - (if decide (kd = 3) = true then 1 else 0))).toNat : Nat) : Int) := by omega
  have hM2 : (max 1 ((c.lengths.length : Int) - (if decide (kd = 3) = true then 1 else 0))).toNat ≤ c.lengths.length := by
    have : (0 : Int) ≤ (if decide (kd = 3) = true then 1 else 0) := by split <;> decide
    omega
  refine q_set (ev_slice (R := jI) (K := K) (ev_lengths T (ev_var (x := c) rfl hc11)) eo_none (eo_some (ev_max2 (a := 1) (ev_II (g := fun i j => i - j) (ev_len (ev_lengths T (ev_var (x := c) rfl hc11))) (ev_intB (ev_eqI (ev_var (x := kd) rfl rfl) (ev_int (i := 3))))))) 0 (max 1 ((c.lengths.length : Int) - (if decide (kd = 3) = true then 1 else 0))).toNat fun vs hv => ?_) t11 fun S12 H12 v12 t12 s12 t12' h12 => ?_
  · rw [hM]
    exact cut_take _ vs (by omega)
  rw [List.drop_zero] at h12
  have hc12 := Up.up s12 hc11
  -- the better contract
  refine q_set (ev_make (pre := fun _ => True) (post := fun S fs (p : Int × Int × List Int × Int × Unit) => postCon S fs ⟨p.1, p.2.1, p.2.2.1, p.2.2.2.1⟩) (x := (c.size + (if f1 = true then 1 else 0), m3, c.lengths.take (max 1 ((c.lengths.length : Int) - (if decide (kd = 3) = true then 1 else 0))).toNat, m2, ())) (fun S S' fs x e ⟨l, h1, h2, h3, h4, h5⟩ => ⟨l, h1, h2, h3, h4, Up.up e h5⟩)
    (ea_cons (ev_var (R := jI) rfl rfl) (ea_cons (ev_var (R := jI) rfl rfl) (ea_cons (ev_var rfl h12) (ea_cons (ev_var (R := jI) rfl rfl) ea_nil)))) trivial) t12 fun S13 H13 vb t13 s13 t13' h13 => ?_
  have hb13 : jCon K S13 vb (Mir.bet c kd f1 f2 f3) := by
    have h := jCon_of h13
    rw [hm2', hm3'] at h
    exact h
  have hc13 := Up.up s13 hc12
  obtain ⟨bb1, e1⟩ := hf1
  obtain ⟨bb2, e2⟩ := hf2
  obtain ⟨bb3, e3⟩ := hf3
  have hbet : Mir.bet c kd f1 f2 f3 ∈ Mir.bets c := by
    rw [e1, e2, e3]
    exact Mir.bet_mem hkd
  obtain ⟨q1, q2, q3, q4⟩ := Mir.fin2_at hc1 hbet
  obtain ⟨y1, y2, y3, y4⟩ := Mir.winT_mem (Mir.inC_mem q1)
  have hsz : (Mir.bet c kd f1 f2 f3).size = c.size + (if f1 = true then 1 else 0) := rfl
  have hsz2 : 0 ≤ (Mir.bet c kd f1 f2 f3).size ∧ (Mir.bet c kd f1 f2 f3).size ≤ 1000 := by
    have h := q1
    unfold Mir.inC at h
    simp only [Bool.and_eq_true, List.contains_iff_mem, List.mem_cons, List.not_mem_nil, or_false] at h
    omega
  generalize Mir.bet c kd f1 f2 f3 = bt at hb13 q1 q2 q3 q4 y1 y2 y3 y4 hsz hsz2
  -- is it better
  refine q_if (et_test (ev_notB (ev_call (x := (bt, c, ())) (ea_cons (ev_var rfl hb13) (ea_cons (ev_var rfl hc13) ea_nil)) q3) (ev_bl (i := true)))) t13 (fun hb S14 H14 t14 s14 t14' => ?_) (fun hb S14 H14 t14 s14 t14' => ?_)
  · have hb : (!decide (Mir.isBetter bt c = true)) = true := hb
    rw [q2] at hb
    cases hb
  have hc14 := Up.up s14 hc13
  have hb14 := Up.up s14 hb13
  -- who wins
  have gm : ∀ {σ : L2.St} {S : Hp} {i : Nat} {x : V} {d : Mir.Con} (_ : σ[i]? = some (some x)) (_ : jCon K S x d) (_ : Mir.gamePre d = true), EvR Z (tMake (CG K) (spGameI Pg w Z K) [] E0 (tCons (tVar i) tNil)) σ S (jGame Pg w K) (Mir.game d) := fun {σ S i x d} h1 h2 h3 =>
    ev_make (pre := fun p => Mir.gamePre p.1 = true) (post := fun S fs p => postGame Pg w S fs (Mir.game p.1)) (x := (d, ())) (fun S S' fs x e h => postGame_up e h) (ea_cons (ev_var h1 h2) ea_nil) h3
  have wn : ∀ {σ : L2.St} {S : Hp} {i : Nat} {x : V} {d : Mir.Con} (_ : σ[i]? = some (some x)) (_ : jCon K S x d) (_ : Mir.gamePre d = true), EvR Z (tMeth (CG K) "winner" (spWinner Pg w Z K) [] E0 (tMake (CG K) (spGameI Pg w Z K) [] E0 (tCons (tVar i) tNil)) tNil) σ S jS (win (Mir.game d)) := fun {σ S i x d} h1 h2 h3 =>
    ev_meth (R := jGame Pg w K) (x := Mir.game d) (y := ()) (f := fun p => win p.1) (gm h1 h2 h3) (fun S1 v ⟨a, dx, fs, h1, h2, rv, h3, h4, h5, h6⟩ => ⟨a, dx, fs, h1, h2, h5⟩) ea_nil trivial
  refine q_if (et_test (ev_eqS (wn rfl hc14 g1) (ev_str (i := "manager")))) t14 (fun hb S15 H15 t15 s15 t15' => ?_) (fun hb S15 H15 t15 s15 t15' => ?_)
  · have hw : win (Mir.game c) = "manager" := of_decide_eq_true hb
    have hwc : Mir.winT c = true := by rw [← g3]; exact (win_str _).mp hw
    have hwb := q4 hwc
    have hwm : win (Mir.game bt) = "manager" := (win_str _).mpr (by rw [y3]; exact hwb)
    have hb15 := Up.up s15 hb14
    refine q_if (et_or (et_test (ev_neS (wn rfl hb15 y1) (ev_str (i := "manager")))) fun _ => et_B (ev_nin (L := []) ev_tup0 (ev_call (x := (bt, ())) (ea_cons (ev_var rfl hb15) ea_nil) y2))) t15 (fun hb S16 H16 t16 s16 t16' => ?_) (fun hb S16 H16 t16 s16 t16' => ?_)
    · have hb : ((!decide (win (Mir.game bt) = "manager")) || Mir.has (Mir.lRanks bt) []) = true := hb
      rw [hwm, y4, hwb] at hb
      cases hb
    · have hb16 := Up.up s16 hb15
      refine q_ret (ev_eqFree (n := bt.size.toNat) (ev_meth (R := jHeap K) (x := bt.size) (y := ()) (f := fun p => List.replicate p.1.toNat ("free" : Str)) (ev_call (x := (bt, ())) (ea_cons (ev_var rfl hb16) ea_nil) ⟨y1, hwm⟩) (fun S1 v ⟨a, dx, fs, h1, h2, mv, sv, h3, h4, h5, h6⟩ => ⟨a, dx, fs, h1, h2, h5⟩) ea_nil hsz2)
        ((ev_rep (xs := [("free" : Str)]) (n := bt.size) (ev_lst (el_cons (ev_str (i := "free")) el_nil) (by simp)) (ev_var rfl (by rw [hsz]; rfl)) ⟨by omega, hsz2.2⟩ (by simp)).is (by simp))) t16 fun S17 H17 v17 t17 h17 => ?_
      have h17 : v17 = .bl true := h17
      rw [h17]
      exact q H17
  · have hw : ¬ win (Mir.game c) = "manager" := of_decide_eq_false hb
    have hwc : Mir.winT c = false := by
      cases e : Mir.winT c with
      | false => rfl
      | true => exact absurd ((win_str _).mpr (by rw [g3]; exact e)) hw
    refine q_ret (ev_nin (L := []) ev_tup0 (ev_call (x := (c, ())) (ea_cons (ev_var rfl (Up.up s15 hc14)) ea_nil) g2)) t15 fun S16 H16 v16 t16 h16 => ?_
    have h16 : v16 = .bl (Mir.has (Mir.lRanks c) []) := h16
    rw [h16, g4, hwc]
    exact q H16
end
end Hg
end Z_D14

section Z_D15
set_option maxHeartbeats 4000000
/-! All promises joined (printed by genend.py). -/
namespace Hg
open PySem PySem.Spec PyProof.Rows L2
abbrev cs (K : PySem.W.Frag) : List (Addr × Addr) := tf.map (He.cT K)
abbrev ZZ (K : PySem.W.Frag) : List Addr := (cs K).map (·.2)
theorem code_is {K : PySem.W.Frag} {x q : Str} {st : Stmt} {p : Str × Option Str} {fd : FuncData} (F : FnP K x q st (He.fAd K p) fd) {c : Addr} (e : fd.code = .ref c) : He.codeOf K p = c := by
  obtain ⟨oc, od, dV, kV, doc, pm, an, cdv, ct, osl, rfl, lk, _⟩ := F.ex
  exact He.codeOf_eq lk e
theorem tab_of {base : Heap} {mg : Str → Option Value} {c P : Addr} (h : LamX.TabB base mg c P) : GxR.TabB base mg c P := ⟨h.code, h.bm, h.gP⟩
theorem joined {Pg : Program} {w : World} {K : PySem.W.Frag} {h : Heap} {mg : Str → Option Value} (X : K.In h) (G : h.Ns mainGlobals mg) (c : Says h K) :
    ∃ fd : FuncData, (∀ (s : Shared) (u : Value), BindsTo s fd ⟨[u], []⟩ [("_law_script", u)]) ∧ ∀ base : Heap, K.In base → base.Ns mainGlobals mg → (∀ p ∈ cs K, LamX.TabB base mg p.1 p.2) → FnOk Pg w K mg base CX0 13 (He.ga K "law") fd ["_law_script"] (spLaw (ZZ K) K) := by
  have T := txt_of X G c.d
  obtain ⟨fd_live_cells, F_live_cells⟩ := c.d.def_ 2 (d := d_live_cells) rfl
  have b_live_cells : Binds K fd_live_cells ["layout"] [] := F_live_cells.bindsN fun _ _ _ _ _ _ us hl => match us, hl with | [_], _ => rfl
  obtain ⟨fd_requestable, F_requestable⟩ := c.d.def_ 11 (d := d_requestable) rfl
  have b_requestable : Binds K fd_requestable ["contract", "layout"] [] := F_requestable.bindsN fun _ _ _ _ _ _ us hl => match us, hl with | [_, _], _ => rfl
  obtain ⟨fd_without, F_without⟩ := c.d.def_ 5 (d := d_without) rfl
  have b_without : Binds K fd_without ["layout", "index"] [] := F_without.bindsN fun _ _ _ _ _ _ us hl => match us, hl with | [_, _], _ => rfl
  obtain ⟨fd_with_block, F_with_block⟩ := c.d.def_ 4 (d := d_with_block) rfl
  have b_with_block : Binds K fd_with_block ["layout", "start", "length"] [] := F_with_block.bindsN fun _ _ _ _ _ _ us hl => match us, hl with | [_, _, _], _ => rfl
  obtain ⟨fd_placed, F_placed⟩ := c.d.def_ 6 (d := d_placed) rfl
  have b_placed : Binds K fd_placed ["layout", "starts"] [] := F_placed.bindsN fun _ _ _ _ _ _ us hl => match us, hl with | [_, _], _ => rfl
  obtain ⟨fd_relocated, F_relocated⟩ := c.d.def_ 7 (d := d_relocated) rfl
  have b_relocated : Binds K fd_relocated ["layout", "starts"] [] := F_relocated.bindsN fun _ _ _ _ _ _ us hl => match us, hl with | [_, _], _ => rfl
  obtain ⟨fd_cost, F_cost⟩ := c.d.def_ 9 (d := d_cost) rfl
  have b_cost : Binds K fd_cost ["layout", "starts"] [] := F_cost.bindsN fun _ _ _ _ _ _ us hl => match us, hl with | [_, _], _ => rfl
  obtain ⟨fd_is_layout, F_is_layout⟩ := c.d.def_ 1 (d := d_is_layout) rfl
  have b_is_layout : Binds K fd_is_layout ["size", "layout"] [] := F_is_layout.bindsN fun _ _ _ _ _ _ us hl => match us, hl with | [_, _], _ => rfl
  obtain ⟨fd_fits, F_fits⟩ := c.d.def_ 3 (d := d_fits) rfl
  have b_fits : Binds K fd_fits ["size", "layout", "start", "length"] [] := F_fits.bindsN fun _ _ _ _ _ _ us hl => match us, hl with | [_, _, _, _], _ => rfl
  obtain ⟨fd_is_relocation, F_is_relocation⟩ := c.d.def_ 8 (d := d_is_relocation) rfl
  have b_is_relocation : Binds K fd_is_relocation ["size", "layout", "starts"] [] := F_is_relocation.bindsN fun _ _ _ _ _ _ us hl => match us, hl with | [_, _, _], _ => rfl
  obtain ⟨fd_positions, F_positions⟩ := c.d.def_ 10 (d := d_positions) rfl
  have b_positions : Binds K fd_positions ["contract"] [] := F_positions.bindsN fun _ _ _ _ _ _ us hl => match us, hl with | [_], _ => rfl
  obtain ⟨fd_starts_within, F_starts_within⟩ := c.d.def_ 12 (d := d_starts_within) rfl
  have b_starts_within : Binds K fd_starts_within ["size", "budget", "layout"] [] := F_starts_within.bindsN fun _ _ _ _ _ _ us hl => match us, hl with | [_, _, _], _ => rfl
  obtain ⟨fd_relocations, F_relocations⟩ := c.d.def_ 13 (d := d_relocations) rfl
  have b_relocations : Binds K fd_relocations ["contract", "layout"] [] := F_relocations.bindsN fun _ _ _ _ _ _ us hl => match us, hl with | [_, _], _ => rfl
  obtain ⟨fd_reply_key, F_reply_key⟩ := c.d.def_ 15 (d := d_reply_key) rfl
  have b_reply_key : Binds K fd_reply_key ["reply"] [] := F_reply_key.bindsN fun _ _ _ _ _ _ us hl => match us, hl with | [_], _ => rfl
  obtain ⟨fd_after_reply, F_after_reply⟩ := c.d.def_ 16 (d := d_after_reply) rfl
  have b_after_reply : Binds K fd_after_reply ["layout", "length", "reply"] [] := F_after_reply.bindsN fun _ _ _ _ _ _ us hl => match us, hl with | [_, _, _], _ => rfl
  obtain ⟨fd_replies, F_replies⟩ := c.d.def_ 14 (d := d_replies) rfl
  have b_replies : Binds K fd_replies ["contract", "layout", "length"] [] := F_replies.bindsN fun _ _ _ _ _ _ us hl => match us, hl with | [_, _, _], _ => rfl
  obtain ⟨fd_is_better, F_is_better⟩ := c.d.def_ 22 (d := d_is_better) rfl
  have b_is_better : Binds K fd_is_better ["one", "other"] [] := F_is_better.bindsN fun _ _ _ _ _ _ us hl => match us, hl with | [_, _], _ => rfl
  obtain ⟨fd_Contract_init, F_Contract_init⟩ := c.d.def_ 0 (d := d_Contract_init) rfl
  have b_Contract_init : Binds K fd_Contract_init ["self", "size", "limit", "lengths", "budget"] [] := F_Contract_init.bindsN fun _ _ _ _ _ _ us hl => match us, hl with | [_, _, _, _, _], _ => rfl
  obtain ⟨fd_Options_init, F_Options_init⟩ := c.d.def_ 17 (d := d_Options_init) rfl
  have b_Options_init : Binds K fd_Options_init ["self", "contract", "layout"] [] := F_Options_init.bindsN fun _ _ _ _ _ _ us hl => match us, hl with | [_, _, _], _ => rfl
  obtain ⟨fd_Options_forced, F_Options_forced⟩ := c.d.def_ 18 (d := d_Options_forced) rfl
  have b_Options_forced : Binds K fd_Options_forced ["self", "won"] [] := F_Options_forced.bindsN fun _ _ _ _ _ _ us hl => match us, hl with | [_, _], _ => rfl
  obtain ⟨fd_Game_rank, F_Game_rank⟩ := c.d.def_ 20 (d := d_Game_rank) rfl
  have b_Game_rank : Binds K fd_Game_rank ["self", "layout"] [] := F_Game_rank.bindsN fun _ _ _ _ _ _ us hl => match us, hl with | [_, _], _ => rfl
  obtain ⟨fd_Game_winner, F_Game_winner⟩ := c.d.def_ 21 (d := d_Game_winner) rfl
  have b_Game_winner : Binds K fd_Game_winner ["self"] [] := F_Game_winner.bindsN fun _ _ _ _ _ _ us hl => match us, hl with | [_], _ => rfl
  obtain ⟨fd_Game_init, F_Game_init⟩ := c.d.def_ 19 (d := d_Game_init) rfl
  have b_Game_init : Binds K fd_Game_init ["self", "contract"] [] := F_Game_init.bindsN fun _ _ _ _ _ _ us hl => match us, hl with | [_, _], _ => rfl
  obtain ⟨fd_Store_init, F_Store_init⟩ := c.d.def_ 23 (d := d_Store_init) rfl
  have b_Store_init : Binds K fd_Store_init ["self"] [] := F_Store_init.bindsN fun _ _ _ _ _ _ us hl => match us, hl with | [_], _ => rfl
  obtain ⟨fd_State_init, F_State_init⟩ := c.d.def_ 25 (d := d_State_init) rfl
  have b_State_init : Binds K fd_State_init ["self", "store", "starts", "cursor"] [] := F_State_init.bindsN fun _ _ _ _ _ _ us hl => match us, hl with | [_, _, _, _], _ => rfl
  obtain ⟨fd_ManagedHeap_init, F_ManagedHeap_init⟩ := c.d.def_ 26 (d := d_ManagedHeap_init) rfl
  have b_ManagedHeap_init : Binds K fd_ManagedHeap_init ["self", "manager"] [] := F_ManagedHeap_init.bindsN fun _ _ _ _ _ _ us hl => match us, hl with | [_, _], _ => rfl
  obtain ⟨fd_StrategyManager_init, F_StrategyManager_init⟩ := c.d.def_ 24 (d := d_StrategyManager_init) rfl
  have b_StrategyManager_init : Binds K fd_StrategyManager_init ["self", "contract"] [] := F_StrategyManager_init.bindsN fun _ _ _ _ _ _ us hl => match us, hl with | [_, _], _ => rfl
  obtain ⟨fd_contract_heap, F_contract_heap⟩ := c.d.def_ 28 (d := d_contract_heap) rfl
  have b_contract_heap : Binds K fd_contract_heap ["contract"] [] := F_contract_heap.bindsN fun _ _ _ _ _ _ us hl => match us, hl with | [_], _ => rfl
  obtain ⟨fd_ManagedHeap_words, F_ManagedHeap_words⟩ := c.d.def_ 27 (d := d_ManagedHeap_words) rfl
  have b_ManagedHeap_words : Binds K fd_ManagedHeap_words ["self"] [] := F_ManagedHeap_words.bindsN fun _ _ _ _ _ _ us hl => match us, hl with | [_], _ => rfl
  obtain ⟨fd_law_cell, F_law_cell⟩ := c.d.def_ 29 (d := d_law_cell) rfl
  have b_law_cell : Binds K fd_law_cell ["_law_script", "_law_k"] [] := F_law_cell.bindsN fun _ _ _ _ _ _ us hl => match us, hl with | [_, _], _ => rfl
  obtain ⟨fd_law_row, F_law_row⟩ := c.d.def_ 30 (d := d_law_row) rfl
  have b_law_row : Binds K fd_law_row ["_law_cell_here", "_law_k", "_law_many"] [] := F_law_row.bindsN fun _ _ _ _ _ _ us hl => match us, hl with | [_, _, _], _ => rfl
  obtain ⟨fd_law_box, F_law_box⟩ := c.d.def_ 31 (d := d_law_box) rfl
  have b_law_box : Binds K fd_law_box ["_law_script", "_law_first", "_law_last"] [] := F_law_box.bindsN fun _ _ _ _ _ _ us hl => match us, hl with | [_, _, _], _ => rfl
  obtain ⟨fd_law_draw, F_law_draw⟩ := c.d.def_ 32 (d := d_law_draw) rfl
  have b_law_draw : Binds K fd_law_draw ["_law_box_here", "_law_many"] [] := F_law_draw.bindsN fun _ _ _ _ _ _ us hl => match us, hl with | [_, _], _ => rfl
  obtain ⟨fd_law_contract, F_law_contract⟩ := c.d.def_ 33 (d := d_law_contract) rfl
  have b_law_contract : Binds K fd_law_contract ["_law_box_here", "_law_most"] [] := F_law_contract.bindsN fun _ _ _ _ _ _ us hl => match us, hl with | [_, _], _ => rfl
  obtain ⟨fd_law_live, F_law_live⟩ := c.d.def_ 34 (d := d_law_live) rfl
  have b_law_live : Binds K fd_law_live ["_law_layout"] [] := F_law_live.bindsN fun _ _ _ _ _ _ us hl => match us, hl with | [_], _ => rfl
  obtain ⟨fd_law_allowed, F_law_allowed⟩ := c.d.def_ 37 (d := d_law_allowed) rfl
  have b_law_allowed : Binds K fd_law_allowed ["_law_contract_here", "_law_layout"] [] := F_law_allowed.bindsN fun _ _ _ _ _ _ us hl => match us, hl with | [_, _], _ => rfl
  obtain ⟨fd_law_apart, F_law_apart⟩ := c.d.def_ 35 (d := d_law_apart) rfl
  have b_law_apart : Binds K fd_law_apart ["_law_size", "_law_blocks"] [] := F_law_apart.bindsN fun _ _ _ _ _ _ us hl => match us, hl with | [_, _], _ => rfl
  obtain ⟨fd_law_positions, F_law_positions⟩ := c.d.def_ 36 (d := d_law_positions) rfl
  have b_law_positions : Binds K fd_law_positions ["_law_contract_here"] [] := F_law_positions.bindsN fun _ _ _ _ _ _ us hl => match us, hl with | [_], _ => rfl
  obtain ⟨fd_law_without, F_law_without⟩ := c.d.def_ 40 (d := d_law_without) rfl
  have b_law_without : Binds K fd_law_without ["_law_layout", "_law_index"] [] := F_law_without.bindsN fun _ _ _ _ _ _ us hl => match us, hl with | [_, _], _ => rfl
  obtain ⟨fd_law_after, F_law_after⟩ := c.d.def_ 39 (d := d_law_after) rfl
  have b_law_after : Binds K fd_law_after ["_law_layout", "_law_length", "_law_reply"] [] := F_law_after.bindsN fun _ _ _ _ _ _ us hl => match us, hl with | [_, _, _], _ => rfl
  obtain ⟨fd_law_replies, F_law_replies⟩ := c.d.def_ 38 (d := d_law_replies) rfl
  have b_law_replies : Binds K fd_law_replies ["_law_contract_here", "_law_layout", "_law_length"] [] := F_law_replies.bindsN fun _ _ _ _ _ _ us hl => match us, hl with | [_, _, _], _ => rfl
  obtain ⟨fd_law_forced, F_law_forced⟩ := c.d.def_ 43 (d := d_law_forced) rfl
  have b_law_forced : Binds K fd_law_forced ["_law_way", "_law_won"] [] := F_law_forced.bindsN fun _ _ _ _ _ _ us hl => match us, hl with | [_, _], _ => rfl
  obtain ⟨fd_law_ways, F_law_ways⟩ := c.d.def_ 41 (d := d_law_ways) rfl
  have b_law_ways : Binds K fd_law_ways ["_law_contract_here"] [] := F_law_ways.bindsN fun _ _ _ _ _ _ us hl => match us, hl with | [_], _ => rfl
  obtain ⟨fd_law_ranks, F_law_ranks⟩ := c.d.def_ 42 (d := d_law_ranks) rfl
  have b_law_ranks : Binds K fd_law_ranks ["_law_contract_here"] [] := F_law_ranks.bindsN fun _ _ _ _ _ _ us hl => match us, hl with | [_], _ => rfl
  obtain ⟨fd_law, F_law⟩ := c.d.def_ 44 (d := d_law) rfl
  have b_law := FunD.bindsA (ps := ["_law_script"]) F_law fun _ _ _ _ _ _ us hl => match us, hl with | [_], _ => rfl
  refine ⟨fd_law, fun s v => b_law s [v] rfl, fun base _ _ TB => ?_⟩
  have c_live_cells : Cal Pg w K mg base 1 (He.ga K "live_cells") ["layout"] (spLive (ZZ K)) := ⟨fd_live_cells, ok_live_cells (Z := ZZ K) F_live_cells T, b_live_cells, F_live_cells.kp⟩
  have c_requestable : Cal Pg w K mg base 2 (He.ga K "requestable") ["contract", "layout"] (spReq (ZZ K) K) := ⟨fd_requestable, ok_requestable (Z := ZZ K) F_requestable T c_live_cells, b_requestable, F_requestable.kp⟩
  have c_without : Cal Pg w K mg base 1 (He.ga K "without") ["layout", "index"] (spWithout (ZZ K)) := ⟨fd_without, ok_without (Z := ZZ K) F_without T, b_without, F_without.kp⟩
  have c_with_block : Cal Pg w K mg base 1 (He.ga K "with_block") ["layout", "start", "length"] (spWithBlock (ZZ K)) := ⟨fd_with_block, ok_with_block (Z := ZZ K) F_with_block T, b_with_block, F_with_block.kp⟩
  have c_placed : Cal Pg w K mg base 1 (He.ga K "placed") ["layout", "starts"] (spPlaced (ZZ K)) := ⟨fd_placed, ok_placed (Z := ZZ K) F_placed T, b_placed, F_placed.kp⟩
  have c_relocated : Cal Pg w K mg base 2 (He.ga K "relocated") ["layout", "starts"] (spRelocated (ZZ K)) := ⟨fd_relocated, ok_relocated (Z := ZZ K) F_relocated T c_placed, b_relocated, F_relocated.kp⟩
  have c_cost : Cal Pg w K mg base 1 (He.ga K "cost") ["layout", "starts"] (spCost (ZZ K)) := ⟨fd_cost, ok_cost (Z := ZZ K) F_cost T, b_cost, F_cost.kp⟩
  have c_is_layout : Cal Pg w K mg base 1 (He.ga K "is_layout") ["size", "layout"] (spIsLay (ZZ K)) := ⟨fd_is_layout, ok_is_layout (Z := ZZ K) F_is_layout T, b_is_layout, F_is_layout.kp⟩
  have c_fits : Cal Pg w K mg base 1 (He.ga K "fits") ["size", "layout", "start", "length"] (spFits (ZZ K)) := ⟨fd_fits, ok_fits (Z := ZZ K) (Pt := (He.cT K ("fits", none)).2) F_fits T (fun a e => by
      have e2 : (He.cT K ("fits", none)).1 = a := code_is (x := "fits") (q := "fits") (st := s_fits) F_fits e
      rw [← e2]
      exact tab_of (TB _ (List.mem_map.mpr ⟨("fits", none), by decide, rfl⟩))) (List.mem_map.mpr ⟨_, List.mem_map.mpr ⟨("fits", none), by decide, rfl⟩, rfl⟩), b_fits, F_fits.kp⟩
  have c_is_relocation : Cal Pg w K mg base 3 (He.ga K "is_relocation") ["size", "layout", "starts"] (spIsReloc (ZZ K)) := ⟨fd_is_relocation, ok_is_relocation (Z := ZZ K) (Pt := (He.cT K ("is_relocation", none)).2) F_is_relocation T (fun a e => by
      have e2 : (He.cT K ("is_relocation", none)).1 = a := code_is (x := "is_relocation") (q := "is_relocation") (st := s_is_relocation) F_is_relocation e
      rw [← e2]
      exact tab_of (TB _ (List.mem_map.mpr ⟨("is_relocation", none), by decide, rfl⟩))) (List.mem_map.mpr ⟨_, List.mem_map.mpr ⟨("is_relocation", none), by decide, rfl⟩, rfl⟩) c_is_layout c_relocated, b_is_relocation, F_is_relocation.kp⟩
  have c_positions : Cal Pg w K mg base 2 (He.ga K "positions") ["contract"] (spPos (ZZ K) K) := ⟨fd_positions, ok_positions (Z := ZZ K) F_positions T c_live_cells, b_positions, F_positions.kp⟩
  have c_starts_within : Cal Pg w K mg base 1 (He.ga K "starts_within") ["size", "budget", "layout"] (spSW (ZZ K)) := ⟨fd_starts_within, ok_starts_within (Z := ZZ K) F_starts_within T, b_starts_within, F_starts_within.kp⟩
  have c_relocations : Cal Pg w K mg base 4 (He.ga K "relocations") ["contract", "layout"] (spReloc (ZZ K) K) := ⟨fd_relocations, ok_relocations (Z := ZZ K) F_relocations T c_starts_within c_is_relocation, b_relocations, F_relocations.kp⟩
  have c_reply_key : Cal Pg w K mg base 1 (He.ga K "reply_key") ["reply"] (spKey (ZZ K)) := ⟨fd_reply_key, ok_reply_key (Z := ZZ K) F_reply_key T, b_reply_key, F_reply_key.kp⟩
  have c_after_reply : Cal Pg w K mg base 3 (He.ga K "after_reply") ["layout", "length", "reply"] (spAfter (ZZ K)) := ⟨fd_after_reply, ok_after_reply (Z := ZZ K) F_after_reply T c_with_block c_relocated, b_after_reply, F_after_reply.kp⟩
  have c_replies : Cal Pg w K mg base 5 (He.ga K "replies") ["contract", "layout", "length"] (spReplies (ZZ K) K) := ⟨fd_replies, ok_replies (Z := ZZ K) F_replies T c_requestable c_relocations c_relocated c_cost c_fits c_reply_key, b_replies, F_replies.kp⟩
  have c_is_better : Cal Pg w K mg base 1 (He.ga K "is_better") ["one", "other"] (spBetter (ZZ K) K) := ⟨fd_is_better, ok_is_better (Z := ZZ K) F_is_better T, b_is_better, F_is_better.kp⟩
  have c_Contract_init : Cal Pg w K mg base 1 (He.ma K (He.ga K "Contract") "__init__") ["self", "size", "limit", "lengths", "budget"] (spConI (ZZ K) K) := ⟨fd_Contract_init, ok_Contract_init (Z := ZZ K) F_Contract_init T, b_Contract_init, F_Contract_init.kp⟩
  have c_Options_init : Cal Pg w K mg base 6 (He.ma K (He.ga K "Options") "__init__") ["self", "contract", "layout"] (spOptI (ZZ K) K) := ⟨fd_Options_init, ok_Options_init (Z := ZZ K) F_Options_init T c_requestable c_without c_replies c_after_reply, b_Options_init, F_Options_init.kp⟩
  have c_Options_forced : Cal Pg w K mg base 1 (He.ma K (He.ga K "Options") "forced") ["self", "won"] (spForced Pg w (ZZ K) K) := ⟨fd_Options_forced, ok_Options_forced (Z := ZZ K) F_Options_forced T, b_Options_forced, F_Options_forced.kp⟩
  have c_Game_rank : Cal Pg w K mg base 1 (He.ma K (He.ga K "Game") "rank") ["self", "layout"] (spRank Pg w (ZZ K) K) := ⟨fd_Game_rank, ok_Game_rank (Z := ZZ K) F_Game_rank T, b_Game_rank, F_Game_rank.kp⟩
  have c_Game_winner : Cal Pg w K mg base 2 (He.ma K (He.ga K "Game") "winner") ["self"] (spWinner Pg w (ZZ K) K) := ⟨fd_Game_winner, ok_Game_winner (Z := ZZ K) F_Game_winner T c_Game_rank, b_Game_winner, F_Game_winner.kp⟩
  have c_Game_init : Cal Pg w K mg base 8 (He.ma K (He.ga K "Game") "__init__") ["self", "contract"] (spGameI Pg w (ZZ K) K) := ⟨fd_Game_init, ok_Game_init (Z := ZZ K) F_Game_init T c_positions c_Options_init c_Options_forced, b_Game_init, F_Game_init.kp⟩
  have c_Store_init : Cal Pg w K mg base 1 (He.ma K (He.ga K "Store") "__init__") ["self"] (spStoreI (ZZ K) K) := ⟨fd_Store_init, ok_Store_init (Z := ZZ K) F_Store_init T, b_Store_init, F_Store_init.kp⟩
  have c_State_init : Cal Pg w K mg base 1 (He.ma K (He.ga K "State") "__init__") ["self", "store", "starts", "cursor"] (spStateI (ZZ K) K) := ⟨fd_State_init, ok_State_init (Z := ZZ K) F_State_init T, b_State_init, F_State_init.kp⟩
  have c_ManagedHeap_init : Cal Pg w K mg base 3 (He.ma K (He.ga K "ManagedHeap") "__init__") ["self", "manager"] (spHeapI (ZZ K) K) := ⟨fd_ManagedHeap_init, ok_ManagedHeap_init (Z := ZZ K) F_ManagedHeap_init T c_State_init c_Store_init, b_ManagedHeap_init, F_ManagedHeap_init.kp⟩
  have c_StrategyManager_init : Cal Pg w K mg base 10 (He.ma K (He.ga K "StrategyManager") "__init__") ["self", "contract"] (spManI (ZZ K) K) := ⟨fd_StrategyManager_init, ok_StrategyManager_init (Z := ZZ K) F_StrategyManager_init T c_Game_init c_Game_winner, b_StrategyManager_init, F_StrategyManager_init.kp⟩
  have c_contract_heap : Cal Pg w K mg base 12 (He.ga K "contract_heap") ["contract"] (spCH (ZZ K) K) := ⟨fd_contract_heap, ok_contract_heap (Z := ZZ K) F_contract_heap T c_ManagedHeap_init c_StrategyManager_init, b_contract_heap, F_contract_heap.kp⟩
  have c_ManagedHeap_words : Cal Pg w K mg base 1 (He.ma K (He.ga K "ManagedHeap") "words") ["self"] (spWords (ZZ K) K) := ⟨fd_ManagedHeap_words, ok_words (Z := ZZ K) F_ManagedHeap_words T, b_ManagedHeap_words, F_ManagedHeap_words.kp⟩
  have c_law_cell : Cal Pg w K mg base 1 (He.ga K "_law_cell") ["_law_script", "_law_k"] (spCell (ZZ K) K) := ⟨fd_law_cell, ok_law_cell (Z := ZZ K) F_law_cell T, b_law_cell, F_law_cell.kp⟩
  have c_law_row : Cal Pg w K mg base 1 (He.ga K "_law_row") ["_law_cell_here", "_law_k", "_law_many"] (spRow (ZZ K)) := ⟨fd_law_row, ok_law_row (Z := ZZ K) F_law_row T, b_law_row, F_law_row.kp⟩
  have c_law_box : Cal Pg w K mg base 2 (He.ga K "_law_box") ["_law_script", "_law_first", "_law_last"] (spBox (ZZ K) K) := ⟨fd_law_box, ok_law_box (Z := ZZ K) F_law_box T c_law_row c_law_cell, b_law_box, F_law_box.kp⟩
  have c_law_draw : Cal Pg w K mg base 1 (He.ga K "_law_draw") ["_law_box_here", "_law_many"] (spDraw (ZZ K)) := ⟨fd_law_draw, ok_law_draw (Z := ZZ K) F_law_draw T, b_law_draw, F_law_draw.kp⟩
  have c_law_contract : Cal Pg w K mg base 3 (He.ga K "_law_contract") ["_law_box_here", "_law_most"] (spLC (ZZ K) K) := ⟨fd_law_contract, ok_law_contract (Z := ZZ K) F_law_contract T c_law_draw c_Contract_init, b_law_contract, F_law_contract.kp⟩
  have c_law_live : Cal Pg w K mg base 1 (He.ga K "_law_live") ["_law_layout"] (spLLive (ZZ K)) := ⟨fd_law_live, ok_law_live (Z := ZZ K) F_law_live T, b_law_live, F_law_live.kp⟩
  have c_law_allowed : Cal Pg w K mg base 2 (He.ga K "_law_allowed") ["_law_contract_here", "_law_layout"] (spAllowed (ZZ K) K) := ⟨fd_law_allowed, ok_law_allowed (Z := ZZ K) F_law_allowed T c_law_live, b_law_allowed, F_law_allowed.kp⟩
  have c_law_apart : Cal Pg w K mg base 1 (He.ga K "_law_apart") ["_law_size", "_law_blocks"] (spApart (ZZ K)) := ⟨fd_law_apart, ok_law_apart (Z := ZZ K) F_law_apart T, b_law_apart, F_law_apart.kp⟩
  have c_law_positions : Cal Pg w K mg base 2 (He.ga K "_law_positions") ["_law_contract_here"] (spLPos (ZZ K) K) := ⟨fd_law_positions, ok_law_positions (Z := ZZ K) F_law_positions T c_law_live, b_law_positions, F_law_positions.kp⟩
  have c_law_without : Cal Pg w K mg base 1 (He.ga K "_law_without") ["_law_layout", "_law_index"] (spLWithout (ZZ K)) := ⟨fd_law_without, ok_law_without (Z := ZZ K) F_law_without T, b_law_without, F_law_without.kp⟩
  have c_law_after : Cal Pg w K mg base 1 (He.ga K "_law_after") ["_law_layout", "_law_length", "_law_reply"] (spLAfter (ZZ K)) := ⟨fd_law_after, ok_law_after (Z := ZZ K) F_law_after T, b_law_after, F_law_after.kp⟩
  have c_law_replies : Cal Pg w K mg base 2 (He.ga K "_law_replies") ["_law_contract_here", "_law_layout", "_law_length"] (spLRep (ZZ K) K) := ⟨fd_law_replies, ok_law_replies (Z := ZZ K) F_law_replies T c_law_apart, b_law_replies, F_law_replies.kp⟩
  have c_law_forced : Cal Pg w K mg base 1 (He.ga K "_law_forced") ["_law_way", "_law_won"] (spLForced Pg w (ZZ K)) := ⟨fd_law_forced, ok_law_forced (Z := ZZ K) F_law_forced T, b_law_forced, F_law_forced.kp⟩
  have c_law_ways : Cal Pg w K mg base 3 (He.ga K "_law_ways") ["_law_contract_here"] (spWays Pg w (ZZ K) K) := ⟨fd_law_ways, ok_law_ways (Z := ZZ K) F_law_ways T c_law_positions c_law_without c_law_allowed c_law_replies c_law_after, b_law_ways, F_law_ways.kp⟩
  have c_law_ranks : Cal Pg w K mg base 4 (He.ga K "_law_ranks") ["_law_contract_here"] (spLRanks Pg w (ZZ K) K) := ⟨fd_law_ranks, ok_law_ranks (Z := ZZ K) F_law_ranks T c_law_ways c_law_forced, b_law_ranks, F_law_ranks.kp⟩
  exact ok_law (Z := ZZ K) F_law T c_law_box c_law_contract c_law_draw c_Contract_init c_is_better c_Game_init c_Game_winner c_law_ranks c_contract_heap c_ManagedHeap_words
theorem law_at {l : PySem.W.OpenLaw} {w : World} {K : PySem.W.Frag} {h : Heap} {mg : Str → Option Value} {f : Addr} (X : K.In h) (G : h.Ns mainGlobals mg) (hfa : mg ("law" : Str) = some (.ref f)) (c : Says h K) : LamX.LawAtS l w K CX0 13 63 "_law_script" mg f h := by
  obtain ⟨fd, hb, hF⟩ := joined (Pg := l.prog) (w := w) X G c
  have e := hfa.symm.trans (txt_of X G c.d).g_law
  cases e
  have hout : ∀ p ∈ cs K, K.lookup p.2 = none := fun p hp => by
    obtain ⟨q, hq, rfl⟩ := List.mem_map.mp hp
    exact c.out q hq
  refine ⟨fd, cs K, spLaw (ZZ K) K, fun p hp => ?_, hout, fun p hp => ?_, hb, fun H a ns _ _ hH hS => ?_, hF⟩
  · obtain ⟨q, hq, rfl⟩ := List.mem_map.mp hp
    exact c.empty q hq
  · obtain ⟨q, hq, rfl⟩ := List.mem_map.mp hp
    exact PySem.W.codeHd_of_K X (c.hd q hq)
  · have hz : ∀ P ∈ ZZ K, H P = some (.tbl #[]) := fun P hP => by
      obtain ⟨p, hp, rfl⟩ := List.mem_map.mp hP
      exact hH p hp
    refine ⟨fun b => if b ∈ ZZ K then none else H b, .ref a, ns, ⟨fun b u q => ?_, fun P hP => if_pos hP, fun P hP => ⟨#[], hz P hP, ?_⟩⟩, rfl, ⟨a, rfl, ?_⟩, fun _ => rfl⟩
    · by_cases hb : b ∈ ZZ K
      · rw [if_pos hb] at q
        cases q
      · rw [if_neg hb] at q
        exact q
    · first
        | trivial
        | exact List.Forall.nil
        | (intro x hx; cases hx)
        | simp [PySem.TriplesOk]
    · rcases hS with (e | ⟨o, e⟩) | e
      · have hb : ¬ a ∈ ZZ K := fun z => by
          rw [hz a z] at e
          cases e
        exact .inl (.inl ((if_neg hb).trans e))
      · have hb : ¬ a ∈ ZZ K := fun z => by
          rw [hz a z] at e
          cases e
        exact .inl (.inr ⟨o, (if_neg hb).trans e⟩)
      · exact .inr e
end Hg
end Z_D15

section Z_End
set_option maxHeartbeats 0
open PySem PySem.W PySem.Calls PyProof.Rows
theorem PySem.Challenge.cw_heapgame_k94_whole_better_contracts_holds : PySem.Challenge.rw_heapgame_k94_whole_better_contracts.Holds := by
  w_on; o_law
  refine HandSHeadRun.head_any (r := OpenLaw.row PySem.Challenge.rw_heapgame_k94_whole_better_contracts) (q := Hg.qv) (H := Hg.hk) (ob := Hg.ob) (M := 30000) (loose := Hg.names) (d := HandSHeadRun.topDef (OpenLaw.row PySem.Challenge.rw_heapgame_k94_whole_better_contracts).prog 68) (kwd := []) Hg.ob_eq
    (by kernel_rfl) (fun s => by kernel_rfl) Hg.run (by kernel_rfl) (by kernel_rfl) (by kernel_rfl) (by rfl) (by first | assumption | decide +kernel) (by decide +kernel) ⟨rfl, rfl, rfl, rfl, rfl, by decide +kernel⟩ ?hw ?hc
  case hw => w_witness2
  case hc =>
    refine LamX.walk_ofTsE (l := PySem.Challenge.rw_heapgame_k94_whole_better_contracts) (n := 63) (k := 13) (x := "_law_script") (CX := fun _ => L2.CX0) rfl (by decide) (by kernel_rfl) ⟨rfl, by decide, by decide⟩ ?F (fun _ _ _ _ _ z => z)
    intro w mg fa h Y G hmg0
    obtain ⟨K, KX, c⟩ := Y
    have hmg : mg ("law" : PySem.Str) = some (.ref fa) := by
      have e : (HandSHeadRun.topDef (OpenLaw.row PySem.Challenge.rw_heapgame_k94_whole_better_contracts).prog 68).name = ("law" : PySem.Str) := by kernel_rfl
      rw [← e]
      exact hmg0
    exact ⟨K, KX, Hg.law_at KX G hmg c⟩
end Z_End
