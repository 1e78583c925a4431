import PyProof.Rows.All
import Wide.All
import OpenK.AllK
import Wide.FinOn
import HandS.ForMost
import HandS.ForExc
import HandS.Strs
import HandS.Flow
import HandS.TupAny
import HandS.TupMul
import HandS.Deep
import KE.SortData
import KE.DataMinMax
import PyProof.ReprLen
import PyProof.ReprText
import HandS.Exc
import HandS.RaiseMore
import HandS.ExcCtx
import HandS.Conv
import HandS.SortKw
import HandS.SetFor
import HandS.HotCalls
import HandS.Ends
import HandS.WordsExc
import HandS.Hot
import HandS.Comp
import HandS.ExcIs
import PyProof.Rows.FactsN_isinstance
import PyProof.P3Eq
import KE.KBits
import PySem.Challenge.RW_askcraft_k08_whole_borders
section
set_option Elab.async false
set_option linter.all false
set_option maxRecDepth 100000
/-! Ev1: values, environments, what the heap holds of them -/
namespace Mi
open PySem L2

/-- what a slot or a temporary holds, apart from the heap -/
inductive Vl where
  /-- frozen data -/
  | dat (d : PyData)
  /-- an owned list of frozen items; an owned list of owned lists -/
  | ml (ds : List PyData)
  | mml (dss : List (List PyData))
  /-- an owned instance of the class number c; its fields are frozen -/
  | ob (c : Nat) (fs : List (Str × PyData))
  /-- a set of ints: those of ns -/
  | st (ns : List Int)

/-- an operand: a value, or the slot that holds it -/
inductive Opd where
  | val (w : Vl)
  | brw (i : Nat)

abbrev Rho := List (Option Vl)

inductive Out (α : Type) where
  | ok (a : α) (ρ : Rho)
  | exc (c : Nat) (ρ : Rho)
  | stk

abbrev FE := Rho → Out Opd
abbrev Ad := Addr → Prop

/-- where the law's own classes stand -/
structure Glb where
  K : PySem.W.Frag
  w : World
  ea : Nat → Addr
  cl : Nat → Addr

/-! ### frozen data over a part of the heap -/
theorem sqT_mono {K : PySem.W.Frag} {H H' : Hp} {a : Addr} {xs : List V} (e : Same H H') (h : SqT K H a xs) : SqT K H' a xs := by
  rcases h with (h | ⟨o, h⟩) | h
  · exact .inl (.inl (e _ _ h))
  · exact .inl (.inr ⟨o, e _ _ h⟩)
  · exact .inr h
mutual
theorem dp_mono {K : PySem.W.Frag} {H H' : Hp} (e : Same H H') : ∀ (d : PyData) (v : V), Dp K H v d → Dp K H' v d
  | .none, _, h => by cases h; exact .non
  | .bool _, _, h => by cases h; exact .bl _
  | .int _, _, h => by cases h; exact .int _
  | .str _, _, h => by cases h; exact .str _
  | .list ds, _, h => by
    cases h with
    | lst hs ha => exact .lst (e.seq hs) (dpa_mono e ds _ ha)
  | .tuple ds, _, h => by
    cases h with
    | tup hs ha => exact .tup (sqT_mono e hs) (dpa_mono e ds _ ha)
  | .dict _, _, h => by cases h
theorem dpa_mono {K : PySem.W.Frag} {H H' : Hp} (e : Same H H') : ∀ (ds : List PyData) (vs : List V), DpAll K H vs ds → DpAll K H' vs ds
  | [], _, h => by cases h; exact .nil
  | d :: ds, _, h => by
    cases h with
    | cons h1 h2 => exact .cons (dp_mono e d _ h1) (dpa_mono e ds _ h2)
end
theorem dpa_len {K : PySem.W.Frag} {H : Hp} : ∀ (ds : List PyData) (vs : List V), DpAll K H vs ds → vs.length = ds.length
  | [], _, h => by cases h; rfl
  | d :: ds, _, h => by
    cases h with
    | cons h1 h2 => simp [dpa_len ds _ h2]
theorem dpa_get {K : PySem.W.Frag} {H : Hp} : ∀ (ds : List PyData) (vs : List V), DpAll K H vs ds → ∀ (i : Nat) (d : PyData), ds[i]? = some d → ∃ v, vs[i]? = some v ∧ Dp K H v d
  | [], _, h, i, d, e => by simp at e
  | x :: ds, _, h, 0, d, e => by
    cases h with
    | cons h1 h2 => simp at e; subst e; exact ⟨_, rfl, h1⟩
  | x :: ds, _, h, i + 1, d, e => by
    cases h with
    | cons h1 h2 =>
      obtain ⟨v, e1, e2⟩ := dpa_get ds _ h2 i d (by simpa using e)
      exact ⟨v, by simpa using e1, e2⟩
theorem dpa_get' {K : PySem.W.Frag} {H : Hp} : ∀ (ds : List PyData) (vs : List V), DpAll K H vs ds → ∀ (i : Nat) (v : V), vs[i]? = some v → ∃ d, ds[i]? = some d ∧ Dp K H v d
  | [], _, h, i, d, e => by cases h; simp at e
  | x :: ds, _, h, 0, d, e => by
    cases h with
    | cons h1 h2 => simp at e; subst e; exact ⟨_, rfl, h1⟩
  | x :: ds, _, h, i + 1, d, e => by
    cases h with
    | cons h1 h2 =>
      obtain ⟨v, e1, e2⟩ := dpa_get' ds _ h2 i d (by simpa using e)
      exact ⟨v, by simpa using e1, e2⟩
theorem dpa_app {K : PySem.W.Frag} {H : Hp} : ∀ {ds es : List PyData} {vs us : List V}, DpAll K H vs ds → DpAll K H us es → DpAll K H (vs ++ us) (ds ++ es)
  | [], _, _, _, h, g => by cases h; exact g
  | d :: ds, _, _, _, h, g => by
    cases h with
    | cons h1 h2 => exact .cons h1 (dpa_app h2 g)
theorem dpa_set {K : PySem.W.Frag} {H : Hp} {d : PyData} {v : V} (hd : Dp K H v d) : ∀ {ds : List PyData} {vs : List V} (i : Nat), DpAll K H vs ds → DpAll K H (vs.set i v) (ds.set i d)
  | [], _, _, h => by cases h; exact .nil
  | x :: ds, _, 0, h => by
    cases h with
    | cons h1 h2 => exact .cons hd h2
  | x :: ds, _, i + 1, h => by
    cases h with
    | cons h1 h2 => exact .cons h1 (dpa_set hd i h2)
theorem dpa_take {K : PySem.W.Frag} {H : Hp} : ∀ {ds : List PyData} {vs : List V} (i : Nat), DpAll K H vs ds → DpAll K H (vs.take i) (ds.take i)
  | _, _, 0, h => by simpa using DpAll.nil
  | [], _, i + 1, h => by cases h; simpa using DpAll.nil
  | x :: ds, _, i + 1, h => by
    cases h with
    | cons h1 h2 => exact .cons h1 (dpa_take i h2)
theorem dpa_drop {K : PySem.W.Frag} {H : Hp} : ∀ {ds : List PyData} {vs : List V} (i : Nat), DpAll K H vs ds → DpAll K H (vs.drop i) (ds.drop i)
  | _, _, 0, h => by simpa using h
  | [], _, i + 1, h => by cases h; simpa using DpAll.nil
  | x :: ds, _, i + 1, h => by
    cases h with
    | cons h1 h2 => exact dpa_drop i h2
theorem dpa_rev {K : PySem.W.Frag} {H : Hp} : ∀ {ds : List PyData} {vs : List V}, DpAll K H vs ds → DpAll K H vs.reverse ds.reverse
  | [], _, h => by cases h; exact .nil
  | x :: ds, _, h => by
    cases h with
    | cons h1 h2 => simpa using dpa_app (dpa_rev h2) (.cons h1 .nil)

/-! ### owned things -/
def Rows (G : Glb) (P H : Hp) (S : Ad) : List Addr → List (List PyData) → Prop
  | [], [] => True
  | b :: as, ds :: dss => S b ∧ b ∉ as ∧ (∃ ys, H b = some (.lst ys) ∧ DpAll G.K P ys ds) ∧ Rows G P H S as dss
  | _, _ => False
def Flds (G : Glb) (P : Hp) : List (Str × V) → List (Str × PyData) → Prop
  | [], [] => True
  | (f, v) :: r, (g, d) :: t => f = g ∧ Dp G.K P v d ∧ Flds G P r t
  | _, _ => False
def Ow (G : Glb) (P H : Hp) (S : Ad) (v : V) : Vl → Prop
  | .dat d => Dp G.K P v d
  | .ml ds => ∃ a xs, v = .ref a ∧ S a ∧ H a = some (.lst xs) ∧ DpAll G.K P xs ds
  | .mml dss => ∃ a as, v = .ref a ∧ S a ∧ a ∉ as ∧ H a = some (.lst (as.map V.ref)) ∧ Rows G P H S as dss
  | .ob c fs => ∃ a dx fv, v = .ref a ∧ S a ∧ H a = some (.ins (G.cl c) dx fv) ∧ Flds G P fv fs
  | .st ns => ∃ a m n, v = .ref a ∧ S a ∧ H a = some (SetO G.w a m n) ∧ ∀ k, m k = true ↔ k ∈ ns
section
variable {G : Glb} {P P' H H' : Hp} {S S' : Ad} {v : V} {w : Vl}
theorem Rows.mono (e : Same P P') (k : ∀ b o, S b → H b = some o → H' b = some o) (s : ∀ b, S b → S' b) : ∀ {as : List Addr} {dss : List (List PyData)}, Rows G P H S as dss → Rows G P' H' S' as dss
  | [], [], _ => trivial
  | b :: as, ds :: dss, ⟨h1, h0, ⟨ys, h2, h3⟩, h4⟩ => ⟨s b h1, h0, ⟨ys, k b _ h1 h2, dpa_mono e _ _ h3⟩, Rows.mono e k s h4⟩
  | [], _ :: _, h => h.elim
  | _ :: _, [], h => h.elim
theorem Flds.mono (e : Same P P') : ∀ {fv : List (Str × V)} {fs : List (Str × PyData)}, Flds G P fv fs → Flds G P' fv fs
  | [], [], _ => trivial
  | (f, v) :: r, (g, d) :: t, ⟨h1, h2, h3⟩ => ⟨h1, dp_mono e _ _ h2, Flds.mono e h3⟩
  | [], _ :: _, h => h.elim
  | _ :: _, [], h => h.elim
theorem Ow.mono (h : Ow G P H S v w) (e : Same P P') (k : ∀ b o, S b → H b = some o → H' b = some o) (s : ∀ b, S b → S' b) : Ow G P' H' S' v w := by
  cases w with
  | dat d => exact dp_mono e _ _ h
  | ml ds => obtain ⟨a, xs, h1, h2, h3, h4⟩ := h; exact ⟨a, xs, h1, s a h2, k a _ h2 h3, dpa_mono e _ _ h4⟩
  | mml dss => obtain ⟨a, as, h1, h2, h3, h4, h5⟩ := h; exact ⟨a, as, h1, s a h2, h3, k a _ h2 h4, h5.mono e k s⟩
  | ob c fs => obtain ⟨a, dx, fv, h1, h2, h3, h4⟩ := h; exact ⟨a, dx, fv, h1, s a h2, k a _ h2 h3, h4.mono e⟩
  | st ns => obtain ⟨a, m, n, h1, h2, h3, h4⟩ := h; exact ⟨a, m, n, h1, s a h2, k a _ h2 h3, h4⟩
end

/-! ### the environment -/
/-- what may be owned: no tuple, nothing locked -/
def ownK : HO → Bool
  | .lst _ => true
  | .ins _ _ _ => true
  | .ext _ => true
  | .dK _ => true
  | .dT _ => true
  | _ => false
structure Now (G : Glb) (P H : Hp) (σ : L2.St) (ρ : Rho) (F : Nat → Ad) : Prop where
  ex : Same P H
  dj : ∀ i j a, F i a → F j a → i = j
  np : ∀ i a, F i a → P a = none
  al : ∀ i a, F i a → H a ≠ none
  rd : ∀ i w, ρ[i]? = some (some w) → ∃ v, σ[i]? = some (some v) ∧ Ow G P H (F i) v w
  kd : ∀ i b o, F i b → H b = some o → ownK o = true

/-- what a step leaves: all but the environment's own things is as it was -/
structure Stp (P H : Hp) (F : Nat → Ad) (P' H' : Hp) (F' : Nat → Ad) : Prop where
  ex : Same P P'
  fr : ∀ b o, H b = some o → (∀ i, ¬ F i b) → H' b = some o
  sub : ∀ i b, F' i b → (∃ j, F j b) ∨ H b = none
  pn : ∀ b, P' b ≠ none → P b ≠ none ∨ (∃ j, F j b) ∨ H b = none
  al : ∀ b, H b ≠ none → H' b ≠ none

/-- a temporary: its own things are nobody else's -/
structure Tmp (G : Glb) (P H : Hp) (F : Nat → Ad) (S : Ad) (v : V) (w : Vl) : Prop where
  ow : Ow G P H S v w
  np : ∀ b, S b → P b = none
  al : ∀ b, S b → H b ≠ none
  dj : ∀ b, S b → ∀ i, ¬ F i b
  kd : ∀ b o, S b → H b = some o → ownK o = true

theorem Stp.refl {P H : Hp} {F : Nat → Ad} : Stp P H F P H F := ⟨Same.refl P, fun _ _ h _ => h, fun i b h => .inl ⟨i, h⟩, fun _ h => .inl h, fun _ h => h⟩
section
variable {G : Glb} {P H P1 H1 P2 H2 : Hp} {F F1 F2 : Nat → Ad} {σ : L2.St} {ρ : Rho} {S : Ad} {v : V} {w : Vl}
/-- what was nobody's stays -/
theorem Stp.out (s : Stp P H F P1 H1 F1) {b : Addr} (h : H b ≠ none) (hf : ∀ i, ¬ F i b) : ∀ i, ¬ F1 i b := fun i hi => by
  rcases s.sub i b hi with ⟨j, hj⟩ | z
  · exact hf j hj
  · exact h z
theorem Stp.trans (s : Stp P H F P1 H1 F1) (t : Stp P1 H1 F1 P2 H2 F2) : Stp P H F P2 H2 F2 := by
  have back : ∀ b, H1 b = none → H b = none := fun b z => Classical.byContradiction fun q => s.al b q z
  refine ⟨s.ex.trans t.ex, fun b o h hf => t.fr b o (s.fr b o h hf) (s.out (by rw [h]; exact fun z => nomatch z) hf), fun i b h => ?_, fun b h => ?_, fun b h => t.al b (s.al b h)⟩
  · rcases t.sub i b h with ⟨j, hj⟩ | z
    · exact s.sub j b hj
    · exact .inr (back b z)
  · rcases t.pn b h with z | ⟨j, hj⟩ | z
    · exact s.pn b z
    · rcases s.sub j b hj with y | y
      · exact .inr (.inl y)
      · exact .inr (.inr y)
    · exact .inr (.inr (back b z))
theorem Tmp.step (h : Tmp G P H F S v w) (s : Stp P H F P1 H1 F1) : Tmp G P1 H1 F1 S v w := by
  refine ⟨h.ow.mono s.ex (fun b o hb e => s.fr b o e (h.dj b hb)) fun _ z => z, fun b hb => ?_, fun b hb => s.al b (h.al b hb), fun b hb => s.out (h.al b hb) (h.dj b hb), fun b o hb e => ?_⟩
  · refine Classical.byContradiction fun q => ?_
    rcases s.pn b q with z | ⟨j, hj⟩ | z
    · exact z (h.np b hb)
    · exact h.dj b hb j hj
    · exact h.al b hb z
  · obtain ⟨u, hu⟩ := Option.ne_none_iff_exists'.mp (h.al b hb)
    have := s.fr b u hu (h.dj b hb)
    rw [this] at e
    cases e
    exact h.kd b _ hb hu
end
end Mi
end
section
set_option Elab.async false
set_option linter.all false
set_option maxRecDepth 100000
/-! Ev2: readings of evaluators, the general rules for operators, calls, displays -/
namespace Mi
open PySem L2

/-! ### new objects -/
structure Alc (P H P' H' : Hp) (S : Ad) : Prop where
  exP : Same P P'
  exH : Same H H'
  ph : Same P' H'
  pn : ∀ b, P' b ≠ none → P b ≠ none ∨ H b = none
  new : ∀ b, S b → H b = none ∧ H' b ≠ none ∧ P' b = none
  kd : ∀ b o, S b → H' b = some o → ownK o = true
def nobody : Ad := fun _ => False
section
variable {G : Glb} {P H P' H' P1 H1 : Hp} {F F1 : Nat → Ad} {σ : L2.St} {ρ : Rho} {S S1 : Ad} {v : V} {w : Vl} {p : Addr} {o : HO}
theorem Alc.refl (e : Same P H) : Alc P H P H nobody := ⟨Same.refl P, Same.refl H, e, fun _ h => .inl h, fun _ h => h.elim, fun _ _ h => h.elim⟩
theorem same_upd (h : H p = none) : Same H (upd H p o) := fun b u e => by rw [upd_ne (ne_of_none e h)]; exact e
theorem same_none (e : Same P H) (h : H p = none) : P p = none := e.free h
/-- a new frozen object -/
theorem Alc.tup (e : Same P H) (h : H p = none) : Alc P H (upd P p o) (upd H p o) nobody := by
  refine ⟨same_upd (same_none e h), same_upd h, fun b u q => ?_, fun b q => ?_, fun _ h => h.elim, fun _ _ h => h.elim⟩
  · by_cases hb : b = p
    · subst hb; rw [upd_same] at q ⊢; exact q
    · rw [upd_ne hb] at q ⊢; exact e b u q
  · by_cases hb : b = p
    · subst hb; exact .inr h
    · rw [upd_ne hb] at q; exact .inl q
/-- a new owned object -/
theorem Alc.own (e : Same P H) (h : H p = none) (ho : ownK o = true := by rfl) : Alc P H P (upd H p o) (fun b => b = p) := by
  refine ⟨Same.refl P, same_upd h, e.trans (same_upd h), fun _ q => .inl q, fun b q => ?_, fun b u q e => ?_⟩
  · subst q
    exact ⟨h, by rw [upd_same]; exact (fun z => nomatch z), same_none e h⟩
  · subst q
    rw [upd_same] at e
    cases e
    exact ho
theorem Alc.now (a : Alc P H P' H' S) (n : Now G P H σ ρ F) : Now G P' H' σ ρ F := by
  refine ⟨a.ph, n.dj, fun i b h => ?_, fun i b h => ?_, fun i w h => ?_, fun i b u h e => ?_⟩
  · refine Classical.byContradiction fun q => ?_
    rcases a.pn b q with z | z
    · exact z (n.np i b h)
    · exact n.al i b h z
  · obtain ⟨o, e⟩ := Option.ne_none_iff_exists'.mp (n.al i b h)
    rw [a.exH b o e]; exact fun z => nomatch z
  · obtain ⟨v, h1, h2⟩ := n.rd i w h
    exact ⟨v, h1, h2.mono a.exP (fun b o _ e => a.exH b o e) fun _ z => z⟩
  · obtain ⟨o, e'⟩ := Option.ne_none_iff_exists'.mp (n.al i b h)
    rw [a.exH b o e'] at e
    cases e
    exact n.kd i b _ h e'
theorem Alc.stp (a : Alc P H P' H' S) : Stp P H F P' H' F := by
  refine ⟨a.exP, fun b o e _ => a.exH b o e, fun i b h => .inl ⟨i, h⟩, fun b h => ?_, fun b h => ?_⟩
  · rcases a.pn b h with z | z
    · exact .inl z
    · exact .inr (.inr z)
  · obtain ⟨o, e⟩ := Option.ne_none_iff_exists'.mp h
    rw [a.exH b o e]; exact fun z => nomatch z
theorem Alc.tmp (a : Alc P H P' H' S) (n : Now G P H σ ρ F) (o : Ow G P' H' S v w) : Tmp G P' H' F S v w :=
  ⟨o, fun b h => (a.new b h).2.2, fun b h => (a.new b h).2.1, fun b h i q => n.al i b q (a.new b h).1, a.kd⟩
end

/-! ### operands -/
def look (ρ : Rho) : Opd → Option Vl
  | .val w => some w
  | .brw i => (ρ[i]?).join
def Has (G : Glb) (P H : Hp) (F : Nat → Ad) (σ : L2.St) (S : Ad) (v : V) : Opd → Prop
  | .val w => Tmp G P H F S v w
  | .brw i => σ[i]? = some (some v)
/-- a view: the value is held, by whomever -/
def OwE (G : Glb) (P H : Hp) (v : V) (w : Vl) : Prop := ∃ S, Ow G P H S v w
section
variable {G : Glb} {P H P1 H1 : Hp} {F F1 : Nat → Ad} {σ : L2.St} {ρ : Rho} {S : Ad} {v : V} {o : Opd} {w : Vl}
theorem Has.step (h : Has G P H F σ S v o) (s : Stp P H F P1 H1 F1) : Has G P1 H1 F1 σ S v o := by
  cases o with
  | val w => exact Tmp.step h s
  | brw i => exact h
theorem Has.look (h : Has G P H F σ S v o) (n : Now G P H σ ρ F) (e : look ρ o = some w) : OwE G P H v w := by
  cases o with
  | val w' =>
    have e' : w' = w := Option.some.inj e
    subst e'
    exact ⟨S, h.ow⟩
  | brw i =>
    have e' : (ρ[i]?).join = some w := e
    have e2 : ρ[i]? = some (some w) := by
      cases q : ρ[i]? with
      | none => rw [q] at e'; cases e'
      | some x => rw [q] at e'; have : x = some w := e'; rw [this]
    obtain ⟨v', h1, h2⟩ := n.rd i w e2
    have h3 : σ[i]? = some (some v) := h
    rw [h3] at h1
    have e3 : v = v' := by simpa using h1
    subst e3
    exact ⟨F i, h2⟩
end

/-! ### what an evaluator promises -/
def EndO (G : Glb) (W : WX) (P H : Hp) (F : Nat → Ad) (σ : L2.St) (Q : VK) : Out Opd → Prop
  | .ok o ρ' => ∀ v P' H' F' S, Now G P' H' σ ρ' F' → Stp P H F P' H' F' → Has G P' H' F' σ S v o → (∀ b, S b → (∃ i, F i b) ∨ H b = none) → Q v H'
  | .exc c ρ' => ∀ P' H' F', Now G P' H' σ ρ' F' → Stp P H F P' H' F' → W (.ref (G.ea c)) none σ H'
  | .stk => False
def tE (G : Glb) (W : WX) (f : FE) : TE := fun σ H Q => ∃ ρ P F, Now G P H σ ρ F ∧ EndO G W P H F σ Q (f ρ)
abbrev FT := Rho → Out Bool
def EndT (G : Glb) (W : WX) (P H : Hp) (F : Nat → Ad) (σ : L2.St) (Q : Bool → Hp → Prop) : Out Bool → Prop
  | .ok b ρ' => ∀ P' H' F', Now G P' H' σ ρ' F' → Stp P H F P' H' F' → Q b H'
  | .exc c ρ' => ∀ P' H' F', Now G P' H' σ ρ' F' → Stp P H F P' H' F' → W (.ref (G.ea c)) none σ H'
  | .stk => False
def tT (G : Glb) (W : WX) (f : FT) : TT := fun σ H Q => ∃ ρ P F, Now G P H σ ρ F ∧ EndT G W P H F σ Q (f ρ)
abbrev FA := Rho → Out (List Opd)
/-- the operands of a list, one's own things apart from the others' -/
def HasL (G : Glb) (P H : Hp) (F : Nat → Ad) (σ : L2.St) : Ad → List V → List Opd → Prop
  | _, [], [] => True
  | S, v :: vs, o :: os => ∃ S1 S2, Has G P H F σ S1 v o ∧ HasL G P H F σ S2 vs os ∧ (∀ b, S1 b → S b ∧ ¬ S2 b) ∧ ∀ b, S2 b → S b
  | _, _, _ => False
def EndA (G : Glb) (W : WX) (P H : Hp) (F : Nat → Ad) (σ : L2.St) (Q : List V → Hp → Prop) : Out (List Opd) → Prop
  | .ok os ρ' => ∀ vs P' H' F' S, Now G P' H' σ ρ' F' → Stp P H F P' H' F' → HasL G P' H' F' σ S vs os → (∀ b, S b → (P' b = none ∧ H' b ≠ none ∧ ∀ i, ¬ F' i b) ∧ ((∃ i, F i b) ∨ H b = none)) → Q vs H'
  | .exc c ρ' => ∀ P' H' F', Now G P' H' σ ρ' F' → Stp P H F P' H' F' → W (.ref (G.ea c)) none σ H'
  | .stk => False
def tA (G : Glb) (W : WX) (f : FA) : TA := fun σ H Q => ∃ ρ P F, Now G P H σ ρ F ∧ EndA G W P H F σ Q (f ρ)

theorem PE.imp {X : Cx} {e : Expr} {t t' : TE} (h : PE X e t) (i : ∀ σ H Q, t' σ H Q → t σ H Q) : PE X e t' := ⟨fun pins s σ H Q I q => h.run pins s σ H Q I (i σ H Q q)⟩
theorem PT.imp {X : Cx} {e : Expr} {t t' : TT} (h : PT X e t) (i : ∀ σ H Q, t' σ H Q → t σ H Q) : PT X e t' := ⟨fun pins s σ H Q I q => h.run pins s σ H Q I (i σ H Q q)⟩
theorem PA.imp {X : Cx} {e : List Expr} {t t' : TA} (h : PA X e t) (i : ∀ σ H Q, t' σ H Q → t σ H Q) : PA X e t' := ⟨fun pos pins s σ H Q I q => h.run pos pins s σ H Q I (i σ H Q q)⟩

section
variable {G : Glb} {W : WX} {P H P1 H1 : Hp} {F F1 : Nat → Ad} {σ : L2.St} {ρ : Rho} {S : Ad} {v : V} {o : Opd} {w : Vl}
theorem HasL.step (s : Stp P H F P1 H1 F1) : ∀ {vs : List V} {os : List Opd} {S : Ad}, HasL G P H F σ S vs os → HasL G P1 H1 F1 σ S vs os
  | [], [], _, _ => trivial
  | v :: vs, o :: os, _, ⟨S1, S2, h1, h2, h3, h4⟩ => ⟨S1, S2, h1.step s, HasL.step s h2, h3, h4⟩
  | [], _ :: _, _, h => h.elim
  | _ :: _, [], _, h => h.elim
theorem EndO.trans {Q : VK} {r : Out Opd} (s : Stp P H F P1 H1 F1) (h : EndO G W P H F σ Q r) : EndO G W P1 H1 F1 σ Q r := by
  cases r with
  | ok o ρ' =>
    intro v P' H' F' S n t hs hq
    refine h v P' H' F' S n (s.trans t) hs fun b hb => ?_
    rcases hq b hb with ⟨i, hi⟩ | z
    · exact s.sub i b hi
    · exact .inr (Classical.byContradiction fun q => s.al b q z)
  | exc c ρ' => exact fun P' H' F' n t => h P' H' F' n (s.trans t)
  | stk => exact h
theorem EndT.trans {Q : Bool → Hp → Prop} {r : Out Bool} (s : Stp P H F P1 H1 F1) (h : EndT G W P H F σ Q r) : EndT G W P1 H1 F1 σ Q r := by
  cases r with
  | ok o ρ' => exact fun P' H' F' n t => h P' H' F' n (s.trans t)
  | exc c ρ' => exact fun P' H' F' n t => h P' H' F' n (s.trans t)
  | stk => exact h
theorem EndA.trans {Q : List V → Hp → Prop} {r : Out (List Opd)} (s : Stp P H F P1 H1 F1) (h : EndA G W P H F σ Q r) : EndA G W P1 H1 F1 σ Q r := by
  cases r with
  | ok o ρ' =>
    intro v P' H' F' S n t hs hq
    refine h v P' H' F' S n (s.trans t) hs fun b hb => ⟨(hq b hb).1, ?_⟩
    rcases (hq b hb).2 with ⟨i, hi⟩ | z
    · exact s.sub i b hi
    · exact .inr (Classical.byContradiction fun q => s.al b q z)
  | exc c ρ' => exact fun P' H' F' n t => h P' H' F' n (s.trans t)
  | stk => exact h
end

/-! ### sequencing -/
def Out.bind {α β : Type} (x : Out α) (k : α → Rho → Out β) : Out β :=
  match x with
  | .ok a ρ => k a ρ
  | .exc c ρ => .exc c ρ
  | .stk => .stk
/-- a plain result -/
def ret (ρ : Rho) : Option Vl → Out Opd
  | some w => .ok (.val w) ρ
  | none => .stk

section
variable {G : Glb} {W : WX} {P H P1 H1 : Hp} {F F1 : Nat → Ad} {σ : L2.St} {ρ : Rho} {S : Ad} {v : V} {o : Opd} {w : Vl} {f : FE}
/-- first f, then what k says -/
theorem tE_bind {Q : VK} {β : Type} {k : Opd → Rho → Out β} {End : Hp → Hp → (Nat → Ad) → Out β → Prop} (n : Now G P H σ ρ F) (hE : End P H F ((f ρ).bind k))
    (hx : ∀ c ρ', End P H F (.exc c ρ') → ∀ P' H' F', Now G P' H' σ ρ' F' → Stp P H F P' H' F' → W (.ref (G.ea c)) none σ H') (hs : ¬ End P H F .stk)
    (h : ∀ o ρ1 v P1 H1 F1 S, f ρ = .ok o ρ1 → End P H F (k o ρ1) → Now G P1 H1 σ ρ1 F1 → Stp P H F P1 H1 F1 → Has G P1 H1 F1 σ S v o → (∀ b, S b → (∃ i, F i b) ∨ H b = none) → Q v H1) : tE G W f σ H Q := by
  refine ⟨ρ, P, F, n, ?_⟩
  cases e : f ρ with
  | ok o ρ1 =>
    rw [e] at hE
    exact fun v P1 H1 F1 S n1 s1 h1 q1 => h o ρ1 v P1 H1 F1 S e hE n1 s1 h1 q1
  | exc c ρ' =>
    rw [e] at hE
    exact hx c ρ' hE
  | stk =>
    rw [e] at hE
    exact (hs hE).elim
theorem endO_val {Q : VK} {r : Option Vl} (h : EndO G W P H F σ Q (ret ρ r)) : ∃ w, r = some w ∧ EndO G W P H F σ Q (.ok (.val w) ρ) := by
  cases r with
  | none => exact h.elim
  | some w => exact ⟨w, rfl, h⟩
/-- a result that is made of new things alone -/
theorem EndO.alc {Q : VK} {P' H' : Hp} (h : EndO G W P H F σ Q (.ok (.val w) ρ)) (n : Now G P H σ ρ F) (a : Alc P H P' H' S) (o : Ow G P' H' S v w) : Q v H' :=
  h v P' H' F S (a.now n) a.stp (a.tmp n o) fun b hb => .inr (a.new b hb).1
theorem EndO.same {Q : VK} (h : EndO G W P H F σ Q (.ok (.val w) ρ)) (n : Now G P H σ ρ F) (o : Ow G P H nobody v w) : Q v H := h.alc n (Alc.refl n.ex) o
end

/-! ### operators by views -/
/-- r answers what g says of what the operands hold -/
def OpOk (G : Glb) (r : R2) (g : Vl → Vl → Option Vl) : Prop :=
  ∀ (P H : Hp) (x y : V) (a b w : Vl) (Q : VK), Same P H → OwE G P H x a → OwE G P H y b → g a b = some w → (∀ v P' H' S, Alc P H P' H' S → Ow G P' H' S v w → Q v H') → r x y H Q
def bin (g : Vl → Vl → Option Vl) (fa fb : FE) : FE := fun ρ => (fa ρ).bind fun x ρ1 => (fb ρ1).bind fun y ρ2 => ret ρ2 ((look ρ2 x).bind fun a => (look ρ2 y).bind fun b => g a b)
theorem bin_ok {G : Glb} {W : WX} {r : R2} {g : Vl → Vl → Option Vl} (ok : OpOk G r g) {fa fb : FE} {σ : L2.St} {H : Hp} {Q : VK} (h : tE G W (bin g fa fb) σ H Q) : tOp r (tE G W fa) (tE G W fb) σ H Q := by
  obtain ⟨ρ, P, F, n, h⟩ := h
  refine tE_bind (End := fun P H F => EndO G W P H F σ Q) n h (fun _ _ z => z) (fun z => z) fun x ρ1 vx P1 H1 F1 S1 e1 h1 n1 s1 hx q1 => ?_
  refine tE_bind (End := fun P H F => EndO G W P H F σ Q) n1 (EndO.trans s1 h1) (fun _ _ z => z) (fun z => z) fun y ρ2 vy P2 H2 F2 S2 e2 h2 n2 s2 hy q2 => ?_
  have h2 := EndO.trans s2 h2
  obtain ⟨w, hw, h2⟩ := endO_val h2
  cases ea : look ρ2 x with
  | none => rw [ea] at hw; cases hw
  | some a =>
    cases eb : look ρ2 y with
    | none => rw [ea, eb] at hw; cases hw
    | some b =>
      rw [ea, eb] at hw
      have hx' := (hx.step s2).look n2 ea
      have hy' := hy.look n2 eb
      exact ok P2 H2 vx vy a b w Q n2.ex hx' hy' hw fun v P' H' S a o => h2.alc n2 a o
def UnOk (G : Glb) (r : V → Hp → VK → Prop) (g : Vl → Option Vl) : Prop :=
  ∀ (P H : Hp) (x : V) (a w : Vl) (Q : VK), Same P H → OwE G P H x a → g a = some w → (∀ v P' H' S, Alc P H P' H' S → Ow G P' H' S v w → Q v H') → r x H Q
def una (g : Vl → Option Vl) (fa : FE) : FE := fun ρ => (fa ρ).bind fun x ρ1 => ret ρ1 ((look ρ1 x).bind g)
theorem una_ok {G : Glb} {W : WX} {r : V → Hp → VK → Prop} {g : Vl → Option Vl} (ok : UnOk G r g) {fa : FE} {σ : L2.St} {H : Hp} {Q : VK} (h : tE G W (una g fa) σ H Q) : tE G W fa σ H (fun x H1 => r x H1 Q) := by
  obtain ⟨ρ, P, F, n, h⟩ := h
  refine tE_bind (End := fun P H F => EndO G W P H F σ Q) n h (fun _ _ z => z) (fun z => z) fun x ρ1 vx P1 H1 F1 S1 e1 h1 n1 s1 hx q1 => ?_
  obtain ⟨w, hw, h2⟩ := endO_val (EndO.trans s1 h1)
  cases ea : look ρ1 x with
  | none => rw [ea] at hw; cases hw
  | some a =>
    rw [ea] at hw
    exact ok P1 H1 vx a w Q n1.ex (hx.look n1 ea) hw fun v P' H' S a o => h2.alc n1 a o

/-! ### arguments -/
def aNil : FA := fun ρ => .ok [] ρ
def aCons (f : FE) (g : FA) : FA := fun ρ => (f ρ).bind fun x ρ1 => (g ρ1).bind fun xs ρ2 => .ok (x :: xs) ρ2
theorem pa_nilV {X : Cx} {G : Glb} {W : WX} : PA X [] (tA G W aNil) := PA.imp pa_nil fun σ H Q h => by
  obtain ⟨ρ, P, F, n, h⟩ := h
  exact h [] P H F nobody n Stp.refl trivial fun b z => z.elim
theorem pa_consV {X : Cx} {G : Glb} {W : WX} {e : Expr} {es : List Expr} {f : FE} {g : FA} (he : PE X e (tE G W f)) (hr : PA X es (tA G W g)) (hs : starEach (e :: es) X.env = (false, eval e X.env) :: starEach es X.env := by rfl) : PA X (e :: es) (tA G W (aCons f g)) := PA.imp (pa_cons he hr hs) fun σ H Q h => by
  obtain ⟨ρ, P, F, n, h⟩ := h
  refine tE_bind (End := fun P H F => EndA G W P H F σ Q) n h (fun _ _ z => z) (fun z => z) fun x ρ1 vx P1 H1 F1 S1 e1 h1 n1 s1 hx q1 => ?_
  refine ⟨ρ1, P1, F1, n1, ?_⟩
  cases e : g ρ1 with
  | stk => rw [e] at h1; exact h1.elim
  | exc c ρ2 =>
    rw [e] at h1
    exact fun P2 H2 F2 n2 s2 => h1 P2 H2 F2 n2 (s1.trans s2)
  | ok xs ρ2 =>
    rw [e] at h1
    intro vs P2 H2 F2 S2 n2 s2 hs2 q2
    have hx2 := hx.step s2
    have back : ∀ b, S2 b → (∃ i, F i b) ∨ H b = none := fun b hb => by
      rcases (q2 b hb).2 with ⟨i, hi⟩ | z
      · exact s1.sub i b hi
      · exact .inr (Classical.byContradiction fun q => s1.al b q z)
    cases x with
    | val w =>
      have t2 : Tmp G P2 H2 F2 S1 vx w := hx2
      have t1 : Tmp G P1 H1 F1 S1 vx w := hx
      refine h1 (vx :: vs) P2 H2 F2 (fun b => S1 b ∨ S2 b) n2 (s1.trans s2) ⟨S1, S2, hx2, hs2, fun b hb => ⟨.inl hb, fun z => ?_⟩, fun b hb => .inr hb⟩ fun b hb => ?_
      · rcases (q2 b z).2 with ⟨i, hi⟩ | y
        · exact t1.dj b hb i hi
        · exact t1.al b hb y
      · rcases hb with hb | hb
        · exact ⟨⟨t2.np b hb, t2.al b hb, t2.dj b hb⟩, q1 b hb⟩
        · exact ⟨(q2 b hb).1, back b hb⟩
    | brw i =>
      exact h1 (vx :: vs) P2 H2 F2 S2 n2 (s1.trans s2) ⟨nobody, S2, hx2, hs2, fun b hb => hb.elim, fun b hb => hb⟩ fun b hb => ⟨(q2 b hb).1, back b hb⟩
end Mi
end
section
set_option Elab.async false
set_option linter.all false
set_option maxRecDepth 100000
/-! Ev3: constants, slots, operators on data -/
namespace Mi
open PySem L2

noncomputable def gd (p : Prop) (x : Vl) : Option Vl := by classical exact if p then some x else none
theorem gd_pos {p : Prop} {x : Vl} (h : p) : gd p x = some x := by unfold gd; exact if_pos h
theorem gd_some {p : Prop} {x w : Vl} (h : gd p x = some w) : p ∧ x = w := by
  unfold gd at h
  by_cases q : p
  · rw [if_pos q] at h; exact ⟨q, Option.some.inj h⟩
  · rw [if_neg q] at h; cases h
abbrev vI (i : Int) : Vl := .dat (.int i)
abbrev vB (b : Bool) : Vl := .dat (.bool b)

/-! ### slots, constants -/
def fV (i : Nat) : FE := fun ρ => match (ρ[i]?).join with
  | some (.dat d) => .ok (.val (.dat d)) ρ
  | some _ => .ok (.brw i) ρ
  | none => .stk
def fC (d : PyData) : FE := fun ρ => .ok (.val (.dat d)) ρ
section
variable {X : Cx} {W : WX} {G : Glb} {P H : Hp} {F : Nat → Ad} {σ : L2.St} {ρ : Rho} {Q : VK}
theorem join_some {ρ : Rho} {i : Nat} {w : Vl} (h : (ρ[i]?).join = some w) : ρ[i]? = some (some w) := by
  cases q : ρ[i]? with
  | none => rw [q] at h; cases h
  | some x => rw [q] at h; have : x = some w := h; rw [this]
theorem EndO.datum {d : PyData} {v : V} (n : Now G P H σ ρ F) (h : EndO G W P H F σ Q (.ok (.val (.dat d)) ρ)) (r : Dp G.K P v d) : Q v H :=
  h v P H F nobody n Stp.refl ⟨r, fun _ z => z.elim, fun _ z => z.elim, fun _ z => z.elim, fun _ _ z => z.elim⟩ fun _ z => z.elim
theorem pv_V {i : Nat} {x : Str} {pos : Pos} (hN : X.N[i]? = some x := by rfl) (hv : Vis X.env.scope x := by first | exact Or.inl rfl | exact Or.inr (Or.inl rfl) | exact Or.inr (Or.inr rfl))
    (hd : (x == ("__debug__" : Str)) = false := by decide) (hcd : (x == ("__classdict__" : Str)) = false := by decide) : PE X (.Name x pos) (tE G W (fV i)) := PE.imp (pe_var hN hv hd hcd) fun σ H Q h => by
  obtain ⟨ρ, P, F, n, h⟩ := h
  unfold fV at h
  cases e : (ρ[i]?).join with
  | none => rw [e] at h; exact h.elim
  | some w =>
    obtain ⟨v, h1, h2⟩ := n.rd i w (join_some e)
    refine ⟨v, h1, ?_⟩
    rw [e] at h
    cases w with
    | dat d => exact h.datum n h2
    | ml ds => exact h v P H F nobody n Stp.refl h1 fun _ z => z.elim
    | mml ds => exact h v P H F nobody n Stp.refl h1 fun _ z => z.elim
    | ob c fs => exact h v P H F nobody n Stp.refl h1 fun _ z => z.elim
    | st ns => exact h v P H F nobody n Stp.refl h1 fun _ z => z.elim
theorem pc_datum {e : Expr} {v : V} {d : PyData} (he : PE X e (tC v)) (r : ∀ P : Hp, Dp G.K P v d) : PE X e (tE G W (fC d)) := PE.imp he fun σ H Q h => by
  obtain ⟨ρ, P, F, n, h⟩ := h
  exact h.datum n (r P)
theorem pc_int {i j pos} : PE X (.Constant (.int i) j pos) (tE G W (fC (.int i))) := pc_datum pe_int fun _ => .int _
theorem pc_bl {b j pos} : PE X (.Constant (.bool b) j pos) (tE G W (fC (.bool b))) := pc_datum pe_bl fun _ => .bl _
theorem pc_non {j pos} : PE X (.Constant .none j pos) (tE G W (fC .none)) := pc_datum pe_non fun _ => .non
theorem pc_str {x j pos} : PE X (.Constant (.str x) j pos) (tE G W (fC (.str x))) := pc_datum pe_str fun _ => .str _
/-- a constant of the module -/
theorem pc_glob {x : Str} {v : V} {u : Value} {d : PyData} {pos : Pos} (hg : Gl X x) (hm : X.mg x = some u) (r : RelV v u) (rd : ∀ P : Hp, Dp G.K P v d) (hd : (x == ("__debug__" : Str)) = false := by decide) : PE X (.Name x pos) (tE G W (fC d)) :=
  pc_datum (pe_glob hg hm r hd) rd
end

/-! ### ints -/
noncomputable def iop (C : Int → Int → Prop) (g : Int → Int → PyData) : Vl → Vl → Option Vl
  | .dat (.int i), .dat (.int j) => gd (C i j) (.dat (g i j))
  | _, _ => none
section
variable {G : Glb} {P H : Hp} {v : V}
theorem ow_int {i : Int} (h : OwE G P H v (.dat (.int i))) : v = .int i := by
  obtain ⟨S, h⟩ := h
  have h : Dp G.K P v (.int i) := h
  cases h; rfl
theorem ow_bool {i : Bool} (h : OwE G P H v (.dat (.bool i))) : v = .bl i := by
  obtain ⟨S, h⟩ := h
  have h : Dp G.K P v (.bool i) := h
  cases h; rfl
theorem ow_str {i : Str} (h : OwE G P H v (.dat (.str i))) : v = .str i := by
  obtain ⟨S, h⟩ := h
  have h : Dp G.K P v (.str i) := h
  cases h; rfl
theorem ow_non (h : OwE G P H v (.dat .none)) : v = .non := by
  obtain ⟨S, h⟩ := h
  have h : Dp G.K P v .none := h
  cases h; rfl
theorem okI {C : Int → Int → Prop} {g : Int → Int → V} {d : Int → Int → PyData} (r : ∀ (K : PySem.W.Frag) (P : Hp) i j, Dp K P (g i j) (d i j)) : OpOk G (rI C g) (iop C d) := by
  intro P H x y a b w Q e hx hy hw k
  unfold iop at hw
  split at hw
  · rename_i i j
    obtain ⟨hc, rfl⟩ := gd_some hw
    rw [ow_int hx, ow_int hy]
    exact ⟨i, j, rfl, rfl, hc, k _ P H nobody (Alc.refl e) (r _ _ i j)⟩
  · cases hw
abbrev tt2 : Int → Int → Prop := fun _ _ => True
theorem okI0 {g : Int → Int → V} {d : Int → Int → PyData} (r : ∀ (K : PySem.W.Frag) (P : Hp) i j, Dp K P (g i j) (d i j)) : OpOk G (rI0 g) (iop tt2 d) := by
  intro P H x y a b w Q e hx hy hw k
  unfold iop at hw
  split at hw
  · rename_i i j
    obtain ⟨hc, rfl⟩ := gd_some hw
    rw [ow_int hx, ow_int hy]
    exact ⟨i, j, rfl, rfl, k _ P H nobody (Alc.refl e) (r _ _ i j)⟩
  · cases hw
theorem okOr1 {r r' : R2} {g : Vl → Vl → Option Vl} (h : OpOk G r g) : OpOk G (fun x y H Q => r x y H Q ∨ r' x y H Q) g := fun P H x y a b w Q e hx hy hw k => .inl (h P H x y a b w Q e hx hy hw k)
def orG (g g' : Vl → Vl → Option Vl) : Vl → Vl → Option Vl := fun a b => match g a b with
  | some w => some w
  | none => g' a b
theorem okOr {r r' : R2} {g g' : Vl → Vl → Option Vl} (h : OpOk G r g) (h' : OpOk G r' g') : OpOk G (fun x y H Q => r x y H Q ∨ r' x y H Q) (orG g g') := fun P H x y a b w Q e hx hy hw k => by
  unfold orG at hw
  cases q : g a b with
  | some w' => rw [q] at hw; cases hw; exact .inl (h P H x y a b w Q e hx hy q k)
  | none => rw [q] at hw; exact .inr (h' P H x y a b w Q e hx hy hw k)
end
theorem OpR.or {X : Cx} {f : Value → Value → Sem Value} {r r' : R2} (h : OpR X f r) (h' : OpR X f r') : OpR X f (fun x y H Q => r x y H Q ∨ r' x y H Q) := by
  intro pins s σ H x y v u Q I rx ry q
  rcases q with q | q
  · exact h pins s σ H x y v u Q I rx ry q
  · exact h' pins s σ H x y v u Q I rx ry q

noncomputable def gSub := iop tt2 fun i j => .int (i - j)
noncomputable def gFDiv := iop CDiv fun i j => .int (i / j)
noncomputable def gMod := iop (fun _ j => 0 < j) fun i j => .int (i % j)
noncomputable def gPow := iop CPow fun i j => .int (i ^ j.toNat)
noncomputable def gShl := iop CPow fun i j => .int (i * 2 ^ j.toNat)
noncomputable def gShr := iop (fun _ j => 0 ≤ j) fun i j => .int (i / 2 ^ j.toNat)
noncomputable def gAnd := iop tt2 fun i j => .int (Builtin.bitAnd i j)
noncomputable def gOr := iop tt2 fun i j => .int (Builtin.bitOr i j)
noncomputable def gXor := iop tt2 fun i j => .int (Builtin.bitXor i j)
noncomputable def gLt := iop tt2 fun i j => .bool (decide (i < j))
noncomputable def gLe := iop tt2 fun i j => .bool (decide (i ≤ j))
noncomputable def gGt := iop tt2 fun i j => .bool (decide (j < i))
noncomputable def gGe := iop tt2 fun i j => .bool (decide (j ≤ i))

section
variable {X : Cx} {W : WX} {G : Glb} {a b : Expr} {fa fb : FE} {pos : Pos}
theorem pe_binV {op : Operator} {r : R2} {g : Vl → Vl → Option Vl} (ho : OpR X (binaryOp op) r) (ok : OpOk G r g) (ha : PE X a (tE G W fa)) (hb : PE X b (tE G W fb)) : PE X (.BinOp a op b pos) (tE G W (bin g fa fb)) :=
  PE.imp (pe_op ho ha hb) fun _ _ _ h => bin_ok ok h
theorem pe_cmpV {op : CmpOp} {r : R2} {g : Vl → Vl → Option Vl} (ho : OpR X (compareOp op) r) (ok : OpOk G r g) (ha : PE X a (tE G W fa)) (hb : PE X b (tE G W fb)) (hm : behindInMarks op b = false := by rfl) : PE X (.Compare a [op] [b] pos) (tE G W (bin g fa fb)) :=
  PE.imp (pe_cmpR ho ha hb hm) fun _ _ _ h => bin_ok ok h
theorem e_sub (ha : PE X a (tE G W fa)) (hb : PE X b (tE G W fb)) : PE X (.BinOp a .Sub b pos) (tE G W (bin gSub fa fb)) := pe_binV op_sub (okI0 fun _ _ _ _ => .int _) ha hb
theorem e_fdiv (ha : PE X a (tE G W fa)) (hb : PE X b (tE G W fb)) : PE X (.BinOp a .FloorDiv b pos) (tE G W (bin gFDiv fa fb)) := pe_binV op_fdiv (okI fun _ _ _ _ => .int _) ha hb
theorem e_mod (ha : PE X a (tE G W fa)) (hb : PE X b (tE G W fb)) : PE X (.BinOp a .Mod b pos) (tE G W (bin gMod fa fb)) := pe_binV op_mod (okI fun _ _ _ _ => .int _) ha hb
theorem e_pow (ha : PE X a (tE G W fa)) (hb : PE X b (tE G W fb)) : PE X (.BinOp a .Pow b pos) (tE G W (bin gPow fa fb)) := pe_binV op_pow (okI fun _ _ _ _ => .int _) ha hb
theorem e_shl (ha : PE X a (tE G W fa)) (hb : PE X b (tE G W fb)) : PE X (.BinOp a .LShift b pos) (tE G W (bin gShl fa fb)) := pe_binV op_shl (okI fun _ _ _ _ => .int _) ha hb
theorem e_shr (ha : PE X a (tE G W fa)) (hb : PE X b (tE G W fb)) : PE X (.BinOp a .RShift b pos) (tE G W (bin gShr fa fb)) := pe_binV op_shr (okI fun _ _ _ _ => .int _) ha hb
theorem e_and (ha : PE X a (tE G W fa)) (hb : PE X b (tE G W fb)) : PE X (.BinOp a .BitAnd b pos) (tE G W (bin gAnd fa fb)) := pe_binV op_and (okI0 fun _ _ _ _ => .int _) ha hb
theorem e_or (ha : PE X a (tE G W fa)) (hb : PE X b (tE G W fb)) : PE X (.BinOp a .BitOr b pos) (tE G W (bin gOr fa fb)) := pe_binV op_or (okI0 fun _ _ _ _ => .int _) ha hb
theorem e_xor (ha : PE X a (tE G W fa)) (hb : PE X b (tE G W fb)) : PE X (.BinOp a .BitXor b pos) (tE G W (bin gXor fa fb)) := pe_binV op_xor (okI0 fun _ _ _ _ => .int _) ha hb
theorem e_lt (ha : PE X a (tE G W fa)) (hb : PE X b (tE G W fb)) : PE X (.Compare a [.Lt] [b] pos) (tE G W (bin gLt fa fb)) := pe_cmpV op_lt (okI0 fun _ _ _ _ => .bl _) ha hb (nomark _)
theorem e_le (ha : PE X a (tE G W fa)) (hb : PE X b (tE G W fb)) : PE X (.Compare a [.LtE] [b] pos) (tE G W (bin gLe fa fb)) := pe_cmpV op_le (okI0 fun _ _ _ _ => .bl _) ha hb (nomark _)
theorem e_gt (ha : PE X a (tE G W fa)) (hb : PE X b (tE G W fb)) : PE X (.Compare a [.Gt] [b] pos) (tE G W (bin gGt fa fb)) := pe_cmpV op_gt (okI0 fun _ _ _ _ => .bl _) ha hb (nomark _)
theorem e_ge (ha : PE X a (tE G W fa)) (hb : PE X b (tE G W fb)) : PE X (.Compare a [.GtE] [b] pos) (tE G W (bin gGe fa fb)) := pe_cmpV op_ge (okI0 fun _ _ _ _ => .bl _) ha hb (nomark _)
end

/-! ### data: views, ==, in -/
def viewD : Vl → Option PyData
  | .dat d => some d
  | .ml ds => some (.list ds)
  | .mml dss => some (.list (dss.map .list))
  | .ob _ _ => none
  | .st _ => none
def asL : Vl → Option (List PyData)
  | .dat (.list ds) => some ds
  | .ml ds => some ds
  | _ => none
def asT : Vl → Option (List PyData)
  | .dat (.tuple ds) => some ds
  | _ => none
section
variable {G : Glb} {P H : Hp} {v : V} {w : Vl} {d : PyData} {ds : List PyData}
theorem rows_dpa {S : Ad} (e : Same P H) : ∀ {as : List Addr} {dss : List (List PyData)}, Rows G P H S as dss → DpAll G.K H (as.map V.ref) (dss.map PyData.list)
  | [], [], _ => .nil
  | b :: as, ds :: dss, ⟨_, _, ⟨ys, h2, h3⟩, h4⟩ => .cons (.lst (SqL.of h2) (dpa_mono e _ _ h3)) (rows_dpa e h4)
  | [], _ :: _, h => h.elim
  | _ :: _, [], h => h.elim
theorem OwE.dp (h : OwE G P H v w) (e : Same P H) (hv : viewD w = some d) : Dp G.K H v d := by
  obtain ⟨S, h⟩ := h
  cases w with
  | dat d' => cases hv; exact dp_mono e _ _ h
  | ml ds => cases hv; obtain ⟨a, xs, rfl, _, h3, h4⟩ := h; exact .lst (SqL.of h3) (dpa_mono e _ _ h4)
  | mml dss => cases hv; obtain ⟨a, as, rfl, _, _, h4, h5⟩ := h; exact .lst (SqL.of h4) (rows_dpa e h5)
  | ob c fs => cases hv
  | st ns => cases hv
theorem OwE.lst (h : OwE G P H v w) (e : Same P H) (hv : asL w = some ds) : ∃ a xs, v = .ref a ∧ SqL G.K H a xs ∧ DpAll G.K P xs ds := by
  obtain ⟨S, h⟩ := h
  cases w with
  | dat d =>
    cases d with
    | list ds' =>
      cases hv
      have h : Dp G.K P v (.list ds) := h
      cases h with
      | lst hs ha => exact ⟨_, _, rfl, e.seq hs, ha⟩
    | _ => cases hv
  | ml ds => cases hv; obtain ⟨a, xs, rfl, _, h3, h4⟩ := h; exact ⟨a, xs, rfl, SqL.of h3, h4⟩
  | mml dss => cases hv
  | ob c fs => cases hv
  | st ns => cases hv
theorem OwE.tup (h : OwE G P H v w) (e : Same P H) (hv : asT w = some ds) : ∃ a xs, v = .ref a ∧ SqT G.K H a xs ∧ DpAll G.K P xs ds := by
  obtain ⟨S, h⟩ := h
  cases w with
  | dat d =>
    cases d with
    | tuple ds' =>
      cases hv
      have h : Dp G.K P v (.tuple ds) := h
      cases h with
      | tup hs ha => exact ⟨_, _, rfl, sqT_mono e hs, ha⟩
    | _ => cases hv
  | ml ds => cases hv
  | mml dss => cases hv
  | ob c fs => cases hv
  | st ns => cases hv
end
abbrev shp (d : PyData) : Prop := SeqAt.shaped d = true
noncomputable def gEqD (a b : Vl) : Option Vl := (viewD a).bind fun d => (viewD b).bind fun e => gd (shp d ∧ shp e) (vB (PyData.eqv d e))
noncomputable def gNeD (a b : Vl) : Option Vl := (viewD a).bind fun d => (viewD b).bind fun e => gd (shp d ∧ shp e) (vB (!PyData.eqv d e))
def gEqS : Vl → Vl → Option Vl
  | .dat (.str i), .dat (.str j) => some (vB (decide (i = j)))
  | _, _ => none
def gNeS : Vl → Vl → Option Vl
  | .dat (.str i), .dat (.str j) => some (vB (!decide (i = j)))
  | _, _ => none
noncomputable def gEq : Vl → Vl → Option Vl := orG gEqS gEqD
noncomputable def gNe : Vl → Vl → Option Vl := orG gNeS gNeD
noncomputable def gIn (a b : Vl) : Option Vl := (viewD a).bind fun d => (viewD b).bind fun e => match e with
  | .list ds => gd (shp d ∧ shp e) (vB (ds.any fun z => PyData.eqv z d))
  | .tuple ds => gd (shp d ∧ shp e) (vB (ds.any fun z => PyData.eqv z d))
  | _ => none
noncomputable def gNotIn (a b : Vl) : Option Vl := (viewD a).bind fun d => (viewD b).bind fun e => match e with
  | .list ds => gd (shp d ∧ shp e) (vB (!ds.any fun z => PyData.eqv z d))
  | .tuple ds => gd (shp d ∧ shp e) (vB (!ds.any fun z => PyData.eqv z d))
  | _ => none
def rInT (K : PySem.W.Frag) (neg : Bool) : R2 := fun x y H Q => ∃ d ds, Dp K H x d ∧ Dp K H y (.tuple ds) ∧ SeqAt.shaped d = true ∧ SeqAt.shaped (.tuple ds) = true ∧ Q (.bl (if neg then !ds.any (fun z => PyData.eqv z d) else ds.any fun z => PyData.eqv z d)) H
section
variable {X : Cx}
theorem op_inT (hu : X.A.units + 65 < cLine) : OpR X (compareOp .In) (rInT X.K false) := by
  intro pins s σ H x y v u Q I rx ry h
  obtain ⟨d, ds, hd, he, sd, se, q⟩ := h
  obtain ⟨as, r1⟩ := Dp.reads I d x v hd rx
  obtain ⟨bs, r2⟩ := Dp.reads I (.tuple ds) y u he ry
  exact SeqAt.in_tuple_reads r2 r1 (SeqAt.canLay_of_shaped se) (SeqAt.canLay_of_shaped sd) (PyProof.Rows.room_in_shaped sd hu) ⟨.bl _, H, I, rfl, q⟩
theorem op_notInT (hu : X.A.units + 65 < cLine) : OpR X (compareOp .NotIn) (rInT X.K true) := by
  intro pins s σ H x y v u Q I rx ry h
  obtain ⟨d, ds, hd, he, sd, se, q⟩ := h
  obtain ⟨as, r1⟩ := Dp.reads I d x v hd rx
  obtain ⟨bs, r2⟩ := Dp.reads I (.tuple ds) y u he ry
  exact SeqAt.notIn_tuple_reads r2 r1 (SeqAt.canLay_of_shaped se) (SeqAt.canLay_of_shaped sd) (PyProof.Rows.room_in_shaped sd hu) ⟨.bl _, H, I, rfl, q⟩
end
end Mi
end
section
set_option Elab.async false
set_option linter.all false
set_option maxRecDepth 100000
/-! Ev4: the context; ==, in, +, *, subscripts, slices; tests; displays; calls of built-ins -/
namespace Mi
open PySem L2

/-- what a rule may lean on -/
structure Cxt (G : Glb) (X : Cx) (W : WX) (k : Nat) : Prop where
  K : X.K = G.K
  calm : X.calm = true
  room : Room k X.A
  gd : X.A.guards = some []
  tk : L2N.Takes X W
  nd : X.N.Nodup
theorem Cxt.u65 {G : Glb} {X : Cx} {W : WX} {k : Nat} (c : Cxt G X W k) : X.A.units + 65 < cLine := by have := c.room.un; omega
theorem Cxt.u64 {G : Glb} {X : Cx} {W : WX} {k : Nat} (c : Cxt G X W k) : X.A.units + 64 < cLine := by have := c.room.un; omega

section
variable {X : Cx} {W : WX} {G : Glb} {k : Nat} {a b e : Expr} {fa fb f : FE} {pos : Pos} {K : PySem.W.Frag}
theorem okEqD (h : K = G.K) : OpOk G (rEqD K) gEqD := by
  subst h
  intro P H x y a b w Q e hx hy hw q
  unfold gEqD at hw
  cases ea : viewD a with
  | none => rw [ea] at hw; cases hw
  | some d =>
    cases eb : viewD b with
    | none => rw [ea, eb] at hw; cases hw
    | some d' =>
      rw [ea, eb] at hw
      obtain ⟨⟨h1, h2⟩, rfl⟩ := gd_some hw
      exact ⟨d, d', hx.dp e ea, hy.dp e eb, h1, h2, q _ P H nobody (Alc.refl e) (Dp.bl _)⟩
theorem okNeD (h : K = G.K) : OpOk G (rNeD K) gNeD := by
  subst h
  intro P H x y a b w Q e hx hy hw q
  unfold gNeD at hw
  cases ea : viewD a with
  | none => rw [ea] at hw; cases hw
  | some d =>
    cases eb : viewD b with
    | none => rw [ea, eb] at hw; cases hw
    | some d' =>
      rw [ea, eb] at hw
      obtain ⟨⟨h1, h2⟩, rfl⟩ := gd_some hw
      exact ⟨d, d', hx.dp e ea, hy.dp e eb, h1, h2, q _ P H nobody (Alc.refl e) (Dp.bl _)⟩
theorem okEqS : OpOk G rEq gEqS := by
  intro P H x y a b w Q e hx hy hw q
  unfold gEqS at hw
  split at hw
  · rename_i i j
    cases hw
    rw [ow_str hx, ow_str hy]
    refine ⟨rfl, ?_⟩
    rw [show decide (V.str i = V.str j) = decide (i = j) from by simp]
    exact q _ P H nobody (Alc.refl e) (Dp.bl _)
  · cases hw
theorem okNeS : OpOk G rNe gNeS := by
  intro P H x y a b w Q e hx hy hw q
  unfold gNeS at hw
  split at hw
  · rename_i i j
    cases hw
    rw [ow_str hx, ow_str hy]
    refine ⟨rfl, ?_⟩
    rw [show decide (V.str i = V.str j) = decide (i = j) from by simp]
    exact q _ P H nobody (Alc.refl e) (Dp.bl _)
  · cases hw
theorem okEq (h : K = G.K) : OpOk G (fun x y H Q => rEq x y H Q ∨ rEqD K x y H Q) gEq := okOr okEqS (okEqD h)
theorem okNe (h : K = G.K) : OpOk G (fun x y H Q => rNe x y H Q ∨ rNeD K x y H Q) gNe := okOr okNeS (okNeD h)
theorem okIn (h : K = G.K) : OpOk G (fun x y H Q => rInD K x y H Q ∨ rInT K false x y H Q) gIn := by
  subst h
  intro P H x y a b w Q e hx hy hw q
  unfold gIn at hw
  cases ea : viewD a with
  | none => rw [ea] at hw; cases hw
  | some d =>
    cases eb : viewD b with
    | none => rw [ea, eb] at hw; cases hw
    | some d' =>
      rw [ea, eb] at hw
      cases d' with
      | list ds =>
        obtain ⟨⟨h1, h2⟩, rfl⟩ := gd_some hw
        exact .inl ⟨d, ds, hx.dp e ea, hy.dp e eb, h1, h2, q _ P H nobody (Alc.refl e) (Dp.bl _)⟩
      | tuple ds =>
        obtain ⟨⟨h1, h2⟩, rfl⟩ := gd_some hw
        exact .inr ⟨d, ds, hx.dp e ea, hy.dp e eb, h1, h2, q _ P H nobody (Alc.refl e) (Dp.bl _)⟩
      | _ => cases hw
theorem okNotIn (h : K = G.K) : OpOk G (fun x y H Q => rNotInD K x y H Q ∨ rInT K true x y H Q) gNotIn := by
  subst h
  intro P H x y a b w Q e hx hy hw q
  unfold gNotIn at hw
  cases ea : viewD a with
  | none => rw [ea] at hw; cases hw
  | some d =>
    cases eb : viewD b with
    | none => rw [ea, eb] at hw; cases hw
    | some d' =>
      rw [ea, eb] at hw
      cases d' with
      | list ds =>
        obtain ⟨⟨h1, h2⟩, rfl⟩ := gd_some hw
        exact .inl ⟨d, ds, hx.dp e ea, hy.dp e eb, h1, h2, q _ P H nobody (Alc.refl e) (Dp.bl _)⟩
      | tuple ds =>
        obtain ⟨⟨h1, h2⟩, rfl⟩ := gd_some hw
        exact .inr ⟨d, ds, hx.dp e ea, hy.dp e eb, h1, h2, q _ P H nobody (Alc.refl e) (Dp.bl _)⟩
      | _ => cases hw
theorem e_eq (c : Cxt G X W k) (ha : PE X a (tE G W fa)) (hb : PE X b (tE G W fb)) : PE X (.Compare a [.Eq] [b] pos) (tE G W (bin gEq fa fb)) := pe_cmpV (OpR.or op_eq (op_eqD c.u64)) (okEq c.K) ha hb (nomark _)
theorem e_ne (c : Cxt G X W k) (ha : PE X a (tE G W fa)) (hb : PE X b (tE G W fb)) : PE X (.Compare a [.NotEq] [b] pos) (tE G W (bin gNe fa fb)) := pe_cmpV (OpR.or op_ne (op_neD c.u64)) (okNe c.K) ha hb (nomark _)
theorem e_in (c : Cxt G X W k) (ha : PE X a (tE G W fa)) (hb : PE X b (tE G W fb)) (hm : behindInMarks .In b = false := by rfl) : PE X (.Compare a [.In] [b] pos) (tE G W (bin gIn fa fb)) := pe_cmpV (OpR.or (op_inD c.u65) (op_inT c.u65)) (okIn c.K) ha hb hm
theorem e_notIn (c : Cxt G X W k) (ha : PE X a (tE G W fa)) (hb : PE X b (tE G W fb)) (hm : behindInMarks .NotIn b = false := by rfl) : PE X (.Compare a [.NotIn] [b] pos) (tE G W (bin gNotIn fa fb)) := pe_cmpV (OpR.or (op_notInD c.u65) (op_notInT c.u65)) (okNotIn c.K) ha hb hm

/-! ### is None -/
def gIsN (neg : Bool) (a b : Vl) : Option Vl := match b with
  | .dat .none => match a with
    | .dat .none => some (vB (if neg then false else true))
    | _ => some (vB (if neg then true else false))
  | _ => none
theorem ow_ne_non {P H : Hp} {v : V} {w : Vl} (h : OwE G P H v w) (n : w ≠ .dat .none) : v ≠ .non := by
  obtain ⟨S, h⟩ := h
  intro z
  subst z
  cases w with
  | dat d =>
    have h : Dp G.K P .non d := h
    cases h; exact n rfl
  | ml ds => obtain ⟨a, xs, z, _⟩ := h; cases z
  | mml ds => obtain ⟨a, xs, z, _⟩ := h; cases z
  | ob c fs => obtain ⟨a, xs, fv, z, _⟩ := h; cases z
  | st ns => obtain ⟨a, m, n, z, _⟩ := h; cases z
theorem isN_core {neg : Bool} {P H : Hp} {x y : V} {a b w : Vl} {Q : VK} (e : Same P H) (hx : OwE G P H x a) (hy : OwE G P H y b) (hw : gIsN neg a b = some w) (q : ∀ v P' H' S, Alc P H P' H' S → Ow G P' H' S v w → Q v H') :
    y = .non ∧ Q (.bl (if neg then !decide (x = .non) else decide (x = .non))) H := by
  unfold gIsN at hw
  split at hw
  · refine ⟨ow_non hy, ?_⟩
    split at hw
    · cases hw
      rw [ow_non hx]
      cases neg <;> exact q _ P H nobody (Alc.refl e) (Dp.bl _)
    · rename_i h1
      cases hw
      have hne := ow_ne_non hx (fun z => h1 z)
      rw [decide_eq_false hne]
      cases neg <;> exact q _ P H nobody (Alc.refl e) (Dp.bl _)
  · cases hw
theorem okIsN : OpOk G (fun x y H Q => y = .non ∧ Q (.bl (decide (x = .non))) H) (gIsN false) := fun P H x y a b w Q e hx hy hw q => isN_core (neg := false) e hx hy hw q
theorem okNotN : OpOk G (fun x y H Q => y = .non ∧ Q (.bl (!decide (x = .non))) H) (gIsN true) := fun P H x y a b w Q e hx hy hw q => isN_core (neg := true) e hx hy hw q
theorem e_isN (ha : PE X a (tE G W fa)) (hb : PE X b (tE G W fb)) : PE X (.Compare a [.Is] [b] pos) (tE G W (bin (gIsN false) fa fb)) := pe_cmpV op_isN okIsN ha hb (nomark _)
theorem e_notN (ha : PE X a (tE G W fa)) (hb : PE X b (tE G W fb)) : PE X (.Compare a [.IsNot] [b] pos) (tE G W (bin (gIsN true) fa fb)) := pe_cmpV op_notN okNotN ha hb (nomark _)

/-! ### +, * -/
def rCatL (K : PySem.W.Frag) : R2 := fun x y H Q => ∃ l b xs zs, x = .ref l ∧ y = .ref b ∧ SqL K H l xs ∧ SqL K H b zs ∧ xs.length + zs.length ≤ sizeLine ∧ ∀ p, H p = none → Q (.ref p) (upd H p (.lst (xs ++ zs)))
theorem op_catL : OpR X (binaryOp .Add) (rCatL X.K) := by
  intro pins s σ H x y v u Q I rx ry h
  obtain ⟨l, b, xs, zs, rfl, rfl, hH, hB, hz, q⟩ := h
  cases rx
  cases ry
  obtain ⟨its, r, ⟨⟨cls, dd, data, sl⟩, n, ho, hc, hd0, hd⟩, _⟩ := I.list hH
  obtain ⟨its2, r2, ⟨⟨cls2, dd2, data2, sl2⟩, n2, ho2, hc2, hd02, hd2⟩, _⟩ := I.list hB
  simp only at hc hd hc2 hd2
  subst hc hd hc2 hd2
  have l1 := r.length
  have l2 := r2.length
  have ea : its.toArray ++ its2.toArray = (its ++ its2).toArray := by simp
  refine concat_meets ⟨_, ho, rfl⟩ ⟨_, ho2, rfl⟩ noFill_list_add seq_list_add PySem.F.slot_list_add PySem.F.entry_list_add (PySem.F.args_list_add_2 _ _) (PyProof.Rows.list_addW l b its.toArray its2.toArray n n2 dd dd2 sl sl2 (by rw [List.size_toArray, List.size_toArray]; omega)) ⟨ho, ho2, ?_⟩
  rw [ea]
  exact ⟨.ref _, _, I.lnew (t' := s.toks) (r.append r2) (by rw [List.length_append]; omega), rfl, q _ I.fresh⟩
noncomputable def gCatL (a b : Vl) : Option Vl := (asL a).bind fun ds => (asL b).bind fun es => gd (ds.length + es.length ≤ sizeLine) (.ml (ds ++ es))
noncomputable def gCatT (a b : Vl) : Option Vl := (asT a).bind fun ds => (asT b).bind fun es => gd (ds.length + es.length ≤ sizeLine) (.dat (.tuple (ds ++ es)))
noncomputable def gCatS : Vl → Vl → Option Vl
  | .dat (.str x), .dat (.str y) => gd (x.length + y.length ≤ sizeLine) (.dat (.str (x ++ y)))
  | _, _ => none
theorem okCatL (h : K = G.K) : OpOk G (rCatL K) gCatL := by
  subst h
  intro P H x y a b w Q e hx hy hw q
  unfold gCatL at hw
  cases ea : asL a with
  | none => rw [ea] at hw; cases hw
  | some ds =>
    cases eb : asL b with
    | none => rw [ea, eb] at hw; cases hw
    | some es =>
      rw [ea, eb] at hw
      obtain ⟨hz, rfl⟩ := gd_some hw
      obtain ⟨p1, xs, rfl, h1, h2⟩ := hx.lst e ea
      obtain ⟨p2, ys, rfl, h3, h4⟩ := hy.lst e eb
      have l1 := dpa_len _ _ h2
      have l2 := dpa_len _ _ h4
      exact ⟨p1, p2, xs, ys, rfl, rfl, h1, h3, by omega, fun p hp => q _ P _ _ (Alc.own e hp) ⟨p, _, rfl, rfl, upd_same, dpa_app h2 h4⟩⟩
theorem okCatT (h : K = G.K) : OpOk G (rCatA K) gCatT := by
  subst h
  intro P H x y a b w Q e hx hy hw q
  unfold gCatT at hw
  cases ea : asT a with
  | none => rw [ea] at hw; cases hw
  | some ds =>
    cases eb : asT b with
    | none => rw [ea, eb] at hw; cases hw
    | some es =>
      rw [ea, eb] at hw
      obtain ⟨hz, rfl⟩ := gd_some hw
      have hx0 := hx
      have hy0 := hy
      obtain ⟨p1, xs, rfl, h1, h2⟩ := hx.tup e ea
      obtain ⟨p2, ys, rfl, h3, h4⟩ := hy.tup e eb
      have l1 := dpa_len _ _ h2
      have l2 := dpa_len _ _ h4
      have ra : a = .dat (.tuple ds) := by
        cases a with
        | dat d => cases d <;> first | (cases ea; rfl) | cases ea
        | _ => cases ea
      have rb : b = .dat (.tuple es) := by
        cases b with
        | dat d => cases d <;> first | (cases eb; rfl) | cases eb
        | _ => cases eb
      subst ra
      subst rb
      obtain ⟨S1, o1⟩ := hx0
      obtain ⟨S2, o2⟩ := hy0
      have o1 : Dp G.K P (.ref p1) (.tuple ds) := o1
      have o2 : Dp G.K P (.ref p2) (.tuple es) := o2
      refine ⟨p1, p2, xs, ys, rfl, rfl, h1, h3, by omega, fun z => ?_, fun _ z => ?_, fun _ _ p hp => ?_⟩
      · have : ds = [] := by cases ds with | nil => rfl | cons d ds => rw [z] at l1; simp at l1
        subst this
        exact q _ P H nobody (Alc.refl e) o2
      · have : es = [] := by cases es with | nil => rfl | cons d ds => rw [z] at l2; simp at l2
        subst this
        rw [List.append_nil] at q
        exact q _ P H nobody (Alc.refl e) o1
      · exact q _ _ _ _ (Alc.tup (o := .tup (xs ++ ys)) e hp) (Dp.tup (SqT.of upd_same) (dpa_mono (same_upd (same_none e hp)) _ _ (dpa_app h2 h4)))
theorem okCatS : OpOk G (fun x y H Q => ∃ i j, x = V.str i ∧ y = V.str j ∧ i.length + j.length ≤ sizeLine ∧ Q (.str (i ++ j)) H) gCatS := by
  intro P H x y a b w Q e hx hy hw q
  unfold gCatS at hw
  split at hw
  · obtain ⟨hz, rfl⟩ := gd_some hw
    exact ⟨_, _, ow_str hx, ow_str hy, hz, q _ P H nobody (Alc.refl e) (Dp.str _)⟩
  · cases hw
noncomputable def gAddI := iop tt2 fun i j => .int (i + j)
noncomputable def gAdd : Vl → Vl → Option Vl := orG gAddI (orG gCatL (orG gCatT gCatS))
theorem e_add (c : Cxt G X W k) (ha : PE X a (tE G W fa)) (hb : PE X b (tE G W fb)) : PE X (.BinOp a .Add b pos) (tE G W (bin gAdd fa fb)) :=
  pe_binV (OpR.or op_add (OpR.or op_catL (OpR.or op_catA op_add_str))) (okOr (okI0 fun _ _ _ _ => .int _) (okOr (okCatL c.K) (okOr (okCatT c.K) okCatS))) ha hb
def asM : Vl → Option (List PyData)
  | .ml ds => some ds
  | _ => none
noncomputable def gRepL : Vl → Vl → Option Vl
  | .ml ds, .dat (.int k) => gd (-(2 ^ 63) ≤ k ∧ k < 2 ^ 63 ∧ ds.length * k.toNat ≤ sizeLine) (.ml (List.replicate k.toNat ds).flatten)
  | _, _ => none
noncomputable def gRepT : Vl → Vl → Option Vl
  | .dat (.tuple ds), .dat (.int k) => gd (ds ≠ [] ∧ 2 ≤ k ∧ k ≤ 1000 ∧ ds.length ≤ 1000) (.dat (.tuple (List.replicate k.toNat ds).flatten))
  | _, _ => none
theorem dpa_rep {P : Hp} {ds : List PyData} {xs : List V} (h : DpAll K P xs ds) : ∀ n : Nat, DpAll K P (List.replicate n xs).flatten (List.replicate n ds).flatten
  | 0 => .nil
  | n + 1 => by
    rw [List.replicate_succ, List.replicate_succ, List.flatten_cons, List.flatten_cons]
    exact dpa_app h (dpa_rep h n)
theorem okRepL : OpOk G rRep gRepL := by
  intro P H x y a b w Q e hx hy hw q
  unfold gRepL at hw
  split at hw
  · obtain ⟨⟨h1, h2, h3⟩, rfl⟩ := gd_some hw
    obtain ⟨S, l, xs, rfl, _, h4, h5⟩ := hx
    have l1 := dpa_len _ _ h5
    exact ⟨l, _, xs, rfl, ow_int hy, h4, h1, h2, by rw [l1]; exact h3, fun p hp => q _ P _ _ (Alc.own e hp) ⟨p, _, rfl, rfl, upd_same, dpa_rep h5 _⟩⟩
  · cases hw
theorem okRepT (h : K = G.K) : OpOk G (rRepT K) gRepT := by
  subst h
  intro P H x y a b w Q e hx hy hw q
  unfold gRepT at hw
  split at hw
  · rename_i ds k
    obtain ⟨⟨h0, h1, h2, h3⟩, rfl⟩ := gd_some hw
    obtain ⟨p1, xs, rfl, h4, h5⟩ := hx.tup e (show asT (.dat (.tuple ds)) = some ds from rfl)
    have l1 := dpa_len _ _ h5
    refine ⟨p1, _, xs, rfl, ow_int hy, h4, fun z => ?_, h1, h2, by omega, fun p hp => ?_⟩
    · subst z
      exact h0 (List.eq_nil_of_length_eq_zero l1.symm)
    · exact q _ _ _ _ (Alc.tup (o := .tup _) e hp) (Dp.tup (SqT.of upd_same) (dpa_mono (same_upd (same_none e hp)) _ _ (dpa_rep h5 _)))
  · cases hw
noncomputable def gMulI := iop CMul fun i j => .int (i * j)
noncomputable def gMul : Vl → Vl → Option Vl := orG gMulI (orG gRepL gRepT)
theorem e_mul (c : Cxt G X W k) (ha : PE X a (tE G W fa)) (hb : PE X b (tE G W fb)) : PE X (.BinOp a .Mult b pos) (tE G W (bin gMul fa fb)) :=
  pe_binV (OpR.or op_mul (OpR.or op_rep op_repT)) (okOr (okI fun _ _ _ _ => .int _) (okOr okRepL (okRepT c.K))) ha hb

/-! ### unary -/
noncomputable def gU (g : Int → Int) : Vl → Option Vl
  | .dat (.int i) => some (vI (g i))
  | _ => none
theorem okU {g : Int → Int} : UnOk G (rU fun i => .int (g i)) (gU g) := by
  intro P H x a w Q e hx hw q
  unfold gU at hw
  split at hw
  · cases hw
    exact ⟨_, ow_int hx, q _ P H nobody (Alc.refl e) (Dp.int _)⟩
  · cases hw
theorem e_neg (ha : PE X a (tE G W fa)) : PE X (.UnaryOp .USub a pos) (tE G W (una (gU fun i => -i) fa)) := PE.imp (pe_un un_neg ha) fun _ _ _ h => una_ok okU h
theorem e_inv (ha : PE X a (tE G W fa)) : PE X (.UnaryOp .Invert a pos) (tE G W (una (gU Builtin.bitNot) fa)) := PE.imp (pe_un un_inv ha) fun _ _ _ h => una_ok okU h

/-! ### subscripts -/
def gIx : Vl → Vl → Option Vl := fun a b => match b with
  | .dat (.int i) => match asL a with
    | some ds => (atI ds i).map .dat
    | none => match asT a with
      | some ds => (atI ds i).map .dat
      | none => none
  | _ => none
theorem at_rel {P : Hp} {ds : List PyData} {xs : List V} {i : Int} {d : PyData} (h : DpAll K P xs ds) (e : atI ds i = some d) : ∃ v, atI xs i = some v ∧ Dp K P v d := by
  unfold atI at e ⊢
  rw [dpa_len _ _ h]
  cases q : ixN ds.length i with
  | none => rw [q] at e; cases e
  | some j =>
    rw [q] at e
    exact dpa_get _ _ h j d e
theorem okIx (h : K = G.K) : OpOk G (fun x y H Q => rIxL K x y H Q ∨ rIxT K x y H Q) gIx := by
  subst h
  intro P H x y a b w Q e hx hy hw q
  unfold gIx at hw
  split at hw
  · rename_i i
    have hi := ow_int hy
    subst hi
    cases ea : asL a with
    | some ds =>
      rw [ea] at hw
      obtain ⟨p1, xs, rfl, h1, h2⟩ := hx.lst e ea
      obtain ⟨d, hd, rfl⟩ := Option.map_eq_some_iff.mp hw
      obtain ⟨v, h3, h4⟩ := at_rel h2 hd
      exact .inl ⟨p1, xs, i, v, rfl, rfl, h1, h3, q _ P H nobody (Alc.refl e) h4⟩
    | none =>
      rw [ea] at hw
      cases eb : asT a with
      | none => rw [eb] at hw; cases hw
      | some ds =>
        rw [eb] at hw
        obtain ⟨p1, xs, rfl, h1, h2⟩ := hx.tup e eb
        obtain ⟨d, hd, rfl⟩ := Option.map_eq_some_iff.mp hw
        obtain ⟨v, h3, h4⟩ := at_rel h2 hd
        exact .inr ⟨p1, xs, i, v, rfl, rfl, h1, h3, q _ P H nobody (Alc.refl e) h4⟩
  · cases hw
theorem e_ix (c : Cxt G X W k) (ha : PE X a (tE G W fa)) (hb : PE X b (tE G W fb)) (hs : PlainIx b := by exact fun _ _ => rfl) : PE X (.Subscript a b pos) (tE G W (bin gIx fa fb)) :=
  PE.imp (pe_ix (ix_list.or ix_tup) ha hb hs) fun _ _ _ h => bin_ok (okIx c.K) h
end
end Mi
end
section
set_option Elab.async false
set_option linter.all false
set_option maxRecDepth 100000
/-! Ev5: slices, chains, tests, and, or, not, if .. else -/
namespace Mi
open PySem L2

/-! ### the general bind for tests -/
section
variable {G : Glb} {W : WX} {P H P1 H1 : Hp} {F F1 : Nat → Ad} {σ : L2.St} {ρ : Rho} {f : FT}
theorem tT_bind {Q : Bool → Hp → Prop} {β : Type} {k : Bool → Rho → Out β} {End : Hp → Hp → (Nat → Ad) → Out β → Prop} (n : Now G P H σ ρ F) (hE : End P H F ((f ρ).bind k))
    (hx : ∀ c ρ', End P H F (.exc c ρ') → ∀ P' H' F', Now G P' H' σ ρ' F' → Stp P H F P' H' F' → W (.ref (G.ea c)) none σ H') (hs : ¬ End P H F .stk)
    (h : ∀ b ρ1 P1 H1 F1, f ρ = .ok b ρ1 → End P H F (k b ρ1) → Now G P1 H1 σ ρ1 F1 → Stp P H F P1 H1 F1 → Q b H1) : tT G W f σ H Q := by
  refine ⟨ρ, P, F, n, ?_⟩
  cases e : f ρ with
  | ok b ρ1 =>
    rw [e] at hE
    exact fun P1 H1 F1 n1 s1 => h b ρ1 P1 H1 F1 e hE n1 s1
  | exc c ρ' => rw [e] at hE; exact hx c ρ' hE
  | stk => rw [e] at hE; exact (hs hE).elim
end

/-! ### truth -/
noncomputable def tru (w : Vl) : Option Bool := match w with
  | .dat .none => some false
  | .dat (.bool b) => some b
  | .dat (.int i) => some (i != 0)
  | .dat (.list ds) => some (!ds.isEmpty)
  | .dat (.tuple ds) => some (!ds.isEmpty)
  | .ml ds => some (!ds.isEmpty)
  | _ => none
section
variable {X : Cx} {W : WX} {G : Glb} {k : Nat} {a b c e : Expr} {fa fb fc f : FE} {pos p2 : Pos} {K : PySem.W.Frag} {P H : Hp} {v : V} {w : Vl}
theorem isEmpty_dpa {xs : List V} {ds : List PyData} (h : DpAll K P xs ds) : (!ds.isEmpty) = !xs.isEmpty := by cases h <;> rfl
theorem tru_ok' (h : OwE G P H v w) (e : Same P H) {b : Bool} (t : tru w = some b) : TruV G.K v H b := by
  unfold tru at t
  split at t
  · cases t; rw [ow_non h]; rfl
  · cases t; rw [ow_bool h]; rfl
  · cases t; rw [ow_int h]; rfl
  · rename_i ds
    cases t
    obtain ⟨p, xs, rfl, h1, h2⟩ := h.lst e (show asL (.dat (.list ds)) = some ds from rfl)
    exact .inl ⟨xs, h1, isEmpty_dpa h2⟩
  · rename_i ds
    cases t
    obtain ⟨p, xs, rfl, h1, h2⟩ := h.tup e (show asT (.dat (.tuple ds)) = some ds from rfl)
    exact .inr (.inl ⟨xs, h1, isEmpty_dpa h2⟩)
  · rename_i ds
    cases t
    obtain ⟨p, xs, rfl, h1, h2⟩ := h.lst e (show asL (.ml ds) = some ds from rfl)
    exact .inl ⟨xs, h1, isEmpty_dpa h2⟩
  · cases t
noncomputable def trO (ρ : Rho) (o : Opd) : Out Bool := match (look ρ o).bind tru with
  | some b => .ok b ρ
  | none => .stk
/-- a value as a test -/
noncomputable def tTr (f : FE) : FT := fun ρ => (f ρ).bind fun o ρ1 => trO ρ1 o
theorem trO_ok {ρ : Rho} {o : Opd} {W : WX} {P0 H0 : Hp} {F0 : Nat → Ad} {σ : L2.St} {Q : Bool → Hp → Prop} (h : EndT G W P0 H0 F0 σ Q (trO ρ o)) : ∃ w b, look ρ o = some w ∧ tru w = some b ∧ EndT G W P0 H0 F0 σ Q (.ok b ρ) := by
  unfold trO at h
  cases e : look ρ o with
  | none => rw [e] at h; exact h.elim
  | some w =>
    rw [e] at h
    cases e2 : tru w with
    | none => rw [Option.bind_some, e2] at h; exact h.elim
    | some b => rw [Option.bind_some, e2] at h; exact ⟨w, b, rfl, e2, h⟩
theorem t_tru (hK : X.K = G.K) (he : PE X e (tE G W f)) (hi : ∀ whole, isTrue e X.env whole = (do let v ← whole; standAt e.pos; holding [v] (truthy v)) := by intro _; rfl) : PT X e (tT G W (tTr f)) := PT.imp (pt_truth he hi) fun σ H Q h => by
  obtain ⟨ρ, P, F, n, h⟩ := h
  refine tE_bind (End := fun P H F => EndT G W P H F σ Q) n h (fun _ _ z => z) (fun z => z) fun x ρ1 vx P1 H1 F1 S1 e1 h1 n1 s1 hx q1 => ?_
  obtain ⟨w, b, hw, hb, h1⟩ := trO_ok h1
  refine ⟨b, ?_, h1 P1 H1 F1 n1 s1⟩
  rw [hK]
  exact tru_ok' (hx.look n1 hw) n1.ex hb

/-! ### comparisons, bundled -/
structure CmpV (G : Glb) (X : Cx) (op : CmpOp) (g : Vl → Vl → Option Vl) : Prop where
  ex : ∃ r, OpR X (compareOp op) r ∧ OpOk G r g
  nm : op ≠ .In ∧ op ≠ .NotIn
theorem c_lt : CmpV G X .Lt gLt := ⟨⟨_, op_lt, okI0 fun _ _ _ _ => .bl _⟩, by decide, by decide⟩
theorem c_le : CmpV G X .LtE gLe := ⟨⟨_, op_le, okI0 fun _ _ _ _ => .bl _⟩, by decide, by decide⟩
theorem c_gt : CmpV G X .Gt gGt := ⟨⟨_, op_gt, okI0 fun _ _ _ _ => .bl _⟩, by decide, by decide⟩
theorem c_ge : CmpV G X .GtE gGe := ⟨⟨_, op_ge, okI0 fun _ _ _ _ => .bl _⟩, by decide, by decide⟩
theorem c_eq (c : Cxt G X W k) : CmpV G X .Eq gEq := ⟨⟨_, OpR.or op_eq (op_eqD c.u64), okEq c.K⟩, by decide, by decide⟩
theorem c_ne (c : Cxt G X W k) : CmpV G X .NotEq gNe := ⟨⟨_, OpR.or op_ne (op_neD c.u64), okNe c.K⟩, by decide, by decide⟩
theorem c_isN : CmpV G X .Is (gIsN false) := ⟨⟨_, op_isN, okIsN⟩, by decide, by decide⟩
theorem c_notN : CmpV G X .IsNot (gIsN true) := ⟨⟨_, op_notN, okNotN⟩, by decide, by decide⟩
theorem e_cmp {op : CmpOp} {g : Vl → Vl → Option Vl} (h : CmpV G X op g) (ha : PE X a (tE G W fa)) (hb : PE X b (tE G W fb)) : PE X (.Compare a [op] [b] pos) (tE G W (bin g fa fb)) := by
  obtain ⟨⟨r, ho, ok⟩, h1, h2⟩ := h
  exact pe_cmpV ho ok ha hb (nobehind b h1 h2)
/-- a truth value as a test -/
noncomputable def boO (ρ : Rho) (o : Opd) : Out Bool := match look ρ o with
  | some (.dat (.bool b)) => .ok b ρ
  | _ => .stk
noncomputable def tBo (f : FE) : FT := fun ρ => (f ρ).bind fun o ρ1 => boO ρ1 o
theorem boO_ok {ρ : Rho} {o : Opd} {W : WX} {P0 H0 : Hp} {F0 : Nat → Ad} {σ : L2.St} {Q : Bool → Hp → Prop} (h : EndT G W P0 H0 F0 σ Q (boO ρ o)) : ∃ b, look ρ o = some (vB b) ∧ EndT G W P0 H0 F0 σ Q (.ok b ρ) := by
  unfold boO at h
  split at h
  · rename_i b e; exact ⟨b, e, h⟩
  · exact h.elim
theorem bo_rd {σ : L2.St} {H : Hp} {Q : Bool → Hp → Prop} {f : FE} (h : tT G W (tBo f) σ H Q) : tE G W f σ H (fun x H' => ∃ k, x = .bl k ∧ Q k H') := by
  obtain ⟨ρ, P, F, n, h⟩ := h
  refine tE_bind (End := fun P H F => EndT G W P H F σ Q) n h (fun _ _ z => z) (fun z => z) fun x ρ1 vx P1 H1 F1 S1 e1 h1 n1 s1 hx q1 => ?_
  obtain ⟨b, hb, h1⟩ := boO_ok h1
  exact ⟨b, ow_bool (hx.look n1 hb), h1 P1 H1 F1 n1 s1⟩
theorem t_cmp {op : CmpOp} {g : Vl → Vl → Option Vl} (h : CmpV G X op g) (ha : PE X a (tE G W fa)) (hb : PE X b (tE G W fb)) : PT X (.Compare a [op] [b] pos) (tT G W (tBo (bin g fa fb))) := by
  obtain ⟨⟨r, ho, ok⟩, h1, h2⟩ := h
  exact PT.imp (pt_cmpR ho ha hb (nobehind b h1 h2)) fun _ _ _ h => bin_ok ok (bo_rd h)
theorem t_in (c : Cxt G X W k) (ha : PE X a (tE G W fa)) (hb : PE X b (tE G W fb)) (hm : behindInMarks .In b = false := by rfl) : PT X (.Compare a [.In] [b] pos) (tT G W (tBo (bin gIn fa fb))) :=
  PT.imp (pt_cmpR (OpR.or (op_inD c.u65) (op_inT c.u65)) ha hb hm) fun _ _ _ h => bin_ok (okIn c.K) (bo_rd h)
theorem t_notIn (c : Cxt G X W k) (ha : PE X a (tE G W fa)) (hb : PE X b (tE G W fb)) (hm : behindInMarks .NotIn b = false := by rfl) : PT X (.Compare a [.NotIn] [b] pos) (tT G W (tBo (bin gNotIn fa fb))) :=
  PT.imp (pt_cmpR (OpR.or (op_notInD c.u65) (op_notInT c.u65)) ha hb hm) fun _ _ _ h => bin_ok (okNotIn c.K) (bo_rd h)

/-! ### chains -/
noncomputable def chain (g g' : Vl → Vl → Option Vl) (fa fb fc : FE) : FE := fun ρ => (fa ρ).bind fun x ρ1 => (fb ρ1).bind fun y ρ2 =>
  match (look ρ2 x).bind fun a => (look ρ2 y).bind fun b => g a b with
  | some (.dat (.bool true)) => (fc ρ2).bind fun z ρ3 => ret ρ3 ((look ρ3 y).bind fun b => (look ρ3 z).bind fun c => g' b c)
  | some (.dat (.bool false)) => .ok (.val (vB false)) ρ2
  | _ => .stk
theorem chain_rd {r r' : R2} {g g' : Vl → Vl → Option Vl} (ok : OpOk G r g) (ok' : OpOk G r' g') {σ : L2.St} {H : Hp} {Q : VK} (h : tE G W (chain g g' fa fb fc) σ H Q) : tChain r r' (tE G W fa) (tE G W fb) (tE G W fc) σ H Q := by
  obtain ⟨ρ, P, F, n, h⟩ := h
  refine tE_bind (End := fun P H F => EndO G W P H F σ Q) n h (fun _ _ z => z) (fun z => z) fun x ρ1 vx P1 H1 F1 S1 e1 h1 n1 s1 hx q1 => ?_
  refine tE_bind (End := fun P H F => EndO G W P H F σ Q) n1 (EndO.trans s1 h1) (fun _ _ z => z) (fun z => z) fun y ρ2 vy P2 H2 F2 S2 e2 h2 n2 s2 hy q2 => ?_
  have h2 := EndO.trans s2 h2
  cases ea : look ρ2 x with
  | none => rw [ea] at h2; exact h2.elim
  | some a =>
    cases eb : look ρ2 y with
    | none => rw [ea, eb] at h2; exact h2.elim
    | some b =>
      rw [ea, eb] at h2
      have hx' := (hx.step s2).look n2 ea
      have hy' := hy.look n2 eb
      simp only [Option.bind_some] at h2
      split at h2
      · rename_i eg
        refine ok P2 H2 vx vy a b _ _ n2.ex hx' hy' eg fun v P3 H3 S3 al o => ?_
        have o : Dp G.K P3 v (.bool true) := o
        cases o
        refine ⟨true, rfl, ?_⟩
        rw [if_pos rfl]
        have n3 := al.now n2
        have h3 := EndO.trans (al.stp (F := F2)) h2
        refine tE_bind (End := fun P H F => EndO G W P H F σ Q) n3 h3 (fun _ _ z => z) (fun z => z) fun z ρ4 vz P4 H4 F4 S4 e4 h4 n4 s4 hz q4 => ?_
        obtain ⟨w, hw, h4⟩ := endO_val (EndO.trans s4 h4)
        cases ec : look ρ4 y with
        | none => rw [ec] at hw; cases hw
        | some b' =>
          cases ed : look ρ4 z with
          | none => rw [ec, ed] at hw; cases hw
          | some c' =>
            rw [ec, ed] at hw
            exact ok' P4 H4 vy vz b' c' w Q n4.ex (((hy.step al.stp).step s4).look n4 ec) (hz.look n4 ed) hw fun v P' H' S a o => h4.alc n4 a o
      · rename_i eg
        refine ok P2 H2 vx vy a b _ _ n2.ex hx' hy' eg fun v P3 H3 S3 al o => ?_
        have o : Dp G.K P3 v (.bool false) := o
        cases o
        refine ⟨false, rfl, ?_⟩
        rw [if_neg Bool.false_ne_true]
        exact (EndO.trans (al.stp (F := F2)) h2).datum (al.now n2) (Dp.bl _)
      · exact h2.elim
theorem e_chain {op op' : CmpOp} {g g' : Vl → Vl → Option Vl} (h : CmpV G X op g) (h' : CmpV G X op' g') (ha : PE X a (tE G W fa)) (hb : PE X b (tE G W fb)) (hc : PE X c (tE G W fc)) (hm : lastMarks [op, op'] [b, c] = false := by with_unfolding_all rfl) :
    PE X (.Compare a [op, op'] [b, c] pos) (tE G W (chain g g' fa fb fc)) := by
  obtain ⟨⟨r, ho, ok⟩, _⟩ := h
  obtain ⟨⟨r', ho', ok'⟩, _⟩ := h'
  exact PE.imp (pe_chain ho ho' ha hb hc hm) fun _ _ _ h => chain_rd ok ok' h
theorem t_chain {op op' : CmpOp} {g g' : Vl → Vl → Option Vl} (h : CmpV G X op g) (h' : CmpV G X op' g') (ha : PE X a (tE G W fa)) (hb : PE X b (tE G W fb)) (hc : PE X c (tE G W fc)) (hm : lastMarks [op, op'] [b, c] = false := by with_unfolding_all rfl) :
    PT X (.Compare a [op, op'] [b, c] pos) (tT G W (tBo (chain g g' fa fb fc))) := by
  obtain ⟨⟨r, ho, ok⟩, _⟩ := h
  obtain ⟨⟨r', ho', ok'⟩, _⟩ := h'
  exact PT.imp (pt_chain ho ho' ha hb hc hm) fun _ _ _ h => chain_rd ok ok' (bo_rd h)

/-! ### and, or, not, if .. else -/
def tAndV (f g : FT) : FT := fun ρ => (f ρ).bind fun b ρ1 => if b = true then g ρ1 else .ok false ρ1
def tOrV (f g : FT) : FT := fun ρ => (f ρ).bind fun b ρ1 => if b = true then .ok true ρ1 else g ρ1
def tNotV (f : FT) : FT := fun ρ => (f ρ).bind fun b ρ1 => .ok (!b) ρ1
variable {ft gt : FT} {rest : List Expr}
theorem PW.imp {t t' : TT} (h : PW X e t) (i : ∀ σ H Q, t' σ H Q → t σ H Q) : PW X e t' := ⟨fun wh pins s σ H Q I q => h.run wh pins s σ H Q I (i σ H Q q)⟩
theorem w_and1 (ha : PT X a (tT G W ft)) : PW X (.BoolOp .And [a] pos) (tT G W ft) := pw_and1 ha
theorem w_or1 (ha : PT X a (tT G W ft)) : PW X (.BoolOp .Or [a] pos) (tT G W ft) := pw_or1 ha
theorem w_and (ha : PT X a (tT G W ft)) (hb : PW X (.BoolOp .And (b :: rest) pos) (tT G W gt)) : PW X (.BoolOp .And (a :: b :: rest) pos) (tT G W (tAndV ft gt)) := PW.imp (pw_and ha hb) fun σ H Q h => by
  obtain ⟨ρ, P, F, n, h⟩ := h
  refine tT_bind (End := fun P H F => EndT G W P H F σ Q) n h (fun _ _ z => z) (fun z => z) fun b ρ1 P1 H1 F1 e1 h1 n1 s1 => ?_
  cases b with
  | true => exact ⟨ρ1, P1, F1, n1, EndT.trans s1 h1⟩
  | false => exact h1 P1 H1 F1 n1 s1
theorem w_or (ha : PT X a (tT G W ft)) (hb : PW X (.BoolOp .Or (b :: rest) pos) (tT G W gt)) : PW X (.BoolOp .Or (a :: b :: rest) pos) (tT G W (tOrV ft gt)) := PW.imp (pw_or ha hb) fun σ H Q h => by
  obtain ⟨ρ, P, F, n, h⟩ := h
  refine tT_bind (End := fun P H F => EndT G W P H F σ Q) n h (fun _ _ z => z) (fun z => z) fun b ρ1 P1 H1 F1 e1 h1 n1 s1 => ?_
  cases b with
  | true => exact h1 P1 H1 F1 n1 s1
  | false => exact ⟨ρ1, P1, F1, n1, EndT.trans s1 h1⟩
theorem t_not (ha : PT X a (tT G W ft)) : PT X (.UnaryOp .Not a pos) (tT G W (tNotV ft)) := PT.imp (pt_not ha) fun σ H Q h => by
  obtain ⟨ρ, P, F, n, h⟩ := h
  exact tT_bind (End := fun P H F => EndT G W P H F σ Q) n h (fun _ _ z => z) (fun z => z) fun b ρ1 P1 H1 F1 e1 h1 n1 s1 => h1 P1 H1 F1 n1 s1
/-- .. as values -/
noncomputable def fAnd (f g : FE) : FE := fun ρ => (f ρ).bind fun x ρ1 => (trO ρ1 x).bind fun b _ => if b = true then g ρ1 else .ok x ρ1
noncomputable def fOr (f g : FE) : FE := fun ρ => (f ρ).bind fun x ρ1 => (trO ρ1 x).bind fun b _ => if b = true then .ok x ρ1 else g ρ1
noncomputable def fNot (f : FE) : FE := fun ρ => (f ρ).bind fun x ρ1 => (trO ρ1 x).bind fun b _ => .ok (.val (vB (!b))) ρ1
theorem trO_bind {ρ : Rho} {o : Opd} {P0 H0 : Hp} {F0 : Nat → Ad} {σ : L2.St} {Q : VK} {kk : Bool → Out Opd} (h : EndO G W P0 H0 F0 σ Q ((trO ρ o).bind fun b _ => kk b)) : ∃ w b, look ρ o = some w ∧ tru w = some b ∧ EndO G W P0 H0 F0 σ Q (kk b) := by
  unfold trO at h
  cases e : look ρ o with
  | none => rw [e] at h; exact h.elim
  | some w =>
    rw [e] at h
    cases e2 : tru w with
    | none => rw [Option.bind_some, e2] at h; exact h.elim
    | some b => rw [Option.bind_some, e2] at h; exact ⟨w, b, rfl, e2, h⟩
theorem e_one {op : BoolOp} (ha : PE X a (tE G W fa)) : PE X (.BoolOp op [a] pos) (tE G W fa) := pe_one ha
theorem e_andV (hK : X.K = G.K) (ha : PE X a (tE G W fa)) (hb : PE X (.BoolOp .And (b :: rest) pos) (tE G W fb)) : PE X (.BoolOp .And (a :: b :: rest) pos) (tE G W (fAnd fa fb)) := PE.imp (pe_andT ha hb) fun σ H Q h => by
  obtain ⟨ρ, P, F, n, h⟩ := h
  refine tE_bind (End := fun P H F => EndO G W P H F σ Q) n h (fun _ _ z => z) (fun z => z) fun x ρ1 vx P1 H1 F1 S1 e1 h1 n1 s1 hx q1 => ?_
  obtain ⟨w, b, hw, hb, h1⟩ := trO_bind (kk := fun b => if b = true then fb ρ1 else .ok x ρ1) h1
  refine ⟨b, by rw [hK]; exact tru_ok' (hx.look n1 hw) n1.ex hb, ?_⟩
  cases b with
  | true => exact ⟨ρ1, P1, F1, n1, EndO.trans s1 h1⟩
  | false => exact h1 vx P1 H1 F1 S1 n1 s1 hx q1
theorem e_orV (hK : X.K = G.K) (ha : PE X a (tE G W fa)) (hb : PE X (.BoolOp .Or (b :: rest) pos) (tE G W fb)) : PE X (.BoolOp .Or (a :: b :: rest) pos) (tE G W (fOr fa fb)) := PE.imp (pe_orT ha hb) fun σ H Q h => by
  obtain ⟨ρ, P, F, n, h⟩ := h
  refine tE_bind (End := fun P H F => EndO G W P H F σ Q) n h (fun _ _ z => z) (fun z => z) fun x ρ1 vx P1 H1 F1 S1 e1 h1 n1 s1 hx q1 => ?_
  obtain ⟨w, b, hw, hb, h1⟩ := trO_bind (kk := fun b => if b = true then .ok x ρ1 else fb ρ1) h1
  refine ⟨b, by rw [hK]; exact tru_ok' (hx.look n1 hw) n1.ex hb, ?_⟩
  cases b with
  | true => exact h1 vx P1 H1 F1 S1 n1 s1 hx q1
  | false => exact ⟨ρ1, P1, F1, n1, EndO.trans s1 h1⟩
theorem e_notV (hK : X.K = G.K) (ha : PE X a (tE G W fa)) : PE X (.UnaryOp .Not a pos) (tE G W (fNot fa)) := PE.imp (pe_notT ha) fun σ H Q h => by
  obtain ⟨ρ, P, F, n, h⟩ := h
  refine tE_bind (End := fun P H F => EndO G W P H F σ Q) n h (fun _ _ z => z) (fun z => z) fun x ρ1 vx P1 H1 F1 S1 e1 h1 n1 s1 hx q1 => ?_
  obtain ⟨w, b, hw, hb, h1⟩ := trO_bind (kk := fun b => .ok (.val (vB (!b))) ρ1) h1
  exact ⟨b, by rw [hK]; exact tru_ok' (hx.look n1 hw) n1.ex hb, (EndO.trans s1 h1).datum n1 (Dp.bl _)⟩
def fIf (t : FT) (f g : FE) : FE := fun ρ => (t ρ).bind fun b ρ1 => if b = true then f ρ1 else g ρ1
theorem e_if (ht : PT X c (tT G W ft)) (ha : PE X a (tE G W fa)) (hb : PE X b (tE G W fb)) : PE X (.IfExp c a b pos) (tE G W (fIf ft fa fb)) := PE.imp (pe_ifExp ht ha hb) fun σ H Q h => by
  obtain ⟨ρ, P, F, n, h⟩ := h
  refine tT_bind (End := fun P H F => EndO G W P H F σ Q) n h (fun _ _ z => z) (fun z => z) fun b ρ1 P1 H1 F1 e1 h1 n1 s1 => ?_
  cases b with
  | true => exact ⟨ρ1, P1, F1, n1, EndO.trans s1 h1⟩
  | false => exact ⟨ρ1, P1, F1, n1, EndO.trans s1 h1⟩

/-! ### slices -/
abbrev FP := Rho → Out (Option Int)
def pNo : FP := fun ρ => .ok none ρ
def pSo (f : FE) : FP := fun ρ => (f ρ).bind fun o ρ1 => match look ρ1 o with
  | some (.dat (.int i)) => .ok (some i) ρ1
  | _ => .stk
def EndP (G : Glb) (W : WX) (P H : Hp) (F : Nat → Ad) (σ : L2.St) (Q : Option Int → Hp → Prop) : Out (Option Int) → Prop
  | .ok b ρ' => ∀ P' H' F', Now G P' H' σ ρ' F' → Stp P H F P' H' F' → Q b H'
  | .exc c ρ' => ∀ P' H' F', Now G P' H' σ ρ' F' → Stp P H F P' H' F' → W (.ref (G.ea c)) none σ H'
  | .stk => False
def tP (G : Glb) (W : WX) (f : FP) : TO := fun σ H Q => ∃ ρ P F, Now G P H σ ρ F ∧ EndP G W P H F σ Q (f ρ)
theorem PO.imp {eo : Option Expr} {t t' : TO} (h : PO X eo t) (i : ∀ σ H Q, t' σ H Q → t σ H Q) : PO X eo t' := ⟨fun pins s σ H Q I q => h.run pins s σ H Q I (i σ H Q q)⟩
theorem o_no : PO X none (tP G W pNo) := PO.imp po_none fun σ H Q h => by
  obtain ⟨ρ, P, F, n, h⟩ := h
  exact h P H F n Stp.refl
theorem o_so (he : PE X e (tE G W f)) : PO X (some e) (tP G W (pSo f)) := PO.imp (po_some he) fun σ H Q h => by
  obtain ⟨ρ, P, F, n, h⟩ := h
  refine tE_bind (End := fun P H F => EndP G W P H F σ Q) n h (fun _ _ z => z) (fun z => z) fun x ρ1 vx P1 H1 F1 S1 e1 h1 n1 s1 hx q1 => ?_
  split at h1
  · rename_i i hi
    exact ⟨i, ow_int (hx.look n1 hi), h1 P1 H1 F1 n1 s1⟩
  · exact h1.elim
def cutD {α : Type} (xs : List α) (lo hi : Option Int) : List α := (xs.drop (HT.sIx xs.length 0 lo)).take (HT.sIx xs.length xs.length hi - HT.sIx xs.length 0 lo)
def gSl (a : Vl) (lo hi : Option Int) : Option Vl := match asL a with
  | some ds => some (.ml (cutD ds lo hi))
  | none => match asT a with
    | some ds => some (.dat (.tuple (cutD ds lo hi)))
    | none => none
def fSl (f : FE) (lo hi : FP) : FE := fun ρ => (f ρ).bind fun o ρ1 => (lo ρ1).bind fun l ρ2 => (hi ρ2).bind fun h ρ3 => ret ρ3 ((look ρ3 o).bind fun a => gSl a l h)
theorem tP_bind {σ : L2.St} {H : Hp} {ρ : Rho} {P : Hp} {F : Nat → Ad} {f : FP} {Q : Option Int → Hp → Prop} {β : Type} {kk : Option Int → Rho → Out β} {End : Hp → Hp → (Nat → Ad) → Out β → Prop} (n : Now G P H σ ρ F) (hE : End P H F ((f ρ).bind kk))
    (hx : ∀ c ρ', End P H F (.exc c ρ') → ∀ P' H' F', Now G P' H' σ ρ' F' → Stp P H F P' H' F' → W (.ref (G.ea c)) none σ H') (hs : ¬ End P H F .stk)
    (h : ∀ b ρ1 P1 H1 F1, f ρ = .ok b ρ1 → End P H F (kk b ρ1) → Now G P1 H1 σ ρ1 F1 → Stp P H F P1 H1 F1 → Q b H1) : tP G W f σ H Q := by
  refine ⟨ρ, P, F, n, ?_⟩
  cases e : f ρ with
  | ok b ρ1 =>
    rw [e] at hE
    exact fun P1 H1 F1 n1 s1 => h b ρ1 P1 H1 F1 e hE n1 s1
  | exc c ρ' => rw [e] at hE; exact hx c ρ' hE
  | stk => rw [e] at hE; exact (hs hE).elim
theorem dpa_cut {xs : List V} {ds : List PyData} {lo hi : Option Int} (h : DpAll K P xs ds) : DpAll K P (cutV xs lo hi) (cutD ds lo hi) := by
  unfold cutV cutD
  rw [dpa_len _ _ h]
  exact dpa_take _ (dpa_drop _ h)
theorem whole_cut {α : Type} {xs : List α} {lo hi : Option Int} (h : HT.sIx xs.length 0 lo = 0 ∧ HT.sIx xs.length xs.length hi = xs.length) : cutD xs lo hi = xs := by
  unfold cutD
  rw [h.1, h.2]
  simp
theorem e_sl {lo hi : Option Expr} {fl fh : FP} (hK : X.K = G.K) (ha : PE X a (tE G W fa)) (hl : PO X lo (tP G W fl)) (hh : PO X hi (tP G W fh)) : PE X (.Subscript a (.Slice lo hi none p2) pos) (tE G W (fSl fa fl fh)) := PE.imp (pe_slice (sl_list.or sl_tupA) ha hl hh) fun σ H Q h => by
  obtain ⟨ρ, P, F, n, h⟩ := h
  refine tE_bind (End := fun P H F => EndO G W P H F σ Q) n h (fun _ _ z => z) (fun z => z) fun x ρ1 vx P1 H1 F1 S1 e1 h1 n1 s1 hx q1 => ?_
  refine tP_bind (End := fun P H F => EndO G W P H F σ Q) n1 (EndO.trans s1 h1) (fun _ _ z => z) (fun z => z) fun l ρ2 P2 H2 F2 e2 h2 n2 s2 => ?_
  refine tP_bind (End := fun P H F => EndO G W P H F σ Q) n2 (EndO.trans s2 h2) (fun _ _ z => z) (fun z => z) fun u ρ3 P3 H3 F3 e3 h3 n3 s3 => ?_
  obtain ⟨w, hw, h3⟩ := endO_val (EndO.trans s3 h3)
  cases ea : look ρ3 x with
  | none => rw [ea] at hw; cases hw
  | some a =>
    rw [ea] at hw
    have ow := ((hx.step s2).step s3).look n3 ea
    have hw : gSl a l u = some w := hw
    unfold gSl at hw
    cases eb : asL a with
    | some ds =>
      rw [eb] at hw
      cases hw
      obtain ⟨p, xs, rfl, hq, hd⟩ := ow.lst n3.ex eb
      refine .inl ⟨p, xs, rfl, by rw [hK]; exact hq, fun p hp => h3.alc n3 (Alc.own n3.ex hp) ⟨p, _, rfl, rfl, upd_same, dpa_cut hd⟩⟩
    | none =>
      rw [eb] at hw
      cases ec : asT a with
      | none => rw [ec] at hw; cases hw
      | some ds =>
        rw [ec] at hw
        cases hw
        have ra : a = .dat (.tuple ds) := by
          cases a with
          | dat d => cases d <;> first | (cases ec; rfl) | cases ec
          | _ => cases ec
        obtain ⟨S9, ow9⟩ := id ow
        subst ra
        have ow9 : Dp G.K P3 vx (.tuple ds) := ow9
        obtain ⟨p, xs, rfl, hq, hd⟩ := ow.tup n3.ex ec
        have hl := dpa_len _ _ hd
        refine .inr ⟨p, xs, rfl, by rw [hK]; exact hq, fun z => ?_, fun _ p hp => ?_⟩
        · rw [hl] at z
          rw [whole_cut z] at h3
          exact h3.datum n3 ow9
        · exact h3.alc n3 (Alc.tup (o := .tup (cutV xs l u)) n3.ex hp) (Dp.tup (SqT.of upd_same) (dpa_mono (same_upd (same_none n3.ex hp)) _ _ (dpa_cut hd)))
end
end Mi
end
section
set_option Elab.async false
set_option linter.all false
set_option maxRecDepth 100000
/-! Ev6: freezing, displays, calls of built-ins -/
namespace Mi
open PySem L2

/-! ### freezing -/
noncomputable def froz (P H : Hp) (S : Ad) : Hp := by classical exact fun b => if S b then H b else P b
section
variable {G : Glb} {P H : Hp} {F : Nat → Ad} {σ : L2.St} {ρ ρ' : Rho} {S : Ad} {v : V} {w : Vl} {d : PyData} {i : Nat}
theorem froz_in {b : Addr} (h : S b) : froz P H S b = H b := by unfold froz; exact if_pos h
theorem froz_out {b : Addr} (h : ¬ S b) : froz P H S b = P b := by unfold froz; exact if_neg h
theorem froz_mono (h : ∀ b, S b → P b = none) : Same P (froz P H S) := fun b o e => by
  by_cases q : S b
  · rw [h b q] at e; cases e
  · rw [froz_out q]; exact e
theorem froz_sub (e : Same P H) : Same (froz P H S) H := fun b o h => by
  by_cases q : S b
  · rw [froz_in q] at h; exact h
  · rw [froz_out q] at h; exact e b o h
theorem froz_new {b : Addr} (h : froz P H S b ≠ none) : P b ≠ none ∨ S b := by
  by_cases q : S b
  · exact .inr q
  · rw [froz_out q] at h; exact .inl h
theorem rows_froz (h0 : ∀ b, S b → P b = none) : ∀ {as : List Addr} {dss : List (List PyData)}, Rows G P H S as dss → DpAll G.K (froz P H S) (as.map V.ref) (dss.map PyData.list)
  | [], [], _ => .nil
  | b :: as, ds :: dss, ⟨h1, _, ⟨ys, h2, h3⟩, h4⟩ => .cons (.lst (SqL.of (by rw [froz_in h1]; exact h2)) (dpa_mono (froz_mono h0) _ _ h3)) (rows_froz h0 h4)
  | [], _ :: _, h => h.elim
  | _ :: _, [], h => h.elim
/-- an owned value, frozen -/
theorem ow_froz (h0 : ∀ b, S b → P b = none) (h : Ow G P H S v w) (hv : viewD w = some d) : Dp G.K (froz P H S) v d := by
  cases w with
  | dat d' => cases hv; exact dp_mono (froz_mono h0) _ _ h
  | ml ds =>
    cases hv
    obtain ⟨a, xs, rfl, h2, h3, h4⟩ := h
    exact .lst (SqL.of (by rw [froz_in h2]; exact h3)) (dpa_mono (froz_mono h0) _ _ h4)
  | mml dss =>
    cases hv
    obtain ⟨a, as, rfl, h2, h3, h4, h5⟩ := h
    exact .lst (SqL.of (by rw [froz_in h2]; exact h4)) (rows_froz h0 h5)
  | ob c fs => cases hv
  | st ns => cases hv

structure Fz (P H : Hp) (F : Nat → Ad) (P' : Hp) (F' : Nat → Ad) (S : Ad) : Prop where
  ex : Same P P'
  ph : Same P' H
  sub : ∀ i b, F' i b → F i b
  pn : ∀ b, P' b ≠ none → P b ≠ none ∨ S b ∨ ∃ i, F i b
theorem Fz.stp {P0 H0 P' : Hp} {F0 F' : Nat → Ad} (z : Fz P H F P' F' S) (s : Stp P0 H0 F0 P H F) (q : ∀ b, S b → (∃ i, F0 i b) ∨ H0 b = none) : Stp P0 H0 F0 P' H F' := by
  refine ⟨s.ex.trans z.ex, s.fr, fun i b h => s.sub i b (z.sub i b h), fun b h => ?_, s.al⟩
  rcases z.pn b h with y | y | ⟨i, y⟩
  · exact s.pn b y
  · exact .inr (q b y)
  · exact .inr (s.sub i b y)
def upR (ρ : Rho) (i : Nat) (d : PyData) : Rho := ρ.set i (some (.dat d))
def frz1 (ρ : Rho) : Opd → Option (PyData × Rho)
  | .val w => (viewD w).map fun d => (d, ρ)
  | .brw i => ((look ρ (.brw i)).bind viewD).map fun d => (d, upR ρ i d)
def frzL (ρ : Rho) : List Opd → Option (List PyData × Rho)
  | [] => some ([], ρ)
  | o :: os => (frz1 ρ o).bind fun p => (frzL p.2 os).map fun q => (p.1 :: q.1, q.2)
/-- a slot's own things are frozen -/
def offF (F : Nat → Ad) (i : Nat) : Nat → Ad := fun j b => j ≠ i ∧ F j b
theorem frz1_ok {o : Opd} (n : Now G P H σ ρ F) (h : Has G P H F σ S v o) (e : frz1 ρ o = some (d, ρ')) : ∃ P' F', Now G P' H σ ρ' F' ∧ Dp G.K P' v d ∧ Fz P H F P' F' S := by
  cases o with
  | val w =>
    have t : Tmp G P H F S v w := h
    have e : (viewD w).map (fun d => (d, ρ)) = some (d, ρ') := e
    obtain ⟨d', hv, e2⟩ := Option.map_eq_some_iff.mp e
    cases e2
    refine ⟨froz P H S, F, ⟨froz_sub n.ex, n.dj, fun i b h => ?_, n.al, fun i w h => ?_, n.kd⟩, ow_froz t.np t.ow hv, froz_mono t.np, froz_sub n.ex, fun _ _ h => h, fun b h => (froz_new h).imp id .inl⟩
    · rw [froz_out fun q => t.dj b q i h]; exact n.np i b h
    · obtain ⟨v, h1, h2⟩ := n.rd i w h
      exact ⟨v, h1, h2.mono (froz_mono t.np) (fun _ _ _ e => e) fun _ z => z⟩
  | brw i =>
    have hs : σ[i]? = some (some v) := h
    have e : ((look ρ (.brw i)).bind viewD).map (fun d => (d, upR ρ i d)) = some (d, ρ') := e
    obtain ⟨d', hv, e2⟩ := Option.map_eq_some_iff.mp e
    cases e2
    obtain ⟨w, hw, hv2⟩ := Option.bind_eq_some_iff.mp hv
    clear hv
    obtain ⟨v', h1, h2⟩ := n.rd i w (join_some hw)
    rw [hs] at h1
    have ev : v = v' := by simpa using h1
    subst ev
    have hnp := n.np i
    refine ⟨froz P H (F i), offF F i, ⟨froz_sub n.ex, fun j k a h1 h2 => n.dj j k a h1.2 h2.2, fun j b h => ?_, fun j b h => n.al j b h.2, fun j w' h => ?_, fun j b u h e => n.kd j b u h.2 e⟩, ow_froz hnp h2 hv2, froz_mono hnp, froz_sub n.ex, fun _ _ h => h.2, fun b h => ?_⟩
    · rw [froz_out fun q => h.1 (n.dj j i b h.2 q)]; exact n.np j b h.2
    · unfold upR at h
      by_cases hj : j = i
      · subst hj
        have hl : j < ρ.length := by
          have := join_some hw
          exact (List.getElem?_eq_some_iff.mp this).1
        rw [List.getElem?_set_self hl] at h
        cases h
        exact ⟨v, hs, ow_froz hnp h2 hv2⟩
      · rw [List.getElem?_set_ne (Ne.symm hj)] at h
        obtain ⟨v2, h3, h4⟩ := n.rd j w' h
        exact ⟨v2, h3, h4.mono (froz_mono hnp) (fun _ _ _ e => e) fun b z => ⟨hj, z⟩⟩
    · rcases froz_new h with z | z
      · exact .inl z
      · exact .inr (.inr ⟨i, z⟩)
theorem Has.fz {P' : Hp} {F' : Nat → Ad} {S1 : Ad} {o : Opd} (h : Has G P H F σ S v o) (z : Fz P H F P' F' S1) (d : ∀ b, S b → ¬ S1 b) : Has G P' H F' σ S v o := by
  cases o with
  | val w =>
    have t : Tmp G P H F S v w := h
    refine ⟨t.ow.mono z.ex (fun _ _ _ e => e) fun _ y => y, fun b hb => ?_, t.al, fun b hb i q => t.dj b hb i (z.sub i b q), t.kd⟩
    refine Classical.byContradiction fun q => ?_
    rcases z.pn b q with y | y | ⟨i, y⟩
    · exact y (t.np b hb)
    · exact d b hb y
    · exact t.dj b hb i y
  | brw i => exact h
theorem HasL.fz {P' : Hp} {F' : Nat → Ad} {S1 : Ad} (z : Fz P H F P' F' S1) : ∀ {vs : List V} {os : List Opd} {S : Ad}, HasL G P H F σ S vs os → (∀ b, S b → ¬ S1 b) → HasL G P' H F' σ S vs os
  | [], [], _, _, _ => trivial
  | v :: vs, o :: os, _, ⟨S2, S3, h1, h2, h3, h4⟩, d => ⟨S2, S3, h1.fz z fun b hb => d b (h3 b hb).1, HasL.fz z h2 fun b hb => d b (h4 b hb), h3, h4⟩
  | [], _ :: _, _, h, _ => h.elim
  | _ :: _, [], _, h, _ => h.elim
theorem frzL_ok : ∀ {os : List Opd} {vs : List V} {S : Ad} {ρ ρ' : Rho} {P : Hp} {F : Nat → Ad} {ds : List PyData}, Now G P H σ ρ F → HasL G P H F σ S vs os → frzL ρ os = some (ds, ρ') →
    ∃ P' F', Now G P' H σ ρ' F' ∧ DpAll G.K P' vs ds ∧ Fz P H F P' F' S
  | [], [], S, ρ, ρ', P, F, ds, n, _, e => by
    have e : some ([], ρ) = some (ds, ρ') := e
    cases e
    exact ⟨P, F, n, .nil, Same.refl P, n.ex, fun _ _ h => h, fun _ h => .inl h⟩
  | o :: os, v :: vs, S, ρ, ρ', P, F, ds, n, ⟨S1, S2, h1, h2, h3, h4⟩, e => by
    have e : (frz1 ρ o).bind (fun p => (frzL p.2 os).map fun q => (p.1 :: q.1, q.2)) = some (ds, ρ') := e
    obtain ⟨⟨d, ρ1⟩, e1, e⟩ := Option.bind_eq_some_iff.mp e
    obtain ⟨⟨ds', ρ2⟩, e2, e3⟩ := Option.map_eq_some_iff.mp e
    cases e3
    obtain ⟨P1, F1, n1, d1, z1⟩ := frz1_ok n h1 e1
    obtain ⟨P2, F2, n2, d2, z2⟩ := frzL_ok n1 (HasL.fz z1 h2 fun b hb q => (h3 b q).2 hb) e2
    refine ⟨P2, F2, n2, .cons (dp_mono z2.ex _ _ d1) d2, z1.ex.trans z2.ex, z2.ph, fun i b h => z1.sub i b (z2.sub i b h), fun b h => ?_⟩
    rcases z2.pn b h with y | y | ⟨i, y⟩
    · rcases z1.pn b y with x | x | x
      · exact .inl x
      · exact .inr (.inl (h3 b x).1)
      · exact .inr (.inr x)
    · exact .inr (.inl (h4 b y))
    · exact .inr (.inr ⟨i, z1.sub i b y⟩)
  | [], _ :: _, _, _, _, _, _, _, _, h, _ => h.elim
  | _ :: _, [], _, _, _, _, _, _, _, h, _ => h.elim
end

/-! ### the general bind for arguments -/
section
variable {G : Glb} {W : WX} {P H P1 H1 : Hp} {F F1 : Nat → Ad} {σ : L2.St} {ρ : Rho} {f : FA}
theorem tA_bind {Q : List V → Hp → Prop} {β : Type} {k : List Opd → Rho → Out β} {End : Hp → Hp → (Nat → Ad) → Out β → Prop} (n : Now G P H σ ρ F) (hE : End P H F ((f ρ).bind k))
    (hx : ∀ c ρ', End P H F (.exc c ρ') → ∀ P' H' F', Now G P' H' σ ρ' F' → Stp P H F P' H' F' → W (.ref (G.ea c)) none σ H') (hs : ¬ End P H F .stk)
    (h : ∀ os ρ1 vs P1 H1 F1 S, f ρ = .ok os ρ1 → End P H F (k os ρ1) → Now G P1 H1 σ ρ1 F1 → Stp P H F P1 H1 F1 → HasL G P1 H1 F1 σ S vs os → (∀ b, S b → (P1 b = none ∧ H1 b ≠ none ∧ ∀ i, ¬ F1 i b) ∧ ((∃ i, F i b) ∨ H b = none)) → Q vs H1) : tA G W f σ H Q := by
  refine ⟨ρ, P, F, n, ?_⟩
  cases e : f ρ with
  | ok os ρ1 =>
    rw [e] at hE
    exact fun vs P1 H1 F1 S n1 s1 h1 q1 => h os ρ1 vs P1 H1 F1 S e hE n1 s1 h1 q1
  | exc c ρ' => rw [e] at hE; exact hx c ρ' hE
  | stk => rw [e] at hE; exact (hs hE).elim
end

/-! ### displays -/
noncomputable def mkT (ρ : Rho) (os : List Opd) : Out Opd := match frzL ρ os with
  | some (ds, ρ2) => if ds.length ≤ 100000 then .ok (.val (.dat (.tuple ds))) ρ2 else .stk
  | none => .stk
noncomputable def mkL (ρ : Rho) (os : List Opd) : Out Opd := match frzL ρ os with
  | some (ds, ρ2) => if ds.length ≤ 100000 then .ok (.val (.ml ds)) ρ2 else .stk
  | none => .stk
noncomputable def fTup (fa : FA) : FE := fun ρ => (fa ρ).bind fun os ρ1 => mkT ρ1 os
noncomputable def fLst (fa : FA) : FE := fun ρ => (fa ρ).bind fun os ρ1 => mkL ρ1 os
theorem line5 {n : Nat} (h : n ≤ 100000) : n ≤ sizeLine := by rw [sizeLine_eq]; omega
section
variable {X : Cx} {W : WX} {G : Glb} {k : Nat} {es : List Expr} {e : Expr} {fa : FA} {f : FE} {pos : Pos}
theorem e_tup {x1} (h : PA X es (tA G W fa)) : PE X (.Tuple es x1 pos) (tE G W (fTup fa)) := PE.imp (pe_tup h) fun σ H Q h => by
  obtain ⟨ρ, P, F, n, h⟩ := h
  refine tA_bind (End := fun P H F => EndO G W P H F σ Q) n h (fun _ _ z => z) (fun z => z) fun os ρ1 vs P1 H1 F1 S1 e1 h1 n1 s1 hs q1 => ?_
  unfold mkT at h1
  cases e2 : frzL ρ1 os with
  | none => rw [e2] at h1; exact h1.elim
  | some p =>
    obtain ⟨ds, ρ2⟩ := p
    rw [e2] at h1
    obtain ⟨P2, F2, n2, d2, z2⟩ := frzL_ok n1 hs e2
    have hl := dpa_len _ _ d2
    by_cases hz : ds.length ≤ 100000
    · have h1 : EndO G W P H F σ Q (.ok (.val (.dat (.tuple ds))) ρ2) := by
        have h1' := h1
        simp only [hz, if_true] at h1'
        exact h1'
      refine ⟨line5 (by omega), fun p hp => ?_⟩
      have s2 := z2.stp s1 fun b hb => (q1 b hb).2
      have al := Alc.tup (o := .tup vs) n2.ex hp
      exact (EndO.trans s2 h1).alc n2 al (Dp.tup (SqT.of upd_same) (dpa_mono al.exP _ _ d2))
    · simp only [hz, if_false] at h1
      exact h1.elim
theorem e_lst (h : PA X es (tA G W fa)) : PE X (.List es pos) (tE G W (fLst fa)) := PE.imp (pe_lst h) fun σ H Q h => by
  obtain ⟨ρ, P, F, n, h⟩ := h
  refine tA_bind (End := fun P H F => EndO G W P H F σ Q) n h (fun _ _ z => z) (fun z => z) fun os ρ1 vs P1 H1 F1 S1 e1 h1 n1 s1 hs q1 => ?_
  unfold mkL at h1
  cases e2 : frzL ρ1 os with
  | none => rw [e2] at h1; exact h1.elim
  | some p =>
    obtain ⟨ds, ρ2⟩ := p
    rw [e2] at h1
    obtain ⟨P2, F2, n2, d2, z2⟩ := frzL_ok n1 hs e2
    have hl := dpa_len _ _ d2
    by_cases hz : ds.length ≤ 100000
    · have h1 : EndO G W P H F σ Q (.ok (.val (.ml ds)) ρ2) := by
        have h1' := h1
        simp only [hz, if_true] at h1'
        exact h1'
      refine ⟨line5 (by omega), fun p hp => ?_⟩
      have s2 := z2.stp s1 fun b hb => (q1 b hb).2
      have al := Alc.own (o := .lst vs) n2.ex hp
      exact (EndO.trans s2 h1).alc n2 al ⟨p, vs, rfl, rfl, upd_same, d2⟩
    · simp only [hz, if_false] at h1
      exact h1.elim
end

/-! ### calls of built-ins that only read -/
def looks (ρ : Rho) : List Opd → Option (List Vl)
  | [] => some []
  | o :: os => (look ρ o).bind fun w => (looks ρ os).map fun ws => w :: ws
def OwsE (G : Glb) (P H : Hp) : List V → List Vl → Prop
  | [], [] => True
  | v :: vs, w :: ws => OwE G P H v w ∧ OwsE G P H vs ws
  | _, _ => False
theorem HasL.looks {G : Glb} {P H : Hp} {F : Nat → Ad} {σ : L2.St} {ρ : Rho} (n : Now G P H σ ρ F) : ∀ {os : List Opd} {vs : List V} {S : Ad} {ws : List Vl}, HasL G P H F σ S vs os → Mi.looks ρ os = some ws → OwsE G P H vs ws
  | [], [], _, ws, _, e => by
    have e : some [] = some ws := e
    cases e; trivial
  | o :: os, v :: vs, _, ws, ⟨S1, S2, h1, h2, _⟩, e => by
    have e : (look ρ o).bind (fun w => (Mi.looks ρ os).map fun ws => w :: ws) = some ws := e
    obtain ⟨w, e1, e⟩ := Option.bind_eq_some_iff.mp e
    obtain ⟨ws', e2, e3⟩ := Option.map_eq_some_iff.mp e
    subst e3
    exact ⟨h1.look n e1, HasL.looks n h2 e2⟩
  | [], _ :: _, _, _, h, _ => h.elim
  | _ :: _, [], _, _, h, _ => h.elim
def CallOk (G : Glb) (r : List V → Hp → VK → Prop) (g : List Vl → Option Vl) : Prop :=
  ∀ (P H : Hp) (vs : List V) (ws : List Vl) (w : Vl) (Q : VK), Same P H → OwsE G P H vs ws → g ws = some w → (∀ v P' H' S, Alc P H P' H' S → Ow G P' H' S v w → Q v H') → r vs H Q
def callB (g : List Vl → Option Vl) (fa : FA) : FE := fun ρ => (fa ρ).bind fun os ρ1 => ret ρ1 ((looks ρ1 os).bind g)
theorem callB_rd {G : Glb} {W : WX} {r : List V → Hp → VK → Prop} {g : List Vl → Option Vl} (ok : CallOk G r g) {fa : FA} {σ : L2.St} {H : Hp} {Q : VK} (h : tE G W (callB g fa) σ H Q) : tA G W fa σ H (fun vs H1 => r vs H1 Q) := by
  obtain ⟨ρ, P, F, n, h⟩ := h
  refine tA_bind (End := fun P H F => EndO G W P H F σ Q) n h (fun _ _ z => z) (fun z => z) fun os ρ1 vs P1 H1 F1 S1 e1 h1 n1 s1 hs q1 => ?_
  obtain ⟨w, hw, h1⟩ := endO_val (EndO.trans s1 h1)
  cases e2 : looks ρ1 os with
  | none => rw [e2] at hw; cases hw
  | some ws =>
    rw [e2] at hw
    exact ok P1 H1 vs ws w Q n1.ex (hs.looks n1 e2) hw fun v P' H' S a o => h1.alc n1 a o
/-- how a built-in is called -/
structure BltV (G : Glb) (X : Cx) (u : Value) (g : List Vl → Option Vl) : Prop where
  ex : ∃ r, CallR X u r ∧ CallOk G r g
section
variable {X : Cx} {W : WX} {G : Glb} {k : Nat} {es : List Expr} {e : Expr} {fa : FA} {pos p : Pos} {x : Str} {id T : String} {g : List Vl → Option Vl}
theorem e_blt (h : BltV G X (.builtin id) g) (hm : X.mg x = none) (ha : PA X (e :: es) (tA G W fa)) (hg : Gl X x := by rfl) (hv : bootBuiltins x = some (.builtin id) := by decide +kernel) (hn : x ≠ "__name__" := by decide) (hdb : (x == ("__debug__" : Str)) = false := by decide)
    (he : starEach (e :: es) X.env = (false, eval e X.env) :: starEach es X.env := by rfl) (hpl : (backTo pos (starEach es X.env)).any (·.1) = false := by rfl) : PE X (.Call (.Name x p) (e :: es) [] pos) (tE G W (callB g fa)) := by
  obtain ⟨r, hc, ok⟩ := h
  exact PE.imp (pe_callB hc hg hm hv ha hn hdb he hpl) fun _ _ _ h => callB_rd ok h
theorem e_ty (h : BltV G X (.type T) g) (hm : X.mg x = none) (ha : PA X (e :: es) (tA G W fa)) (hg : Gl X x := by rfl) (hv : bootBuiltins x = some (.type T) := by decide +kernel) (hn : x ≠ "__name__" := by decide) (hdb : (x == ("__debug__" : Str)) = false := by decide)
    (he : starEach (e :: es) X.env = (false, eval e X.env) :: starEach es X.env := by rfl) (hpl : (backTo pos (starEach es X.env)).any (·.1) = false := by rfl) : PE X (.Call (.Name x p) (e :: es) [] pos) (tE G W (callB g fa)) := by
  obtain ⟨r, hc, ok⟩ := h
  exact PE.imp (pe_callTy hc hg hm hv ha hn hdb he hpl) fun _ _ _ h => callB_rd ok h
end
end Mi
end
section
set_option Elab.async false
set_option linter.all false
set_option maxRecDepth 100000
/-! Ev7: the built-ins -/
namespace Mi
open PySem L2

def asInts : List PyData → Option (List Int)
  | [] => some []
  | .int i :: ds => (asInts ds).map fun ns => i :: ns
  | _ => none
def asBools : List PyData → Option (List Bool)
  | [] => some []
  | .bool i :: ds => (asBools ds).map fun ns => i :: ns
  | _ => none
theorem asInts_map : ∀ ns : List Int, asInts (ns.map .int) = some ns
  | [] => rfl
  | n :: ns => by show (asInts (ns.map .int)).map _ = _; rw [asInts_map ns]; rfl
theorem asBools_map : ∀ ns : List Bool, asBools (ns.map .bool) = some ns
  | [] => rfl
  | n :: ns => by show (asBools (ns.map .bool)).map _ = _; rw [asBools_map ns]; rfl
theorem asInts_eq : ∀ {ds : List PyData} {ns : List Int}, asInts ds = some ns → ds = ns.map .int
  | [], ns, h => by cases h; rfl
  | .int i :: ds, ns, h => by
    have h : (asInts ds).map (fun ns => i :: ns) = some ns := h
    obtain ⟨m, h1, h2⟩ := Option.map_eq_some_iff.mp h
    subst h2
    rw [asInts_eq h1]; rfl
  | .none :: _, _, h => by cases h
  | .bool _ :: _, _, h => by cases h
  | .str _ :: _, _, h => by cases h
  | .list _ :: _, _, h => by cases h
  | .tuple _ :: _, _, h => by cases h
  | .dict _ :: _, _, h => by cases h
theorem asBools_eq : ∀ {ds : List PyData} {ns : List Bool}, asBools ds = some ns → ds = ns.map .bool
  | [], ns, h => by cases h; rfl
  | .bool i :: ds, ns, h => by
    have h : (asBools ds).map (fun ns => i :: ns) = some ns := h
    obtain ⟨m, h1, h2⟩ := Option.map_eq_some_iff.mp h
    subst h2
    rw [asBools_eq h1]; rfl
  | .none :: _, _, h => by cases h
  | .int _ :: _, _, h => by cases h
  | .str _ :: _, _, h => by cases h
  | .list _ :: _, _, h => by cases h
  | .tuple _ :: _, _, h => by cases h
  | .dict _ :: _, _, h => by cases h
theorem dpa_ints {K : PySem.W.Frag} {P : Hp} : ∀ {ns : List Int} {xs : List V}, DpAll K P xs (ns.map .int) → xs = ns.map V.int
  | [], _, h => by cases h; rfl
  | n :: ns, _, h => by
    cases h with
    | cons h1 h2 => cases h1; rw [dpa_ints h2]; rfl
theorem dpa_bools {K : PySem.W.Frag} {P : Hp} : ∀ {ns : List Bool} {xs : List V}, DpAll K P xs (ns.map .bool) → xs = ns.map V.bl
  | [], _, h => by cases h; rfl
  | n :: ns, _, h => by
    cases h with
    | cons h1 h2 => cases h1; rw [dpa_bools h2]; rfl
theorem ints_dpa {K : PySem.W.Frag} {P : Hp} : ∀ {ns : List Int}, DpAll K P (ns.map V.int) (ns.map .int)
  | [] => .nil
  | n :: ns => .cons (.int n) ints_dpa

section
variable {X : Cx} {W : WX} {G : Glb} {k : Nat}
theorem owsE1 {P H : Hp} {vs : List V} {w : Vl} (h : OwsE G P H vs [w]) : ∃ v, vs = [v] ∧ OwE G P H v w := by
  match vs, h with
  | [v], ⟨h1, _⟩ => exact ⟨v, rfl, h1⟩
theorem owsE2 {P H : Hp} {vs : List V} {w w' : Vl} (h : OwsE G P H vs [w, w']) : ∃ v v', vs = [v, v'] ∧ OwE G P H v w ∧ OwE G P H v' w' := by
  match vs, h with
  | [v, v'], ⟨h1, h2, _⟩ => exact ⟨v, v', rfl, h1, h2⟩
/-- a call of one argument -/
def g1 (g : Vl → Option Vl) : List Vl → Option Vl
  | [w] => g w
  | _ => none
theorem callOk1 {r : List V → Hp → VK → Prop} {g : Vl → Option Vl} (h : ∀ (P H : Hp) (v : V) (a w : Vl) (Q : VK), Same P H → OwE G P H v a → g a = some w → (∀ v P' H' S, Alc P H P' H' S → Ow G P' H' S v w → Q v H') → r [v] H Q) : CallOk G r (g1 g) := by
  intro P H vs ws w Q e ho hw q
  unfold g1 at hw
  split at hw
  · obtain ⟨v, rfl, h1⟩ := owsE1 ho
    exact h P H v _ w Q e h1 hw q
  · cases hw
def gLen (a : Vl) : Option Vl := (viewD a).bind fun d => match d with
  | .list ds => some (vI ds.length)
  | .tuple ds => some (vI ds.length)
  | _ => none
theorem b_len (c : Cxt G X W k) : BltV G X (.builtin "len") (g1 gLen) := ⟨⟨_, call_len, callOk1 fun P H v a w Q e h hw q => by
  unfold gLen at hw
  obtain ⟨d, hd, hw⟩ := Option.bind_eq_some_iff.mp hw
  have dp := h.dp e hd
  rw [c.K]
  cases dp with
  | lst hs ha =>
    have hw : some (vI _) = some w := hw
    cases hw
    exact ⟨_, _, rfl, .inl ⟨_, hs, rfl⟩, by rw [dpa_len _ _ ha]; exact q _ P H nobody (Alc.refl e) (Dp.int _)⟩
  | tup hs ha =>
    have hw : some (vI _) = some w := hw
    cases hw
    exact ⟨_, _, rfl, .inr ⟨_, hs, rfl⟩, by rw [dpa_len _ _ ha]; exact q _ P H nobody (Alc.refl e) (Dp.int _)⟩
  | _ => cases hw⟩⟩
def gInt : Vl → Option Vl
  | .dat (.int i) => some (vI i)
  | .dat (.bool b) => some (vI (if b then 1 else 0))
  | _ => none
theorem b_int : BltV G X (.type "int") (g1 gInt) := ⟨⟨_, call_int1, callOk1 fun P H v a w Q e h hw q => by
  unfold gInt at hw
  split at hw
  · cases hw
    exact .inl ⟨_, by rw [ow_int h], q _ P H nobody (Alc.refl e) (Dp.int _)⟩
  · cases hw
    exact .inr ⟨_, by rw [ow_bool h], q _ P H nobody (Alc.refl e) (Dp.int _)⟩
  · cases hw⟩⟩
def gAbs : Vl → Option Vl
  | .dat (.int i) => some (vI (if i < 0 then -i else i))
  | _ => none
theorem b_abs : BltV G X (.builtin "abs") (g1 gAbs) := ⟨⟨_, call_abs, callOk1 fun P H v a w Q e h hw q => by
  unfold gAbs at hw
  split at hw
  · cases hw
    exact ⟨_, by rw [ow_int h], q _ P H nobody (Alc.refl e) (Dp.int _)⟩
  · cases hw⟩⟩
def gSum (a : Vl) : Option Vl := (asL a).bind fun ds => (asInts ds).map fun ns => vI ns.sum
theorem b_sum (c : Cxt G X W k) : BltV G X (.builtin "sum") (g1 gSum) := ⟨⟨_, cr_sum c.calm, callOk1 fun P H v a w Q e h hw q => by
  obtain ⟨ds, hd, hw⟩ := Option.bind_eq_some_iff.mp hw
  obtain ⟨ns, hn, rfl⟩ := Option.map_eq_some_iff.mp hw
  obtain ⟨p, xs, rfl, hs, ha⟩ := h.lst e hd
  rw [asInts_eq hn] at ha
  rw [dpa_ints ha] at hs
  exact ⟨p, ns, rfl, by rw [c.K]; exact hs, q _ P H nobody (Alc.refl e) (Dp.int _)⟩⟩⟩
def gAny (a : Vl) : Option Vl := (asL a).bind fun ds => (asBools ds).map fun ns => vB (ns.any id)
def gAll (a : Vl) : Option Vl := (asL a).bind fun ds => (asBools ds).map fun ns => vB (ns.all id)
theorem b_any (c : Cxt G X W k) : BltV G X (.builtin "any") (g1 gAny) := ⟨⟨_, cr_any c.calm, callOk1 fun P H v a w Q e h hw q => by
  obtain ⟨ds, hd, hw⟩ := Option.bind_eq_some_iff.mp hw
  obtain ⟨ns, hn, rfl⟩ := Option.map_eq_some_iff.mp hw
  obtain ⟨p, xs, rfl, hs, ha⟩ := h.lst e hd
  rw [asBools_eq hn] at ha
  rw [dpa_bools ha] at hs
  exact ⟨p, ns, rfl, by rw [c.K]; exact hs, q _ P H nobody (Alc.refl e) (Dp.bl _)⟩⟩⟩
theorem b_all (c : Cxt G X W k) : BltV G X (.builtin "all") (g1 gAll) := ⟨⟨_, cr_all c.calm, callOk1 fun P H v a w Q e h hw q => by
  obtain ⟨ds, hd, hw⟩ := Option.bind_eq_some_iff.mp hw
  obtain ⟨ns, hn, rfl⟩ := Option.map_eq_some_iff.mp hw
  obtain ⟨p, xs, rfl, hs, ha⟩ := h.lst e hd
  rw [asBools_eq hn] at ha
  rw [dpa_bools ha] at hs
  exact ⟨p, ns, rfl, by rw [c.K]; exact hs, q _ P H nobody (Alc.refl e) (Dp.bl _)⟩⟩⟩
/-- greatest, least of ints -/
def maxI : List Int → Int
  | [] => 0
  | n :: ns => ns.foldl max n
def minI : List Int → Int
  | [] => 0
  | n :: ns => ns.foldl min n
theorem maxI_fold : ∀ (ns : List Int) (n : Int), n ≤ ns.foldl max n ∧ (∀ y ∈ ns, y ≤ ns.foldl max n) ∧ (ns.foldl max n = n ∨ ns.foldl max n ∈ ns)
  | [], n => ⟨Int.le_refl _, fun _ h => absurd h (by simp), .inl rfl⟩
  | a :: ns, n => by
    obtain ⟨h1, h2, h3⟩ := maxI_fold ns (max n a)
    rw [List.foldl_cons]
    refine ⟨by omega, fun y hy => ?_, ?_⟩
    · rcases List.mem_cons.mp hy with rfl | hy
      · omega
      · exact h2 y hy
    · rcases h3 with h3 | h3
      · rcases (show max n a = n ∨ max n a = a by omega) with q | q
        · exact .inl (h3.trans q)
        · exact .inr (List.mem_cons.mpr (.inl (h3.trans q)))
      · exact .inr (List.mem_cons_of_mem _ h3)
theorem minI_fold : ∀ (ns : List Int) (n : Int), ns.foldl min n ≤ n ∧ (∀ y ∈ ns, ns.foldl min n ≤ y) ∧ (ns.foldl min n = n ∨ ns.foldl min n ∈ ns)
  | [], n => ⟨Int.le_refl _, fun _ h => absurd h (by simp), .inl rfl⟩
  | a :: ns, n => by
    obtain ⟨h1, h2, h3⟩ := minI_fold ns (min n a)
    rw [List.foldl_cons]
    refine ⟨by omega, fun y hy => ?_, ?_⟩
    · rcases List.mem_cons.mp hy with rfl | hy
      · omega
      · exact h2 y hy
    · rcases h3 with h3 | h3
      · rcases (show min n a = n ∨ min n a = a by omega) with q | q
        · exact .inl (h3.trans q)
        · exact .inr (List.mem_cons.mpr (.inl (h3.trans q)))
      · exact .inr (List.mem_cons_of_mem _ h3)
theorem maxI_mem {ns : List Int} (h : 0 < ns.length) : maxI ns ∈ ns := by
  cases ns with
  | nil => simp at h
  | cons n ns =>
    rcases (maxI_fold ns n).2.2 with q | q
    · exact List.mem_cons.mpr (.inl q)
    · exact List.mem_cons_of_mem _ q
theorem maxI_le {ns : List Int} {y : Int} (h : y ∈ ns) : y ≤ maxI ns := by
  cases ns with
  | nil => cases h
  | cons n ns =>
    rcases List.mem_cons.mp h with rfl | h
    · exact (maxI_fold ns y).1
    · exact (maxI_fold ns n).2.1 y h
theorem minI_mem {ns : List Int} (h : 0 < ns.length) : minI ns ∈ ns := by
  cases ns with
  | nil => simp at h
  | cons n ns =>
    rcases (minI_fold ns n).2.2 with q | q
    · exact List.mem_cons.mpr (.inl q)
    · exact List.mem_cons_of_mem _ q
theorem minI_le {ns : List Int} {y : Int} (h : y ∈ ns) : minI ns ≤ y := by
  cases ns with
  | nil => cases h
  | cons n ns =>
    rcases List.mem_cons.mp h with rfl | h
    · exact (minI_fold ns y).1
    · exact (minI_fold ns n).2.1 y h
theorem CallR.or {u : Value} {r r' : List V → Hp → VK → Prop} (h : CallR X u r) (h' : CallR X u r') : CallR X u (fun vs H Q => r vs H Q ∨ r' vs H Q) := by
  intro pins s σ H vs us Q I rv q
  rcases q with q | q
  · exact h pins s σ H vs us Q I rv q
  · exact h' pins s σ H vs us Q I rv q
def orC (g g' : List Vl → Option Vl) : List Vl → Option Vl := fun ws => match g ws with
  | some w => some w
  | none => g' ws
theorem callOr {r r' : List V → Hp → VK → Prop} {g g' : List Vl → Option Vl} (h : CallOk G r g) (h' : CallOk G r' g') : CallOk G (fun vs H Q => r vs H Q ∨ r' vs H Q) (orC g g') := fun P H vs ws w Q e ho hw q => by
  unfold orC at hw
  cases z : g ws with
  | some w' => rw [z] at hw; cases hw; exact .inl (h P H vs ws w Q e ho z q)
  | none => rw [z] at hw; exact .inr (h' P H vs ws w Q e ho hw q)
theorem BltV.or {u : Value} {g g' : List Vl → Option Vl} (h : BltV G X u g) (h' : BltV G X u g') : BltV G X u (orC g g') := by
  obtain ⟨r, a, b⟩ := h
  obtain ⟨r', a', b'⟩ := h'
  exact ⟨⟨_, CallR.or a a', callOr b b'⟩⟩
def g2I (f : Int → Int → Int) : List Vl → Option Vl
  | [.dat (.int i), .dat (.int j)] => some (vI (f i j))
  | _ => none
theorem b_max2 (c : Cxt G X W k) : BltV G X (.builtin "max") (g2I fun i j => if j > i then j else i) := ⟨⟨_, call_max2 c.calm, fun P H vs ws w Q e ho hw q => by
  unfold g2I at hw
  split at hw
  · cases hw
    obtain ⟨v, v', rfl, h1, h2⟩ := owsE2 ho
    exact ⟨_, _, by rw [ow_int h1, ow_int h2], q _ P H nobody (Alc.refl e) (Dp.int _)⟩
  · cases hw⟩⟩
theorem b_min2 (c : Cxt G X W k) : BltV G X (.builtin "min") (g2I fun i j => if j < i then j else i) := ⟨⟨_, call_min2 c.calm, fun P H vs ws w Q e ho hw q => by
  unfold g2I at hw
  split at hw
  · cases hw
    obtain ⟨v, v', rfl, h1, h2⟩ := owsE2 ho
    exact ⟨_, _, by rw [ow_int h1, ow_int h2], q _ P H nobody (Alc.refl e) (Dp.int _)⟩
  · cases hw⟩⟩
noncomputable def gMax1 (a : Vl) : Option Vl := (asL a).bind fun ds => (asInts ds).bind fun ns => gd (0 < ns.length) (vI (maxI ns))
noncomputable def gMin1 (a : Vl) : Option Vl := (asL a).bind fun ds => (asInts ds).bind fun ns => gd (0 < ns.length) (vI (minI ns))
theorem b_max1 (c : Cxt G X W k) : BltV G X (.builtin "max") (g1 gMax1) := ⟨⟨_, cr_max c.calm, callOk1 fun P H v a w Q e h hw q => by
  obtain ⟨ds, hd, hw⟩ := Option.bind_eq_some_iff.mp hw
  obtain ⟨ns, hn, hw⟩ := Option.bind_eq_some_iff.mp hw
  obtain ⟨h0, rfl⟩ := gd_some hw
  obtain ⟨p, xs, rfl, hs, ha⟩ := h.lst e hd
  rw [asInts_eq hn] at ha
  rw [dpa_ints ha] at hs
  refine ⟨p, ns, rfl, by rw [c.K]; exact hs, h0, fun m hm hle => ?_⟩
  have : m = maxI ns := Int.le_antisymm (maxI_le hm) (hle _ (maxI_mem h0))
  rw [this]
  exact q _ P H nobody (Alc.refl e) (Dp.int _)⟩⟩
theorem b_min1 (c : Cxt G X W k) : BltV G X (.builtin "min") (g1 gMin1) := ⟨⟨_, cr_min c.calm, callOk1 fun P H v a w Q e h hw q => by
  obtain ⟨ds, hd, hw⟩ := Option.bind_eq_some_iff.mp hw
  obtain ⟨ns, hn, hw⟩ := Option.bind_eq_some_iff.mp hw
  obtain ⟨h0, rfl⟩ := gd_some hw
  obtain ⟨p, xs, rfl, hs, ha⟩ := h.lst e hd
  rw [asInts_eq hn] at ha
  rw [dpa_ints ha] at hs
  refine ⟨p, ns, rfl, by rw [c.K]; exact hs, h0, fun m hm hle => ?_⟩
  have : m = minI ns := Int.le_antisymm (hle _ (minI_mem h0)) (minI_le hm)
  rw [this]
  exact q _ P H nobody (Alc.refl e) (Dp.int _)⟩⟩
def gList (a : Vl) : Option Vl := match asL a with
  | some ds => some (.ml ds)
  | none => (asT a).map .ml
theorem b_list (c : Cxt G X W k) : BltV G X (.type "list") (g1 gList) := ⟨⟨_, call_list_of, callOk1 fun P H v a w Q e h hw q => by
  unfold gList at hw
  rw [c.K]
  cases ea : asL a with
  | some ds =>
    rw [ea] at hw
    cases hw
    obtain ⟨p, xs, rfl, hs, ha⟩ := h.lst e ea
    exact ⟨p, xs, rfl, .inl hs, fun l hl => q _ P _ _ (Alc.own e hl) ⟨l, xs, rfl, rfl, upd_same, ha⟩⟩
  | none =>
    rw [ea] at hw
    obtain ⟨ds, hd, rfl⟩ := Option.map_eq_some_iff.mp hw
    obtain ⟨p, xs, rfl, hs, ha⟩ := h.tup e hd
    exact ⟨p, xs, rfl, .inr hs, fun l hl => q _ P _ _ (Alc.own e hl) ⟨l, xs, rfl, rfl, upd_same, ha⟩⟩⟩⟩
theorem asT_eq {a : Vl} {ds : List PyData} (h : asT a = some ds) : a = .dat (.tuple ds) := by
  cases a with
  | dat d => cases d <;> first | (cases h; rfl) | cases h
  | _ => cases h
def gTuple (a : Vl) : Option Vl := match asL a with
  | some ds => some (.dat (.tuple ds))
  | none => (asT a).map fun ds => .dat (.tuple ds)
theorem b_tuple (c : Cxt G X W k) : BltV G X (.type "tuple") (g1 gTuple) := ⟨⟨_, call_tuple_of, callOk1 fun P H v a w Q e h hw q => by
  unfold gTuple at hw
  rw [c.K]
  cases ea : asL a with
  | some ds =>
    rw [ea] at hw
    cases hw
    obtain ⟨p, xs, rfl, hs, ha⟩ := h.lst e ea
    exact ⟨p, xs, rfl, .inl ⟨hs, fun l hl => q _ _ _ _ (Alc.tup (o := .tup xs) e hl) (Dp.tup (SqT.of upd_same) (dpa_mono (same_upd (same_none e hl)) _ _ ha))⟩⟩
  | none =>
    rw [ea] at hw
    obtain ⟨ds, hd, rfl⟩ := Option.map_eq_some_iff.mp hw
    have hr := asT_eq hd
    subst hr
    obtain ⟨S, ow⟩ := id h
    obtain ⟨p, xs, rfl, hs, ha⟩ := h.tup e hd
    exact ⟨p, xs, rfl, .inr ⟨hs, q _ P H nobody (Alc.refl e) ow⟩⟩⟩⟩

/-! ### sorted -/
structure Srt (ds : List PyData) : Prop where
  al : PySem.W.AllAlike ds
  so : PySem.W.Sortable ds
  dp : ∀ d ∈ ds, d.depth ≤ 64
noncomputable def sortD (rev : Bool) (ds : List PyData) : List PyData := ds.mergeSort (PySem.W.dataLe rev id)
noncomputable def gSorted (a : Vl) : Option Vl := (asL a).bind fun ds => gd (Srt ds) (.ml (sortD false ds))
def EachD (K : PySem.W.Frag) (P : Hp) (v : Value) (d : PyData) : Prop := ∃ x, RelV x v ∧ Dp K P x d
theorem eachD {K : PySem.W.Frag} {P : Hp} : ∀ {xs : List V} {us : List Value} {ds : List PyData}, Vals xs us → DpAll K P xs ds → PySem.W.EachIs (EachD K P) us ds
  | [], _, _, r, h => by cases r; cases h; exact .nil
  | x :: xs, _, _, r, h => by
    cases r with
    | cons r1 r2 =>
      cases h with
      | cons h1 h2 => exact .cons ⟨x, r1, h1⟩ (eachD r2 h2)
theorem dOfEach {K : PySem.W.Frag} {P : Hp} : ∀ {us : List Value} {ds : List PyData}, PySem.W.EachIs (EachD K P) us ds → ∃ xs, Vals xs us ∧ DpAll K P xs ds
  | [], _, h => by cases h; exact ⟨[], .nil, .nil⟩
  | u :: us, _, h => by
    cases h with
    | cons h1 h2 =>
      obtain ⟨x, r, d⟩ := h1
      obtain ⟨xs, r2, d2⟩ := dOfEach h2
      exact ⟨x :: xs, .cons r r2, .cons d d2⟩
theorem eachReads {pins : List (Addr × Obj)} {s : Shared} {σ : L2.St} {H P : Hp} (I : L2.Inv X pins σ H s) (e : Same P H) : ∀ {us : List Value} {ds : List PyData}, PySem.W.EachIs (EachD X.K P) us ds → PySem.W.EachIs (fun v b => ∃ as, Reads s.heap v (id b) as) us ds
  | [], _, h => by cases h; exact .nil
  | u :: us, _, h => by
    cases h with
    | cons h1 h2 =>
      obtain ⟨x, r, d⟩ := h1
      exact .cons (Dp.reads I _ _ _ (dp_mono e _ _ d) r) (eachReads I e h2)
def rSortD (K : PySem.W.Frag) : List V → Hp → VK → Prop := fun vs H Q => ∃ (P : Hp) (a : Addr) (xs : List V) (ds : List PyData), Same P H ∧ vs = [V.ref a] ∧ SqL K H a xs ∧ DpAll K P xs ds ∧ Srt ds ∧
  ∀ (ys : List V) (p : Addr), DpAll K P ys (sortD false ds) → H p = none → Q (.ref p) (upd H p (.lst ys))
theorem cr_sortD (c : Cxt G X W k) : CallR X (.builtin "sorted") (rSortD X.K) := by
  intro pins s σ H vs us Q I r h
  obtain ⟨P, a, xs, ds, e, rfl, hs, ha, so, q⟩ := h
  obtain ⟨its, rv, hl, hz⟩ := I.list hs
  rw [Vals.ref1 r]
  have hlen := rv.length
  have hlen2 := dpa_len _ _ ha
  have ed := eachD rv ha
  refine PySem.W.sorted_data (enc := id) hl.isList ed (eachReads I e ed) (by rw [List.map_id]; exact so.al) (by rw [List.map_id]; exact so.so) (by omega) (fun b hb => ?_) fun out ho eo => ?_
  · have := so.dp b hb
    have := c.room.un
    show X.A.units + 2 + b.depth < cLine
    omega
  · obtain ⟨ys, ry, dy⟩ := dOfEach eo
    obtain ⟨ep, he'⟩ := PyProof.Rows.sortedAll_at s.heap its out.toArray
    have hy := ry.length
    exact ⟨.ref _, upd H (s.heap.objs.size + 1) (.lst ys), I.laid (t' := s.toks) (fun _ _ => PyProof.Rows.sortedAll_old) (Nat.le_succ _) ⟨by omega, out, ep, ry, he'⟩, rfl, q ys _ dy (I.hok.fresh (Nat.le_succ _))⟩
theorem b_sorted (c : Cxt G X W k) : BltV G X (.builtin "sorted") (g1 gSorted) := ⟨⟨_, cr_sortD c, callOk1 fun P H v a w Q e h hw q => by
  obtain ⟨ds, hd, hw⟩ := Option.bind_eq_some_iff.mp hw
  obtain ⟨so, rfl⟩ := gd_some hw
  obtain ⟨p, xs, rfl, hs, ha⟩ := h.lst e hd
  rw [c.K]
  exact ⟨P, p, xs, ds, e, rfl, hs, ha, so, fun ys l dy hl => q _ P _ _ (Alc.own e hl) ⟨l, ys, rfl, rfl, upd_same, dy⟩⟩⟩⟩

/-! ### repr -/
structure Rok (d : PyData) : Prop where
  sh : d.showable = true
  nd : d.hasDict = false
  dp : d.depth ≤ 64
  sz : d.shown.length ≤ sizeLine
def isRef : PyData → Bool
  | .list _ => true
  | .tuple _ => true
  | _ => false
noncomputable def gRepr (a : Vl) : Option Vl := (viewD a).bind fun d => gd (Rok d ∧ isRef d = true) (.dat (.str d.shown))
def rReprD (K : PySem.W.Frag) : List V → Hp → VK → Prop := fun vs H Q => ∃ (v : V) (d : PyData), vs = [v] ∧ Dp K H v d ∧ Rok d ∧ isRef d = true ∧ Q (.str d.shown) H
theorem cr_reprD (c : Cxt G X W k) : CallR X (.builtin "repr") (rReprD X.K) := by
  intro pins s σ H vs us Q I r h
  obtain ⟨v, d, rfl, dp, ok, hr, q⟩ := h
  cases r with
  | cons r1 r2 =>
    cases r2
    obtain ⟨as, rd⟩ := Dp.reads I d v _ dp r1
    have hu := c.room.un
    have hdp := ok.dp
    cases dp with
    | lst hs ha =>
      cases r1
      exact repr_of_reads' rd ok.sh (fun z => by rw [ok.nd] at z; cases z) c.gd (by omega) (fun _ _ z => z) (fun h' u tk hk => ⟨.str _, H, I.kept hk, ⟨_, rfl⟩, q⟩) ok.sz
    | tup hs ha =>
      cases r1
      exact repr_of_reads' rd ok.sh (fun z => by rw [ok.nd] at z; cases z) c.gd (by omega) (fun _ _ z => z) (fun h' u tk hk => ⟨.str _, H, I.kept hk, ⟨_, rfl⟩, q⟩) ok.sz
    | _ => cases hr
theorem b_repr (c : Cxt G X W k) : BltV G X (.builtin "repr") (g1 gRepr) := ⟨⟨_, cr_reprD c, callOk1 fun P H v a w Q e h hw q => by
  obtain ⟨d, hd, hw⟩ := Option.bind_eq_some_iff.mp hw
  obtain ⟨⟨ok, hr⟩, rfl⟩ := gd_some hw
  rw [c.K]
  exact ⟨v, d, rfl, h.dp e hd, ok, hr, q _ P H nobody (Alc.refl e) (Dp.str _)⟩⟩⟩
end
end Mi
end
section
set_option Elab.async false
set_option linter.all false
set_option maxRecDepth 100000
/-! Ev8a: set(list of ints); sorted of such a set, of any size: at the library's level -/
namespace Mi
open PySem PySem.Spec PyProof.Rows L2
section
variable {P : Program} {w : World} {A : Around} {E : Value → Shared → Prop} {s : Shared}
/-- a set as it is made -/
abbrev bornSet (w : World) : Obj := { cls := .type "set", dict := none, data := .set #[] 0 (.fresh 0 0 (!w.params.followText "set-order")) }
set_option maxRecDepth 100000 in
set_option maxHeartbeats 3200000 in
theorem set_of_list {l : Addr} {items : Array Value} (ns : List Int) {Q : Value → Shared → Prop} (hh : A.handled = none) (hl : s.heap.IsList l items) (hit : IntsAre items.toList ns) (hb : ns.length + 1 < scanBound)
    (fin : ∀ (h' : Heap) (tk c : Nat), SetR w h' s.heap.objs.size (fun j => decide (j ∈ ns)) c → c ≤ ns.length → (∀ b o, s.heap.get? b = some o → h'.get? b = some o) → Q (.ref s.heap.objs.size) { s with heap := h', toks := tk }) :
    wpAny (model P w) A (call (.type "set") [.ref l]) Q E s := by
  have many : items.size = ns.length := by
    have q := IntsAre.length hit
    rwa [Array.length_toList] at q
  obtain ⟨mc, mtl, mmro⟩ := F.called_set.mro
  have m1 := F.called_set.made
  have m2 := F.called_set.sub
  refine wpAny_call (codeAny_of_tree ?_)
  show wpAny _ _ (callAny (.type "set") _) _ _ _
  refine wpAny_pure ⟨Code.quiet_builtin _ (by decide +kernel), codeAny_builtin F.entry_type_call ?_⟩
  rw [Around.under_plain (weight_type_call_type "set" [.ref l] []) rfl]
  have m3 := F.called_set.notType
  have m4 := F.called_set.canCreate
  have m5 := F.typeCall_set_1 (.ref l)
  repeat (any_goals (first | assumption | wp_step))
  refine codeAny_mono (code_set_led1 (.ref l) (E := E) (Q₁ := fun made s₁ => made = .ref s.heap.objs.size ∧ s₁ = { s with heap := s.heap.push (bornSet w) }) ⟨rfl, rfl⟩) fun res s₁ got => ?_
  cases res with
  | error e => exact got
  | ok fl =>
    cases fl with
    | ret made =>
      obtain ⟨rfl, rfl⟩ := got
      have atS : (s.heap.push (bornSet w)).get? s.heap.objs.size = some (bornSet w) := Heap.get?_push_size _ rfl
      have isS : Shared.TypeIs { s with heap := s.heap.push (bornSet w) } (.ref s.heap.objs.size) "set" := ⟨_, atS, rfl⟩
      have m6 := F.called_set.init.lookup
      have m7 := F.called_set.init.bind (.ref s.heap.objs.size)
      repeat (any_goals (first | assumption | wp_step))
      refine codeAny_mono (codeAny_call_builtin (R := wants (fun res s₂ => res = .none ∧ ∃ h' tk c, s₂ = { s with heap := h', toks := tk } ∧ SetR w h' s.heap.objs.size (fun j => decide (j ∈ ns)) c ∧ c ≤ ns.length ∧ (∀ b o, s.heap.get? b = some o → h'.get? b = some o)) E)
        F.called_set.init.plain F.entry_set_init (check_set_init_1 isS ?_)) fun res2 s₂ got2 => ?_
      · obtain ⟨⟨lc, ld, ldat, lsl⟩, hol, hcl, nl, hdl⟩ := hl
        simp only at hcl hdl
        subst hcl; subst hdl
        have atL : (s.heap.push (bornSet w)).get? l = some { cls := .type "list", dict := ld, data := .seq items nl, slots := lsl } := Heap.get?_push_of_some _ hol
        have n1 := F.sub_list_set
        have n2 := F.sub_list_frozenset
        have n3 : (Value.type "list" == Value.type "dict") = false := by decide
        have isL : (s.heap.push (bornSet w)).IsList l items := ⟨_, atL, rfl, nl, rfl⟩
        unfold Builtin.«set.__init__» noKeywords Builtin.Frozenset.updateFrom
        generalize hPI : pyIter = PI
        wp_walk
        subst hPI
        refine wpAny_pyIter_list isL ?_
        refine wpAny_bind (wpAny_runValue ?_)
        have lS : l < s.heap.objs.size := Heap.lt_size hol
        have noh : A.in1.in1.in1.handled = none := by simp [hh]
        have lI : l ≠ (s.heap.push (bornSet w)).objs.size := by
          rw [Heap.size_push]; exact Nat.ne_of_lt (Nat.lt_succ_of_lt lS)
        have sI : s.heap.objs.size ∉ [(s.heap.push (bornSet w)).objs.size, l] := by
          rw [Heap.size_push]; simp only [List.mem_cons, List.mem_singleton, List.not_mem_nil, or_false, not_or]
          exact ⟨Nat.ne_of_lt (Nat.lt_succ_self _), Nat.ne_of_gt lS⟩
        have each : ∀ (i : Nat) (v : Value), items[i]? = some v → ∃ k t, ns[i]? = some k ∧ v = .int k t := fun i v hv => by
          have hi : i < ns.length := by rw [← many]; exact (Array.getElem?_eq_some_iff.mp hv).1
          obtain ⟨t, e⟩ := PyProof.Rows.IntsAre.int_at hit i v (by rw [Array.getElem?_toList]; exact hv)
          refine ⟨ns[i], t, List.getElem?_eq_getElem hi, ?_⟩
          rw [e, List.getD_eq_getElem?_getD, List.getElem?_eq_getElem hi] <;> rfl
        refine set_update_ints ((Walks.list noh _ l lI items).toS) s.heap.objs.size sI ns many hb each (items.size - 0) 0 _ (by omega) (Nat.zero_le _) ⟨⟨_, Heap.get?_push_size _ rfl, rfl, rfl⟩, (isL.push _)⟩ ?first ?last
        case first => exact ⟨0, Nat.le_refl 0, setR_new_at (Heap.get?_push_of_some _ atS)⟩
        case last =>
          intro s' c' mv hc' hS'
          obtain ⟨h', g2, d', tk', os'⟩ := s'
          obtain rfl : g2 = s.gens := mv.gens
          obtain rfl : d' = s.drawn := mv.drawn
          obtain rfl : os' = s.os := mv.os
          show wpAny _ _ _ _ _ _
          refine wpAny_pure ?_
          show wpAny _ _ (PySem.ret Value.none) _ _ _
          rw [many] at hc'
          refine wpAny_pure ⟨rfl, h', tk', c', rfl, hS', hc', fun b o e => ?_⟩
          have b0 : b < s.heap.objs.size := Heap.lt_size e
          refine mv.heap b o ?_ (Heap.get?_push_of_some _ (Heap.get?_push_of_some _ e))
          rw [Heap.size_push]
          simp only [List.mem_cons, List.mem_singleton, List.not_mem_nil, or_false, not_or]
          exact ⟨Nat.ne_of_lt b0, Nat.ne_of_lt (Nat.lt_succ_of_lt b0)⟩
      · cases res2 with
        | error e => exact got2
        | ok fl₂ =>
          cases fl₂ with
          | ret r =>
            obtain ⟨rfl, h', tk, c', rfl, hS', hc', hk'⟩ := got2
            repeat (any_goals (first | assumption | wp_step))
            exact fin _ _ _ hS' hc' hk'
          | _ => exact got2.elim
    | _ => exact got.elim
/-- sorted of a set of ints, however many -/
theorem sorted_of_set {a : Addr} {S : Int → Bool} {n : Nat} {Q : Value → Shared → Prop} (R : SetR w s.heap a S n) (hh : A.handled = none) (hu : A.units + 200 < cLine)
    (fin : ∀ s' p (out : Array Value) (c : Nat) (ns : List Int), (∀ b o, s.heap.get? b = some o → s'.heap.get? b = some o) → s'.gens = s.gens → s'.os = s.os → s.heap.objs.size ≤ p →
      s'.heap.get? p = some (seqObj "list" out c) → IntsAre out.toList ns → ns.Pairwise (· < ·) → (∀ k, k ∈ ns ↔ S k = true) → ns.length = n → Q (.ref p) s') :
    wpAny (model P w) A (call (.builtin "sorted") [.ref a]) Q E s := by
  obtain ⟨o, es, ep, t, ho, hex, hd, g, nd, hm, hb, hf, hn, hr, hl⟩ := R
  refine Calls.call_function_entry kind_sorted plain_sorted entry_sorted (args_sorted1 _) ?_
  unfold Builtin.«sorted»
  refine wpAny_bind (m := checkCount "sorted" 1 1 _) (wpAny_pure ?_)
  refine wpAny_bind (collect_set (A := A.in1) hh ⟨o, ho, hex.1, hd⟩ hf hb hr hl fun s1 vs k1 hz g1 o1 pm => ?_)
  have cnt : vs.length = n := by rw [pm.length_eq, List.length_map, Array.length_toList]; exact hn
  have all : IntsAre vs (vs.map Builtin.Re.reRawOf) := ints_of vs fun v hv => by
    obtain ⟨e, he, q⟩ := List.mem_map.mp (pm.mem_iff.mp hv)
    obtain ⟨k, tk, h1, _⟩ := g e he
    exact ⟨k, tk, by rw [← q]; exact h1⟩
  have pk : (vs.map Builtin.Re.reRawOf).Perm (es.toList.map keyOf) := by
    have q := pm.map Builtin.Re.reRawOf
    rwa [List.map_map] at q
  have small : vs.length ≤ sizeLine := by
    have : scanBound = 4096 := rfl
    rw [cnt, sizeLine_eq]; omega
  refine wpAny_bind (wpAny_newList ?_ small)
  have atL : (s1.heap.push (seqObj "list" vs.toArray 0)).get? s1.heap.objs.size = some (seqObj "list" vs.toArray 0) := Heap.get?_push_size _ rfl
  have rel : ∀ {us : List Value} {ms : List Int}, IntsAre us ms → PySem.W.EachIs (fun v (k : Int) => ∃ t, v = Value.int k t) us ms := by
    intro us ms h
    induction h with
    | nil => exact .nil
    | cons k t h ih => exact .cons ⟨t, rfl⟩ ih
  have back : ∀ {us : List Value} {ms : List Int}, PySem.W.EachIs (fun v (k : Int) => ∃ t, v = Value.int k t) us ms → IntsAre us ms := by
    intro us ms h
    induction h with
    | nil => exact .nil
    | cons h1 h2 ih => obtain ⟨t, rfl⟩ := h1; exact .cons _ t ih
  refine wpAny_bind (wpAny_holding (PySem.W.list_sort_data (enc := PyData.int) (bs := vs.map Builtin.Re.reRawOf) (R := fun v (k : Int) => ∃ t, v = Value.int k t) atL (rel all) ((rel all).mono fun v b h => ?_) ?_ ?_ (by rw [List.length_map]; exact small) (fun b _ => ?_) fun out lo eo => ?_))
  · obtain ⟨t, rfl⟩ := h
    exact ⟨[], .int b t, by simp⟩
  · intro d hd d' hd'
    obtain ⟨i, _, rfl⟩ := List.mem_map.mp hd
    obtain ⟨j, _, rfl⟩ := List.mem_map.mp hd'
    rfl
  · refine .inr fun d hd => ?_
    obtain ⟨i, _, rfl⟩ := List.mem_map.mp hd
    exact ⟨(fun z => nomatch z), (fun _ z => nomatch z)⟩
  · show A.units + 1 + 1 + 0 < cLine
    omega
  · obtain ⟨c, hc⟩ := sortedHeap_at (vs := vs) (out := out.toArray) atL
    have out' := back eo
    rw [show PySem.W.dataLe false PyData.int = fun a b : Int => decide (a ≤ b) from PySem.W.dataLe_int (fun b => b)] at out'
    have pm2 := List.mergeSort_perm (vs.map Builtin.Re.reRawOf) (fun a b : Int => decide (a ≤ b))
    have srt : ((vs.map Builtin.Re.reRawOf).mergeSort (fun a b : Int => decide (a ≤ b))).Pairwise (· ≤ ·) := by
      have q := List.pairwise_mergeSort (le := fun a b : Int => decide (a ≤ b)) (fun a b c h1 h2 => by simp only [decide_eq_true_eq] at *; omega) (fun a b => by simp only [Bool.or_eq_true, decide_eq_true_eq]; omega) (vs.map Builtin.Re.reRawOf)
      exact q.imp fun h => of_decide_eq_true h
    have pn := pm2.trans pk
    refine wpAny_pure ⟨_, rfl, fin _ s1.heap.objs.size out.toArray c _ (fun b u e => ?_) g1 o1 hz hc out' (lt_of_le_nodup _ srt (pn.nodup_iff.mpr nd)) (fun k => by rw [pn.mem_iff, ← hm k]) (by rw [pn.length_eq, List.length_map, Array.length_toList]; exact hn)⟩
    have q := k1 b u e
    have lt := Heap.lt_size q
    show (sortedHeap (s1.heap.push (seqObj "list" vs.toArray 0)) s1.heap.objs.size vs out.toArray).get? b = some u
    rw [sortedHeap_old (Nat.ne_of_lt lt) (by rw [Heap.size_push]; exact Nat.lt_succ_of_lt lt)]
    exact Heap.get?_push_of_some _ q
end
end Mi
end
section
set_option Elab.async false
set_option linter.all false
set_option maxRecDepth 100000
/-! Ev8: sets of ints, in the layer -/
namespace Mi
open PySem L2

/-- the members, ascending, each once -/
def insS (k : Int) : List Int → List Int
  | [] => [k]
  | x :: xs => if k < x then k :: x :: xs else if k = x then x :: xs else x :: insS k xs
def sortSet (ns : List Int) : List Int := ns.foldr insS []
theorem mem_insS {k j : Int} : ∀ {xs : List Int}, j ∈ insS k xs ↔ j = k ∨ j ∈ xs
  | [] => by simp [insS]
  | x :: xs => by
    unfold insS
    split
    · simp
    · split
      · rename_i h; subst h; simp
      · rw [List.mem_cons, mem_insS (xs := xs), List.mem_cons]
        constructor
        · rintro (h | h | h)
          · exact .inr (.inl h)
          · exact .inl h
          · exact .inr (.inr h)
        · rintro (h | h | h)
          · exact .inr (.inl h)
          · exact .inl h
          · exact .inr (.inr h)
theorem asc_insS {k : Int} : ∀ {xs : List Int}, xs.Pairwise (· < ·) → (insS k xs).Pairwise (· < ·)
  | [], _ => by simp [insS]
  | x :: xs, h => by
    obtain ⟨h1, h2⟩ := List.pairwise_cons.mp h
    unfold insS
    split
    · rename_i hk
      refine List.pairwise_cons.mpr ⟨fun y hy => ?_, h⟩
      rcases List.mem_cons.mp hy with rfl | hy
      · exact hk
      · have := h1 y hy; omega
    · split
      · exact h
      · rename_i a b
        refine List.pairwise_cons.mpr ⟨fun y hy => ?_, asc_insS h2⟩
        rcases mem_insS.mp hy with rfl | hy
        · omega
        · exact h1 y hy
theorem mem_sortSet {j : Int} : ∀ {ns : List Int}, j ∈ sortSet ns ↔ j ∈ ns
  | [] => by simp [sortSet]
  | n :: ns => by
    show j ∈ insS n (sortSet ns) ↔ _
    rw [mem_insS, mem_sortSet (ns := ns), List.mem_cons]
theorem asc_sortSet : ∀ {ns : List Int}, (sortSet ns).Pairwise (· < ·)
  | [] => by simp [sortSet]
  | n :: ns => by
    show (insS n (sortSet ns)).Pairwise (· < ·)
    exact asc_insS asc_sortSet
/-- an ascending list is told by its members -/
theorem asc_ext : ∀ {xs ys : List Int}, xs.Pairwise (· < ·) → ys.Pairwise (· < ·) → (∀ j, j ∈ xs ↔ j ∈ ys) → xs = ys
  | [], [], _, _, _ => rfl
  | [], y :: ys, _, _, h => by have := (h y).mpr (List.mem_cons_self); simp at this
  | x :: xs, [], _, _, h => by have := (h x).mp (List.mem_cons_self); simp at this
  | x :: xs, y :: ys, hx, hy, h => by
    obtain ⟨a1, a2⟩ := List.pairwise_cons.mp hx
    obtain ⟨b1, b2⟩ := List.pairwise_cons.mp hy
    have e : x = y := by
      have p := (h x).mp List.mem_cons_self
      have q := (h y).mpr List.mem_cons_self
      rcases List.mem_cons.mp p with p | p
      · exact p
      · rcases List.mem_cons.mp q with q | q
        · exact q.symm
        · have := b1 x p; have := a1 y q; omega
    subst e
    rw [asc_ext a2 b2 fun j => ?_]
    constructor
    · intro hj
      rcases List.mem_cons.mp ((h j).mp (List.mem_cons_of_mem _ hj)) with q | q
      · subst q; have := a1 j hj; omega
      · exact q
    · intro hj
      rcases List.mem_cons.mp ((h j).mpr (List.mem_cons_of_mem _ hj)) with q | q
      · subst q; have := b1 j hj; omega
      · exact q

section
variable {X : Cx} {W : WX} {G : Glb} {k : Nat}
def rSetI (K : PySem.W.Frag) (w : World) : List V → Hp → VK → Prop := fun vs H Q => ∃ (a : Addr) (ns : List Int), vs = [V.ref a] ∧ (SqL K H a (ns.map V.int) ∨ SqT K H a (ns.map V.int)) ∧ ns.length < 4000 ∧
  ∀ (p : Addr) (n : Nat), H p = none → Q (.ref p) (upd H p (SetO w p (fun j => decide (j ∈ ns)) n))
theorem cr_setI (c : Cxt G X W k) : CallR X (.type "set") (rSetI X.K X.w) := by
  intro pins s σ H vs us Q I r h
  obtain ⟨a, ns, rfl, hs, hz, q⟩ := h
  rw [Vals.ref1 r]
  have hb : ns.length + 1 < scanBound := by show ns.length + 1 < 4096; omega
  rcases hs with hs | hs
  · obtain ⟨its, rv, hl, _⟩ := I.list hs
    refine set_of_list ns (I.ok.hd c.calm) hl.isList (by simpa using rv.ints) hb fun h' tk n R _ kp => ?_
    exact ⟨.ref _, upd H s.heap.objs.size (SetO X.w s.heap.objs.size (fun j => decide (j ∈ ns)) n), I.laid (t' := tk) kp (Nat.le_refl _) (setO_new R), rfl, q _ n (I.hok.fresh (Nat.le_refl _))⟩
  · obtain ⟨its, rv, hl, _⟩ := I.tuple hs
    refine call_set_tupI ns (I.ok.hd c.calm) (show s.heap.IsTuple a its.toArray from hl) (by simpa using rv.ints) hb fun h' tk n R _ kp => ?_
    exact ⟨.ref _, upd H s.heap.objs.size (SetO X.w s.heap.objs.size (fun j => decide (j ∈ ns)) n), I.laid (t' := tk) kp (Nat.le_refl _) (setO_new R), rfl, q _ n (I.hok.fresh (Nat.le_refl _))⟩
def rSortS (w : World) : List V → Hp → VK → Prop := fun vs H Q => ∃ (a : Addr) (m : Int → Bool) (n : Nat), vs = [V.ref a] ∧ H a = some (SetO w a m n) ∧
  ∀ (ns : List Int) (p : Addr), ns.Pairwise (· < ·) → (∀ k : Int, k ∈ ns ↔ m k = true) → H p = none → Q (.ref p) (upd H p (.lst (ns.map V.int)))
theorem cr_sortS (c : Cxt G X W k) : CallR X (.builtin "sorted") (rSortS X.w) := by
  intro pins s σ H vs us Q I r h
  obtain ⟨a, m, n, rfl, ha, q⟩ := h
  have R := setO_get I ha
  rw [Vals.ref1 r]
  have small : n < 4096 := by
    have ⟨_, _, _, _, _, _, _, _, _, _, hb, _, hn, _⟩ := R
    have hb : _ < 4096 := hb
    omega
  refine sorted_of_set R (I.ok.hd c.calm) (by have := c.room.un; omega) fun s' p out cap ns kp eg eo hp hg hi hs hm hl => ?_
  have fresh : H p = none := I.hok.fresh hp
  have J : L2.Inv X pins σ (upd H p (.lst (ns.map V.int))) { s with heap := s'.heap, gens := s'.gens, drawn := s'.drawn, toks := s'.toks } :=
    I.call (ch := []) (Un.laid kp hp fresh) (I.hok.laid kp hp ⟨by rw [List.length_map, sizeLine_eq]; omega, out.toList, cap, vals_of_ints hi, hg⟩) (by rw [eg]; exact I.bare) (fun _ z => nomatch z)
  have e : s' = { s with heap := s'.heap, gens := s'.gens, drawn := s'.drawn, toks := s'.toks } := by
    cases s'; cases s; cases eo; rfl
  rw [e]
  exact ⟨.ref p, _, J, rfl, q ns p hs hm fresh⟩
noncomputable def gSet (a : Vl) : Option Vl := ((asL a).orElse fun _ => asT a).bind fun ds => (asInts ds).bind fun ns => gd (ns.length < 4000) (.st ns)
theorem b_set (c : Cxt G X W k) (hw : X.w = G.w) : BltV G X (.type "set") (g1 gSet) := ⟨⟨_, cr_setI c, callOk1 fun P H v a w Q e h hq q => by
  obtain ⟨ds, hd, hq⟩ := Option.bind_eq_some_iff.mp hq
  obtain ⟨ns, hn, hq⟩ := Option.bind_eq_some_iff.mp hq
  obtain ⟨h0, rfl⟩ := gd_some hq
  rw [c.K, hw]
  have eds := asInts_eq hn
  have fin : ∀ (p : Addr) (n : Nat), H p = none → Q (.ref p) (upd H p (SetO G.w p (fun j => decide (j ∈ ns)) n)) := fun p n hp =>
    q _ P _ _ (Alc.own e hp) ⟨p, fun j => decide (j ∈ ns), n, rfl, rfl, upd_same, fun k => by simp⟩
  cases ea : asL a with
  | some ds' =>
    rw [ea] at hd
    have hd : some ds' = some ds := hd
    cases hd
    obtain ⟨p, xs, rfl, hs, ha⟩ := h.lst e ea
    rw [eds] at ha
    rw [dpa_ints ha] at hs
    exact ⟨p, ns, rfl, .inl hs, h0, fin⟩
  | none =>
    rw [ea] at hd
    have hd : asT a = some ds := hd
    obtain ⟨p, xs, rfl, hs, ha⟩ := h.tup e hd
    rw [eds] at ha
    rw [dpa_ints ha] at hs
    exact ⟨p, ns, rfl, .inr hs, h0, fin⟩⟩⟩
def gSortS : Vl → Option Vl
  | .st ns => some (.ml ((sortSet ns).map .int))
  | _ => none
theorem b_sortS (c : Cxt G X W k) (hw : X.w = G.w) : BltV G X (.builtin "sorted") (g1 gSortS) := ⟨⟨_, cr_sortS c, callOk1 fun P H v a w Q e h hq q => by
  unfold gSortS at hq
  split at hq
  · rename_i ns
    cases hq
    obtain ⟨S, p, m, n, rfl, _, hp, hm⟩ := h
    rw [hw]
    refine ⟨p, m, n, rfl, hp, fun ms l h1 h2 hl => ?_⟩
    have : ms = sortSet ns := asc_ext h1 asc_sortSet fun j => by rw [h2, hm, mem_sortSet]
    subst this
    exact q _ P _ _ (Alc.own e hl) ⟨l, _, rfl, rfl, upd_same, ints_dpa⟩
  · cases hq⟩⟩
/-- sorted of a list, or of a set of ints -/
theorem b_sorted2 (c : Cxt G X W k) (hw : X.w = G.w) : BltV G X (.builtin "sorted") (orC (g1 gSortS) (g1 gSorted)) := BltV.or (b_sortS c hw) (b_sorted c)
end
end Mi
end
section
set_option Elab.async false
set_option linter.all false
set_option maxRecDepth 100000
/-! Ev9: what a def promises, by a function of what its arguments hold; calls -/
namespace Mi
open PySem L2

inductive COut where
  | ok (w : Vl) (outs : List (Option Vl))
  | exc (c : Nat) (outs : List (Option Vl))
  | stk
abbrev CSpec := List Vl → COut
def ioAt (io : List Bool) (j : Nat) : Bool := io.getD j false
/-- what a call leaves, in the callee's eyes -/
def EndC (G : Glb) (io : List Bool) (vs : List V) (P H : Hp) (F : Nat → Ad) (Q : VK) (E : XK) : COut → Prop
  | .ok w outs => ∀ v P' H' F' S, Now G P' H' (vs.map some) outs F' → (∀ j b, F' j b → ioAt io j = true) → Stp P H F P' H' F' → Tmp G P' H' F' S v w → (∀ b, S b → (∃ i, F i b) ∨ H b = none) → outs.length = io.length → Q v H'
  | .exc c outs => ∀ P' H' F', Now G P' H' (vs.map some) outs F' → (∀ j b, F' j b → ioAt io j = true) → Stp P H F P' H' F' → outs.length = io.length → E (.ref (G.ea c)) none H'
  | .stk => False
def spV (G : Glb) (io : List Bool) (spec : CSpec) : Sp := fun vs H Q E => ∃ ws P F, vs.length = io.length ∧ ws.length = io.length ∧ Now G P H (vs.map some) (ws.map some) F ∧ (∀ j b, F j b → ioAt io j = true) ∧ EndC G io vs P H F Q E (spec ws)
theorem spV_len {G : Glb} {io : List Bool} {spec : CSpec} {vs : List V} {H : Hp} {Q : VK} {E : XK} (h : spV G io spec vs H Q E) : vs.length = io.length := by
  obtain ⟨ws, P, F, h1, _⟩ := h
  exact h1

/-! ### the arguments, by value or by slot -/
def argW (ρ : Rho) : List Bool → List Opd → Option (List Vl)
  | [], [] => some []
  | true :: io, .brw i :: os => (look ρ (.brw i)).bind fun w => (argW ρ io os).map fun ws => w :: ws
  | false :: io, o :: os => ((look ρ o).bind viewD).bind fun d => (argW ρ io os).map fun ws => .dat d :: ws
  | _, _ => none
def isB (i : Nat) : Opd → Bool
  | .brw j => j == i
  | _ => false
def ioC (io : List Bool) (os : List Opd) : Bool := (io.zip os).all fun p => !p.1 || (match p.2 with
  | .brw i => os.countP (isB i) == 1
  | .val _ => false)
def noBor (io : List Bool) (os : List Opd) : Bool := (io.zip os).all fun p => p.1 || (match p.2 with
  | .brw _ => false
  | .val _ => true)
mutual
def noL : PyData → Bool
  | .none => true
  | .bool _ => true
  | .int _ => true
  | .str _ => true
  | .list _ => false
  | .tuple ds => noLs ds
  | .dict _ => false
def noLs : List PyData → Bool
  | [] => true
  | d :: ds => noL d && noLs ds
end
def clean : Vl → Bool
  | .dat d => noL d
  | .ml ds => noLs ds
  | .mml dss => dss.all noLs
  | .ob _ fs => fs.all fun p => noL p.2
  | .st _ => true
def cleanO : Option Vl → Bool
  | some w => clean w
  | none => true
def setIO (ρ : Rho) : List Bool → List Opd → List (Option Vl) → Rho
  | true :: io, .brw i :: os, w :: outs => setIO (ρ.set i w) io os outs
  | _ :: io, _ :: os, _ :: outs => setIO ρ io os outs
  | _, _, _ => ρ
def fCall (io : List Bool) (spec : CSpec) (fa : FA) : FE := fun ρ => (fa ρ).bind fun os ρ1 => if ioC io os = true then
    match argW ρ1 io os with
    | some ws => match spec ws with
      | .ok w outs => if noBor io os || (clean w && outs.all cleanO) then .ok (.val w) (setIO ρ1 io os outs) else .stk
      | .exc c outs => if noBor io os || outs.all cleanO then .exc c (setIO ρ1 io os outs) else .stk
      | .stk => .stk
    | none => .stk
  else .stk

section
variable {G : Glb} {P H : Hp} {F : Nat → Ad} {σ : L2.St} {ρ : Rho} {S : Ad} {v : V} {w : Vl}
theorem ioAt_cons0 {b : Bool} {io : List Bool} : ioAt (b :: io) 0 = b := rfl
theorem ioAt_cons {b : Bool} {io : List Bool} {j : Nat} : ioAt (b :: io) (j + 1) = ioAt io j := rfl
theorem countP_two {α : Type} {p : α → Bool} : ∀ {os : List α} {j k : Nat} {x y : α}, os[j]? = some x → os[k]? = some y → p x = true → p y = true → j < k → 2 ≤ os.countP p
  | [], j, k, x, y, h, _, _, _, _ => by simp at h
  | o :: os, 0, 0, x, y, _, _, _, _, h => absurd h (Nat.lt_irrefl _)
  | o :: os, 0, k + 1, x, y, h1, h2, hx, hy, _ => by
    have e : o = x := by simpa using h1
    subst e
    have : 1 ≤ os.countP p := List.countP_pos_iff.mpr ⟨y, List.mem_of_getElem? (by simpa using h2), hy⟩
    rw [List.countP_cons, hx, if_pos rfl]
    omega
  | o :: os, j + 1, k + 1, x, y, h1, h2, hx, hy, h => by
    have := countP_two (os := os) (by simpa using h1) (by simpa using h2) hx hy (Nat.lt_of_succ_lt_succ h)
    rw [List.countP_cons]; omega
  | o :: os, j + 1, 0, x, y, _, _, _, _, h => by omega
theorem ioC_one {io : List Bool} {os : List Opd} (h : ioC io os = true) {j k i : Nat} (h1 : ioAt io j = true) (h2 : os[j]? = some (.brw i)) (h3 : os[k]? = some (.brw i)) : j = k := by
  have hz : (io.zip os)[j]? = some (true, .brw i) := by
    rw [List.getElem?_zip_eq_some]
    refine ⟨?_, h2⟩
    unfold ioAt at h1
    rw [List.getD_eq_getElem?_getD] at h1
    cases q : io[j]? with
    | none => rw [q] at h1; cases h1
    | some b => rw [q] at h1; have : b = true := h1; rw [this]
  have hm := List.mem_of_getElem? hz
  have := List.all_eq_true.mp h _ hm
  have hc : os.countP (isB i) = 1 := by simpa using this
  rcases Nat.lt_trichotomy j k with q | q | q
  · have := countP_two (p := isB i) h2 h3 (by simp [isB]) (by simp [isB]) q; omega
  · exact q
  · have := countP_two (p := isB i) h3 h2 (by simp [isB]) (by simp [isB]) q; omega
theorem noBor_not {io : List Bool} {os : List Opd} (h : noBor io os = true) {j i : Nat} (hl : os.length = io.length) (h2 : os[j]? = some (.brw i)) : ioAt io j = true := by
  have hj : j < io.length := by rw [← hl]; exact (List.getElem?_eq_some_iff.mp h2).1
  have hz : (io.zip os)[j]? = some (io[j], .brw i) := by
    rw [List.getElem?_zip_eq_some]
    exact ⟨List.getElem?_eq_getElem hj, h2⟩
  have := List.all_eq_true.mp h _ (List.mem_of_getElem? hz)
  have e : io[j] = true := by simpa using this
  unfold ioAt
  rw [List.getD_eq_getElem?_getD, List.getElem?_eq_getElem hj]
  exact e
/-- each argument: its operand, its value -/
theorem argW_at : ∀ {io : List Bool} {os : List Opd} {vs : List V} {S : Ad} {ws : List Vl}, HasL G P H F σ S vs os → argW ρ io os = some ws →
    os.length = io.length ∧ vs.length = io.length ∧ ws.length = io.length ∧ ∀ j w, ws[j]? = some w → ∃ o v S', os[j]? = some o ∧ vs[j]? = some v ∧ Has G P H F σ S' v o ∧ (∀ b, S' b → S b) ∧
      ((ioAt io j = true ∧ ∃ i, o = .brw i ∧ look ρ (.brw i) = some w) ∨ (ioAt io j = false ∧ ∃ w0 d, look ρ o = some w0 ∧ viewD w0 = some d ∧ w = .dat d))
  | [], [], [], S, ws, _, e => by
    have e : some [] = some ws := e
    cases e
    exact ⟨rfl, rfl, rfl, fun j w h => by simp at h⟩
  | true :: io, .brw i :: os, v :: vs, S, ws, ⟨S1, S2, h1, h2, h3, h4⟩, e => by
    have e : (look ρ (.brw i)).bind (fun w => (argW ρ io os).map fun ws => w :: ws) = some ws := e
    obtain ⟨w, e1, e⟩ := Option.bind_eq_some_iff.mp e
    obtain ⟨ws', e2, rfl⟩ := Option.map_eq_some_iff.mp e
    obtain ⟨l1, l2, l3, ih⟩ := argW_at h2 e2
    refine ⟨by simp [l1], by simp [l2], by simp [l3], fun j w' hj => ?_⟩
    cases j with
    | zero =>
      have : w = w' := by simpa using hj
      subst this
      exact ⟨_, v, S1, rfl, rfl, h1, fun b hb => (h3 b hb).1, .inl ⟨rfl, i, rfl, e1⟩⟩
    | succ j =>
      obtain ⟨o, v', S', a1, a2, a3, a4, a5⟩ := ih j w' (by simpa using hj)
      exact ⟨o, v', S', by simpa using a1, by simpa using a2, a3, fun b hb => h4 b (a4 b hb), by simpa only [ioAt_cons] using a5⟩
  | false :: io, o :: os, v :: vs, S, ws, ⟨S1, S2, h1, h2, h3, h4⟩, e => by
    have e : ((look ρ o).bind viewD).bind (fun d => (argW ρ io os).map fun ws => Vl.dat d :: ws) = some ws := by
      cases o <;> exact e
    obtain ⟨d, e1, e⟩ := Option.bind_eq_some_iff.mp e
    obtain ⟨w0, e0, e1⟩ := Option.bind_eq_some_iff.mp e1
    obtain ⟨ws', e2, rfl⟩ := Option.map_eq_some_iff.mp e
    obtain ⟨l1, l2, l3, ih⟩ := argW_at h2 e2
    refine ⟨by simp [l1], by simp [l2], by simp [l3], fun j w' hj => ?_⟩
    cases j with
    | zero =>
      have : Vl.dat d = w' := by simpa using hj
      subst this
      exact ⟨_, v, S1, rfl, rfl, h1, fun b hb => (h3 b hb).1, .inr ⟨rfl, w0, d, e0, e1, rfl⟩⟩
    | succ j =>
      obtain ⟨o', v', S', a1, a2, a3, a4, a5⟩ := ih j w' (by simpa using hj)
      exact ⟨o', v', S', by simpa using a1, by simpa using a2, a3, fun b hb => h4 b (a4 b hb), by simpa only [ioAt_cons] using a5⟩
  | true :: io, .val w :: os, v :: vs, S, ws, _, e => by
    have e : (none : Option (List Vl)) = some ws := e
    cases e
  | [], o :: os, vs, S, ws, _, e => by
    have e : (none : Option (List Vl)) = some ws := by cases o <;> exact e
    cases e
  | b :: io, [], vs, S, ws, _, e => by
    have e : (none : Option (List Vl)) = some ws := by cases b <;> exact e
    cases e
  | _, [], _ :: _, _, _, h, _ => h.elim
  | _, _ :: _, [], _, _, h, _ => h.elim
theorem setIO_at : ∀ {io : List Bool} {os : List Opd} {outs : List (Option Vl)} {ρ : Rho} {i : Nat} {w : Vl}, os.length = io.length → outs.length = io.length → (setIO ρ io os outs)[i]? = some (some w) →
    (∃ j, ioAt io j = true ∧ os[j]? = some (.brw i) ∧ outs[j]? = some (some w)) ∨ ((∀ j, ioAt io j = true → os[j]? ≠ some (.brw i)) ∧ ρ[i]? = some (some w))
  | [], [], [], ρ, i, w, _, _, h => .inr ⟨fun j _ => by simp, h⟩
  | true :: io, .brw k :: os, x :: outs, ρ, i, w, l1, l2, h => by
    have h : (setIO (ρ.set k x) io os outs)[i]? = some (some w) := h
    rcases setIO_at (by simpa using l1) (by simpa using l2) h with ⟨j, a, b, c⟩ | ⟨a, b⟩
    · exact .inl ⟨j + 1, a, by simpa using b, by simpa using c⟩
    · by_cases e : k = i
      · subst e
        by_cases hk : k < ρ.length
        · rw [List.getElem?_set_self hk] at b
          have : x = some w := by simpa using b
          subst this
          exact .inl ⟨0, rfl, rfl, rfl⟩
        · rw [List.getElem?_eq_none (by simp; omega)] at b; cases b
      · rw [List.getElem?_set_ne e] at b
        refine .inr ⟨fun j hj q => ?_, b⟩
        cases j with
        | zero =>
          have : k = i := by simpa using q
          exact e this
        | succ j => exact a j hj (by simpa using q)
  | false :: io, o :: os, x :: outs, ρ, i, w, l1, l2, h => by
    have h : (setIO ρ io os outs)[i]? = some (some w) := by cases o <;> exact h
    rcases setIO_at (by simpa using l1) (by simpa using l2) h with ⟨j, a, b, c⟩ | ⟨a, b⟩
    · exact .inl ⟨j + 1, a, by simpa using b, by simpa using c⟩
    · refine .inr ⟨fun j hj q => ?_, b⟩
      cases j with
      | zero => cases hj
      | succ j => exact a j hj (by simpa using q)
  | true :: io, .val y :: os, x :: outs, ρ, i, w, l1, l2, h => by
    have h : (setIO ρ io os outs)[i]? = some (some w) := h
    rcases setIO_at (by simpa using l1) (by simpa using l2) h with ⟨j, a, b, c⟩ | ⟨a, b⟩
    · exact .inl ⟨j + 1, a, by simpa using b, by simpa using c⟩
    · refine .inr ⟨fun j hj q => ?_, b⟩
      cases j with
      | zero =>
        have : Opd.val y = .brw i := by simpa using q
        cases this
      | succ j => exact a j hj (by simpa using q)
  | [], _ :: _, _, _, _, _, l1, _, _ => by simp at l1
  | _ :: _, [], _, _, _, _, l1, _, _ => by simp at l1
  | [], [], _ :: _, _, _, _, _, l2, _ => by simp at l2
  | _ :: _, _ :: _, [], _, _, _, _, l2, _ => by simp at l2

/-! ### clean data don't hang on borrowed lists -/
mutual
theorem dp_clean {K : PySem.W.Frag} {P P' : Hp} (h : ∀ b u, P b = some u → ownK u = false → P' b = some u) : ∀ (d : PyData) (v : V), noL d = true → Dp K P v d → Dp K P' v d
  | .none, _, _, h => by cases h; exact .non
  | .bool _, _, _, h => by cases h; exact .bl _
  | .int _, _, _, h => by cases h; exact .int _
  | .str _, _, _, h => by cases h; exact .str _
  | .list _, _, c, _ => by cases c
  | .tuple ds, _, c, q => by
    cases q with
    | tup hs ha =>
      have c : noLs ds = true := by
        have c' := c
        unfold noL at c'
        exact c'
      refine .tup ?_ (dpa_clean h ds _ c ha)
      rcases hs with (hs | ⟨o, hs⟩) | hs
      · exact .inl (.inl (h _ _ hs rfl))
      · exact .inl (.inr ⟨o, h _ _ hs rfl⟩)
      · exact .inr hs
  | .dict _, _, c, _ => by cases c
theorem dpa_clean {K : PySem.W.Frag} {P P' : Hp} (h : ∀ b u, P b = some u → ownK u = false → P' b = some u) : ∀ (ds : List PyData) (vs : List V), noLs ds = true → DpAll K P vs ds → DpAll K P' vs ds
  | [], _, _, q => by cases q; exact .nil
  | d :: ds, _, c, q => by
    unfold noLs at c
    have c := Bool.and_eq_true_iff.mp c
    cases q with
    | cons h1 h2 => exact .cons (dp_clean h d _ c.1 h1) (dpa_clean h ds _ c.2 h2)
end
theorem rows_clean {P' : Hp} (h : ∀ b u, P b = some u → ownK u = false → P' b = some u) : ∀ {as : List Addr} {dss : List (List PyData)}, dss.all noLs = true → Rows G P H S as dss → Rows G P' H S as dss
  | [], [], _, _ => trivial
  | b :: as, ds :: dss, c, ⟨h1, h0, ⟨ys, h2, h3⟩, h4⟩ => by
    rw [List.all_cons, Bool.and_eq_true] at c
    exact ⟨h1, h0, ⟨ys, h2, dpa_clean h _ _ c.1 h3⟩, rows_clean h c.2 h4⟩
  | [], _ :: _, _, h => h.elim
  | _ :: _, [], _, h => h.elim
theorem flds_clean {P' : Hp} (h : ∀ b u, P b = some u → ownK u = false → P' b = some u) : ∀ {fv : List (Str × V)} {fs : List (Str × PyData)}, (fs.all fun p => noL p.2) = true → Flds G P fv fs → Flds G P' fv fs
  | [], [], _, _ => trivial
  | (f, v) :: r, (g, d) :: t, c, ⟨h1, h2, h3⟩ => by
    rw [List.all_cons, Bool.and_eq_true] at c
    exact ⟨h1, dp_clean h _ _ c.1 h2, flds_clean h c.2 h3⟩
  | [], _ :: _, _, h => h.elim
  | _ :: _, [], _, h => h.elim
theorem ow_clean {P' : Hp} (h : ∀ b u, P b = some u → ownK u = false → P' b = some u) (c : clean w = true) (o : Ow G P H S v w) : Ow G P' H S v w := by
  cases w with
  | dat d => exact dp_clean h d v c o
  | ml ds => obtain ⟨a, xs, h1, h2, h3, h4⟩ := o; exact ⟨a, xs, h1, h2, h3, dpa_clean h _ _ c h4⟩
  | mml dss => obtain ⟨a, as, h1, h2, h3, h4, h5⟩ := o; exact ⟨a, as, h1, h2, h3, h4, rows_clean h c h5⟩
  | ob n fs => obtain ⟨a, dx, fv, h1, h2, h3, h4⟩ := o; exact ⟨a, dx, fv, h1, h2, h3, flds_clean h c h4⟩
  | st ns => exact o
end
end Mi
end
section
set_option Elab.async false
set_option linter.all false
set_option maxRecDepth 100000
/-! Ev10: a call, in the caller's eyes -/
namespace Mi
open PySem L2
section
variable {G : Glb} {P H P1 H1 P' H' : Hp} {F F1 F' : Nat → Ad} {σ : L2.St} {ρ1 : Rho} {S1 : Ad} {W : WX} {io : List Bool} {os : List Opd} {vs : List V} {ws : List Vl} {outs : List (Option Vl)} {spec : CSpec} {fa : FA}
def Bor (io : List Bool) (os : List Opd) (F1 : Nat → Ad) : Ad := fun b => ∃ j i, ioAt io j = false ∧ os[j]? = some (.brw i) ∧ F1 i b
def inZ (io : List Bool) (os : List Opd) (F1 : Nat → Ad) (S1 : Ad) : Ad := fun b => S1 b ∨ Bor io os F1 b
def inF (io : List Bool) (os : List Opd) (F1 : Nat → Ad) : Nat → Ad := fun j b => ioAt io j = true ∧ ∃ i, os[j]? = some (.brw i) ∧ F1 i b
theorem call_in (n1 : Now G P1 H1 σ ρ1 F1) (hs : HasL G P1 H1 F1 σ S1 vs os) (q1 : ∀ b, S1 b → P1 b = none ∧ H1 b ≠ none ∧ ∀ i, ¬ F1 i b) (hc : ioC io os = true) (ha : argW ρ1 io os = some ws) :
    Now G (froz P1 H1 (inZ io os F1 S1)) H1 (vs.map some) (ws.map some) (inF io os F1) := by
  obtain ⟨l1, l2, l3, args⟩ := argW_at hs ha
  have hZ : ∀ b, inZ io os F1 S1 b → P1 b = none := fun b hb => by
    rcases hb with hb | ⟨j, i, _, _, hb⟩
    · exact (q1 b hb).1
    · exact n1.np i b hb
  refine ⟨froz_sub n1.ex, ?_, ?_, ?_, ?_, ?_⟩
  · rintro j k a ⟨hj, i, e1, f1⟩ ⟨hk, i', e2, f2⟩
    have := n1.dj i i' a f1 f2
    subst this
    exact ioC_one hc hj e1 e2
  · rintro j b ⟨hj, i, e1, f1⟩
    have : ¬ inZ io os F1 S1 b := by
      rintro (z | ⟨j', i', hj', e', f'⟩)
      · exact (q1 b z).2.2 i f1
      · have := n1.dj i i' b f1 f'
        subst this
        have := ioC_one hc hj e1 e'
        subst this
        rw [hj] at hj'; cases hj'
    rw [froz_out this]
    exact n1.np i b f1
  · rintro j b ⟨hj, i, e1, f1⟩
    exact n1.al i b f1
  · intro j w hj
    have hj : ws[j]? = some w := by
      rw [List.getElem?_map] at hj
      cases q : ws[j]? with
      | none => rw [q] at hj; cases hj
      | some x => rw [q] at hj; have : x = w := by simpa using hj
                  rw [this]
    obtain ⟨o, v, S', ho, hv, hh, hS, cs⟩ := args j w hj
    refine ⟨v, by rw [List.getElem?_map, hv]; rfl, ?_⟩
    rcases cs with ⟨hio, i, rfl, hw⟩ | ⟨hio, w0, d, hw, hd, rfl⟩
    · obtain ⟨v', h1, h2⟩ := n1.rd i w (join_some hw)
      have hh : σ[i]? = some (some v) := hh
      rw [hh] at h1
      have : v = v' := by simpa using h1
      subst this
      exact h2.mono (froz_mono hZ) (fun _ _ _ e => e) fun b hb => ⟨hio, i, ho, hb⟩
    · show Dp G.K _ v d
      cases o with
      | val w1 =>
        have : w1 = w0 := Option.some.inj hw
        subst this
        have t : Tmp G P1 H1 F1 S' v w1 := hh
        exact ow_froz hZ (t.ow.mono (Same.refl _) (fun _ _ _ e => e) fun b hb => .inl (hS b hb)) hd
      | brw i =>
        obtain ⟨v', h1, h2⟩ := n1.rd i w0 (join_some hw)
        have hh : σ[i]? = some (some v) := hh
        rw [hh] at h1
        have : v = v' := by simpa using h1
        subst this
        exact ow_froz hZ (h2.mono (Same.refl _) (fun _ _ _ e => e) fun b hb => .inr ⟨j, i, hio, ho, hb⟩) hd
  · rintro j b u ⟨hj, i, e1, f1⟩ e
    exact n1.kd i b u f1 e
theorem call_back (n1 : Now G P1 H1 σ ρ1 F1) (s1 : Stp P H F P1 H1 F1) (hs : HasL G P1 H1 F1 σ S1 vs os) (q1 : ∀ b, S1 b → (P1 b = none ∧ H1 b ≠ none ∧ ∀ i, ¬ F1 i b) ∧ ((∃ i, F i b) ∨ H b = none)) (hc : ioC io os = true) (ha : argW ρ1 io os = some ws)
    (nF : Now G P' H' (vs.map some) outs F') (hF : ∀ j b, F' j b → ioAt io j = true) (st : Stp (froz P1 H1 (inZ io os F1 S1)) H1 (inF io os F1) P' H' F') (lo : outs.length = io.length) (cl : (noBor io os || outs.all cleanO) = true) :
    ∃ Pa F2, Now G Pa H' σ (setIO ρ1 io os outs) F2 ∧ Stp P H F Pa H' F2 ∧ (∀ S v w, (noBor io os = true ∨ clean w = true) → Ow G P' H' S v w → Ow G Pa H' S v w) ∧ (∀ b, P' b = none → Pa b = none) ∧
      (∀ i b, F2 i b → (∃ j, F' j b) ∨ (F1 i b ∧ ∀ j, ¬ inF io os F1 j b)) := by
  obtain ⟨l1, l2, l3, args⟩ := argW_at hs ha
  have hZ : ∀ b, inZ io os F1 S1 b → P1 b = none := fun b hb => by
    rcases hb with hb | ⟨j, i, _, _, hb⟩
    · exact (q1 b hb).1.1
    · exact n1.np i b hb
  -- the caller's frozen part afterwards
  obtain ⟨Pa, pa1, pa2⟩ : ∃ Pa : Hp, (∀ b, Bor io os F1 b → Pa b = none) ∧ ∀ b, ¬ Bor io os F1 b → Pa b = P' b := by
    classical
    exact ⟨fun b => if Bor io os F1 b then none else P' b, fun b h => if_pos h, fun b h => if_neg h⟩
  have paNone : ∀ b, P' b = none → Pa b = none := fun b h => by
    by_cases q : Bor io os F1 b
    · exact pa1 b q
    · rw [pa2 b q]; exact h
  have paSome : ∀ b u, Pa b = some u → P' b = some u := fun b u h => by
    by_cases q : Bor io os F1 b
    · rw [pa1 b q] at h; cases h
    · rw [← pa2 b q]; exact h
  have agree : ∀ b u, P' b = some u → ownK u = false → Pa b = some u := fun b u h hu => by
    by_cases q : Bor io os F1 b
    · obtain ⟨j, i, hj, e, f⟩ := id q
      obtain ⟨o, ho⟩ := Option.ne_none_iff_exists'.mp (n1.al i b f)
      have h2 : froz P1 H1 (inZ io os F1 S1) b = some o := by rw [froz_in (.inr q)]; exact ho
      have h3 := st.ex b o h2
      rw [h] at h3; cases h3
      rw [n1.kd i b u f ho] at hu; cases hu
    · rw [pa2 b q]; exact h
  have keep : ∀ S v w, (noBor io os = true ∨ clean w = true) → Ow G P' H' S v w → Ow G Pa H' S v w := fun S v w hcw o => by
    rcases hcw with z | z
    · have : Same P' Pa := fun b u h => by
        rw [pa2 b fun ⟨j, i, hj, e, f⟩ => by rw [noBor_not z l1 e] at hj; cases hj]; exact h
      exact o.mono this (fun _ _ _ e => e) fun _ y => y
    · exact ow_clean agree z o
  have p1a : Same P1 Pa := fun b u h => by
    rw [pa2 b fun q => by rw [hZ b (.inr q)] at h; cases h]
    exact st.ex b u (froz_mono hZ b u h)
  have nonio : ∀ {i b}, (∀ j, ioAt io j = true → os[j]? ≠ some (.brw i)) → F1 i b → ∀ j, ¬ inF io os F1 j b := fun {i b} hn f j ⟨hj, i', e', f'⟩ => by
    have := n1.dj i i' b f f'
    subst this
    exact hn j hj e'
  refine ⟨Pa, fun i b => (∃ j, ioAt io j = true ∧ os[j]? = some (.brw i) ∧ F' j b) ∨ ((∀ j, ioAt io j = true → os[j]? ≠ some (.brw i)) ∧ F1 i b), ⟨fun b u h => nF.ex b u (paSome b u h), ?_, ?_, ?_, ?_, ?_⟩, ⟨?_, ?_, ?_, ?_, ?_⟩, keep, paNone, ?_⟩
  · rintro i k a (⟨j, hj, e, f⟩ | ⟨hn, f⟩) (⟨j', hj', e', f'⟩ | ⟨hn', f'⟩)
    · have := nF.dj j j' a f f'
      subst this
      rw [e] at e'
      simpa using e'
    · rcases st.sub j a f with ⟨j2, z⟩ | z
      · exact (nonio hn' f' j2 z).elim
      · exact (n1.al k a f' z).elim
    · rcases st.sub j' a f' with ⟨j2, z⟩ | z
      · exact (nonio hn f j2 z).elim
      · exact (n1.al i a f z).elim
    · exact n1.dj i k a f f'
  · rintro i b (⟨j, hj, e, f⟩ | ⟨hn, f⟩)
    · exact paNone b (nF.np j b f)
    · refine Classical.byContradiction fun q => ?_
      by_cases hb : Bor io os F1 b
      · exact q (pa1 b hb)
      · rw [pa2 b hb] at q
        rcases st.pn b q with z | ⟨j, z⟩ | z
        · rcases froz_new z with y | y | y
          · exact y (n1.np i b f)
          · exact (q1 b y).1.2.2 i f
          · exact hb y
        · exact nonio hn f j z
        · exact n1.al i b f z
  · rintro i b (⟨j, hj, e, f⟩ | ⟨hn, f⟩)
    · exact nF.al j b f
    · exact st.al b (n1.al i b f)
  · intro i w hw
    rcases setIO_at l1 lo hw with ⟨j, hj, e, ho⟩ | ⟨hn, hr⟩
    · obtain ⟨v', h1, h2⟩ := nF.rd j w ho
      have hjl : j < ws.length := by rw [l3, ← l1]; exact (List.getElem?_eq_some_iff.mp e).1
      obtain ⟨o, v, S', a1, a2, a3, a4, a5⟩ := args j ws[j] (List.getElem?_eq_getElem hjl)
      rw [e] at a1
      have : o = .brw i := by simpa using a1.symm
      subst this
      have a3 : σ[i]? = some (some v) := a3
      rw [List.getElem?_map, a2] at h1
      have : v = v' := by simpa using h1
      subst this
      refine ⟨v, a3, (keep (F' j) v w ?_ h2).mono (Same.refl _) (fun _ _ _ e => e) fun b hb => .inl ⟨j, hj, e, hb⟩⟩
      rcases Bool.or_eq_true_iff.mp cl with z | z
      · exact .inl z
      · exact .inr (List.all_eq_true.mp z _ (List.mem_of_getElem? ho))
    · obtain ⟨v, h1, h2⟩ := n1.rd i w hr
      exact ⟨v, h1, h2.mono p1a (fun b o hb e => st.fr b o e (nonio hn hb)) fun b hb => .inr ⟨hn, hb⟩⟩
  · rintro i b u (⟨j, hj, e, f⟩ | ⟨hn, f⟩) hu
    · exact nF.kd j b u f hu
    · obtain ⟨o, ho⟩ := Option.ne_none_iff_exists'.mp (n1.al i b f)
      rw [st.fr b o ho (nonio hn f)] at hu
      cases hu
      exact n1.kd i b _ f ho
  · exact s1.ex.trans p1a
  · intro b o h hf
    refine st.fr b o (s1.fr b o h hf) fun j ⟨hj, i, e, f⟩ => ?_
    exact s1.out (by rw [h]; exact fun z => nomatch z) hf i f
  · rintro i b (⟨j, hj, e, f⟩ | ⟨hn, f⟩)
    · rcases st.sub j b f with ⟨j2, _, i2, _, z⟩ | z
      · exact s1.sub i2 b z
      · exact .inr (Classical.byContradiction fun q => s1.al b q z)
    · exact s1.sub i b f
  · intro b q
    have hb : ¬ Bor io os F1 b := fun z => q (pa1 b z)
    rw [pa2 b hb] at q
    rcases st.pn b q with z | ⟨j, _, i, _, z⟩ | z
    · rcases froz_new z with y | y | y
      · exact s1.pn b y
      · exact .inr (q1 b y).2
      · exact (hb y).elim
    · exact .inr (s1.sub i b z)
    · exact .inr (.inr (Classical.byContradiction fun q => s1.al b q z))
  · exact fun b h => st.al b (s1.al b h)
  · rintro i b (⟨j, hj, e, f⟩ | ⟨hn, f⟩)
    · exact .inl ⟨j, f⟩
    · exact .inr ⟨f, nonio hn f⟩
theorem call_rd {H : Hp} {Q : VK} (h : tE G W (fCall io spec fa) σ H Q) : tA G W fa σ H (fun vs H1 => spV G io spec vs H1 Q (fun cls d H' => W cls d σ H')) := by
  obtain ⟨ρ, P, F, n, h⟩ := h
  refine tA_bind (End := fun P H F => EndO G W P H F σ Q) n h (fun _ _ z => z) (fun z => z) fun os ρ1 vs P1 H1 F1 S1 e1 h1 n1 s1 hs q1 => ?_
  by_cases hc : ioC io os = true
  · rw [if_pos hc] at h1
    cases ha : argW ρ1 io os with
    | none => rw [ha] at h1; exact h1.elim
    | some ws =>
      rw [ha] at h1
      obtain ⟨l1, l2, l3, _⟩ := argW_at hs ha
      refine ⟨ws, _, _, l2, l3, call_in n1 hs (fun b hb => (q1 b hb).1) hc ha, fun j b h => h.1, ?_⟩
      cases hsp : spec ws with
      | stk => simp only [hsp] at h1; exact h1.elim
      | exc c outs =>
        simp only [hsp] at h1
        by_cases cl : (noBor io os || outs.all cleanO) = true
        · rw [if_pos cl] at h1
          intro P' H' F' nF hF st lo
          obtain ⟨Pa, F2, n2, s2, _⟩ := call_back n1 s1 hs q1 hc ha nF hF st lo cl
          exact h1 Pa H' F2 n2 s2
        · rw [if_neg cl] at h1; exact h1.elim
      | ok w outs =>
        simp only [hsp] at h1
        by_cases cl : (noBor io os || (clean w && outs.all cleanO)) = true
        · rw [if_pos cl] at h1
          intro v P' H' F' S nF hF st tm src lo
          have cl2 : (noBor io os || outs.all cleanO) = true := by
            rcases Bool.or_eq_true_iff.mp cl with z | z
            · rw [z, Bool.true_or]
            · rw [(Bool.and_eq_true_iff.mp z).2, Bool.or_true]
          obtain ⟨Pa, F2, n2, s2, keep, paN, off⟩ := call_back n1 s1 hs q1 hc ha nF hF st lo cl2
          refine h1 v Pa H' F2 S n2 s2 ⟨keep S v w ?_ tm.ow, fun b hb => paN b (tm.np b hb), tm.al, fun b hb i q => ?_, tm.kd⟩ fun b hb => ?_
          · rcases Bool.or_eq_true_iff.mp cl with z | z
            · exact .inl z
            · exact .inr (Bool.and_eq_true_iff.mp z).1
          · rcases off i b q with ⟨j, y⟩ | ⟨y, no⟩
            · exact tm.dj b hb j y
            · rcases src b hb with ⟨j, x⟩ | x
              · exact no j x
              · exact n1.al i b y x
          · rcases src b hb with ⟨j, _, i, _, x⟩ | x
            · exact s1.sub i b x
            · exact .inr (Classical.byContradiction fun q => s1.al b q x)
        · rw [if_neg cl] at h1; exact h1.elim
  · rw [if_neg hc] at h1
    exact h1.elim
end
end Mi
end
section
set_option Elab.async false
set_option linter.all false
set_option maxRecDepth 100000
/-! Ev11: defs, their promises, their calls -/
namespace Mi
open PySem PySem.Spec PyProof.Rows L2

structure RoomG (k : Nat) (A : Around) : Prop where
  rm : Room k A
  gd : A.guards = some []
theorem RoomG.mono {j k : Nat} {A : Around} (r : RoomG k A) (h : j ≤ k) : RoomG j A := ⟨r.rm.mono h, r.gd⟩
theorem RoomG.deeper {k : Nat} {A : Around} (r : RoomG (k + 1) A) (env : Env) : RoomG k (A.deeper env) := ⟨r.rm.deeper env, r.gd⟩
theorem make_guards {A : Around} {C : Addr} {us : List Value} {kw : List (Str × Value)} (h : A.guards = some []) : (A.under (.builtin "type.__call__" ⟨.ref C :: us, kw⟩)).guards = some [] := by
  simp [Around.under, Code.guards, Code.isGuard, guardIds, pushGuards, h]
theorem RoomG.make {k : Nat} {A : Around} (r : RoomG (k + 1) A) (C : Addr) (us : List Value) (kw : List (Str × Value)) : RoomG k (A.under (.builtin "type.__call__" ⟨.ref C :: us, kw⟩)) := ⟨r.rm.make C us kw, make_guards r.gd⟩

structure FnG (P : Program) (w : World) (K : PySem.W.Frag) (mg : Str → Option Value) (base : Heap) (k : Nat) (f : Addr) (fd : FuncData) (ps : List Str) (sp : Sp) : Prop where
  len : ∀ vs H Q E, sp vs H Q E → vs.length = ps.length
  run : ∀ (A : Around) (outer : List Env) (s : Shared) (H : Hp) (args : Args) (us : List Value) (vs : List V) (Q : VK) (E : XK), RoomG k A → Env0 P w K mg base A outer s H → BindsTo s fd args (ps.zip us) → Vals vs us → sp vs H Q E →
    codeAny (model P w) A (.call (.ref f) args) (CR (L2N.CX P w) outer P w H s Q E) s
section
variable {P : Program} {w : World} {K : PySem.W.Frag} {mg : Str → Option Value} {base : Heap}
theorem FnG.mono {j k : Nat} {f : Addr} {fd : FuncData} {ps : List Str} {sp : Sp} (F : FnG P w K mg base j f fd ps sp) (h : j ≤ k) : FnG P w K mg base k f fd ps sp :=
  ⟨F.len, fun A outer s H args us vs Q E hr => F.run A outer s H args us vs Q E (hr.mono h)⟩
theorem FnG.imp {k : Nat} {f : Addr} {fd : FuncData} {ps : List Str} {sp sp' : Sp} (F : FnG P w K mg base k f fd ps sp) (h : ∀ vs H Q E, sp' vs H Q E → sp vs H Q E) : FnG P w K mg base k f fd ps sp' :=
  ⟨fun vs H Q E q => F.len vs H Q E (h _ _ _ _ q), fun A outer s H args us vs Q E hr he hb hv hs => F.run A outer s H args us vs Q E hr he hb hv (h _ _ _ _ hs)⟩
theorem FnG.of {k : Nat} {f : Addr} {fd : FuncData} {ps : List Str} {sp : Sp} (F : FnOk P w K mg base (L2N.CX P w) k f fd ps sp) : FnG P w K mg base k f fd ps sp :=
  ⟨F.len, fun A outer s H args us vs Q E hr => F.run A outer s H args us vs Q E hr.rm⟩
theorem fn_ofG {k : Nat} {f : Addr} {name qual : Str} {params : Arguments} {body : List Stmt} {scope : Scope} {dV kV doc pm cdv ct oc : Value} {an od : Option Addr}
    {osl : Array (Option Value)} {N ps : List Str} {sp : Sp} (lk : K.lookup f = some ⟨oc, od, .func (PySem.W.fnOf name qual params body scope dV kV doc pm an cdv ct), osl⟩) (hcd : PySem.W.codeIn K cdv qual = true) (S : FnScope N ps scope)
    (len : ∀ vs H Q E, sp vs H Q E → vs.length = ps.length)
    (hbody : ∀ (A : Around) (outer : List Env) (s : Shared) (H : Hp) (vs : List V) (Q : VK) (E : XK), RoomG k (A.deeper (envOfC qual scope s.heap.objs.size f cdv)) → sp vs H Q E →
      ∃ t, PSs (cxOf (L2N.CX P w) P w K mg base N qual scope f cdv A outer s H E) body t ∧ t { nx := fun _ H' => Q .non H', rt := Q } (L2.start N vs) H) :
    FnG P w K mg base (k + 1) f (PySem.W.fnOf name qual params body scope dV kV doc pm an cdv ct) ps sp := by
  constructor
  · exact len
  intro A outer s H args us vs Q E room env bind vals prom
  have keepB : ∀ b o, base.get? b = some o → s.heap.get? b = some o := fun b o q => (env.bs b o q).1
  have KH : K.In s.heap := env.mod.kin.keeps keepB
  have noLim : s.heap.NoLimit := env.mod.nolimit.keeps keepB
  have kinds : ∀ y ∈ ps.zip us, scope.names.lookup y.1 = some .local ∨ (scope.names.lookup y.1 = some .cell ∧ ((cellsFrom (s.heap.objs.size + 1) scope.names []).lookup y.1).isSome = true) := by
    rintro ⟨n, v⟩ hy
    rcases S.par n (List.of_mem_zip hy).1 with q | q
    · exact .inl q
    · exact .inr ⟨q, PySem.W.cellsFrom_some _ _ _ (.inl q)⟩
  refine codeAny_call_function room.rm.depth (KH _ _ lk) rfl S.co S.gen rfl (PySem.W.codeRec_of KH hcd) ?_
  refine bind _ _ _ _ (wpAny_newFunctionEnv_cells S.kind kinds ?_)
  rintro _ rfl s1 x
  refine ⟨noLim.keeps x.toInCall.keep, codeAny_func ?_⟩
  obtain ⟨t, bodyOk, rd⟩ := hbody A outer s H vs Q E (room.deeper _) prom
  have I0 := inv_start (CX := L2N.CX P w) (E := E) (mg := mg) (cd := cdv) (qual := qual) (f := f) S room.rm.hd env (len _ _ _ _ prom) vals x
  refine wpAny_mono (bodyOk.run [] s1 _ H _ I0 rd) (fun fl s' out => ?_) fun _ _ z => z
  cases fl with
  | brk => obtain ⟨_, _, _, z⟩ := out; exact z.elim
  | cont => obtain ⟨_, _, _, z⟩ := out; exact z.elim
  | next =>
    obtain ⟨σ', H', J, q⟩ := out
    exact ⟨V.non, H', J.os, J.bare, J.base, J.hok, rfl, q⟩
  | ret u =>
    obtain ⟨v, σ', H', J, rel, q⟩ := out
    exact ⟨v, H', J.os, J.bare, J.base, J.hok, rel, q⟩
end

/-! ### calls -/
section
variable {X : Cx} {W : WX} {G : Glb} {k : Nat} {f C : Addr} {fd : FuncData} {ps : List Str} {sp : Sp} {x m : Str} {p pos apos : Pos} {e o : Expr} {es : List Expr}
theorem run_fnG {pins : List (Addr × Obj)} {σ : L2.St} {H : Hp} {s : Shared} {Q : VK} {us : List Value} {vs : List V} (F : FnG X.prog X.w X.K X.mg X.base k f fd ps sp) (c : Cxt G X W k) (hb : Binds X.K fd ps [])
    (I : Inv X pins σ H s) (r : Vals vs us) (h : sp vs H Q (fun cls d H' => W cls d σ H')) : wpAny (model X.prog X.w) X.A (call (.ref f) us) (EP X pins σ Q) X.xe s := by
  have hl : us.length = ps.length := r.length.symm.trans (F.len _ _ _ _ h)
  have b := hb s us I.kIn (by rw [List.append_nil]; exact hl)
  rw [List.append_nil] at b
  refine wpAny_call (codeAny_mono (F.run X.A X.stack s H _ us vs Q _ ⟨c.room, c.gd⟩ I.env0 b r h) ?_)
  intro res s' out
  match res, out with
  | .error e, out => exact L2N.passAt c.tk σ pins H s e s' I out
  | .ok (.ret u), out => exact I.after out
/-- f(e, ..) -/
theorem e_call {io : List Bool} {spec : CSpec} {fa : FA} (c : Cxt G X W k) (F : FnG X.prog X.w X.K X.mg X.base k f fd ps (spV G io spec)) (hm : X.mg x = some (.ref f)) (hk : PySem.W.keepIn X.K (.ref f) = true) (hb : Binds X.K fd ps [])
    (ha : PA X (e :: es) (tA G W fa)) (hg : Gl X x := by rfl) (hdb : (x == ("__debug__" : Str)) = false := by decide) (he : starEach (e :: es) X.env = (false, eval e X.env) :: starEach es X.env := by rfl) (hpl : (backTo pos (starEach es X.env)).any (·.1) = false := by rfl) :
    PE X (.Call (.Name x p) (e :: es) [] pos) (tE G W (fCall io spec fa)) := by
  constructor
  intro pins s σ H Q I h
  refine wpAny_Call_Name_kw (ld_glob I hg hm (PySem.W.callWith_K (h₀ := X.base) I.ok.mod.kin hk (thn (ha.run pos pins s σ H _ I (call_rd h)) ?_) he hpl) hdb)
  rintro us s1 ⟨vs, H1, I1, r, q⟩
  exact ⟨I1.kIn, run_fnG F c hb I1 r q⟩
end
end Mi
end
section
set_option Elab.async false
set_option linter.all false
set_option maxRecDepth 100000
/-! Ev12: statements -/
namespace Mi
open PySem L2

inductive SO where
  | nx (ρ : Rho)
  | bk (ρ : Rho)
  | ct (ρ : Rho)
  | ret (w : Vl) (ρ : Rho)
  | exc (c : Nat) (ρ : Rho)
  | stk
abbrev FS := Rho → SO
/-- the slots' number stays, and what is pinned stays where it is -/
structure Kp (n : Nat) (π : List Bool) (σ σ' : L2.St) : Prop where
  len : σ'.length = n
  pin : ∀ j, ioAt π j = true → σ'[j]? = σ[j]?
theorem Kp.refl {n : Nat} {π : List Bool} {σ : L2.St} (h : σ.length = n) : Kp n π σ σ := ⟨h, fun _ _ => rfl⟩
theorem Kp.trans {n : Nat} {π : List Bool} {σ σ1 σ2 : L2.St} (a : Kp n π σ σ1) (b : Kp n π σ1 σ2) : Kp n π σ σ2 := ⟨b.len, fun j h => (b.pin j h).trans (a.pin j h)⟩
theorem Kp.set {n i : Nat} {π : List Bool} {σ : L2.St} {x : Option V} (h : σ.length = n) (hi : ioAt π i = false) : Kp n π σ (σ.set i x) := ⟨by rw [List.length_set]; exact h, fun j hj => by
  have : i ≠ j := fun e => by subst e; rw [hi] at hj; cases hj
  rw [List.getElem?_set_ne this]⟩
def EndS (G : Glb) (W : WX) (n : Nat) (π : List Bool) (P H : Hp) (F : Nat → Ad) (σ : L2.St) (D : Ends) : SO → Prop
  | .nx ρ' => ∀ σ' P' H' F', Now G P' H' σ' ρ' F' → Stp P H F P' H' F' → Kp n π σ σ' → D.nx σ' H'
  | .bk ρ' => ∀ σ' P' H' F', Now G P' H' σ' ρ' F' → Stp P H F P' H' F' → Kp n π σ σ' → D.bk σ' H'
  | .ct ρ' => ∀ σ' P' H' F', Now G P' H' σ' ρ' F' → Stp P H F P' H' F' → Kp n π σ σ' → D.ct σ' H'
  | .ret w ρ' => ∀ v σ' P' H' F' S, Now G P' H' σ' ρ' F' → Stp P H F P' H' F' → Kp n π σ σ' → Tmp G P' H' F' S v w → (∀ b, S b → (∃ i, F i b) ∨ H b = none) → D.rt v H'
  | .exc c ρ' => ∀ σ' P' H' F', Now G P' H' σ' ρ' F' → Stp P H F P' H' F' → Kp n π σ σ' → W (.ref (G.ea c)) none σ' H'
  | .stk => False
def tS (G : Glb) (W : WX) (n : Nat) (π : List Bool) (f : FS) : TS := fun D σ H => ∃ ρ P F, Now G P H σ ρ F ∧ σ.length = n ∧ EndS G W n π P H F σ D (f ρ)
theorem PS.imp {X : Cx} {e : Stmt} {t t' : TS} (h : PS X e t) (i : ∀ D σ H, t' D σ H → t D σ H) : PS X e t' := ⟨fun pins s σ H D I q => h.run pins s σ H D I (i D σ H q)⟩
theorem PSs.imp {X : Cx} {e : List Stmt} {t t' : TS} (h : PSs X e t) (i : ∀ D σ H, t' D σ H → t D σ H) : PSs X e t' := ⟨fun pins s σ H D I q => h.run pins s σ H D I (i D σ H q)⟩
def Out.bindS {α : Type} (x : Out α) (k : α → Rho → SO) : SO := match x with
  | .ok a ρ => k a ρ
  | .exc c ρ => .exc c ρ
  | .stk => .stk
section
variable {G : Glb} {W : WX} {n : Nat} {π : List Bool} {P H P1 H1 : Hp} {F F1 : Nat → Ad} {σ σ1 : L2.St} {ρ : Rho} {D : Ends} {f : FE}
theorem EndS.trans {r : SO} (s : Stp P H F P1 H1 F1) (kp : Kp n π σ σ1) (h : EndS G W n π P H F σ D r) : EndS G W n π P1 H1 F1 σ1 D r := by
  cases r with
  | nx ρ' => exact fun σ' P' H' F' n t k => h σ' P' H' F' n (s.trans t) (kp.trans k)
  | bk ρ' => exact fun σ' P' H' F' n t k => h σ' P' H' F' n (s.trans t) (kp.trans k)
  | ct ρ' => exact fun σ' P' H' F' n t k => h σ' P' H' F' n (s.trans t) (kp.trans k)
  | exc c ρ' => exact fun σ' P' H' F' n t k => h σ' P' H' F' n (s.trans t) (kp.trans k)
  | ret w ρ' =>
    intro v σ' P' H' F' S n t k tm src
    refine h v σ' P' H' F' S n (s.trans t) (kp.trans k) tm fun b hb => ?_
    rcases src b hb with ⟨i, hi⟩ | z
    · exact s.sub i b hi
    · exact .inr (Classical.byContradiction fun q => s.al b q z)
  | stk => exact h
theorem tE_bindS {Q : VK} {k : Opd → Rho → SO} (nw : Now G P H σ ρ F) (hl : σ.length = n) (hE : EndS G W n π P H F σ D ((f ρ).bindS k))
    (h : ∀ o ρ1 v P1 H1 F1 S, EndS G W n π P1 H1 F1 σ D (k o ρ1) → Now G P1 H1 σ ρ1 F1 → Stp P H F P1 H1 F1 → Has G P1 H1 F1 σ S v o → (∀ b, S b → (∃ i, F i b) ∨ H b = none) → EndS G W n π P H F σ D (k o ρ1) → Q v H1) : tE G W f σ H Q := by
  refine ⟨ρ, P, F, nw, ?_⟩
  cases e : f ρ with
  | ok o ρ1 =>
    rw [e] at hE
    exact fun v P1 H1 F1 S n1 s1 h1 q1 => h o ρ1 v P1 H1 F1 S (EndS.trans s1 (Kp.refl hl) hE) n1 s1 h1 q1 hE
  | exc c ρ' =>
    rw [e] at hE
    exact fun P1 H1 F1 n1 s1 => hE σ P1 H1 F1 n1 s1 (Kp.refl hl)
  | stk =>
    rw [e] at hE
    exact hE.elim
theorem tT_bindS {f : FT} {Q : Bool → Hp → Prop} {k : Bool → Rho → SO} (nw : Now G P H σ ρ F) (hl : σ.length = n) (hE : EndS G W n π P H F σ D ((f ρ).bindS k))
    (h : ∀ o ρ1 P1 H1 F1, EndS G W n π P1 H1 F1 σ D (k o ρ1) → Now G P1 H1 σ ρ1 F1 → Q o H1) : tT G W f σ H Q := by
  refine ⟨ρ, P, F, nw, ?_⟩
  cases e : f ρ with
  | ok o ρ1 =>
    rw [e] at hE
    exact fun P1 H1 F1 n1 s1 => h o ρ1 P1 H1 F1 (EndS.trans s1 (Kp.refl hl) hE) n1
  | exc c ρ' =>
    rw [e] at hE
    exact fun P1 H1 F1 n1 s1 => hE σ P1 H1 F1 n1 s1 (Kp.refl hl)
  | stk =>
    rw [e] at hE
    exact hE.elim
/-- a slot takes a temporary -/
def setF (F : Nat → Ad) (i : Nat) (S : Ad) : Nat → Ad := fun k b => (k = i ∧ S b) ∨ (k ≠ i ∧ F k b)
theorem setF_at {i : Nat} {S : Ad} {b : Addr} (h : S b) : setF F i S i b := .inl ⟨rfl, h⟩
theorem now_set {v : V} {w : Vl} {S : Ad} {i : Nat} (nw : Now G P H σ ρ F) (t : Tmp G P H F S v w) (hi : i < σ.length) : Now G P H (σ.set i (some v)) (ρ.set i (some w)) (setF F i S) := by
  refine ⟨nw.ex, ?_, ?_, ?_, fun j w' h => ?_, ?_⟩
  · rintro j k a (⟨rfl, h1⟩ | ⟨h0, h1⟩) (⟨rfl, h2⟩ | ⟨h3, h2⟩)
    · rfl
    · exact (t.dj a h1 k h2).elim
    · exact (t.dj a h2 j h1).elim
    · exact nw.dj j k a h1 h2
  · rintro j b (⟨rfl, h1⟩ | ⟨h0, h1⟩)
    · exact t.np b h1
    · exact nw.np j b h1
  · rintro j b (⟨rfl, h1⟩ | ⟨h0, h1⟩)
    · exact t.al b h1
    · exact nw.al j b h1
  · by_cases e : i = j
    · subst e
      by_cases hl : i < ρ.length
      · rw [List.getElem?_set_self hl] at h
        cases h
        exact ⟨v, List.getElem?_set_self hi, t.ow.mono (Same.refl P) (fun _ _ _ q => q) fun b hb => setF_at hb⟩
      · rw [List.getElem?_eq_none (by rw [List.length_set]; omega)] at h
        cases h
    · rw [List.getElem?_set_ne e] at h
      obtain ⟨v', h1, h2⟩ := nw.rd j w' h
      exact ⟨v', by rw [List.getElem?_set_ne e]; exact h1, h2.mono (Same.refl P) (fun _ _ _ q => q) fun b hb => .inr ⟨Ne.symm e, hb⟩⟩
  · rintro j b u (⟨rfl, h1⟩ | ⟨h0, h1⟩) q
    · exact t.kd b u h1 q
    · exact nw.kd j b u h1 q
theorem stp_set {P0 H0 : Hp} {F0 : Nat → Ad} {S : Ad} {i : Nat} (s : Stp P0 H0 F0 P H F) (src : ∀ b, S b → (∃ i, F0 i b) ∨ H0 b = none) : Stp P0 H0 F0 P H (setF F i S) :=
  ⟨s.ex, s.fr, fun j b h => h.elim (fun z => src b z.2) fun z => s.sub j b z.2, s.pn, s.al⟩
/-- a slot's own things, as a temporary's -/
theorem now_off {v : V} {w : Vl} {i : Nat} (nw : Now G P H σ ρ F) (hs : σ[i]? = some (some v)) (hw : look ρ (.brw i) = some w) : Now G P H σ (ρ.set i none) (offF F i) ∧ Tmp G P H (offF F i) (F i) v w := by
  obtain ⟨v', h1, h2⟩ := nw.rd i w (join_some hw)
  rw [hs] at h1
  have ev : v = v' := by simpa using h1
  subst ev
  refine ⟨⟨nw.ex, fun j k a h1 h2 => nw.dj j k a h1.2 h2.2, fun j b h => nw.np j b h.2, fun j b h => nw.al j b h.2, fun j w' h => ?_, fun j b u h e => nw.kd j b u h.2 e⟩, h2, fun b h => nw.np i b h, fun b h => nw.al i b h, fun b h j q => q.1 (nw.dj j i b q.2 h), fun b u h e => nw.kd i b u h e⟩
  by_cases e : i = j
  · subst e
    by_cases hl : i < ρ.length
    · rw [List.getElem?_set_self hl] at h
      cases h
    · rw [List.getElem?_eq_none (by rw [List.length_set]; omega)] at h
      cases h
  · rw [List.getElem?_set_ne e] at h
    obtain ⟨v', h3, h4⟩ := nw.rd j w' h
    exact ⟨v', h3, h4.mono (Same.refl P) (fun _ _ _ q => q) fun b hb => ⟨Ne.symm e, hb⟩⟩
theorem stp_off {P0 H0 : Hp} {F0 : Nat → Ad} {i : Nat} (s : Stp P0 H0 F0 P H F) : Stp P0 H0 F0 P H (offF F i) := ⟨s.ex, s.fr, fun j b h => s.sub j b h.2, s.pn, s.al⟩
end

/-! ### the statements -/
def sNext : FS := fun ρ => .nx ρ
def sSeq (f g : FS) : FS := fun ρ => match f ρ with
  | .nx ρ1 => g ρ1
  | r => r
def sDrop (f : FE) : FS := fun ρ => (f ρ).bindS fun _ ρ1 => .nx ρ1
/-- an operand as a temporary -/
def own (ρ : Rho) : Opd → Option (Vl × Rho)
  | .val w => some (w, ρ)
  | .brw j => (look ρ (.brw j)).map fun w => (w, ρ.set j none)
def setO (i : Nat) (o : Opd) (ρ : Rho) : SO := match own ρ o with
  | some (w, ρ1) => .nx (ρ1.set i (some w))
  | none => .stk
def sSet (i : Nat) (f : FE) : FS := fun ρ => (f ρ).bindS fun o ρ1 => setO i o ρ1
def retO (o : Opd) (ρ : Rho) : SO := match own ρ o with
  | some (w, ρ1) => .ret w ρ1
  | none => .stk
def sRet (f : FE) : FS := fun ρ => (f ρ).bindS fun o ρ1 => retO o ρ1
def sRetN : FS := fun ρ => .ret (.dat .none) ρ
def sBrk : FS := fun ρ => .bk ρ
def sCnt : FS := fun ρ => .ct ρ
def sIf (c : FT) (a b : FS) : FS := fun ρ => (c ρ).bindS fun t ρ1 => if t = true then a ρ1 else b ρ1
def sRaise (c : Nat) : FS := fun ρ => .exc c ρ
section
variable {X : Cx} {G : Glb} {W : WX} {n k i : Nat} {π : List Bool} {st : Stmt} {rest sa sb : List Stmt} {f g : FS} {e : Expr} {fe : FE} {ft : FT} {pos p2 : Pos} {x : Str}
theorem own_ok {P H P0 H0 : Hp} {F F0 : Nat → Ad} {σ : L2.St} {ρ ρ' : Rho} {S : Ad} {v : V} {o : Opd} {w : Vl} (nw : Now G P H σ ρ F) (s : Stp P0 H0 F0 P H F) (h : Has G P H F σ S v o) (src : ∀ b, S b → (∃ i, F0 i b) ∨ H0 b = none) (e : own ρ o = some (w, ρ')) :
    ∃ F' S', Now G P H σ ρ' F' ∧ Stp P0 H0 F0 P H F' ∧ Tmp G P H F' S' v w ∧ ∀ b, S' b → (∃ i, F0 i b) ∨ H0 b = none := by
  cases o with
  | val w' =>
    have e : some (w', ρ) = some (w, ρ') := e
    cases e
    exact ⟨F, S, nw, s, h, src⟩
  | brw j =>
    have e : (look ρ (.brw j)).map (fun w => (w, ρ.set j none)) = some (w, ρ') := e
    obtain ⟨w', hw, e2⟩ := Option.map_eq_some_iff.mp e
    cases e2
    obtain ⟨n1, t1⟩ := now_off nw h hw
    exact ⟨offF F j, F j, n1, stp_off s, t1, fun b hb => s.sub j b hb⟩
theorem s_nil : PSs X [] (tS G W n π sNext) := PSs.imp pss_nil fun D σ H ⟨ρ, P, F, nw, hl, h⟩ => h σ P H F nw Stp.refl (Kp.refl hl)
theorem s_pass : PS X (.Pass pos) (tS G W n π sNext) := PS.imp ps_pass fun D σ H ⟨ρ, P, F, nw, hl, h⟩ => h σ P H F nw Stp.refl (Kp.refl hl)
theorem s_break : PS X (.Break pos) (tS G W n π sBrk) := PS.imp ps_break fun D σ H ⟨ρ, P, F, nw, hl, h⟩ => h σ P H F nw Stp.refl (Kp.refl hl)
theorem s_continue : PS X (.Continue pos) (tS G W n π sCnt) := PS.imp ps_continue fun D σ H ⟨ρ, P, F, nw, hl, h⟩ => h σ P H F nw Stp.refl (Kp.refl hl)
theorem s_cons (h1 : PS X st (tS G W n π f)) (h2 : PSs X rest (tS G W n π g)) : PSs X (st :: rest) (tS G W n π (sSeq f g)) := PSs.imp (pss_cons h1 h2) fun D σ H ⟨ρ, P, F, nw, hl, h⟩ => by
  refine ⟨ρ, P, F, nw, hl, ?_⟩
  unfold sSeq at h
  cases e : f ρ with
  | nx ρ1 =>
    rw [e] at h
    exact fun σ' P' H' F' n1 s1 k1 => ⟨ρ1, P', F', n1, k1.len, EndS.trans s1 k1 h⟩
  | bk ρ1 => rw [e] at h; exact h
  | ct ρ1 => rw [e] at h; exact h
  | ret w ρ1 => rw [e] at h; exact h
  | exc c ρ1 => rw [e] at h; exact h
  | stk => rw [e] at h; exact h
theorem s_one (h1 : PS X st (tS G W n π f)) : PSs X [st] (tS G W n π f) := pss_one h1
theorem s_expr (he : PE X e (tE G W fe)) (hs : swapsWith e none pos.line X.env = pure false := by rfl) : PS X (.Expr e pos) (tS G W n π (sDrop fe)) := PS.imp (ps_expr he hs) fun D σ H ⟨ρ, P, F, nw, hl, h⟩ =>
  tE_bindS nw hl h fun o ρ1 v P1 H1 F1 S h1 n1 s1 hs q1 _ => h1 σ P1 H1 F1 n1 Stp.refl (Kp.refl hl)
theorem set_rd {D : Ends} {σ : L2.St} {H : Hp} (hn : i < n) (hp : ioAt π i = false) (h : tS G W n π (sSet i fe) D σ H) : tE G W fe σ H (fun x H1 => D.nx (σ.set i (some x)) H1) := by
  obtain ⟨ρ, P, F, nw, hl, h⟩ := h
  refine tE_bindS nw hl h fun o ρ1 v P1 H1 F1 S _ n1 s1 hs q1 h0 => ?_
  unfold setO at h0
  cases e : own ρ1 o with
  | none => rw [e] at h0; exact h0.elim
  | some p =>
    obtain ⟨w, ρ2⟩ := p
    rw [e] at h0
    obtain ⟨F2, S2, n2, s2, t2, q2⟩ := own_ok n1 s1 hs q1 e
    exact h0 _ P1 H1 _ (now_set n2 t2 (by omega)) (stp_set s2 q2) (Kp.set hl hp)
theorem s_set (hN : X.N.Nodup) (hi : X.N[i]? = some x) (hx : Loc X.env.scope x) (hn : i < n) (hp : ioAt π i = false) (he : PE X e (tE G W fe)) (hs : swapsWith e (some (.Name x p2)) pos.line X.env = pure false := by rfl)
    (hf : X.fn x = true ∨ X.env.scope.names.lookup x = some .local := by first | exact .inl rfl | exact .inr rfl | assumption) : PS X (.Assign [.Name x p2] e pos) (tS G W n π (sSet i fe)) :=
  PS.imp (ps_set hN hi hx he hs hf) fun D σ H h => set_rd hn hp h
theorem s_ret (he : PE X e (tE G W fe)) : PS X (.Return (some e) pos) (tS G W n π (sRet fe)) := PS.imp (ps_ret he) fun D σ H ⟨ρ, P, F, nw, hl, h⟩ => by
  refine tE_bindS nw hl h fun o ρ1 v P1 H1 F1 S _ n1 s1 hs q1 h0 => ?_
  unfold retO at h0
  cases e : own ρ1 o with
  | none => rw [e] at h0; exact h0.elim
  | some p =>
    obtain ⟨w, ρ2⟩ := p
    rw [e] at h0
    obtain ⟨F2, S2, n2, s2, t2, q2⟩ := own_ok n1 s1 hs q1 e
    exact h0 v σ P1 H1 F2 S2 n2 s2 (Kp.refl hl) t2 q2
theorem s_retN : PS X (.Return none pos) (tS G W n π sRetN) := PS.imp ps_retN fun D σ H ⟨ρ, P, F, nw, hl, h⟩ =>
  h .non σ P H F nobody nw Stp.refl (Kp.refl hl) ⟨.non, fun _ z => z.elim, fun _ z => z.elim, fun _ z => z.elim, fun _ _ z => z.elim⟩ fun _ z => z.elim
theorem s_if {c : Expr} (hc : PT X c (tT G W ft)) (ha : PSs X sa (tS G W n π f)) (hb : PSs X sb (tS G W n π g)) : PS X (.If c sa sb pos) (tS G W n π (sIf ft f g)) := PS.imp (ps_if hc ha hb) fun D σ H ⟨ρ, P, F, nw, hl, h⟩ =>
  tT_bindS nw hl h fun t ρ1 P1 H1 F1 h1 n1 => by
    cases t with
    | true => exact ⟨ρ1, P1, F1, n1, hl, h1⟩
    | false => exact ⟨ρ1, P1, F1, n1, hl, h1⟩
theorem s_raise {c : Nat} (cx : Cxt G X W k) (he : L2N.PMk X e (fun _ H Q => Q (.ref (G.ea c)) none H)) : PS X (.Raise (some e) none pos) (tS G W n π (sRaise c)) := PS.imp (L2N.ps_raise cx.calm cx.tk he) fun D σ H ⟨ρ, P, F, nw, hl, h⟩ =>
  h σ P H F nw Stp.refl (Kp.refl hl)
end
end Mi
end
section
set_option Elab.async false
set_option linter.all false
set_option maxRecDepth 100000
/-! Ev13: lists that are changed -/
namespace Mi
open PySem L2
section
variable {G : Glb} {W : WX} {P H P1 H1 : Hp} {F F1 : Nat → Ad} {σ : L2.St} {ρ : Rho} {i : Nat} {a : Addr} {xs : List V} {ds : List PyData}
/-- the list of slot i is changed -/
theorem now_upd (nw : Now G P H σ ρ F) (hs : σ[i]? = some (some (.ref a))) (ha : F i a) (hd : DpAll G.K P xs ds) : Now G P (upd H a (.lst xs)) σ (ρ.set i (some (.ml ds))) F := by
  have na : ∀ b o, P b = some o → b ≠ a := fun b o h e => by rw [e, nw.np i a ha] at h; cases h
  refine ⟨fun b o h => by rw [upd_ne (na b o h)]; exact nw.ex b o h, nw.dj, nw.np, fun j b h => ?_, fun j w' h => ?_, fun j b u h e => ?_⟩
  · by_cases q : b = a
    · rw [q, upd_same]; exact fun z => nomatch z
    · rw [upd_ne q]; exact nw.al j b h
  · by_cases e : i = j
    · subst e
      by_cases hl : i < ρ.length
      · rw [List.getElem?_set_self hl] at h
        cases h
        exact ⟨_, hs, a, xs, rfl, ha, upd_same, hd⟩
      · rw [List.getElem?_eq_none (by rw [List.length_set]; omega)] at h
        cases h
    · rw [List.getElem?_set_ne e] at h
      obtain ⟨v', h1, h2⟩ := nw.rd j w' h
      refine ⟨v', h1, h2.mono (Same.refl P) (fun b o hb q => ?_) fun b hb => hb⟩
      rw [upd_ne (fun (z : b = a) => e (nw.dj i j a ha (by rw [← z]; exact hb)))]
      exact q
  · by_cases q : b = a
    · rw [q, upd_same] at e; cases e; rfl
    · rw [upd_ne q] at e; exact nw.kd j b u h e
theorem stp_upd {P0 H0 : Hp} {F0 : Nat → Ad} (nw : Now G P H σ ρ F) (s : Stp P0 H0 F0 P H F) (ha : F i a) : Stp P0 H0 F0 P (upd H a (.lst xs)) F := by
  refine ⟨s.ex, fun b o h hf => ?_, s.sub, s.pn, fun b h => ?_⟩
  · rw [upd_ne (fun (z : b = a) => s.out (by rw [h]; exact fun z => nomatch z) hf i (by rw [z]; exact ha))]
    exact s.fr b o h hf
  · by_cases q : b = a
    · rw [q, upd_same]; exact fun z => nomatch z
    · rw [upd_ne q]; exact s.al b h
theorem now_ml (nw : Now G P H σ ρ F) (hw : look ρ (.brw i) = some (.ml ds)) : ∃ a xs, σ[i]? = some (some (.ref a)) ∧ F i a ∧ H a = some (.lst xs) ∧ DpAll G.K P xs ds := by
  obtain ⟨v, h1, a, xs, rfl, h2, h3, h4⟩ := nw.rd i _ (join_some hw)
  exact ⟨a, xs, h1, h2, h3, h4⟩
end
def isMl (ρ : Rho) (i : Nat) : Bool := match look ρ (.brw i) with
  | some (.ml _) => true
  | _ => false
/-- x.append(e) -/
noncomputable def appO (i : Nat) (o : Opd) (ρ : Rho) : Out Opd := match frz1 ρ o with
  | some (d, ρ1) => match look ρ1 (.brw i) with
    | some (.ml ds) => if ds.length ≤ 100000 then .ok (.val (.dat .none)) (ρ1.set i (some (.ml (ds ++ [d])))) else .stk
    | _ => .stk
  | none => .stk
noncomputable def fApp (i : Nat) (f : FE) : FE := fun ρ => if isMl ρ i = true then (f ρ).bind fun o ρ1 => appO i o ρ1 else .stk
/-- x.extend(e), e a new list -/
noncomputable def extO (i : Nat) (o : Opd) (ρ : Rho) : Out Opd := match o with
  | .val (.ml es) => match look ρ (.brw i) with
    | some (.ml ds) => if ds.length + es.length ≤ 100000 then .ok (.val (.dat .none)) (ρ.set i (some (.ml (ds ++ es)))) else .stk
    | _ => .stk
  | _ => .stk
noncomputable def fExt (i : Nat) (f : FE) : FE := fun ρ => if isMl ρ i = true then (f ρ).bind fun o ρ1 => extO i o ρ1 else .stk
/-- x.pop() -/
def fPop (i : Nat) : FE := fun ρ => match look ρ (.brw i) with
  | some (.ml ds) => match ds.getLast? with
    | some d => .ok (.val (.dat d)) (ρ.set i (some (.ml ds.dropLast)))
    | none => .stk
  | _ => .stk
/-- x[j] = e -/
noncomputable def setItemO (i : Nat) (d : PyData) (o : Opd) (ρ : Rho) : SO := match look ρ o with
  | some (.dat (.int j)) => match look ρ (.brw i) with
    | some (.ml ds) => match ixN ds.length j with
      | some m => .nx (ρ.set i (some (.ml (ds.set m d))))
      | none => .stk
    | _ => .stk
  | _ => .stk
noncomputable def sSetItem (i : Nat) (fi fe : FE) : FS := fun ρ => (fe ρ).bindS fun o ρ1 => match frz1 ρ1 o with
  | some (d, ρ2) => if isMl ρ2 i = true then (fi ρ2).bindS fun oi ρ3 => setItemO i d oi ρ3 else .stk
  | none => .stk
section
variable {X : Cx} {G : Glb} {W : WX} {n k i : Nat} {π : List Bool} {e ei : Expr} {es : List Expr} {fe fi : FE} {fa : FA} {pos p2 apos cpos p3 : Pos} {x : Str}
theorem v_var (hN : X.N[i]? = some x := by rfl) (hv : Vis X.env.scope x := by first | exact Or.inl rfl | exact Or.inr (Or.inl rfl) | exact Or.inr (Or.inr rfl))
    (hd : (x == ("__debug__" : Str)) = false := by decide) (hcd : (x == ("__classdict__" : Str)) = false := by decide) : PE X (.Name x pos) (tVar i) := pe_var hN hv hd hcd
theorem isMl_look {ρ : Rho} (h : isMl ρ i = true) : ∃ ds, look ρ (.brw i) = some (.ml ds) := by
  unfold isMl at h
  split at h
  · rename_i ds e
    exact ⟨ds, e⟩
  · cases h
theorem e_append (hK : X.K = G.K) (ho : PE X (.Name x p3) (tVar i)) (he : PE X e (tE G W fe))
    (hbase : attributeBase (.Name x p3) "append" X.env (eval (.Name x p3) X.env) = eval (.Name x p3) X.env := by rfl)
    (hfew : ((backTo cpos (starEach [e] X.env)).all (fun x => !x.1) && (backToKw cpos (keywordEach [] X.env)).all (fun x => x.1.isSome)
      && decide (([e] : List Expr).length + ([] : List Keyword).length + (if ([] : List Keyword).isEmpty then 0 else 1) < 30)) = true := by rfl)
    (hline : (apos.endLine == cpos.line) = true := by rfl) (hs : starEach [e] X.env = (false, eval e X.env) :: starEach [] X.env := by rfl) (hplain : (backTo cpos (starEach [] X.env)).any (·.1) = false := by rfl) :
    PE X (.Call (.Attribute (.Name x p3) "append" apos) [e] [] cpos) (tE G W (fApp i fe)) :=
  PE.imp (pe_bm PySem.F.plainAttrs_list PySem.F.slot_list_append PySem.F.type_list_append mt_append ho (pa_cons he pa_nil hs) hbase hfew hline hs hplain) fun σ H Q ⟨ρ, P, F, nw, h⟩ => by
    unfold fApp at h
    by_cases q : isMl ρ i = true
    · rw [if_pos q] at h
      obtain ⟨ds0, hw0⟩ := isMl_look q
      obtain ⟨a, xs0, hs0, hF0, hH0, _⟩ := now_ml nw hw0
      refine ⟨.ref a, hs0, .inl ⟨rfl, xs0, SqL.of hH0⟩, ?_⟩
      refine tE_bind (End := fun P H F => EndO G W P H F σ Q) nw h (fun _ _ z => z) (fun z => z) fun o ρ1 v P1 H1 F1 S e1 h1 n1 s1 hx q1 => ?_
      unfold appO at h1
      cases ef : frz1 ρ1 o with
      | none => rw [ef] at h1; exact h1.elim
      | some p =>
        obtain ⟨d, ρ2⟩ := p
        rw [ef] at h1
        obtain ⟨P2, F2, n2, d2, z2⟩ := frz1_ok n1 hx ef
        have s2 := z2.stp s1 q1
        cases el : look ρ2 (.brw i) with
        | none => simp only [el] at h1; exact h1.elim
        | some w2 =>
          cases w2 with
          | ml ds =>
            simp only [el] at h1
            by_cases hz : ds.length ≤ 100000
            · rw [if_pos hz] at h1
              obtain ⟨a2, xs, hs2, hF2, hH2, hd2⟩ := now_ml n2 el
              have ea : a2 = a := by rw [hs0] at hs2; simpa using hs2.symm
              subst ea
              have hlen := dpa_len _ _ hd2
              refine ⟨a2, xs, v, rfl, rfl, hH2, by rw [sizeLine_eq]; omega, ?_⟩
              have n3 := now_upd n2 hs2 hF2 (dpa_app hd2 (.cons d2 .nil))
              exact h1 .non P2 _ F2 nobody n3 (stp_upd n2 s2 hF2) ⟨.non, fun _ z => z.elim, fun _ z => z.elim, fun _ z => z.elim, fun _ _ z => z.elim⟩ fun _ z => z.elim
            · rw [if_neg hz] at h1; exact h1.elim
          | dat _ => simp only [el] at h1; exact h1.elim
          | mml _ => simp only [el] at h1; exact h1.elim
          | ob _ _ => simp only [el] at h1; exact h1.elim
          | st _ => simp only [el] at h1; exact h1.elim
    · rw [if_neg q] at h; exact h.elim
theorem e_extend (hK : X.K = G.K) (ho : PE X (.Name x p3) (tVar i)) (he : PE X e (tE G W fe))
    (hbase : attributeBase (.Name x p3) "extend" X.env (eval (.Name x p3) X.env) = eval (.Name x p3) X.env := by rfl)
    (hfew : ((backTo cpos (starEach [e] X.env)).all (fun x => !x.1) && (backToKw cpos (keywordEach [] X.env)).all (fun x => x.1.isSome)
      && decide (([e] : List Expr).length + ([] : List Keyword).length + (if ([] : List Keyword).isEmpty then 0 else 1) < 30)) = true := by rfl)
    (hline : (apos.endLine == cpos.line) = true := by rfl) (hs : starEach [e] X.env = (false, eval e X.env) :: starEach [] X.env := by rfl) (hplain : (backTo cpos (starEach [] X.env)).any (·.1) = false := by rfl) :
    PE X (.Call (.Attribute (.Name x p3) "extend" apos) [e] [] cpos) (tE G W (fExt i fe)) :=
  PE.imp (pe_bm PySem.F.plainAttrs_list PySem.F.slot_list_extend PySem.F.type_list_extend mt_extend ho (pa_cons he pa_nil hs) hbase hfew hline hs hplain) fun σ H Q ⟨ρ, P, F, nw, h⟩ => by
    unfold fExt at h
    by_cases q : isMl ρ i = true
    · rw [if_pos q] at h
      obtain ⟨ds0, hw0⟩ := isMl_look q
      obtain ⟨a, xs0, hs0, hF0, hH0, _⟩ := now_ml nw hw0
      refine ⟨.ref a, hs0, .inl ⟨rfl, xs0, SqL.of hH0⟩, ?_⟩
      refine tE_bind (End := fun P H F => EndO G W P H F σ Q) nw h (fun _ _ z => z) (fun z => z) fun o ρ1 v P1 H1 F1 S e1 h1 n1 s1 hx q1 => ?_
      unfold extO at h1
      split at h1
      · rename_i es
        have t : Tmp G P1 H1 F1 S v (.ml es) := hx
        obtain ⟨b, ys, rfl, hb, hHb, hde⟩ := t.ow
        split at h1
        · rename_i ds el
          by_cases hz : ds.length + es.length ≤ 100000
          · rw [if_pos hz] at h1
            obtain ⟨a2, xs, hs2, hF2, hH2, hd2⟩ := now_ml n1 el
            have ea : a2 = a := by rw [hs0] at hs2; simpa using hs2.symm
            subst ea
            have l1 := dpa_len _ _ hd2
            have l2 := dpa_len _ _ hde
            refine ⟨a2, b, xs, ys, rfl, rfl, hH2, hHb, by rw [sizeLine_eq]; omega, ?_⟩
            exact h1 .non P1 _ F1 nobody (now_upd n1 hs2 hF2 (dpa_app hd2 hde)) (stp_upd n1 s1 hF2) ⟨.non, fun _ z => z.elim, fun _ z => z.elim, fun _ z => z.elim, fun _ _ z => z.elim⟩ fun _ z => z.elim
          · rw [if_neg hz] at h1; exact h1.elim
        · exact h1.elim
      · exact h1.elim
    · rw [if_neg q] at h; exact h.elim
theorem e_pop (hK : X.K = G.K) (ho : PE X (.Name x p3) (tVar i))
    (hbase : attributeBase (.Name x p3) "pop" X.env (eval (.Name x p3) X.env) = eval (.Name x p3) X.env := by rfl) (hline : (apos.endLine == cpos.line) = true := by rfl) :
    PE X (.Call (.Attribute (.Name x p3) "pop" apos) [] [] cpos) (tE G W (fPop i)) :=
  PE.imp (pe_bm0 PySem.F.plainAttrs_list PySem.F.slot_list_pop PySem.F.type_list_pop mt_pop ho hbase hline) fun σ H Q ⟨ρ, P, F, nw, h⟩ => by
    unfold fPop at h
    split at h
    · rename_i ds el
      split at h
      · rename_i d ed
        obtain ⟨a, xs, hs, hF, hH, hd⟩ := now_ml nw el
        have l1 := dpa_len _ _ hd
        have hk : ds[ds.length - 1]? = some d := by rw [← List.getLast?_eq_getElem?]; exact ed
        obtain ⟨y, hy, hdy⟩ := dpa_get ds xs hd _ d hk
        have hdl : DpAll G.K P xs.dropLast ds.dropLast := by
          rw [List.dropLast_eq_take, List.dropLast_eq_take, l1]
          exact dpa_take _ hd
        refine ⟨.ref a, hs, .inl ⟨rfl, xs, SqL.of hH⟩, a, xs, y, rfl, rfl, hH, by rw [l1]; exact hy, ?_⟩
        exact h y P _ F nobody (now_upd nw hs hF hdl) (stp_upd nw Stp.refl hF) ⟨hdy, fun _ z => z.elim, fun _ z => z.elim, fun _ z => z.elim, fun _ _ z => z.elim⟩ fun _ z => z.elim
      · exact h.elim
    · exact h.elim
theorem s_setItem (ho : PE X (.Name x p3) (tVar i)) (hi : PE X ei (tE G W fi)) (he : PE X e (tE G W fe))
    (ha : ∀ v, assign (.Subscript (.Name x p3) ei p2) X.env v = (do
      let ov ← holding [v] (eval (.Name x p3) X.env)
      let iv ← holding [v, ov] (eval ei X.env)
      standAt p2
      holding [v, ov, iv] (setItem ov iv v)
      release [v, ov, iv] []) := by intro _; rfl)
    (hs : swapsWithSole [.Subscript (.Name x p3) ei p2] e pos.line X.env = pure false := by rfl) (hw : swappedStores [.Subscript (.Name x p3) ei p2] e X.env = pure none := by rfl)
    (h1 : (assignEach [.Subscript (.Name x p3) ei p2] X.env).map (·.2) = [assign (.Subscript (.Name x p3) ei p2) X.env] := by rfl) :
    PS X (.Assign [.Subscript (.Name x p3) ei p2] e pos) (tS G W n π (sSetItem i fi fe)) := PS.imp (ps_asg he (pg_sub ho hi set_list ha) hs hw h1) fun D σ H ⟨ρ, P, F, nw, hl, h⟩ => by
  refine tE_bindS nw hl h fun o ρ1 v P1 H1 F1 S _ n1 s1 hx q1 h0 => ?_
  cases ef : frz1 ρ1 o with
  | none => simp only [ef] at h0; exact h0.elim
  | some p =>
    obtain ⟨d, ρ2⟩ := p
    simp only [ef] at h0
    obtain ⟨P2, F2, n2, d2, z2⟩ := frz1_ok n1 hx ef
    have s2 := z2.stp s1 q1
    by_cases hq : isMl ρ2 i = true
    case neg => rw [if_neg hq] at h0; exact h0.elim
    rw [if_pos hq] at h0
    have h2 := EndS.trans s2 (Kp.refl hl) h0
    -- the slot is read ahead of the index
    have go : ∀ a, σ[i]? = some (some (.ref a)) → tE G W fi σ H1 (fun iv H3 => rSetL (.ref a) iv v H3 fun H4 => D.nx σ H4) := fun a hs0 => by
      refine tE_bindS n2 hl h2 fun oi ρ3 vi P3 H3 F3 S3 h3 n3 s3 hxi q3 _ => ?_
      unfold setItemO at h3
      split at h3
      · rename_i j ej
        split at h3
        · rename_i ds el
          split at h3
          · rename_i m em
            obtain ⟨a2, xs, hs2, hF2, hH2, hd2⟩ := now_ml n3 el
            have ea : a2 = a := by rw [hs0] at hs2; simpa using hs2.symm
            subst ea
            have l1 := dpa_len _ _ hd2
            refine ⟨a2, xs, j, m, rfl, ow_int (hxi.look n3 ej), hH2, by rw [l1]; exact em, ?_⟩
            exact h3 σ P3 _ F3 (now_upd n3 hs2 hF2 (dpa_set (dp_mono s3.ex _ _ d2) m hd2)) (stp_upd n3 Stp.refl hF2) (Kp.refl hl)
          · exact h3.elim
        · exact h3.elim
      · exact h3.elim
    obtain ⟨ds0, hw0⟩ := isMl_look hq
    obtain ⟨a, xs0, hs0, _⟩ := now_ml n2 hw0
    exact ⟨.ref a, hs0, go a hs0⟩
end
end Mi
end
section
set_option Elab.async false
set_option linter.all false
set_option maxRecDepth 100000
/-! Ev14: what is walked; for, while -/
namespace Mi
open PySem PySem.Spec PyProof.Rows L2

/-- the walk J yields ds -/
def Yl (G : Glb) (J : It) (P : Hp) (ds : List PyData) : Prop := ∀ (i : Nat) (P1 H : Hp), Same P P1 → Same P1 H →
  (ds.length ≤ i → J.stop i H) ∧ (i < ds.length → J.go i H ∧ ∀ x H', J.yld i H x H' → ∃ P' d, Alc P1 H P' H' nobody ∧ ds[i]? = some d ∧ Dp G.K P' x d)
abbrev FI := Rho → Out (List PyData)
def EndI (G : Glb) (W : WX) (P H : Hp) (F : Nat → Ad) (σ : L2.St) (R : It → Hp → Prop) : Out (List PyData) → Prop
  | .ok ds ρ' => ∀ J P' H' F', Now G P' H' σ ρ' F' → Stp P H F P' H' F' → Yl G J P' ds → R J H'
  | .exc c ρ' => ∀ P' H' F', Now G P' H' σ ρ' F' → Stp P H F P' H' F' → W (.ref (G.ea c)) none σ H'
  | .stk => False
def tI (G : Glb) (W : WX) (f : FI) : TI := fun σ H R => ∃ ρ P F, Now G P H σ ρ F ∧ EndI G W P H F σ R (f ρ)
theorem PI.imp {X : Cx} {tg e : Expr} {t t' : TI} (h : PI X tg e t) (i : ∀ σ H Q, t' σ H Q → t σ H Q) : PI X tg e t' := ⟨fun pins s σ H R I q => h.run pins s σ H R I (i σ H R q)⟩
section
variable {G : Glb} {W : WX} {P H P1 H1 : Hp} {F F1 : Nat → Ad} {σ : L2.St} {ρ : Rho} {a : Addr} {xs : List V} {ds : List PyData} {R : It → Hp → Prop}
theorem EndI.trans {r : Out (List PyData)} (s : Stp P H F P1 H1 F1) (h : EndI G W P H F σ R r) : EndI G W P1 H1 F1 σ R r := by
  cases r with
  | ok o ρ' => exact fun J P' H' F' n t => h J P' H' F' n (s.trans t)
  | exc c ρ' => exact fun P' H' F' n t => h P' H' F' n (s.trans t)
  | stk => exact h
theorem yl_lst (h : SqL G.K P a xs) (hd : DpAll G.K P xs ds) : Yl G (Itl G.K a) P ds := fun i P1 H e1 e2 => by
  have e := e1.trans e2
  have hl := dpa_len _ _ hd
  have hs : SqL G.K H a xs := e.seq h
  refine ⟨fun hi => ⟨xs, hs, by omega⟩, fun hi => ?_⟩
  obtain ⟨v, hv, hdv⟩ := dpa_get _ _ hd i ds[i] (by simp [hi])
  refine ⟨⟨xs, v, hs, hv⟩, ?_⟩
  rintro x H' ⟨rfl, y⟩
  have := y xs hs
  rw [hv] at this
  cases this
  exact ⟨P1, ds[i], Alc.refl e2, by simp [hi], dp_mono e1 _ _ hdv⟩
theorem yl_tup (h : SqT G.K P a xs) (hd : DpAll G.K P xs ds) : Yl G (Itt G.K a) P ds := fun i P1 H e1 e2 => by
  have e := e1.trans e2
  have hl := dpa_len _ _ hd
  have hs : SqT G.K H a xs := sqT_mono e h
  refine ⟨fun hi => ⟨xs, hs, by omega⟩, fun hi => ?_⟩
  obtain ⟨v, hv, hdv⟩ := dpa_get _ _ hd i ds[i] (by simp [hi])
  refine ⟨⟨xs, v, hs, hv⟩, ?_⟩
  rintro x H' ⟨rfl, y⟩
  have := y xs hs
  rw [hv] at this
  cases this
  exact ⟨P1, ds[i], Alc.refl e2, by simp [hi], dp_mono e1 _ _ hdv⟩
def rangeD (lo hi : Int) : List PyData := (List.range (hi - lo).toNat).map fun k => .int (lo + (k : Nat))
theorem yl_rng {lo hi : Int} {m : Nat} (e : m = (hi - lo).toNat) : Yl G (Itr lo m) P (rangeD lo hi) := fun i P1 H e1 e2 => by
  have hl : (rangeD lo hi).length = m := by unfold rangeD; rw [List.length_map, List.length_range, e]
  rw [hl]
  refine ⟨fun h => h, fun hi => ⟨hi, ?_⟩⟩
  rintro x H' ⟨rfl, rfl⟩
  refine ⟨P1, .int (lo + (i : Nat)), Alc.refl e2, ?_, .int _⟩
  unfold rangeD
  rw [List.getElem?_map, List.getElem?_range (by omega)]
  rfl
end
def iSq (K : PySem.W.Frag) (tl : TE) : TI := fun σ H R => tl σ H fun x H1 => ∃ a, x = .ref a ∧ (((∃ xs, SqL K H1 a xs) ∧ R (Itl K a) H1) ∨ ((∃ xs, SqT K H1 a xs) ∧ R (Itt K a) H1))
noncomputable def seqO (ρ : Rho) (o : Opd) : Out (List PyData) := match frz1 ρ o with
  | some (.list ds, ρ2) => .ok ds ρ2
  | some (.tuple ds, ρ2) => .ok ds ρ2
  | _ => .stk
noncomputable def iE (f : FE) : FI := fun ρ => (f ρ).bind fun o ρ1 => seqO ρ1 o
noncomputable def rg1 (ρ : Rho) (os : List Opd) : Out (List PyData) := match looks ρ os with
  | some [.dat (.int j)] => if -(2 ^ 62) ≤ j ∧ j < 2 ^ 62 then .ok (rangeD 0 j) ρ else .stk
  | _ => .stk
noncomputable def rg2 (ρ : Rho) (os : List Opd) : Out (List PyData) := match looks ρ os with
  | some [.dat (.int i), .dat (.int j)] => if -(2 ^ 62) ≤ i ∧ i < 2 ^ 62 ∧ -(2 ^ 62) ≤ j ∧ j < 2 ^ 62 then .ok (rangeD i j) ρ else .stk
  | _ => .stk
noncomputable def iR1 (f : FA) : FI := fun ρ => (f ρ).bind fun os ρ1 => rg1 ρ1 os
noncomputable def iR2 (f : FA) : FI := fun ρ => (f ρ).bind fun os ρ1 => rg2 ρ1 os
section
variable {X : Cx} {tg e a b : Expr} {G : Glb} {W : WX} {f : FE} {fa : FA} {p pos : Pos}
theorem pi_sq {l : Expr} {tl : TE} (hl : PE X l tl) : PI X tg l (iSq X.K tl) := by
  constructor
  intro pins s σ H R I h
  refine thn (hl.run pins s σ H _ I h) ?_
  rintro v s1 ⟨x, H1, I1, r1, a, rfl, q⟩
  obtain rfl : v = Value.ref a := r1
  have fp : ∀ b ∈ [s1.heap.objs.size], FpOk X pins H1 b := fun b hb => by
    obtain rfl : b = s1.heap.objs.size := by simpa using hb
    exact I1.fpOk (Nat.le_refl _) (I1.hok.fresh (Nat.le_refl _))
  rcases q with ⟨⟨xs, hq⟩, q⟩ | ⟨⟨xs, hq⟩, q⟩
  · obtain ⟨its, rv, pl, hz⟩ := I1.list hq
    exact wpAny_pyIter_list pl.isList ⟨_, _, _, _, H1, rfl, I1.kept (t' := s1.toks) (fun b o e => Heap.get?_push_of_some _ e), turn_list a _, ⟨_, Heap.get?_push_size _ rfl, rfl, rfl⟩, fp, q⟩
  · obtain ⟨its, rv, ht, hz⟩ := I1.tuple hq
    exact wpAny_pyIter_tuple (show s1.heap.IsTuple a its.toArray from ht) ⟨_, _, _, _, H1, rfl, I1.kept (t' := s1.toks) (fun b o e => Heap.get?_push_of_some _ e), turn_tuple a _, ⟨_, Heap.get?_push_size _ rfl, rfl, rfl⟩, fp, q⟩
theorem i_E (hK : X.K = G.K) (he : PE X e (tE G W f)) : PI X tg e (tI G W (iE f)) := PI.imp (pi_sq he) fun σ H R ⟨ρ, P, F, nw, h⟩ => by
  rw [hK]
  refine tE_bind (End := fun P H F => EndI G W P H F σ R) nw h (fun _ _ z => z) (fun z => z) fun o ρ1 v P1 H1 F1 S e1 h1 n1 s1 hx q1 => ?_
  unfold seqO at h1
  split at h1
  · rename_i ds ρ2 ef
    obtain ⟨P2, F2, n2, d2, z2⟩ := frz1_ok n1 hx ef
    cases d2 with
    | lst hs ha => exact ⟨_, rfl, .inl ⟨⟨_, n2.ex.seq hs⟩, h1 _ P2 H1 F2 n2 (z2.stp s1 q1) (yl_lst hs ha)⟩⟩
  · rename_i ds ρ2 ef
    obtain ⟨P2, F2, n2, d2, z2⟩ := frz1_ok n1 hx ef
    cases d2 with
    | tup hs ha => exact ⟨_, rfl, .inr ⟨⟨_, sqT_mono n2.ex hs⟩, h1 _ P2 H1 F2 n2 (z2.stp s1 q1) (yl_tup hs ha)⟩⟩
  · exact h1.elim
theorem i_R1 (hm : X.mg "range" = none) (ha : PA X [a] (tA G W fa)) (hg : Gl X "range" := by rfl) (hs : starEach [a] X.env = [(false, eval a X.env)] := by rfl) : PI X tg (.Call (.Name "range" p) [a] [] pos) (tI G W (iR1 fa)) :=
  PI.imp (pi_range1 hg hm ha hs) fun σ H R ⟨ρ, P, F, nw, h⟩ => by
    refine tA_bind (End := fun P H F => EndI G W P H F σ R) nw h (fun _ _ z => z) (fun z => z) fun os ρ1 vs P1 H1 F1 S e1 h1 n1 s1 hx q1 => ?_
    unfold rg1 at h1
    split at h1
    · rename_i j el
      by_cases hj : -(2 ^ 62) ≤ j ∧ j < 2 ^ 62
      · rw [if_pos hj] at h1
        have hv := hx.looks n1 el
        match vs, hv with
        | [v], ⟨hv, _⟩ => exact ⟨j, by rw [ow_int hv], hj.1, hj.2, h1 _ P1 H1 F1 n1 s1 (yl_rng (by simp))⟩
      · rw [if_neg hj] at h1; exact h1.elim
    · exact h1.elim
theorem i_R2 (hm : X.mg "range" = none) (ha : PA X [a, b] (tA G W fa)) (hg : Gl X "range" := by rfl) (hs : starEach [a, b] X.env = [(false, eval a X.env), (false, eval b X.env)] := by rfl) (hs2 : starEach [b] X.env = [(false, eval b X.env)] := by rfl) :
    PI X tg (.Call (.Name "range" p) [a, b] [] pos) (tI G W (iR2 fa)) :=
  PI.imp (pi_range2 hg hm ha hs hs2) fun σ H R ⟨ρ, P, F, nw, h⟩ => by
    refine tA_bind (End := fun P H F => EndI G W P H F σ R) nw h (fun _ _ z => z) (fun z => z) fun os ρ1 vs P1 H1 F1 S e1 h1 n1 s1 hx q1 => ?_
    unfold rg2 at h1
    split at h1
    · rename_i i j el
      by_cases hj : -(2 ^ 62) ≤ i ∧ i < 2 ^ 62 ∧ -(2 ^ 62) ≤ j ∧ j < 2 ^ 62
      · rw [if_pos hj] at h1
        have hv := hx.looks n1 el
        match vs, hv with
        | [v, u], ⟨hv, hu, _⟩ => exact ⟨i, j, by rw [ow_int hv, ow_int hu], hj, h1 _ P1 H1 F1 n1 s1 (yl_rng rfl)⟩
      · rw [if_neg hj] at h1; exact h1.elim
    · exact h1.elim
end

/-! ### targets -/
abbrev FB := PyData → Rho → Option Rho
def tG (G : Glb) (n : Nat) (π : List Bool) (b : FB) : TG := fun v σ H Q => ∃ ρ P F d ρ', Now G P H σ ρ F ∧ σ.length = n ∧ Dp G.K P v d ∧ b d ρ = some ρ' ∧ ∀ σ' F', Now G P H σ' ρ' F' → Stp P H F P H F' → Kp n π σ σ' → Q σ' H
theorem PG.imp {X : Cx} {e : Expr} {t t' : TG} (h : PG X e t) (i : ∀ v σ H Q, t' v σ H Q → t v σ H Q) : PG X e t' := ⟨fun pins s σ H v u Q I r q => h.run pins s σ H v u Q I r (i v σ H Q q)⟩
def bN (i : Nat) : FB := fun d ρ => some (ρ.set i (some (.dat d)))
def setAll : List Nat → List PyData → Rho → Option Rho
  | [], [], ρ => some ρ
  | i :: is, d :: ds, ρ => setAll is ds (ρ.set i (some (.dat d)))
  | _, _, _ => none
def bT (is : List Nat) : FB := fun d ρ => match d with
  | .tuple ds => setAll is ds ρ
  | _ => none
def tGs (G : Glb) (n : Nat) (π : List Bool) (is : List Nat) : TGs := fun vs σ H Q => ∃ ρ P F ds ρ', Now G P H σ ρ F ∧ σ.length = n ∧ DpAll G.K P vs ds ∧ setAll is ds ρ = some ρ' ∧ ∀ σ' F', Now G P H σ' ρ' F' → Stp P H F P H F' → Kp n π σ σ' → Q σ' H
section
variable {X : Cx} {G : Glb} {n i : Nat} {π : List Bool} {x : Str} {pos : Pos} {e : Expr} {es : List Expr} {is : List Nat}
theorem now_dat {P H : Hp} {F : Nat → Ad} {σ : L2.St} {ρ : Rho} {v : V} {d : PyData} (nw : Now G P H σ ρ F) (hd : Dp G.K P v d) (hi : i < σ.length) : Now G P H (σ.set i (some v)) (ρ.set i (some (.dat d))) (setF F i nobody) :=
  now_set nw (S := nobody) ⟨hd, fun _ z => z.elim, fun _ z => z.elim, fun _ z => z.elim, fun _ _ z => z.elim⟩ hi
theorem g_name (hN : X.N.Nodup) (hi : X.N[i]? = some x) (hx : Loc X.env.scope x) (hn : i < n) (hp : ioAt π i = false)
    (hf : X.fn x = true ∨ X.env.scope.names.lookup x = some .local := by first | exact .inl rfl | exact .inr rfl | assumption) : PG X (.Name x pos) (tG G n π (bN i)) :=
  PG.imp (pg_name hN hi hx hf) fun v σ H Q ⟨ρ, P, F, d, ρ', nw, hl, hd, hb, k⟩ => by
    cases hb
    exact k _ _ (now_dat nw hd (by omega)) (stp_set Stp.refl fun _ z => z.elim) (Kp.set hl hp)
theorem PGs.imp {X : Cx} {e : List Expr} {t t' : TGs} (h : PGs X e t) (i : ∀ v σ H Q, t' v σ H Q → t v σ H Q) : PGs X e t' := ⟨fun pins s σ H v u Q I r q => h.run pins s σ H v u Q I r (i v σ H Q q)⟩
theorem gs_nil : PGs X [] (tGs G n π []) := PGs.imp pgs_nil fun vs σ H Q ⟨ρ, P, F, ds, ρ', nw, hl, hd, hb, k⟩ => by
  cases ds with
  | nil =>
    cases hd
    cases hb
    exact ⟨rfl, k σ F nw Stp.refl (Kp.refl hl)⟩
  | cons _ _ => cases hb
theorem gs_cons (hN : X.N.Nodup) (hi : X.N[i]? = some x) (hx : Loc X.env.scope x) (hn : i < n) (hp : ioAt π i = false) (h2 : PGs X es (tGs G n π is))
    (hs : (assignEach (.Name x pos :: es) X.env).map (·.2) = assign (.Name x pos) X.env :: (assignEach es X.env).map (·.2) := by rfl)
    (hf : X.fn x = true ∨ X.env.scope.names.lookup x = some .local := by first | exact .inl rfl | exact .inr rfl | assumption) : PGs X (.Name x pos :: es) (tGs G n π (i :: is)) :=
  PGs.imp (pgs_cons (pg_name hN hi hx hf) h2 hs) fun vs σ H Q ⟨ρ, P, F, ds, ρ', nw, hl, hd, hb, k⟩ => by
    cases ds with
    | nil => cases hb
    | cons d ds =>
      cases hd with
      | @cons v1 vs1 _ _ h1 h3 =>
        refine ⟨_, _, rfl, ?_⟩
        have n1 := now_dat (i := i) nw h1 (by omega)
        have s1 : Stp P H F P H (setF F i nobody) := stp_set Stp.refl fun _ z => z.elim
        have k1 : Kp n π σ (σ.set i (some v1)) := Kp.set hl hp
        exact ⟨_, P, _, ds, ρ', n1, k1.len, h3, hb, fun σ' F' n2 s2 k2 => k σ' F' n2 (s1.trans s2) (k1.trans k2)⟩
theorem g_tup {k m : Nat} (hK : X.K = G.K) (hc : X.calm = true) (h : PGs X es (tGs G n π is)) (hm : is.length = m) (hn : (assignEach es X.env).length = m := by rfl) (hst : (assignEach es X.env).findIdx? (·.1) = none := by rfl) : PG X (.Tuple es k pos) (tG G n π (bT is)) :=
  PG.imp (pg_tup hc h hn hst) fun v σ H Q ⟨ρ, P, F, d, ρ', nw, hl, hd, hb, k⟩ => by
    unfold bT at hb
    split at hb
    · rename_i ds
      cases hd with
      | tup hs ha =>
        rw [hK]
        have h1 := dpa_len _ _ ha
        have h2 : ∀ {is : List Nat} {ds : List PyData} {ρ ρ' : Rho}, setAll is ds ρ = some ρ' → is.length = ds.length := by
          intro is
          induction is with
          | nil =>
            intro ds ρ ρ' h
            cases ds with
            | nil => rfl
            | cons _ _ => cases h
          | cons i is ih =>
            intro ds ρ ρ' h
            cases ds with
            | nil => cases h
            | cons _ _ => simp [ih h]
        exact ⟨_, _, rfl, sqT_mono nw.ex hs, by rw [h1, ← h2 hb, hm], ρ, P, F, ds, ρ', nw, hl, ha, hb, k⟩
    · cases hb
end

/-! ### for -/
def forL (b : FB) (body : FS) : List PyData → FS
  | [], ρ => .nx ρ
  | d :: ds, ρ => match b d ρ with
    | none => .stk
    | some ρ1 => match body ρ1 with
      | .nx ρ2 => forL b body ds ρ2
      | .ct ρ2 => forL b body ds ρ2
      | .bk ρ2 => .nx ρ2
      | .ret w ρ2 => .ret w ρ2
      | .exc c ρ2 => .exc c ρ2
      | .stk => .stk
def sFor (fi : FI) (b : FB) (body : FS) : FS := fun ρ => (fi ρ).bindS fun ds ρ1 => forL b body ds ρ1
/-- k turns at most -/
def whN (c : FT) (body : FS) : Nat → FS
  | 0, _ => .stk
  | k + 1, ρ => (c ρ).bindS fun t ρ1 => if t = true then
      match body ρ1 with
      | .nx ρ2 => whN c body k ρ2
      | .ct ρ2 => whN c body k ρ2
      | .bk ρ2 => .nx ρ2
      | .ret w ρ2 => .ret w ρ2
      | .exc c ρ2 => .exc c ρ2
      | .stk => .stk
    else .nx ρ1
noncomputable def sWh (c : FT) (body : FS) : FS := by classical exact fun ρ => if h : ∃ k, whN c body k ρ ≠ .stk then whN c body h.choose ρ else .stk
section
variable {X : Cx} {tg iter c : Expr} {body : List Stmt} {G : Glb} {W : WX} {n : Nat} {π : List Bool} {fi : FI} {b : FB} {fb : FS} {ft : FT} {pos : Pos}
theorem s_for (hp : PassesOwn (model X.prog X.w) X.A X.env X.xe) (hc : X.calm = true) (hi : PI X tg iter (tI G W fi)) (hg : PG X tg (tG G n π b)) (hb : PSs X body (tS G W n π fb)) (hs : ∀ x, foldedSetIterable iter X.env x = pure x := by intro _; rfl) :
    PS X (.For tg iter body [] pos) (tS G W n π (sFor fi b fb)) := PS.imp (ps_for hp hc hi hg hb hs) fun D σ H ⟨ρ, P, F, nw, hl, h⟩ => by
  refine ⟨ρ, P, F, nw, ?_⟩
  unfold sFor at h
  cases ei : fi ρ with
  | stk => rw [ei] at h; exact h.elim
  | exc c ρ1 => rw [ei] at h; exact fun P1 H1 F1 n1 s1 => h σ P1 H1 F1 n1 s1 (Kp.refl hl)
  | ok ds ρ1 =>
    rw [ei] at h
    intro J P1 H1 F1 n1 s1 yl
    have h1 : EndS G W n π P1 H1 F1 σ D (forL b fb ds ρ1) := EndS.trans s1 (Kp.refl hl) h
    refine ⟨fun i m σ' H' => m = ds.length - i ∧ i ≤ ds.length ∧ ∃ ρ' P' F', Now G P' H' σ' ρ' F' ∧ σ'.length = n ∧ Same P1 P' ∧ EndS G W n π P' H' F' σ' D (forL b fb (ds.drop i) ρ'), ⟨_, rfl, Nat.zero_le _, ρ1, P1, F1, n1, hl, Same.refl _, h1⟩, ?_⟩
    rintro i m σ2 H2 ⟨rfl, hi, ρ2, P2, F2, n2, l2, e2, h2⟩
    obtain ⟨y1, y2⟩ := yl i P2 H2 e2 n2.ex
    by_cases hlt : i < ds.length
    · obtain ⟨go, y3⟩ := y2 hlt
      refine .inr ⟨go, fun σ' H' => i + 1 ≤ ds.length ∧ ∃ ρ' P' F', Now G P' H' σ' ρ' F' ∧ σ'.length = n ∧ Same P1 P' ∧ EndS G W n π P' H' F' σ' D (forL b fb (ds.drop (i + 1)) ρ'), fun σ' H' ⟨q1, q2⟩ => ⟨_, by omega, rfl, q1, q2⟩, fun x H3 hy => ?_⟩
      obtain ⟨P3, d, al, hd, hdp⟩ := y3 x H3 hy
      have ed : ds.drop i = d :: ds.drop (i + 1) := by
        rw [List.drop_eq_getElem_cons hlt]
        have := (List.getElem?_eq_some_iff.mp hd).2
        rw [this]
      rw [ed] at h2
      have h3 : EndS G W n π P3 H3 F2 σ2 D (forL b fb (d :: ds.drop (i + 1)) ρ2) := EndS.trans al.stp (Kp.refl l2) h2
      unfold forL at h3
      cases eb : b d ρ2 with
      | none => rw [eb] at h3; exact h3.elim
      | some ρ3 =>
        simp only [eb] at h3
        refine ⟨ρ2, P3, F2, d, ρ3, al.now n2, l2, hdp, eb, fun σ4 F4 n4 s4 k4 => ⟨ρ3, P3, F4, n4, k4.len, ?_⟩⟩
        have h4 := EndS.trans s4 k4 h3
        have e3 : Same P1 P3 := e2.trans al.exP
        have next : ∀ {ρ5 : Rho}, EndS G W n π P3 H3 F4 σ4 D (forL b fb (ds.drop (i + 1)) ρ5) → ∀ σ' P' H' F', Now G P' H' σ' ρ5 F' → Stp P3 H3 F4 P' H' F' → Kp n π σ4 σ' →
            i + 1 ≤ ds.length ∧ ∃ ρ' P' F', Now G P' H' σ' ρ' F' ∧ σ'.length = n ∧ Same P1 P' ∧ EndS G W n π P' H' F' σ' D (forL b fb (ds.drop (i + 1)) ρ') :=
          fun {ρ5} h5 σ' P' H' F' n5 s5 k5 => ⟨hlt, ρ5, P', F', n5, k5.len, e3.trans s5.ex, EndS.trans s5 k5 h5⟩
        cases ef : fb ρ3 with
        | nx ρ5 => rw [ef] at h4; exact next h4
        | ct ρ5 => rw [ef] at h4; exact next h4
        | bk ρ5 => rw [ef] at h4; exact h4
        | ret w ρ5 => rw [ef] at h4; exact h4
        | exc c ρ5 => rw [ef] at h4; exact h4
        | stk => rw [ef] at h4; exact h4
    · have e : ds.drop i = [] := List.drop_eq_nil_of_le (by omega)
      rw [e] at h2
      exact .inl ⟨y1 (by omega), h2 σ2 P2 H2 F2 n2 Stp.refl (Kp.refl l2)⟩
theorem whN_up {k : Nat} : ∀ {ρ : Rho}, whN ft fb k ρ ≠ .stk → whN ft fb (k + 1) ρ = whN ft fb k ρ := by
  induction k with
  | zero => intro ρ h; exact (h rfl).elim
  | succ k ih =>
    intro ρ h
    unfold whN at h
    show (ft ρ).bindS _ = (ft ρ).bindS _
    cases e : ft ρ with
    | stk => rfl
    | exc c ρ1 => rfl
    | ok t ρ1 =>
      rw [e] at h
      simp only [Out.bindS] at h ⊢
      cases t with
      | false => rfl
      | true =>
        simp only [if_true] at h ⊢
        cases ef : fb ρ1 with
        | nx ρ2 => simp only [ef] at h ⊢; exact ih h
        | ct ρ2 => simp only [ef] at h ⊢; exact ih h
        | bk ρ2 => rfl
        | ret w ρ2 => rfl
        | exc c ρ2 => rfl
        | stk => rfl
theorem whN_le {k : Nat} {ρ : Rho} (h : whN ft fb k ρ ≠ .stk) : ∀ j, whN ft fb (k + j) ρ = whN ft fb k ρ
  | 0 => rfl
  | j + 1 => by
    have ih := whN_le h j
    rw [← ih]
    exact whN_up (k := k + j) (fun q => h (ih.symm.trans q))
/-- a while's end, by any number of turns that is enough -/
theorem sWh_eq {k : Nat} {ρ : Rho} (h : whN ft fb k ρ ≠ .stk) : sWh ft fb ρ = whN ft fb k ρ := by
  have q : ∃ k, whN ft fb k ρ ≠ .stk := ⟨k, h⟩
  unfold sWh
  rw [dif_pos q]
  have h1 := whN_le h q.choose
  have h2 := whN_le q.choose_spec k
  rw [← h1, ← h2, Nat.add_comm]
theorem s_while (hp : PassesOwn (model X.prog X.w) X.A X.env X.xe) (hc : PT X c (tT G W ft)) (hb : PSs X body (tS G W n π fb)) : PS X (.While c body [] pos) (tS G W n π (sWh ft fb)) := PS.imp (ps_while hp hc hb) fun D σ H ⟨ρ, P, F, nw, hl, h⟩ => by
  by_cases q : ∃ k, whN ft fb k ρ ≠ .stk
  case neg => unfold sWh at h; rw [dif_neg q] at h; exact h.elim
  obtain ⟨k, hk⟩ := q
  rw [sWh_eq hk] at h
  refine ⟨fun m σ' H' => ∃ ρ' P' F', Now G P' H' σ' ρ' F' ∧ σ'.length = n ∧ EndS G W n π P' H' F' σ' D (whN ft fb m ρ'), ⟨k, ρ, P, F, nw, hl, h⟩, ?_⟩
  rintro m σ1 H1 ⟨ρ1, P1, F1, n1, l1, h1⟩
  cases m with
  | zero => exact h1.elim
  | succ m =>
    unfold whN at h1
    refine tT_bindS n1 l1 h1 fun t ρ2 P2 H2 F2 h2 n2 => ?_
    cases t with
    | false => exact h2 σ1 P2 H2 F2 n2 Stp.refl (Kp.refl l1)
    | true =>
      simp only [if_true] at h2 ⊢
      refine ⟨fun σ' H' => ∃ ρ' P' F', Now G P' H' σ' ρ' F' ∧ σ'.length = n ∧ EndS G W n π P' H' F' σ' D (whN ft fb m ρ'), fun σ' H' w => ⟨m, Nat.lt_succ_self m, w⟩, ρ2, P2, F2, n2, l1, ?_⟩
      have next : ∀ {ρ5 : Rho}, EndS G W n π P2 H2 F2 σ1 D (whN ft fb m ρ5) → ∀ σ' P' H' F', Now G P' H' σ' ρ5 F' → Stp P2 H2 F2 P' H' F' → Kp n π σ1 σ' →
          ∃ ρ' P' F', Now G P' H' σ' ρ' F' ∧ σ'.length = n ∧ EndS G W n π P' H' F' σ' D (whN ft fb m ρ') :=
        fun {ρ5} h5 σ' P' H' F' n5 s5 k5 => ⟨ρ5, P', F', n5, k5.len, EndS.trans s5 k5 h5⟩
      cases ef : fb ρ2 with
      | nx ρ5 => rw [ef] at h2; exact next h2
      | ct ρ5 => rw [ef] at h2; exact next h2
      | bk ρ5 => rw [ef] at h2; exact h2
      | ret w ρ5 => rw [ef] at h2; exact h2
      | exc c ρ5 => rw [ef] at h2; exact h2
      | stk => rw [ef] at h2; exact h2
end
end Mi
end
section
set_option Elab.async false
set_option linter.all false
set_option maxRecDepth 100000
/-! Ev15: comprehensions -/
namespace Mi
open PySem PySem.Spec PyProof.Rows L2

def wipeR (ρ : Rho) : List Nat → Rho
  | [] => ρ
  | v :: vs => (wipeR ρ vs).set v none
def restR (ρ0 ρ : Rho) : List Nat → Rho
  | [] => ρ
  | v :: vs => (restR ρ0 ρ vs).set v (ρ0[v]?).join
/-- one turn after another: what is kept of ds -/
noncomputable def compL (vs : List Nat) (b : FB) (c : FT) (e : FE) : List PyData → Rho → Out (List PyData)
  | [], ρ => .ok [] ρ
  | d :: ds, ρ => match b d (wipeR ρ vs) with
    | none => .stk
    | some ρ1 => match c ρ1 with
      | .ok true ρ2 => match e ρ2 with
        | .ok o ρ3 => match frz1 ρ3 o with
          | some (d', ρ4) => match compL vs b c e ds ρ4 with
            | .ok ds' ρ5 => .ok (d' :: ds') ρ5
            | .exc _ _ => .stk
            | .stk => .stk
          | none => .stk
        | .exc _ _ => .stk
        | .stk => .stk
      | .ok false ρ2 => compL vs b c e ds ρ2
      | .exc _ _ => .stk
      | .stk => .stk
noncomputable def compE (vs : List Nat) (ρ1 : Rho) (ds : List PyData) : Out (List PyData) → Out Opd
  | .ok ds' ρ2 => if ds.length ≤ 100000 then .ok (.val (.ml ds')) (restR ρ1 ρ2 vs) else .stk
  | .exc _ _ => .stk
  | .stk => .stk
noncomputable def fComp (vs : List Nat) (fi : FI) (b : FB) (c : FT) (e : FE) : FE := fun ρ => (fi ρ).bind fun ds ρ1 => compE vs ρ1 ds (compL vs b c e ds ρ1)
def cT : FT := fun ρ => .ok true ρ
def blkPi (n : Nat) (vs : List Nat) : List Bool := (List.range n).map fun j => !vs.contains j

section
variable {G : Glb} {W : WX} {P H P1 H1 P2 H2 : Hp} {F F1 F2 : Nat → Ad} {σ σ2 : L2.St} {ρ ρ1 : Rho} {vs : List Nat} {D : Addr} {o : HO} {n j : Nat}
theorem wipeR_in {w : Vl} : ∀ {vs : List Nat}, (wipeR ρ vs)[j]? = some (some w) → j ∉ vs ∧ ρ[j]? = some (some w)
  | [], h => ⟨by simp, h⟩
  | v :: vs, h => by
    unfold wipeR at h
    by_cases e : v = j
    · subst e
      by_cases hl : v < (wipeR ρ vs).length
      · rw [List.getElem?_set_self hl] at h; cases h
      · rw [List.getElem?_eq_none (by rw [List.length_set]; omega)] at h; cases h
    · rw [List.getElem?_set_ne e] at h
      obtain ⟨h1, h2⟩ := wipeR_in h
      exact ⟨by simp only [List.mem_cons, not_or]; exact ⟨fun q => e q.symm, h1⟩, h2⟩
theorem restR_in {w : Vl} : ∀ {vs : List Nat}, (restR ρ1 ρ vs)[j]? = some (some w) → (j ∈ vs ∧ ρ1[j]? = some (some w)) ∨ (j ∉ vs ∧ ρ[j]? = some (some w))
  | [], h => .inr ⟨by simp, h⟩
  | v :: vs, h => by
    unfold restR at h
    by_cases e : v = j
    · subst e
      by_cases hl : v < (restR ρ1 ρ vs).length
      · rw [List.getElem?_set_self hl] at h
        exact .inl ⟨by simp, join_some (Option.some.inj h)⟩
      · rw [List.getElem?_eq_none (by rw [List.length_set]; omega)] at h; cases h
    · rw [List.getElem?_set_ne e] at h
      rcases restR_in h with ⟨h1, h2⟩ | ⟨h1, h2⟩
      · exact .inl ⟨List.mem_cons_of_mem _ h1, h2⟩
      · exact .inr ⟨by simp only [List.mem_cons, not_or]; exact ⟨fun q => e q.symm, h1⟩, h2⟩
theorem ioAt_blk {vs : List Nat} (h1 : j < n) (h2 : j ∉ vs) : ioAt (blkPi n vs) j = true := by
  unfold ioAt blkPi
  rw [List.getD_eq_getElem?_getD, List.getElem?_map, List.getElem?_range h1]
  simp [h2]
theorem wipe_self : ∀ {vs : List Nat} {σ : L2.St}, j ∈ vs → j < σ.length → (wipe σ vs)[j]? = some none
  | [], _, h, _ => by simp at h
  | v :: vs, σ, h, hl => by
    unfold wipe
    by_cases e : v = j
    · subst e
      rw [List.getElem?_set_self (by rw [wipe_length]; exact hl)]
    · rw [List.getElem?_set_ne e]
      rcases List.mem_cons.mp h with q | q
      · exact (e q.symm).elim
      · exact wipe_self q hl
theorem wipe_same (hn : σ.length = n) (k : Kp n (blkPi n vs) (wipe σ vs) σ2) : wipe σ2 vs = wipe σ vs := by
  apply List.ext_getElem?
  intro j
  by_cases hj : j < n
  · by_cases hv : j ∈ vs
    · rw [wipe_self hv (by rw [k.len]; exact hj), wipe_self hv (by rw [hn]; exact hj)]
    · rw [wipe_out hv, k.pin j (ioAt_blk hj hv)]
  · rw [List.getElem?_eq_none (by rw [wipe_length, k.len]; omega), List.getElem?_eq_none (by rw [wipe_length, hn]; omega)]
theorem now_wipe (nw : Now G P H σ2 ρ F) (h : ∀ j, j ∉ vs → σ2[j]? = σ[j]?) : Now G P H σ (wipeR ρ vs) F :=
  ⟨nw.ex, nw.dj, nw.np, nw.al, fun i w e => by
    obtain ⟨h1, h2⟩ := wipeR_in e
    obtain ⟨v, h3, h4⟩ := nw.rd i w h2
    exact ⟨v, by rw [← h i h1]; exact h3, h4⟩, nw.kd⟩
theorem now_out (nw : Now G P H σ ρ F) (hP : P D = none) (hF : ∀ i, ¬ F i D) : Now G P (upd H D o) σ ρ F := by
  have nD : ∀ i b, F i b → b ≠ D := fun i b h e => hF i (e ▸ h)
  refine ⟨fun b u h => by rw [upd_ne (fun e => by rw [e, hP] at h; cases h)]; exact nw.ex b u h, nw.dj, nw.np, fun i b h => by rw [upd_ne (nD i b h)]; exact nw.al i b h, fun i w h => ?_, fun i b u h e => ?_⟩
  · obtain ⟨v, h1, h2⟩ := nw.rd i w h
    exact ⟨v, h1, h2.mono (Same.refl P) (fun b u hb q => by rw [upd_ne (nD i b hb)]; exact q) fun _ z => z⟩
  · rw [upd_ne (nD i b h)] at e
    exact nw.kd i b u h e
theorem stp_out (s : Stp P H F P1 H1 F1) (hD : H D = none) : Stp P H F P1 (upd H1 D o) F1 := by
  refine ⟨s.ex, fun b u h hf => ?_, s.sub, s.pn, fun b h => ?_⟩
  · rw [upd_ne (fun e => by rw [e, hD] at h; cases h)]
    exact s.fr b u h hf
  · by_cases e : b = D
    · rw [e, upd_same]; exact fun z => nomatch z
    · rw [upd_ne e]; exact s.al b h
/-- the environment without the block's own names -/
def cutF (F : Nat → Ad) (vs : List Nat) : Nat → Ad := fun i b => i ∉ vs ∧ F i b
def glueF (F1 F : Nat → Ad) (vs : List Nat) : Nat → Ad := fun i b => (i ∈ vs ∧ F1 i b) ∨ (i ∉ vs ∧ F i b)
theorem now_cut (nw : Now G P H σ ρ F) : Now G P H (wipe σ vs) (wipeR ρ vs) (cutF F vs) :=
  ⟨nw.ex, fun i j a h1 h2 => nw.dj i j a h1.2 h2.2, fun i b h => nw.np i b h.2, fun i b h => nw.al i b h.2, fun i w e => by
    obtain ⟨h1, h2⟩ := wipeR_in e
    obtain ⟨v, h3, h4⟩ := nw.rd i w h2
    exact ⟨v, by rw [wipe_out h1]; exact h3, h4.mono (Same.refl P) (fun _ _ _ q => q) fun b hb => ⟨h1, hb⟩⟩, fun i b u h e => nw.kd i b u h.2 e⟩
theorem now_glue (n1 : Now G P1 H1 σ ρ1 F1) (n2 : Now G P2 H2 (wipe σ vs) (wipeR ρ vs) F2) (s : Stp P1 H1 (cutF F1 vs) P2 H2 F2) : Now G P2 H2 σ (restR ρ1 ρ vs) (glueF F1 F2 vs) ∧ Stp P1 H1 F1 P2 H2 (glueF F1 F2 vs) := by
  have off : ∀ i b, i ∈ vs → F1 i b → ∀ k, ¬ cutF F1 vs k b := fun i b hi h k q => q.1 (by rw [← n1.dj i k b h q.2]; exact hi)
  refine ⟨⟨n2.ex, ?_, ?_, ?_, fun i w h => ?_, ?_⟩, ⟨s.ex, fun b u h hf => s.fr b u h fun i q => hf i q.2, ?_, fun b h => ?_, s.al⟩⟩
  · rintro i k a (⟨h1, h2⟩ | ⟨h1, h2⟩) (⟨h3, h4⟩ | ⟨h3, h4⟩)
    · exact n1.dj i k a h2 h4
    · exact (s.out (n1.al i a h2) (off i a h1 h2) k h4).elim
    · exact (s.out (n1.al k a h4) (off k a h3 h4) i h2).elim
    · exact n2.dj i k a h2 h4
  · rintro i b (⟨h1, h2⟩ | ⟨h1, h2⟩)
    · refine Classical.byContradiction fun q => ?_
      rcases s.pn b q with z | ⟨k, z⟩ | z
      · exact z (n1.np i b h2)
      · exact off i b h1 h2 k z
      · exact n1.al i b h2 z
    · exact n2.np i b h2
  · rintro i b (⟨h1, h2⟩ | ⟨h1, h2⟩)
    · exact s.al b (n1.al i b h2)
    · exact n2.al i b h2
  · rcases restR_in h with ⟨h1, h2⟩ | ⟨h1, h2⟩
    · obtain ⟨v, h3, h4⟩ := n1.rd i w h2
      exact ⟨v, h3, h4.mono s.ex (fun b u hb q => s.fr b u q (off i b h1 hb)) fun b hb => .inl ⟨h1, hb⟩⟩
    · have e : (wipeR ρ vs)[i]? = some (some w) := by
        have : ∀ {vs : List Nat}, i ∉ vs → (wipeR ρ vs)[i]? = ρ[i]? := by
          intro vs
          induction vs with
          | nil => intro _; rfl
          | cons v vs ih =>
            intro q
            unfold wipeR
            rw [List.getElem?_set_ne (fun e => q (by rw [e]; exact List.mem_cons_self))]
            exact ih fun m => q (List.mem_cons_of_mem _ m)
        rw [this h1]; exact h2
      obtain ⟨v, h3, h4⟩ := n2.rd i w e
      exact ⟨v, by rw [← wipe_out h1]; exact h3, h4.mono (Same.refl P2) (fun _ _ _ q => q) fun b hb => .inr ⟨h1, hb⟩⟩
  · rintro i b u (⟨h1, h2⟩ | ⟨h1, h2⟩) e
    · obtain ⟨o, ho⟩ := Option.ne_none_iff_exists'.mp (n1.al i b h2)
      rw [s.fr b o ho (off i b h1 h2)] at e
      cases e
      exact n1.kd i b _ h2 ho
    · exact n2.kd i b u h2 e
  · rintro i b (⟨h1, h2⟩ | ⟨h1, h2⟩)
    · exact .inl ⟨i, h2⟩
    · rcases s.sub i b h2 with ⟨k, q⟩ | q
      · exact .inl ⟨k, q.2⟩
      · exact .inr q
  · rcases s.pn b h with z | ⟨k, z⟩ | z
    · exact .inl z
    · exact .inr (.inl ⟨k, z.2⟩)
    · exact .inr (.inr z)
end

abbrev noW : WX := fun _ _ _ _ => False
section
variable {G : Glb} {W : WX} {σ : L2.St} {H : Hp} {Q : VK} {vs : List Nat} {fi : FI} {b : FB} {c : FT} {e : FE} {tt : TT}
theorem compL_len : ∀ {ds : List PyData} {ρ ρ' : Rho} {ds' : List PyData}, compL vs b c e ds ρ = .ok ds' ρ' → ds'.length ≤ ds.length
  | [], ρ, ρ', ds', h => by
    have h : Out.ok [] ρ = Out.ok ds' ρ' := h
    cases h
    exact Nat.le_refl _
  | d :: ds, ρ, ρ', ds', h => by
    unfold compL at h
    split at h
    · cases h
    · split at h
      · split at h
        · split at h
          · split at h
            · rename_i q
              cases h
              simpa using compL_len q
            · cases h
            · cases h
          · cases h
        · cases h
        · cases h
      · have := compL_len h
        simp; omega
      · cases h
      · cases h
/-- the reading of a comprehension -/
theorem comp_rd (ht : ∀ σ H Q, tT G noW c σ H Q → tt σ H Q) (h : tE G W (fComp vs fi b c e) σ H Q) : tLc (tI G W fi) (tG G σ.length (blkPi σ.length vs) b) tt (tE G noW e) vs σ H Q := by
  obtain ⟨ρ, P, F, nw, h⟩ := h
  refine ⟨ρ, P, F, nw, ?_⟩
  unfold fComp at h
  cases ei : fi ρ with
  | stk => rw [ei] at h; exact h.elim
  | exc c ρ1 => rw [ei] at h; exact h
  | ok ds ρ1 =>
    rw [ei] at h
    intro J P1 H1 F1 n1 s1 yl
    have h1 : EndO G W P1 H1 F1 σ Q (compE vs ρ1 ds (compL vs b c e ds ρ1)) := EndO.trans s1 h
    cases ec : compL vs b c e ds ρ1 with
    | stk => rw [ec] at h1; exact h1.elim
    | exc c ρ1 => rw [ec] at h1; exact h1.elim
    | ok dsF ρF =>
      rw [ec] at h1
      unfold compE at h1
      by_cases hz : ds.length ≤ 100000
      case neg => simp only [hz, if_false] at h1; exact h1.elim
      simp only [hz, if_true] at h1
      intro D hD
      have hP1 : P1 D = none := n1.ex.free hD
      have hF1 : ∀ i, ¬ F1 i D := fun i q => n1.al i D q hD
      refine ⟨fun i m H => m = ds.length - i ∧ i ≤ ds.length ∧ ∃ ρ' P' F' accV accD dsr, Now G P' H (wipe σ vs) (wipeR ρ' vs) F' ∧ Stp P1 H1 (cutF F1 vs) P' H F' ∧ H D = some (.lst accV) ∧ DpAll G.K P' accV accD ∧ P' D = none ∧ (∀ i, ¬ F' i D) ∧ accD.length ≤ i ∧
        compL vs b c e (ds.drop i) ρ' = .ok dsr ρF ∧ accD ++ dsr = dsF, ⟨_, rfl, Nat.zero_le _, ρ1, P1, cutF F1 vs, [], [], dsF, now_out (now_cut n1) hP1 (fun i q => hF1 i q.2), stp_out Stp.refl hD, upd_same, .nil, hP1, fun i q => hF1 i q.2, Nat.zero_le _, ec, rfl⟩, ?_⟩
      rintro i m H2 ⟨rfl, hi, ρ2, P2, F2, accV, accD, dsr, n2, s2, hD2, dA, hP2, hF2, hlen, hc, happ⟩
      obtain ⟨y1, y2⟩ := yl i P2 H2 s2.ex n2.ex
      by_cases hlt : i < ds.length
      · obtain ⟨go, y3⟩ := y2 hlt
        refine .inr ⟨go, fun H => i + 1 ≤ ds.length ∧ ∃ ρ' P' F' accV accD dsr, Now G P' H (wipe σ vs) (wipeR ρ' vs) F' ∧ Stp P1 H1 (cutF F1 vs) P' H F' ∧ H D = some (.lst accV) ∧ DpAll G.K P' accV accD ∧ P' D = none ∧ (∀ i, ¬ F' i D) ∧ accD.length ≤ i + 1 ∧
          compL vs b c e (ds.drop (i + 1)) ρ' = .ok dsr ρF ∧ accD ++ dsr = dsF, fun H' ⟨q1, q2⟩ => ⟨_, by omega, rfl, q1, q2⟩, fun x H3 hy => ?_⟩
        obtain ⟨P3, d, al, hd, hdp⟩ := y3 x H3 hy
        have ed : ds.drop i = d :: ds.drop (i + 1) := by
          rw [List.drop_eq_getElem_cons hlt]
          have := (List.getElem?_eq_some_iff.mp hd).2
          rw [this]
        rw [ed] at hc
        unfold compL at hc
        cases eb : b d (wipeR ρ2 vs) with
        | none => rw [eb] at hc; cases hc
        | some ρ3 =>
          simp only [eb] at hc
          have n3 := al.now n2
          have s3 := s2.trans al.stp
          -- what stays with the new list, through any step
          have kD : ∀ {P5 H5 : Hp} {F5 : Nat → Ad}, Stp P3 H3 F2 P5 H5 F5 → H5 D = some (.lst accV) ∧ P5 D = none ∧ (∀ i, ¬ F5 i D) := fun {P5 H5 F5} s => by
            have hD3 : H3 D = some (.lst accV) := al.exH D _ hD2
            have hP3 : P3 D = none := by
              refine Classical.byContradiction fun q => ?_
              rcases al.pn D q with z | z
              · exact z hP2
              · rw [hD2] at z; cases z
            refine ⟨s.fr D _ hD3 hF2, ?_, s.out (by rw [hD3]; exact fun z => nomatch z) hF2⟩
            refine Classical.byContradiction fun q => ?_
            rcases s.pn D q with z | ⟨k, z⟩ | z
            · exact z hP3
            · exact hF2 k z
            · rw [hD3] at z; cases z
          refine ⟨wipeR ρ2 vs, P3, F2, d, ρ3, n3, wipe_length _ _, hdp, eb, fun σ4 F4 n4 s4 k4 => ⟨wipe_same rfl k4, ht _ _ _ ?_⟩⟩
          have off4 : ∀ j, j ∉ vs → σ4[j]? = (wipe σ vs)[j]? := fun j hj => by
            have := wipe_same rfl k4
            rw [← wipe_out (σ := σ4) hj, this]
          refine ⟨ρ3, P3, F4, n4, ?_⟩
          cases etc : c ρ3 with
          | stk => rw [etc] at hc; cases hc
          | exc c' ρ4 => rw [etc] at hc; cases hc
          | ok t ρ4 =>
            intro P5 H5 F5 n5 s5
            cases t with
            | false =>
              simp only [etc] at hc
              rw [if_neg Bool.false_ne_true]
              obtain ⟨k1, k2, k3⟩ := kD (s4.trans s5)
              exact ⟨hlt, ρ4, P5, F5, accV, accD, dsr, now_wipe n5 off4, s3.trans (s4.trans s5), k1, dpa_mono (al.exP.trans (s4.trans s5).ex) _ _ dA, k2, k3, by omega, hc, happ⟩
            | true =>
              simp only [etc] at hc
              rw [if_pos rfl]
              refine ⟨ρ4, P5, F5, n5, ?_⟩
              cases ee : e ρ4 with
              | stk => rw [ee] at hc; cases hc
              | exc c' ρ6 => rw [ee] at hc; cases hc
              | ok o ρ6 =>
                intro y P6 H6 F6 S6 n6 s6 hy6 src6
                simp only [ee] at hc
                cases ef : frz1 ρ6 o with
                | none => rw [ef] at hc; cases hc
                | some p =>
                  obtain ⟨d', ρ7⟩ := p
                  simp only [ef] at hc
                  cases er : compL vs b c e (ds.drop (i + 1)) ρ7 with
                  | stk => rw [er] at hc; cases hc
                  | exc c' ρ8 => rw [er] at hc; cases hc
                  | ok dsr' ρ8 =>
                    simp only [er] at hc
                    cases hc
                    obtain ⟨P7, F7, n7, d7, z7⟩ := frz1_ok n6 hy6 ef
                    have sAll := s4.trans (s5.trans s6)
                    have s7 : Stp P3 H3 F2 P7 H6 F7 := z7.stp sAll fun b hb => by
                      rcases src6 b hb with ⟨k, q⟩ | q
                      · exact (s4.trans s5).sub k b q
                      · exact .inr (Classical.byContradiction fun q' => (s4.trans s5).al b q' q)
                    obtain ⟨k1, k2, k3⟩ := kD s7
                    have hl := dpa_len _ _ dA
                    refine ⟨accV, k1, by rw [sizeLine_eq]; omega, hlt, ρ7, P7, F7, accV ++ [y], accD ++ [d'], dsr', now_out (now_wipe n7 off4) k2 k3, stp_out (s3.trans s7) hD, upd_same, dpa_app (dpa_mono (al.exP.trans s7.ex) _ _ dA) (.cons d7 .nil), k2, k3, ?_, er, ?_⟩
                    · rw [List.length_append, List.length_singleton]; omega
                    · rw [List.append_assoc]; exact happ
      · have ed : ds.drop i = [] := List.drop_eq_nil_of_le (by omega)
        rw [ed] at hc
        have hc : Out.ok [] ρ2 = Out.ok dsr ρF := hc
        cases hc
        rw [List.append_nil] at happ
        subst happ
        obtain ⟨nG, sG⟩ := now_glue n1 n2 s2
        refine .inl ⟨y1 (by omega), h1 _ P2 H2 _ (fun x => x = D) nG sG ⟨⟨D, accV, rfl, rfl, hD2, dA⟩, fun b hb => by rw [hb]; exact hP2, fun b hb => by rw [hb, hD2]; exact Option.some_ne_none _, fun b hb i q => ?_, fun b u hb e => by rw [hb, hD2] at e; cases e; rfl⟩ fun b hb => .inr (by rw [hb]; exact hD)⟩
        rw [hb] at q
        rcases q with ⟨_, q⟩ | ⟨_, q⟩
        · exact hF1 i q
        · exact hF2 i q
end
end Mi
end
section
set_option Elab.async false
set_option linter.all false
set_option maxRecDepth 100000
/-! Ev16: comprehensions: the rules; two clauses -/
namespace Mi
open PySem PySem.Spec PyProof.Rows L2

noncomputable def compL2 (vs vs1 : List Nat) (b : FB) (c : FT) (fi1 : FI) (b1 : FB) (c1 : FT) (e : FE) : List PyData → Rho → Out (List PyData)
  | [], ρ => .ok [] ρ
  | d :: ds, ρ => match b d (wipeR ρ vs) with
    | none => .stk
    | some ρ1 => match c ρ1 with
      | .ok true ρ2 => match fi1 ρ2 with
        | .ok ds1 ρ3 => match compL vs1 b1 c1 e ds1 ρ3 with
          | .ok r1 ρ4 => match compL2 vs vs1 b c fi1 b1 c1 e ds ρ4 with
            | .ok r2 ρ5 => .ok (r1 ++ r2) ρ5
            | .exc _ _ => .stk
            | .stk => .stk
          | .exc _ _ => .stk
          | .stk => .stk
        | .exc _ _ => .stk
        | .stk => .stk
      | .ok false ρ2 => compL2 vs vs1 b c fi1 b1 c1 e ds ρ2
      | .exc _ _ => .stk
      | .stk => .stk
noncomputable def compE2 (vs : List Nat) (ρ1 : Rho) : Out (List PyData) → Out Opd
  | .ok ds' ρ2 => if ds'.length ≤ 100000 then .ok (.val (.ml ds')) (restR ρ1 ρ2 vs) else .stk
  | .exc _ _ => .stk
  | .stk => .stk
noncomputable def fComp2 (vs vs1 : List Nat) (fi : FI) (b : FB) (c : FT) (fi1 : FI) (b1 : FB) (c1 : FT) (e : FE) : FE := fun ρ => (fi ρ).bind fun ds ρ1 => compE2 vs ρ1 (compL2 vs vs1 b c fi1 b1 c1 e ds ρ1)

/-- the new list at D stands at acc, in a state -/
structure Acc (G : Glb) (Pb P1 H1 : Hp) (F0 : Nat → Ad) (D : Addr) (dsF rest : List PyData) (σ : L2.St) (ρ : Rho) (P H : Hp) (F : Nat → Ad) : Prop where
  nw : Now G P H σ ρ F
  st : Stp P1 H1 F0 P H F
  ls : ∃ accV accD, H D = some (.lst accV) ∧ DpAll G.K P accV accD ∧ accD ++ rest = dsF
  np : P D = none
  nf : ∀ i, ¬ F i D
  bs : Same Pb P
section
variable {G : Glb} {W : WX} {σ σ' : L2.St} {H H1 H2 P P1 P2 Pb : Hp} {F F0 F2 : Nat → Ad} {Q : VK} {vs vs1 : List Nat} {fi fi1 : FI} {b b1 : FB} {c c1 : FT} {e : FE} {tt tt1 : TT} {D : Addr} {dsF rest : List PyData} {ρ ρ' : Rho} {S : Ad} {y : V} {o : Opd} {d' : PyData}
theorem Acc.step (a : Acc G Pb P1 H1 F0 D dsF rest σ ρ P H F) (n2 : Now G P2 H2 σ' ρ' F2) (s : Stp P H F P2 H2 F2) : Acc G Pb P1 H1 F0 D dsF rest σ' ρ' P2 H2 F2 := by
  obtain ⟨nw, st, ⟨accV, accD, h1, h2, h3⟩, np, nf, bs⟩ := a
  refine ⟨n2, st.trans s, ⟨accV, accD, s.fr D _ h1 nf, dpa_mono s.ex _ _ h2, h3⟩, ?_, s.out (by rw [h1]; exact Option.some_ne_none _) nf, bs.trans s.ex⟩
  refine Classical.byContradiction fun q => ?_
  rcases s.pn D q with z | ⟨k, z⟩ | z
  · exact z np
  · exact nf k z
  · rw [h1] at z; cases z
theorem Acc.re (a : Acc G Pb P1 H1 F0 D dsF rest σ ρ P H F) (n2 : Now G P H σ' ρ' F) : Acc G Pb P1 H1 F0 D dsF rest σ' ρ' P H F := a.step n2 Stp.refl
theorem Acc.of_base (a : Acc G Pb P1 H1 F0 D dsF rest σ ρ P H F) (Pc : Hp) (h : Same Pc P) : Acc G Pc P1 H1 F0 D dsF rest σ ρ P H F := ⟨a.nw, a.st, a.ls, a.np, a.nf, h⟩
theorem Acc.rebase (a : Acc G Pb P1 H1 F0 D dsF rest σ ρ P H F) : Acc G P P1 H1 F0 D dsF rest σ ρ P H F := a.of_base P (Same.refl P)
theorem now_wipe2 (nw : Now G P H σ (wipeR ρ vs1) F) (hv : ∀ j ∈ vs1, j ∈ vs) (h : ∀ j, j ∉ vs → σ[j]? = σ'[j]?) : Now G P H σ' (wipeR ρ vs) F :=
  ⟨nw.ex, nw.dj, nw.np, nw.al, fun i w e => by
    obtain ⟨h1, h2⟩ := wipeR_in e
    have h3 : (wipeR ρ vs1)[i]? = some (some w) := by
      have : ∀ {us : List Nat}, i ∉ us → (wipeR ρ us)[i]? = ρ[i]? := by
        intro us
        induction us with
        | nil => intro _; rfl
        | cons v us ih =>
          intro q
          unfold wipeR
          rw [List.getElem?_set_ne (fun e => q (by rw [e]; exact List.mem_cons_self))]
          exact ih fun m => q (List.mem_cons_of_mem _ m)
      rw [this fun m => h1 (hv i m)]; exact h2
    obtain ⟨v, h4, h5⟩ := nw.rd i w h3
    exact ⟨v, by rw [← h i h1]; exact h4, h5⟩, nw.kd⟩
/-- an item is appended -/
theorem Acc.app (a : Acc G Pb P1 H1 F0 D dsF (d' :: rest) σ ρ P H F) (hD : H1 D = none) (hl : dsF.length ≤ 100000) (hd : Dp G.K P y d') : ∃ acc, H D = some (.lst acc) ∧ acc.length < sizeLine ∧ Acc G Pb P1 H1 F0 D dsF rest σ ρ P (upd H D (.lst (acc ++ [y]))) F := by
  obtain ⟨nw, st, ⟨accV, accD, h1, h2, h3⟩, np, nf, bs⟩ := a
  have l1 := dpa_len _ _ h2
  have l2 : accD.length + (rest.length + 1) = dsF.length := by rw [← h3]; simp
  refine ⟨accV, h1, by rw [sizeLine_eq]; omega, now_out nw np nf, stp_out st hD, ⟨accV ++ [y], accD ++ [d'], upd_same, dpa_app h2 (.cons hd .nil), ?_⟩, np, nf, bs⟩
  rw [List.append_assoc]
  exact h3
/-- one turn: bind, test, evaluate, append -/
theorem turn_rd {Nx : Hp → Prop} {x : V} {d : PyData} {ds rr dsr : List PyData} {ρE : Rho} (ht : ∀ σ H Q, tT G noW c σ H Q → tt σ H Q) (hD : H1 D = none) (hl : dsF.length ≤ 100000)
    (a : Acc G Pb P1 H1 F0 D dsF (dsr ++ rr) (wipe σ vs) (wipeR ρ vs) P H F) (hx : Dp G.K P x d) (hc : compL vs b c e (d :: ds) ρ = .ok dsr ρE)
    (hN : ∀ ρ' P' F' dsr' H', Acc G Pb P1 H1 F0 D dsF (dsr' ++ rr) (wipe σ vs) (wipeR ρ' vs) P' H' F' → compL vs b c e ds ρ' = .ok dsr' ρE → Nx H') :
    tG G σ.length (blkPi σ.length vs) b x (wipe σ vs) H fun σ2 H2 => wipe σ2 vs = wipe σ vs ∧ tt σ2 H2 fun b H3 => if b = true then tE G noW e σ2 H3 (fun y H4 => ∃ acc, H4 D = some (.lst acc) ∧ acc.length < sizeLine ∧ Nx (upd H4 D (.lst (acc ++ [y])))) else Nx H3 := by
  unfold compL at hc
  cases eb : b d (wipeR ρ vs) with
  | none => rw [eb] at hc; cases hc
  | some ρ3 =>
    simp only [eb] at hc
    refine ⟨wipeR ρ vs, P, F, d, ρ3, a.nw, wipe_length _ _, hx, eb, fun σ4 F4 n4 s4 k4 => ⟨wipe_same rfl k4, ht _ _ _ ?_⟩⟩
    have off4 : ∀ j, j ∉ vs → σ4[j]? = (wipe σ vs)[j]? := fun j hj => by
      have := wipe_same rfl k4
      rw [← wipe_out (σ := σ4) hj, this]
    have a4 := a.step n4 s4
    refine ⟨ρ3, P, F4, n4, ?_⟩
    cases etc : c ρ3 with
    | stk => rw [etc] at hc; cases hc
    | exc c' ρ4 => rw [etc] at hc; cases hc
    | ok t ρ4 =>
      intro P5 H5 F5 n5 s5
      have a5 := a4.step n5 s5
      cases t with
      | false =>
        simp only [etc] at hc
        rw [if_neg Bool.false_ne_true]
        exact hN ρ4 P5 F5 dsr H5 (a5.re (now_wipe n5 off4)) hc
      | true =>
        simp only [etc] at hc
        rw [if_pos rfl]
        refine ⟨ρ4, P5, F5, n5, ?_⟩
        cases ee : e ρ4 with
        | stk => rw [ee] at hc; cases hc
        | exc c' ρ6 => rw [ee] at hc; cases hc
        | ok o ρ6 =>
          intro y P6 H6 F6 S6 n6 s6 hy6 src6
          simp only [ee] at hc
          cases ef : frz1 ρ6 o with
          | none => rw [ef] at hc; cases hc
          | some p =>
            obtain ⟨d', ρ7⟩ := p
            simp only [ef] at hc
            cases er : compL vs b c e ds ρ7 with
            | stk => rw [er] at hc; cases hc
            | exc c' ρ8 => rw [er] at hc; cases hc
            | ok dsr' ρ8 =>
              simp only [er] at hc
              cases hc
              obtain ⟨P7, F7, n7, d7, z7⟩ := frz1_ok n6 hy6 ef
              have a7 : Acc G Pb P1 H1 F0 D dsF (d' :: (dsr' ++ rr)) σ4 ρ7 P7 H6 F7 := a5.step n7 (z7.stp s6 src6)
              obtain ⟨acc, q1, q2, q3⟩ := a7.app hD hl d7
              exact ⟨acc, q1, q2, hN ρ7 P7 F7 dsr' _ (q3.re (now_wipe q3.nw off4)) er⟩
theorem comp2_rd (ht : ∀ σ H Q, tT G noW c σ H Q → tt σ H Q) (ht1 : ∀ σ H Q, tT G noW c1 σ H Q → tt1 σ H Q) (hv : ∀ j ∈ vs1, j ∈ vs) (h : tE G W (fComp2 vs vs1 fi b c fi1 b1 c1 e) σ H Q) :
    tLc2 (tI G W fi) (tG G σ.length (blkPi σ.length vs) b) tt (tI G noW fi1) (tG G σ.length (blkPi σ.length vs1) b1) tt1 (tE G noW e) vs vs1 σ H Q := by
  obtain ⟨ρ, P, F, nw, h⟩ := h
  refine ⟨ρ, P, F, nw, ?_⟩
  unfold fComp2 at h
  cases ei : fi ρ with
  | stk => rw [ei] at h; exact h.elim
  | exc c ρ1 => rw [ei] at h; exact h
  | ok ds ρ1 =>
    rw [ei] at h
    intro J P1 H1 F1 n1 s1 yl
    have h1 : EndO G W P1 H1 F1 σ Q (compE2 vs ρ1 (compL2 vs vs1 b c fi1 b1 c1 e ds ρ1)) := EndO.trans s1 h
    cases ec : compL2 vs vs1 b c fi1 b1 c1 e ds ρ1 with
    | stk => rw [ec] at h1; exact h1.elim
    | exc c ρ1 => rw [ec] at h1; exact h1.elim
    | ok dsF ρF =>
      rw [ec] at h1
      unfold compE2 at h1
      by_cases hz : dsF.length ≤ 100000
      case neg => simp only [hz, if_false] at h1; exact h1.elim
      simp only [hz, if_true] at h1
      intro D hD
      have hP1 : P1 D = none := n1.ex.free hD
      have hF1 : ∀ i, ¬ F1 i D := fun i q => n1.al i D q hD
      refine ⟨fun i m H => m = ds.length - i ∧ i ≤ ds.length ∧ ∃ ρ' P' F' dsr, Acc G P1 P1 H1 (cutF F1 vs) D dsF dsr (wipe σ vs) (wipeR ρ' vs) P' H F' ∧ compL2 vs vs1 b c fi1 b1 c1 e (ds.drop i) ρ' = .ok dsr ρF,
        ⟨_, rfl, Nat.zero_le _, ρ1, P1, cutF F1 vs, dsF, ⟨now_out (now_cut n1) hP1 (fun i q => hF1 i q.2), stp_out Stp.refl hD, ⟨[], [], upd_same, .nil, rfl⟩, hP1, fun i q => hF1 i q.2, Same.refl _⟩, ec⟩, ?_⟩
      rintro i m H2 ⟨rfl, hi, ρ2, P2, F2, dsr, a2, hc⟩
      obtain ⟨y1, y2⟩ := yl i P2 H2 a2.st.ex a2.nw.ex
      by_cases hlt : i < ds.length
      · obtain ⟨go, y3⟩ := y2 hlt
        refine .inr ⟨go, fun H => i + 1 ≤ ds.length ∧ ∃ ρ' P' F' dsr, Acc G P1 P1 H1 (cutF F1 vs) D dsF dsr (wipe σ vs) (wipeR ρ' vs) P' H F' ∧ compL2 vs vs1 b c fi1 b1 c1 e (ds.drop (i + 1)) ρ' = .ok dsr ρF, fun H' ⟨q1, q2⟩ => ⟨_, by omega, rfl, q1, q2⟩, fun x H3 hy => ?_⟩
        obtain ⟨P3, d, al, hd, hdp⟩ := y3 x H3 hy
        have ed : ds.drop i = d :: ds.drop (i + 1) := by
          rw [List.drop_eq_getElem_cons hlt]
          have := (List.getElem?_eq_some_iff.mp hd).2
          rw [this]
        rw [ed] at hc
        unfold compL2 at hc
        have a3 := a2.step (al.now a2.nw) al.stp
        cases eb : b d (wipeR ρ2 vs) with
        | none => rw [eb] at hc; cases hc
        | some ρ3 =>
          simp only [eb] at hc
          refine ⟨wipeR ρ2 vs, P3, F2, d, ρ3, a3.nw, wipe_length _ _, hdp, eb, fun σ4 F4 n4 s4 k4 => ⟨wipe_same rfl k4, ht _ _ _ ?_⟩⟩
          have off4 : ∀ j, j ∉ vs → σ4[j]? = (wipe σ vs)[j]? := fun j hj => by
            have := wipe_same rfl k4
            rw [← wipe_out (σ := σ4) hj, this]
          have l4 : σ4.length = σ.length := by rw [k4.len]
          have a4 := a3.step n4 s4
          refine ⟨ρ3, P3, F4, n4, ?_⟩
          cases etc : c ρ3 with
          | stk => rw [etc] at hc; cases hc
          | exc c' ρ4 => rw [etc] at hc; cases hc
          | ok t ρ4 =>
            intro P5 H5 F5 n5 s5
            have a5 := a4.step n5 s5
            cases t with
            | false =>
              simp only [etc] at hc
              rw [if_neg Bool.false_ne_true]
              exact ⟨hlt, ρ4, P5, F5, dsr, a5.re (now_wipe n5 off4), hc⟩
            | true =>
              simp only [etc] at hc
              rw [if_pos rfl]
              refine ⟨ρ4, P5, F5, n5, ?_⟩
              cases ef : fi1 ρ4 with
              | stk => rw [ef] at hc; cases hc
              | exc c' ρ6 => rw [ef] at hc; cases hc
              | ok ds1 ρ6 =>
                simp only [ef] at hc
                intro J1 P6 H6 F6 n6 s6 yl1
                have a6 := a5.step n6 s6
                cases e1 : compL vs1 b1 c1 e ds1 ρ6 with
                | stk => rw [e1] at hc; cases hc
                | exc c' ρ7 => rw [e1] at hc; cases hc
                | ok r1 ρ7 =>
                  simp only [e1] at hc
                  cases e2 : compL2 vs vs1 b c fi1 b1 c1 e (ds.drop (i + 1)) ρ7 with
                  | stk => rw [e2] at hc; cases hc
                  | exc c' ρ8 => rw [e2] at hc; cases hc
                  | ok r2 ρ8 =>
                    simp only [e2] at hc
                    cases hc
                    have w4 : Now G P6 H6 (wipe σ4 vs1) (wipeR ρ6 vs1) F6 := now_wipe n6 fun j hj => (wipe_out hj).symm
                    refine ⟨fun j k H => k = ds1.length - j ∧ j ≤ ds1.length ∧ ∃ ρ' P' F' dsr', Acc G P6 P1 H1 (cutF F1 vs) D dsF (dsr' ++ r2) (wipe σ4 vs1) (wipeR ρ' vs1) P' H F' ∧ compL vs1 b1 c1 e (ds1.drop j) ρ' = .ok dsr' ρ7,
                      ⟨_, rfl, Nat.zero_le _, ρ6, P6, F6, r1, (a6.re w4).rebase, e1⟩, ?_⟩
                    rintro j k H9 ⟨rfl, hj, ρ9, P9, F9, dsr9, a9, c9⟩
                    obtain ⟨z1, z2⟩ := yl1 j P9 H9 a9.bs a9.nw.ex
                    by_cases hjt : j < ds1.length
                    · obtain ⟨go1, z3⟩ := z2 hjt
                      refine .inr ⟨go1, fun H => j + 1 ≤ ds1.length ∧ ∃ ρ' P' F' dsr', Acc G P6 P1 H1 (cutF F1 vs) D dsF (dsr' ++ r2) (wipe σ4 vs1) (wipeR ρ' vs1) P' H F' ∧ compL vs1 b1 c1 e (ds1.drop (j + 1)) ρ' = .ok dsr' ρ7, fun H' ⟨q1, q2⟩ => ⟨_, by omega, rfl, q1, q2⟩, fun x1 H10 hy1 => ?_⟩
                      obtain ⟨P10, d1, al1, hd1, hdp1⟩ := z3 x1 H10 hy1
                      have ed1 : ds1.drop j = d1 :: ds1.drop (j + 1) := by
                        rw [List.drop_eq_getElem_cons hjt]
                        have := (List.getElem?_eq_some_iff.mp hd1).2
                        rw [this]
                      rw [ed1] at c9
                      have a10 := a9.step (al1.now a9.nw) al1.stp
                      rw [← l4]
                      exact turn_rd ht1 hD hz a10 hdp1 c9 fun ρ' P' F' dsr' H' aN cN => ⟨hjt, ρ', P', F', dsr', aN, cN⟩
                    · have ed1 : ds1.drop j = [] := List.drop_eq_nil_of_le (by omega)
                      rw [ed1] at c9
                      have c9 : Out.ok [] ρ9 = Out.ok dsr9 ρ7 := c9
                      cases c9
                      exact .inl ⟨z1 (by omega), hlt, _, P9, F9, r2, (a9.re (now_wipe2 a9.nw hv fun j hj => by rw [wipe_out fun m => hj (hv j m)]; exact off4 j hj)).of_base P1 a9.st.ex, e2⟩
      · have ed : ds.drop i = [] := List.drop_eq_nil_of_le (by omega)
        rw [ed] at hc
        have hc : Out.ok [] ρ2 = Out.ok dsr ρF := hc
        cases hc
        obtain ⟨accV, accD, q1, q2, q3⟩ := a2.ls
        rw [List.append_nil] at q3
        subst q3
        obtain ⟨nG, sG⟩ := now_glue n1 a2.nw a2.st
        refine .inl ⟨y1 (by omega), h1 _ P2 H2 _ (fun x => x = D) nG sG ⟨⟨D, accV, rfl, rfl, q1, q2⟩, fun b hb => by rw [hb]; exact a2.np, fun b hb => by rw [hb, q1]; exact Option.some_ne_none _, fun b hb i q => ?_, fun b u hb e => by rw [hb, q1] at e; cases e; rfl⟩ fun b hb => .inr (by rw [hb]; exact hD)⟩
        rw [hb] at q
        rcases q with ⟨_, q⟩ | ⟨_, q⟩
        · exact hF1 i q
        · exact a2.nf i q
end
end Mi
end
section
set_option Elab.async false
set_option linter.all false
set_option maxRecDepth 100000
/-! Ev17: the rules for comprehensions; the def of a list's place; try; the body of a def -/
namespace Mi
open PySem PySem.Spec PyProof.Rows L2

theorem Cxt.blk {G : Glb} {X : Cx} {W : WX} {k : Nat} (c : Cxt G X W k) (s : Shared) (H : Hp) (scope : Scope) (cenv : Env) (fp : List Addr) : Cxt G (X.blk s H scope cenv fp) noW k :=
  ⟨c.K, c.calm, c.room, c.gd, fun _ _ x => by
    obtain ⟨_, _, _, _, _, _, _, _, _, _, _, _, _, _, _, _, z⟩ := x
    exact z.elim, c.nd⟩
section
variable {X : Cx} {G : Glb} {W : WX} {k n i : Nat} {π : List Bool} {elt tg iter tg1 iter1 t t1 : Expr} {scope : Scope} {own : List (Str × Nat)} {vs vs1 : List Nat} {pos spos py : Pos} {fi fi1 : FI} {b b1 : FB} {c c1 : FT} {e : FE} {y : Str} {tt tt1 : TT} {ifs ifs1 : List Expr}
/-- the tests of a clause -/
structure Tst (G : Glb) (X : Cx) (ifs : List Expr) (c : FT) : Prop where
  ex : ∃ tt, PTs X ifs tt ∧ ∀ σ H Q, tT G noW c σ H Q → tt σ H Q
theorem tst0 : Tst G X [] cT := ⟨tYes, pts_nil, fun σ H Q ⟨ρ, P, F, nw, h⟩ => h P H F nw Stp.refl⟩
theorem tst1 (h : PT X t (tT G noW c)) : Tst G X [t] c := ⟨_, pts_one h, fun _ _ _ h => h⟩
theorem tI_len (hn : n = X.N.length) : n = X.N.length := hn
/-- [elt for tg in iter if ..] -/
theorem e_comp (cx : Cxt G X W k) (hn : X.N.length = n) (hi : PI X tg iter (tI G W fi)) (ok : blkC X.N X.env.scope scope own = true) (hvs : own.map (·.2) = vs) (hp : blkPi n vs = π)
    (hg : ∀ (s : Shared) (H : Hp) (C : Addr) (cl : List (Str × Addr)) (fp : List Addr), PG (X.blk s H scope (compEnvC scope cl C X.env) fp) tg (tG G n π b))
    (ht : ∀ (s : Shared) (H : Hp) (C : Addr) (cl : List (Str × Addr)) (fp : List Addr), PTs (X.blk s H scope (compEnvC scope cl C X.env) fp) ifs tt) (htt : ∀ σ H Q, tT G noW c σ H Q → tt σ H Q)
    (he : ∀ (s : Shared) (H : Hp) (C : Addr) (cl : List (Str × Addr)) (fp : List Addr), PE (X.blk s H scope (compEnvC scope cl C X.env) fp) elt (tE G noW e)) (hs : ∀ x, foldedSetIterable iter X.env x = pure x := by intro _; rfl) :
    PE X (.ListComp elt [⟨tg, iter, ifs, 0⟩] scope pos) (tE G W (fComp vs fi b c e)) := by
  constructor
  intro pins s σ H Q I h
  have hl : σ.length = n := I.len.trans hn
  subst hvs hp
  exact (pe_lc (wi := tI G W fi) (te := tE G noW e) cx.calm cx.nd hi (blkOk_by ok) hg ht he hs).run pins s σ H Q I (by rw [← hl]; exact comp_rd htt h)
/-- name = [..] -/
theorem s_setComp (cx : Cxt G X W k) (hn : X.N.length = n) (hy : X.N[i]? = some y) (hyl : X.env.scope.names.lookup y = some .local) (hin : i < n) (hpi : ioAt π i = false) (hi : PI X tg iter (tI G W fi)) (ok : blkC X.N X.env.scope scope own = true) (hvs : own.map (·.2) = vs) {π' : List Bool} (hp : blkPi n vs = π')
    (hg : ∀ (s : Shared) (H : Hp) (C : Addr) (cl : List (Str × Addr)) (fp : List Addr), PG (X.blk s H scope (compEnvC scope cl C X.env) fp) tg (tG G n π' b))
    (ht : ∀ (s : Shared) (H : Hp) (C : Addr) (cl : List (Str × Addr)) (fp : List Addr), PTs (X.blk s H scope (compEnvC scope cl C X.env) fp) ifs tt) (htt : ∀ σ H Q, tT G noW c σ H Q → tt σ H Q)
    (he : ∀ (s : Shared) (H : Hp) (C : Addr) (cl : List (Str × Addr)) (fp : List Addr), PE (X.blk s H scope (compEnvC scope cl C X.env) fp) elt (tE G noW e)) (hs : ∀ x, foldedSetIterable iter X.env x = pure x := by intro _; rfl)
    (hsw : swapsWith (.ListComp elt [⟨tg, iter, ifs, 0⟩] scope pos) (some (.Name y py)) spos.line X.env = pure true) :
    PS X (.Assign [.Name y py] (.ListComp elt [⟨tg, iter, ifs, 0⟩] scope pos) spos) (tS G W n π (sSet i (fComp vs fi b c e))) := by
  constructor
  intro pins s σ H D I h
  have hl : σ.length = n := I.len.trans hn
  have h2 := set_rd hin hpi h
  subst hvs hp
  exact (ps_setLc (i := i) (wi := tI G W fi) (te := tE G noW e) cx.calm cx.nd hy hyl hsw hi (blkOk_by ok) hg ht he hs).run pins s σ H D I (by rw [← hl]; exact comp_rd htt h2)
theorem e_comp2 (cx : Cxt G X W k) (hn : X.N.length = n) (hi : PI X tg iter (tI G W fi)) (ok : blkC X.N X.env.scope scope own = true) (hvs : own.map (·.2) = vs) (hv : ∀ j ∈ vs1, j ∈ vs) {π1 : List Bool} (hp : blkPi n vs = π) (hp1 : blkPi n vs1 = π1)
    (hg : ∀ (s : Shared) (H : Hp) (C : Addr) (cl : List (Str × Addr)) (fp : List Addr), PG (X.blk s H scope (compEnvC scope cl C X.env) fp) tg (tG G n π b))
    (ht : ∀ (s : Shared) (H : Hp) (C : Addr) (cl : List (Str × Addr)) (fp : List Addr), PTs (X.blk s H scope (compEnvC scope cl C X.env) fp) ifs tt) (htt : ∀ σ H Q, tT G noW c σ H Q → tt σ H Q)
    (hi1 : ∀ (s : Shared) (H : Hp) (C : Addr) (cl : List (Str × Addr)) (fp : List Addr), PI (X.blk s H scope (compEnvC scope cl C X.env) fp) tg1 iter1 (tI G noW fi1))
    (hg1 : ∀ (s : Shared) (H : Hp) (C : Addr) (cl : List (Str × Addr)) (fp : List Addr), PG (X.blk s H scope (compEnvC scope cl C X.env) fp) tg1 (tG G n π1 b1))
    (ht1 : ∀ (s : Shared) (H : Hp) (C : Addr) (cl : List (Str × Addr)) (fp : List Addr), PTs (X.blk s H scope (compEnvC scope cl C X.env) fp) ifs1 tt1) (htt1 : ∀ σ H Q, tT G noW c1 σ H Q → tt1 σ H Q)
    (he : ∀ (s : Shared) (H : Hp) (C : Addr) (cl : List (Str × Addr)) (fp : List Addr), PE (X.blk s H scope (compEnvC scope cl C X.env) fp) elt (tE G noW e)) (hs : ∀ x, foldedSetIterable iter X.env x = pure x := by intro _; rfl) (hs1 : ∀ env x, foldedSetIterable iter1 env x = pure x := by intro _ _; rfl) :
    PE X (.ListComp elt [⟨tg, iter, ifs, 0⟩, ⟨tg1, iter1, ifs1, 0⟩] scope pos) (tE G W (fComp2 vs vs1 fi b c fi1 b1 c1 e)) := by
  constructor
  intro pins s σ H Q I h
  have hl : σ.length = n := I.len.trans hn
  subst hvs hp hp1
  exact (pe_lc2 (wi := tI G W fi) (te := tE G noW e) cx.calm cx.nd hi (blkOk_by ok) hv hg ht hi1 hg1 ht1 he hs hs1).run pins s σ H Q I (by rw [← hl]; exact comp2_rd htt htt1 hv h)
theorem s_setComp2 (cx : Cxt G X W k) (hn : X.N.length = n) (hy : X.N[i]? = some y) (hyl : X.env.scope.names.lookup y = some .local) (hin : i < n) (hpi : ioAt π i = false) (hi : PI X tg iter (tI G W fi)) (ok : blkC X.N X.env.scope scope own = true) (hvs : own.map (·.2) = vs) (hv : ∀ j ∈ vs1, j ∈ vs) {π' π1 : List Bool} (hp : blkPi n vs = π') (hp1 : blkPi n vs1 = π1)
    (hg : ∀ (s : Shared) (H : Hp) (C : Addr) (cl : List (Str × Addr)) (fp : List Addr), PG (X.blk s H scope (compEnvC scope cl C X.env) fp) tg (tG G n π' b))
    (ht : ∀ (s : Shared) (H : Hp) (C : Addr) (cl : List (Str × Addr)) (fp : List Addr), PTs (X.blk s H scope (compEnvC scope cl C X.env) fp) ifs tt) (htt : ∀ σ H Q, tT G noW c σ H Q → tt σ H Q)
    (hi1 : ∀ (s : Shared) (H : Hp) (C : Addr) (cl : List (Str × Addr)) (fp : List Addr), PI (X.blk s H scope (compEnvC scope cl C X.env) fp) tg1 iter1 (tI G noW fi1))
    (hg1 : ∀ (s : Shared) (H : Hp) (C : Addr) (cl : List (Str × Addr)) (fp : List Addr), PG (X.blk s H scope (compEnvC scope cl C X.env) fp) tg1 (tG G n π1 b1))
    (ht1 : ∀ (s : Shared) (H : Hp) (C : Addr) (cl : List (Str × Addr)) (fp : List Addr), PTs (X.blk s H scope (compEnvC scope cl C X.env) fp) ifs1 tt1) (htt1 : ∀ σ H Q, tT G noW c1 σ H Q → tt1 σ H Q)
    (he : ∀ (s : Shared) (H : Hp) (C : Addr) (cl : List (Str × Addr)) (fp : List Addr), PE (X.blk s H scope (compEnvC scope cl C X.env) fp) elt (tE G noW e)) (hs : ∀ x, foldedSetIterable iter X.env x = pure x := by intro _; rfl) (hs1 : ∀ env x, foldedSetIterable iter1 env x = pure x := by intro _ _; rfl)
    (hsw : swapsWith (.ListComp elt [⟨tg, iter, ifs, 0⟩, ⟨tg1, iter1, ifs1, 0⟩] scope pos) (some (.Name y py)) spos.line X.env = pure true) :
    PS X (.Assign [.Name y py] (.ListComp elt [⟨tg, iter, ifs, 0⟩, ⟨tg1, iter1, ifs1, 0⟩] scope pos) spos) (tS G W n π (sSet i (fComp2 vs vs1 fi b c fi1 b1 c1 e))) := by
  constructor
  intro pins s σ H D I h
  have hl : σ.length = n := I.len.trans hn
  have h2 := set_rd hin hpi h
  subst hvs hp hp1
  exact (ps_setLc2 (i := i) (wi := tI G W fi) (te := tE G noW e) cx.calm cx.nd hy hyl hsw hi (blkOk_by ok) hv hg ht hi1 hg1 ht1 he hs hs1).run pins s σ H D I (by rw [← hl]; exact comp2_rd htt htt1 hv h2)
end

/-! ### [f, g, ..][e](..) -/
section
variable {X : Cx} {G : Glb} {W : WX} {k : Nat} {e : Expr} {es : List Expr} {p pos p1 p2 : Pos} {fe : FE} {fa : FA}
/-- names of defs, their places, what they promise -/
structure Def1 (G : Glb) (X : Cx) (k : Nat) (io : List Bool) (nf : Expr) (spec : CSpec) : Prop where
  ex : ∃ (x : Str) (p : Pos) (f : Addr) (fd : FuncData) (ps : List Str), nf = .Name x p ∧ FnG X.prog X.w X.K X.mg X.base k f fd ps (spV G io spec) ∧ X.mg x = some (.ref f) ∧ PySem.W.keepIn X.K (.ref f) = true ∧ Binds X.K fd ps [] ∧ Gl X x ∧ (x == ("__debug__" : Str)) = false
inductive Defs (G : Glb) (X : Cx) (k : Nat) (io : List Bool) : List Expr → List CSpec → Prop
  | nil : Defs G X k io [] []
  | cons {e : Expr} {es : List Expr} {s : CSpec} {ss : List CSpec} : Def1 G X k io e s → Defs G X k io es ss → Defs G X k io (e :: es) (s :: ss)
theorem def1 {x : Str} {f : Addr} {fd : FuncData} {ps : List Str} {io : List Bool} {spec : CSpec} (F : FnG X.prog X.w X.K X.mg X.base k f fd ps (spV G io spec)) (hm : X.mg x = some (.ref f)) (hk : PySem.W.keepIn X.K (.ref f) = true) (hb : Binds X.K fd ps []) (hg : Gl X x := by rfl) (hd : (x == ("__debug__" : Str)) = false := by decide) :
    Def1 G X k io (.Name x p) spec := ⟨x, p, f, fd, ps, rfl, F, hm, hk, hb, hg, hd⟩
noncomputable def pickO (io : List Bool) (ss : List CSpec) (fa : FA) (o : Opd) (ρ : Rho) : Out Opd := match look ρ o with
  | some (.dat (.int i)) => match atI ss i with
    | some s => fCall io s fa ρ
    | none => .stk
  | _ => .stk
noncomputable def fPick (io : List Bool) (ss : List CSpec) (fe : FE) (fa : FA) : FE := fun ρ => (fe ρ).bind fun o ρ1 => pickO io ss fa o ρ1
theorem defs_get {io : List Bool} : ∀ {es : List Expr} {ss : List CSpec} {i : Nat} {s : CSpec}, Defs G X k io es ss → ss[i]? = some s → ∃ nf, es[i]? = some nf ∧ Def1 G X k io nf s
  | _, _, 0, s, .cons h t, e => by simp at e; subst e; exact ⟨_, rfl, h⟩
  | _, _, i + 1, s, .cons h t, e => by
    obtain ⟨nf, h1, h2⟩ := defs_get t (i := i) (by simpa using e)
    exact ⟨nf, by simpa using h1, h2⟩
  | _, _, _, _, .nil, e => by simp at e
/-- the names are read -/
theorem pa_defs {io : List Bool} {es : List Expr} {ss : List CSpec} (h : Defs G X k io es ss) : ∃ vs : List V, vs.length = ss.length ∧ (∀ (i : Nat) (s : CSpec), ss[i]? = some s → ∃ (f : Addr) (fd : FuncData) (ps : List Str), vs[i]? = some (V.ref f) ∧ FnG X.prog X.w X.K X.mg X.base k f fd ps (spV G io s) ∧ PySem.W.keepIn X.K (Value.ref f) = true ∧ Binds X.K fd ps []) ∧ PA X es (fun σ H Q => Q vs H) := by
  induction h with
  | nil => exact ⟨[], rfl, fun i s h => by simp at h, pa_nil⟩
  | @cons e es s0 ss d t ih =>
    obtain ⟨x, p, f, fd, ps, rfl, F, hm, hk, hb, hg, hd⟩ := d
    obtain ⟨vs, h1, h2, h3⟩ := ih
    refine ⟨V.ref f :: vs, by simp [h1], fun i s h => ?_, pa_cons (te := tC (V.ref f)) (pe_glob hg hm rfl hd) h3 rfl⟩
    cases i with
    | zero => simp at h; subst h; exact ⟨f, fd, ps, rfl, F, hk, hb⟩
    | succ i => simpa using h2 i s (by simpa using h)
/-- the list of the defs, new, and its item -/
theorem e_pick {io : List Bool} {ss : List CSpec} {ns : List Expr} {ei a : Expr} {as : List Expr} (c : Cxt G X W k) (hd : Defs G X k io ns ss) (hi : PE X ei (tE G W fe)) (hlen : ss.length ≤ 100000 := by decide) (hs : PlainIxT ei := by intro _ _; rfl)
    (ha : PA X (a :: as) (tA G W fa)) (he : starEach (a :: as) X.env = (false, eval a X.env) :: starEach as X.env := by rfl) (hpl : (backTo pos (starEach as X.env)).any (·.1) = false := by rfl)
    (hev : eval (.Call (.Subscript (.List ns p1) ei p2) (a :: as) [] pos) X.env = (do callWith pos (← eval (.Subscript (.List ns p1) ei p2) X.env) [] (backTo pos (starEach (a :: as) X.env)) (backToKw pos (keywordEach [] X.env))) := by rfl) :
    PE X (.Call (.Subscript (.List ns p1) ei p2) (a :: as) [] pos) (tE G W (fPick io ss fe fa)) := by
  obtain ⟨vs, v1, v2, v3⟩ := pa_defs hd
  constructor
  intro pins s σ H Q I h
  obtain ⟨ρ, P, F, nw, h⟩ := h
  refine Call_ ?_ hev
  have key : tOp (rIxL X.K) (tLst fun σ H Q => Q vs H) (tE G W fe) σ H (fun f H1 => ∃ fa' fd ps s', f = V.ref fa' ∧ FnG X.prog X.w X.K X.mg X.base k fa' fd ps (spV G io s') ∧ PySem.W.keepIn X.K (Value.ref fa') = true ∧ Binds X.K fd ps [] ∧ tE G W (fCall io s' fa) σ H1 Q) := by
    refine ⟨by rw [v1, sizeLine_eq]; omega, fun l hl => ?_⟩
    have hPl : P l = none := nw.ex.free hl
    have hFl : ∀ i, ¬ F i l := fun i q => nw.al i l q hl
    have n0 : Now G P (upd H l (.lst vs)) σ ρ F := now_out nw hPl hFl
    have s0 : Stp P H F P (upd H l (.lst vs)) F := stp_out Stp.refl hl
    refine tE_bind (End := fun P H F => EndO G W P H F σ Q) n0 (EndO.trans s0 h) (fun _ _ z => z) (fun z => z) fun o ρ1 v P1 H1 F1 S e1 h1 n1 s1 hx q1 => ?_
    unfold pickO at h1
    split at h1
    · rename_i i el
      split at h1
      · rename_i s' es
        have hv := ow_int (hx.look n1 el)
        subst hv
        unfold atI at es
        cases ej : ixN ss.length i with
        | none => rw [ej] at es; cases es
        | some j =>
          rw [ej] at es
          obtain ⟨f, fd, ps, w1, w2, w3, w4⟩ := v2 j s' es
          refine ⟨l, vs, i, V.ref f, rfl, rfl, SqL.of (s1.fr l _ upd_same hFl), ?_, f, fd, ps, s', rfl, w2, w3, w4, ρ1, P1, F1, n1, EndO.trans s1 h1⟩
          unfold atI
          rw [v1, ej]
          exact w1
      · exact h1.elim
    · exact h1.elim
  refine thn ((pe_ix ix_list (pe_lst v3) hi hs).run pins s σ H _ I key) ?_
  rintro fv s1 ⟨x, H1, I1, r1, fa', fd, ps, s', rfl, F1, hk, hb, rd⟩
  obtain rfl : fv = Value.ref fa' := r1
  refine PySem.W.callWith_K (h₀ := X.base) I1.ok.mod.kin hk (thn (ha.run pos pins s1 σ H1 _ I1 (call_rd rd)) ?_) he hpl
  rintro us s2 ⟨vs2, H2, I2, r2, q2⟩
  exact ⟨I2.kIn, run_fnG F1 c hb I2 r2 q2⟩
end

/-! ### the body of a def -/
def outs : List Bool → Rho → List (Option Vl)
  | [], _ => []
  | b :: io, [] => none :: outs io []
  | b :: io, r :: ρ => (if b then r else none) :: outs io ρ
def specOf (io : List Bool) (n : Nat) (f : FS) : CSpec := fun ws => match f (ws.map some ++ List.replicate (n - ws.length) none) with
  | .nx ρ => .ok (.dat .none) (outs io ρ)
  | .ret w ρ => .ok w (outs io ρ)
  | .exc c ρ => .exc c (outs io ρ)
  | _ => .stk
theorem outs_len : ∀ (io : List Bool) (ρ : Rho), (outs io ρ).length = io.length
  | [], _ => rfl
  | b :: io, [] => by simp [outs, outs_len io []]
  | b :: io, r :: ρ => by simp [outs, outs_len io ρ]
theorem outs_at : ∀ {io : List Bool} {ρ : Rho} {i : Nat} {w : Vl}, (outs io ρ)[i]? = some (some w) → ioAt io i = true ∧ ρ[i]? = some (some w)
  | [], _, _, _, h => by simp [outs] at h
  | b :: io, [], 0, _, h => by simp [outs] at h
  | b :: io, [], i + 1, _, h => by
    have := outs_at (io := io) (ρ := []) (i := i) (by simpa [outs] using h)
    simp at this
  | b :: io, r :: ρ, 0, w, h => by
    cases b with
    | false => simp [outs] at h
    | true => exact ⟨rfl, by simpa [outs] using h⟩
  | b :: io, r :: ρ, i + 1, w, h => by
    have := outs_at (io := io) (ρ := ρ) (i := i) (by simpa [outs] using h)
    exact ⟨by rw [ioAt_cons]; exact this.1, by simpa using this.2⟩
/-- the environment at a call's end: what was lent alone -/
theorem now_end {G : Glb} {P H : Hp} {F : Nat → Ad} {σ' : L2.St} {ρ' : Rho} {io : List Bool} {vs : List V} (nw : Now G P H σ' ρ' F) (hp : ∀ j, ioAt io j = true → σ'[j]? = (vs.map some)[j]?) : Now G P H (vs.map some) (outs io ρ') (fun j b => ioAt io j = true ∧ F j b) :=
  ⟨nw.ex, fun i j a h1 h2 => nw.dj i j a h1.2 h2.2, fun i b h => nw.np i b h.2, fun i b h => nw.al i b h.2, fun i w h => by
    obtain ⟨h1, h2⟩ := outs_at h
    obtain ⟨v, h3, h4⟩ := nw.rd i w h2
    exact ⟨v, by rw [← hp i h1]; exact h3, h4.mono (Same.refl P) (fun _ _ _ q => q) fun b hb => ⟨h1, hb⟩⟩, fun i b u h e => nw.kd i b u h.2 e⟩
theorem stp_end {P0 H0 P H : Hp} {F0 F : Nat → Ad} {io : List Bool} (s : Stp P0 H0 F0 P H F) : Stp P0 H0 F0 P H (fun j b => ioAt io j = true ∧ F j b) := ⟨s.ex, s.fr, fun i b h => s.sub i b h.2, s.pn, s.al⟩
theorem ioAt_lt {io : List Bool} {j : Nat} (h : ioAt io j = true) : j < io.length := by
  unfold ioAt at h
  rw [List.getD_eq_getElem?_getD] at h
  by_cases q : j < io.length
  · exact q
  · rw [List.getElem?_eq_none (by omega)] at h; cases h
/-- a def keeps its promise -/
theorem fn_def {P : Program} {w : World} {G : Glb} {mg : Str → Option Value} {base : Heap} {k : Nat} {f : Addr} {name qual : Str} {st : Stmt} {fd : FuncData} {N ps : List Str} {io : List Bool} {n : Nat} {fs : FS}
    (Fn : Fun G.K name qual st f fd) (S : FnScope N ps (defScope st)) (hio : io.length = ps.length) (hn : N.length = n)
    (body : ∀ (cdv : Value) (A : Around) (outer : List Env) (s : Shared) (H : Hp) (E : XK), Cxt G (cxOf (L2N.CX P w) P w G.K mg base N qual (defScope st) f cdv A outer s H E) (fun cls d _ H => E cls d H) k →
      PSs (cxOf (L2N.CX P w) P w G.K mg base N qual (defScope st) f cdv A outer s H E) (defBody st) (tS G (fun cls d _ H => E cls d H) n io fs)) :
    FnG P w G.K mg base (k + 1) f fd ps (spV G io (specOf io n fs)) := by
  obtain ⟨oc, od, kV, doc, pm, an, cdv, ct, osl, rfl, lk, hcd⟩ := Fn.ex
  refine fn_ofG lk hcd S (fun vs H Q E h => (spV_len h).trans hio) fun A outer s H vs Q E room h => ?_
  have cx : Cxt G (cxOf (L2N.CX P w) P w G.K mg base N qual (defScope st) f cdv A outer s H E) (fun cls d _ H => E cls d H) k := ⟨rfl, rfl, room.rm, room.gd, L2N.takes_of rfl rfl rfl rfl, S.nd⟩
  refine ⟨_, body cdv A outer s H E cx, ?_⟩
  obtain ⟨ws, P0, F0, l1, l2, nw, hF, h⟩ := h
  have hps : ps.length ≤ N.length := by
    have := congrArg List.length S.pre
    rw [List.length_take] at this
    omega
  have start_len : (L2.start N vs).length = n := by
    unfold L2.start
    rw [List.length_append, List.length_map, List.length_replicate]
    omega
  have start_at : ∀ j, j < vs.length → (L2.start N vs)[j]? = (vs.map some)[j]? := fun j hj => by
    unfold L2.start
    rw [List.getElem?_append_left (by simpa using hj)]
  refine ⟨ws.map some ++ List.replicate (n - ws.length) none, P0, F0, ⟨nw.ex, nw.dj, nw.np, nw.al, fun i w' e => ?_, nw.kd⟩, start_len, ?_⟩
  · by_cases hi : i < ws.length
    · rw [List.getElem?_append_left (by simpa using hi)] at e
      obtain ⟨v, h1, h2⟩ := nw.rd i w' e
      exact ⟨v, by rw [start_at i (by omega)]; exact h1, h2⟩
    · rw [List.getElem?_append_right (by simpa using hi), List.getElem?_replicate] at e
      split at e <;> cases e
  · unfold specOf at h
    have pin : ∀ {σ' : L2.St}, Kp n io (L2.start N vs) σ' → ∀ j, ioAt io j = true → σ'[j]? = (vs.map some)[j]? := fun {σ'} kp j hj => by
      rw [kp.pin j hj]
      exact start_at j (by have := ioAt_lt hj; omega)
    cases e : fs (ws.map some ++ List.replicate (n - ws.length) none) with
    | stk => rw [e] at h; exact h.elim
    | bk ρ' => rw [e] at h; exact h.elim
    | ct ρ' => rw [e] at h; exact h.elim
    | nx ρ' =>
      simp only [e] at h
      exact fun σ' P' H' F' n1 s1 k1 => h .non P' H' _ nobody (now_end n1 (pin k1)) (fun j b q => q.1) (stp_end s1) ⟨.non, fun _ z => z.elim, fun _ z => z.elim, fun _ z => z.elim, fun _ _ z => z.elim⟩ (fun _ z => z.elim) (outs_len _ _)
    | exc c ρ' =>
      simp only [e] at h
      exact fun σ' P' H' F' n1 s1 k1 => h P' H' _ (now_end n1 (pin k1)) (fun j b q => q.1) (stp_end s1) (outs_len _ _)
    | ret w' ρ' =>
      simp only [e] at h
      exact fun v σ' P' H' F' S n1 s1 k1 t src => h v P' H' _ S (now_end n1 (pin k1)) (fun j b q => q.1) (stp_end s1) ⟨t.ow, t.np, t.al, fun b hb i q => t.dj b hb i q.2, t.kd⟩ src (outs_len _ _)
/-- another word for the same promise -/
theorem spec_imp {P : Program} {w : World} {G : Glb} {mg : Str → Option Value} {base : Heap} {k : Nat} {f : Addr} {fd : FuncData} {ps : List Str} {io : List Bool} {s s' : CSpec} (F : FnG P w G.K mg base k f fd ps (spV G io s)) (h : ∀ ws, s' ws ≠ .stk → s ws = s' ws) : FnG P w G.K mg base k f fd ps (spV G io s') :=
  F.imp fun vs H Q E ⟨ws, P0, F0, l1, l2, nw, hF, q⟩ => ⟨ws, P0, F0, l1, l2, nw, hF, by
    have hn : s' ws ≠ .stk := fun e => by rw [e] at q; exact q
    rw [h ws hn]
    exact q⟩
end Mi
end
section
set_option Elab.async false
set_option linter.all false
set_option maxRecDepth 100000
/-! Ev18: names of defs and classes; raise; try .. except .. as -/
namespace Mi
open PySem PySem.Spec PyProof.Rows L2

/-- a def of the module, by its name -/
structure Cal (P : Program) (G : Glb) (mg : Str → Option Value) (base : Heap) (k : Nat) (name : Str) (io : List Bool) (spec : CSpec) : Prop where
  ex : ∃ (f : Addr) (fd : FuncData) (ps : List Str), FnG P G.w G.K mg base k f fd ps (spV G io spec) ∧ mg name = some (.ref f) ∧ PySem.W.keepIn G.K (.ref f) = true ∧ Binds G.K fd ps []
section
variable {P : Program} {G : Glb} {mg : Str → Option Value} {base : Heap} {k j : Nat} {name : Str} {io : List Bool} {spec spec' : CSpec}
theorem Cal.mono (c : Cal P G mg base j name io spec) (h : j ≤ k) : Cal P G mg base k name io spec := by
  obtain ⟨f, fd, ps, F, r⟩ := c.ex
  exact ⟨f, fd, ps, F.mono h, r⟩
theorem Cal.imp (c : Cal P G mg base k name io spec) (h : ∀ ws, spec' ws ≠ .stk → spec ws = spec' ws) : Cal P G mg base k name io spec' := by
  obtain ⟨f, fd, ps, F, r⟩ := c.ex
  exact ⟨f, fd, ps, spec_imp F h, r⟩
end
/-- what stands in the module of a def -/
structure Def (G : Glb) (mg : Str → Option Value) (name : Str) (st : Stmt) (ps : List Str) : Prop where
  ex : ∃ (f : Addr) (fd : FuncData), Fun G.K name name st f fd ∧ mg name = some (.ref f) ∧ PySem.W.keepIn G.K (.ref f) = true ∧ Binds G.K fd ps []
theorem Def.cal {P : Program} {G : Glb} {mg : Str → Option Value} {base : Heap} {k n : Nat} {name : Str} {st : Stmt} {N ps : List Str} {io : List Bool} {fs : FS} (d : Def G mg name st ps) (S : FnScope N ps (defScope st)) (hio : io.length = ps.length) (hn : N.length = n)
    (body : ∀ (f : Addr) (cdv : Value) (A : Around) (outer : List Env) (s : Shared) (H : Hp) (E : XK), Cxt G (cxOf (L2N.CX P G.w) P G.w G.K mg base N name (defScope st) f cdv A outer s H E) (fun cls d _ H => E cls d H) k →
      PSs (cxOf (L2N.CX P G.w) P G.w G.K mg base N name (defScope st) f cdv A outer s H E) (defBody st) (tS G (fun cls d _ H => E cls d H) n io fs)) :
    Cal P G mg base (k + 1) name io (specOf io n fs) := by
  obtain ⟨f, fd, Fn, hm, hk, hb⟩ := d.ex
  exact ⟨f, fd, ps, fn_def Fn S hio hn (body f), hm, hk, hb⟩

abbrev bmV : List Value := [.type "ValueError", .type "Exception", .type "BaseException", .type "object"]
/-- a class of errors -/
structure Exc1 (K : PySem.W.Frag) (mg : Str → Option Value) (name : Str) (C : Addr) : Prop where
  g : mg name = some (.ref C)
  x : PySem.W.excIn K C bmV "ValueError.__new__" = true
  k : PySem.W.keepIn K (.ref C) = true
  b : PySem.W.subIn K (.ref C) (.type "BaseException") = some true
  t : PySem.W.typeIn K (.ref C) = some (.type "type")
/-- what a name of the builtins stands for: nothing of the module's -/
structure NoG (mg : Str → Option Value) (l : List Str) : Prop where
  n : ∀ x, l.contains x = true → mg x = none
section
variable {X : Cx} {G : Glb} {W : WX} {k j n i : Nat} {π : List Bool} {x m : Str} {e : Expr} {es : List Expr} {p p2 pos np pos' : Pos} {fa : FA} {io : List Bool} {spec : CSpec} {c : Nat}
theorem e_callC (cx : Cxt G X W k) (c : Cal X.prog G X.mg X.base j x io spec) (hw : X.w = G.w) (hj : j ≤ k) (ha : PA X (e :: es) (tA G W fa)) (hg : Gl X x := by rfl) (hdb : (x == ("__debug__" : Str)) = false := by decide)
    (he : starEach (e :: es) X.env = (false, eval e X.env) :: starEach es X.env := by rfl) (hpl : (backTo pos (starEach es X.env)).any (·.1) = false := by rfl) :
    PE X (.Call (.Name x p) (e :: es) [] pos) (tE G W (fCall io spec fa)) := by
  obtain ⟨f, fd, ps, F, hm, hk, hb⟩ := c.ex
  exact e_call (ps := ps) (fd := fd) (f := f) cx (by rw [hw, cx.K]; exact F.mono hj) hm (by rw [cx.K]; exact hk) (by rw [cx.K]; exact hb) ha hg hdb he hpl
theorem def1C (cx : Cxt G X W k) (c : Cal X.prog G X.mg X.base j x io spec) (hw : X.w = G.w) (hj : j ≤ k) (hg : Gl X x := by rfl) (hd : (x == ("__debug__" : Str)) = false := by decide) : Def1 G X k io (.Name x p) spec := by
  obtain ⟨f, fd, ps, F, hm, hk, hb⟩ := c.ex
  exact def1 (ps := ps) (fd := fd) (f := f) (by rw [hw, cx.K]; exact F.mono hj) hm (by rw [cx.K]; exact hk) (by rw [cx.K]; exact hb) hg hd
theorem s_raiseX {q : Nat} (cx : Cxt G X W k) (T : Exc1 G.K X.mg x (G.ea c)) (hg : Gl X x := by rfl) (hdb : (x == ("__debug__" : Str)) = false := by decide) :
    PS X (.Raise (some (.Call (.Name x p) [.Constant (.str m) q p2] [] pos')) none pos) (tS G W n π (sRaise c)) :=
  s_raise cx (L2N.pmk_own PySem.F.excBase_ValueError (by rw [cx.K]; exact T.x) T.g (by rw [cx.K]; exact T.k) (raises_own (by rw [cx.K]; exact T.b) (by rw [cx.K]; exact T.t)) hg hdb)

/-! ### try .. except .. as -/
/-- what the suite's def does with the exception: a text by the class's number -/
structure ErrF (P : Program) (G : Glb) (mg : Str → Option Value) (base : Heap) (k : Nat) (name : Str) (r : Nat → Option Str) : Prop where
  ex : ∃ (f : Addr) (fd : FuncData) (y : Str), mg name = some (.ref f) ∧ PySem.W.keepIn G.K (.ref f) = true ∧ Binds G.K fd [y] [] ∧
    ∀ (A : Around) (outer : List Env) (s : Shared) (H : Hp) (args : Args) (Q : VK) (E : XK) (p : Addr × Obj) (c : Nat) (t : Str), L2H.RoomH k A → L2H.Hot1 A p → L2H.PinOk outer H s p → Env0 P G.w G.K mg base A outer s H → BindsTo s fd args ([y].zip [.ref p.1]) →
      L2N.Zn (.ref (G.ea c)) none p.2 → r c = some t → (∀ H', Same H H' → Q (.str t) H') → codeAny (model P G.w) A (.call (.ref f) args) (CR (L2N.CX P G.w) outer P G.w H s Q E) s
def sTry (r : Nat → Option Str) (fb : FS) : FS := fun ρ => match fb ρ with
  | .exc c ρ1 => match r c with
    | some t => .ret (.dat (.str t)) ρ1
    | none => .stk
  | z => z
theorem Cxt.tr (cx : Cxt G X W k) {W' : WX} {pn : List (Addr × Obj)} {xe : Value → Shared → Prop} (tk : L2N.Takes (X.tr pn xe) W') : Cxt G (X.tr pn xe) W' k := ⟨cx.K, cx.calm, cx.room, cx.gd, tk, cx.nd⟩
theorem s_try {M : Str} {C : Value} {b : List Stmt} {fb : FS} {r : Nat → Option Str} {nm : Str} {np2 np3 cp rp : Pos} (cx : Cxt G X W k) (hs : X.stack = X.env :: X.outer) (hf : X.env.frame = some X.env.locals) (hi : X.N[i]? = some x) (hln : X.env.kindOf x = some .local) (hin : i < n) (hpi : ioAt π i = false)
    (hC : Names X M C) (hsub : ∀ c t, r c = some t → PySem.W.exmOne G.K (.ref (G.ea c)) C = some true) (hw : X.w = G.w) (er : ErrF X.prog G X.mg X.base j nm r) (hj : j ≤ k)
    (hb : ∀ (W' : WX) (pn : List (Addr × Obj)) (xe : Value → Shared → Prop), Cxt G (X.tr pn xe) W' k → PassesOwn (model X.prog X.w) X.A X.env xe → PSs (X.tr pn xe) b (tS G W' n π fb))
    (hg : Gl X nm := by rfl) (hdb : (nm == ("__debug__" : Str)) = false := by decide) (hxd : (x == ("__debug__" : Str)) = false := by decide) (hcd : (x == ("__classdict__" : Str)) = false := by decide) :
    PS X (.Try b [.ExceptHandler (some (.Name M np)) (some x) [.Return (some (.Call (.Name nm np2) [.Name x np3] [] cp)) rp] pos'] [] [] pos) (tS G W n π (sTry r fb)) := by
  obtain ⟨f, fd, y, hm, hk, hbd, run⟩ := er.ex
  refine PS.imp (L2N.ps_try_as (Wout := W) (i := i) (c := C) (tb := fun W' => tS G W' n π fb)
    (ts := fun a cls d D σ H => ∃ c t, cls = .ref (G.ea c) ∧ d = none ∧ r c = some t ∧ σ[i]? = some (some (.ref a)) ∧ ∀ H', Same H H' → D.rt (.str t) H')
    hs hf cx.nd hi hln hC cx.tk (fun W' pn xe tk po => hb W' pn xe (cx.tr tk) po) (fun a oe cls d pn hz hvs => ?_)) fun D σ H ⟨ρ, P, F, nw, hl, h⟩ => ?_
  · refine pss_one ⟨fun pins s σ H D I ⟨c, t, hc, hd, hr, hsi, hq⟩ => ?_⟩
    subst hc hd
    have var : PE (X.suite a ((a, oe) :: pn)) (.Name x np3) (tVar i) := pe_var hi (.inl hln) hxd hcd
    have pa : PA (X.suite a ((a, oe) :: pn)) [.Name x np3] (tCons (tVar i) tNil) := pa_cons var pa_nil rfl
    refine wpAny_Return_some (wpAny_Call_Name_kw (ld_glob I hg hm (PySem.W.callWith_K (h₀ := X.base) (K := X.K) I.ok.mod.kin (by rw [cx.K]; exact hk) (thn (pa.run cp pins s σ H (fun vs H1 => vs = [V.ref a] ∧ H = H1) I ⟨_, hsi, rfl, rfl⟩) fun us s1 ⟨vs, H1, I1, r1, ev, eH⟩ => ?_) rfl rfl) hdb))
    subst ev eH
    refine ⟨I1.kIn, ?_⟩
    obtain rfl := Vals.ref1 r1
    show wpAny _ _ (call (.ref f) [.ref a]) _ _ _
    have hp : (a, oe) ∈ ((a, oe) :: pn) ++ pins := List.mem_append_left _ List.mem_cons_self
    have P1 := I1.pin (a, oe) hp
    have hpin : L2H.PinOk X.stack H s1 (a, oe) := ⟨P1.1, P1.2.1, fun hm' => (List.mem_cons.mp (I1.stkSub a hm')).elim P1.2.2.1 P1.2.2.2.1, P1.2.2.2.2⟩
    obtain ⟨vs, hvs⟩ := hvs
    have hot : L2H.Hot1 (X.A.mark (some (.ref a))) (a, oe) := ⟨rfl, vs, hvs, hz.2.2 vs hvs⟩
    have bd := hbd s1 [.ref a] (by rw [← cx.K]; exact I1.kIn) rfl
    rw [List.append_nil] at bd
    have e0 : Env0 X.prog G.w G.K X.mg X.base (X.A.mark (some (.ref a))) X.stack s1 H := by
      have := I1.env0
      rw [← hw, ← cx.K]
      exact this
    refine wpAny_call (codeAny_mono (by rw [hw]; exact run (X.A.mark (some (.ref a))) X.stack s1 H ⟨[.ref a], []⟩ D.rt (fun _ _ _ => False) (a, oe) c t ⟨((L2H.roomH_of cx.room).mono hj).dp, ((L2H.roomH_of cx.room).mono hj).un⟩ hot hpin e0 bd hz hr hq) fun res s2 out => ?_)
    rw [← hw] at out
    match res, out with
    | .error e, out =>
      obtain ⟨_, _, _, _, _, _, _, _, _, _, _, _, z⟩ := out
      exact z.elim
    | .ok (.ret u), out =>
      obtain ⟨v, H', I2, rv, q⟩ := I1.after (X := X.suite a ((a, oe) :: pn)) out
      exact ⟨v, σ, H', I2, rv, q⟩
  · refine ⟨ρ, P, F, nw, hl, ?_⟩
    unfold sTry at h
    cases e : fb ρ with
    | nx ρ1 => rw [e] at h; exact h
    | bk ρ1 => rw [e] at h; exact h
    | ct ρ1 => rw [e] at h; exact h
    | ret w ρ1 => rw [e] at h; exact h
    | stk => rw [e] at h; exact h.elim
    | exc c ρ1 =>
      simp only [e] at h
      cases hr : r c with
      | none => rw [hr] at h; exact h.elim
      | some t =>
        rw [hr] at h
        intro σ' P' H' F' n1 s1 k1
        refine ⟨true, by rw [cx.K]; exact hsub c t hr, fun _ a na => ⟨c, t, rfl, rfl, hr, List.getElem?_set_self (by rw [k1.len]; exact hin), fun H2 hs2 => ?_⟩, fun z => nomatch z⟩
        have al : Alc P' H' P' H2 nobody := ⟨Same.refl _, hs2, n1.ex.trans hs2, fun _ q => .inl q, fun _ z => z.elim, fun _ _ z => z.elim⟩
        exact h (.str t) σ' P' H2 F' nobody (al.now n1) (s1.trans al.stp) k1 ⟨.str _, fun _ z => z.elim, fun _ z => z.elim, fun _ z => z.elim, fun _ _ z => z.elim⟩ fun _ z => z.elim
end
end Mi
end
section
set_option Elab.async false
set_option linter.all false
set_option maxRecDepth 100000
/-! Ev19: name op= e -/
namespace Mi
open PySem PySem.Spec PyProof.Rows L2
structure IpV (G : Glb) (X : Cx) (op : Operator) (g : Vl → Vl → Option Vl) : Prop where
  ex : ∃ r : R2, OpR X (inplaceOp op) r ∧ OpOk G r g
section
variable {X : Cx} {G : Glb} {W : WX} {n i : Nat} {π : List Bool} {x : Str} {e : Expr} {fe : FE} {op : Operator} {g : Vl → Vl → Option Vl} {pos p2 : Pos}
theorem q_add : IpV G X .Add (iop tt2 fun i j => .int (i + j)) := ⟨_, iop_add, okI0 fun _ _ _ _ => .int _⟩
theorem q_sub : IpV G X .Sub gSub := ⟨_, iop_sub, okI0 fun _ _ _ _ => .int _⟩
theorem q_mul : IpV G X .Mult gMulI := ⟨_, iop_mul, okI fun _ _ _ _ => .int _⟩
theorem q_fdiv : IpV G X .FloorDiv gFDiv := ⟨_, iop_fdiv, okI fun _ _ _ _ => .int _⟩
theorem q_mod : IpV G X .Mod gMod := ⟨_, iop_mod, okI fun _ _ _ _ => .int _⟩
theorem q_shl : IpV G X .LShift gShl := ⟨_, iop_shl, okI fun _ _ _ _ => .int _⟩
theorem q_shr : IpV G X .RShift gShr := ⟨_, iop_shr, okI fun _ _ _ _ => .int _⟩
theorem q_and : IpV G X .BitAnd gAnd := ⟨_, iop_and, okI0 fun _ _ _ _ => .int _⟩
theorem q_or : IpV G X .BitOr gOr := ⟨_, iop_or, okI0 fun _ _ _ _ => .int _⟩
theorem q_xor : IpV G X .BitXor gXor := ⟨_, iop_xor, okI0 fun _ _ _ _ => .int _⟩
def augO (i : Nat) (g : Vl → Vl → Option Vl) (d0 : PyData) (o : Opd) (ρ : Rho) : SO := match (look ρ o).bind (g (.dat d0)) with
  | some w => .nx (ρ.set i (some w))
  | none => .stk
def sAug (i : Nat) (g : Vl → Vl → Option Vl) (fe : FE) : FS := fun ρ => match look ρ (.brw i) with
  | some (.dat d0) => (fe ρ).bindS fun o ρ1 => augO i g d0 o ρ1
  | _ => .stk
theorem s_aug (q : IpV G X op g) (hN : X.N.Nodup) (hi : X.N[i]? = some x) (hx : Loc X.env.scope x) (hn : i < n) (hp : ioAt π i = false) (he : PE X e (tE G W fe))
    (hf : X.fn x = true ∨ X.env.scope.names.lookup x = some .local := by first | exact .inl rfl | exact .inr rfl | assumption) : PS X (.AugAssign (.Name x p2) op e pos) (tS G W n π (sAug i g fe)) := by
  obtain ⟨r, ho, ok⟩ := q.ex
  refine PS.imp (ps_aug hN hi hx he (ti := r) ho hf) fun D σ H ⟨ρ, P, F, nw, hl, h⟩ => ?_
  unfold sAug at h
  split at h
  · rename_i d0 e0
    obtain ⟨v, h1, h2⟩ := nw.rd i _ (join_some e0)
    have h2 : Dp G.K P v d0 := h2
    refine ⟨v, h1, tE_bindS nw hl h fun o ρ1 y P1 H1 F1 S h3 n1 s1 hy q1 _ => ?_⟩
    unfold augO at h3
    cases el : look ρ1 o with
    | none => rw [el] at h3; exact h3.elim
    | some a =>
      rw [el] at h3
      cases eg : g (.dat d0) a with
      | none => simp only [Option.bind_some, eg] at h3; exact h3.elim
      | some w =>
        simp only [Option.bind_some, eg] at h3
        refine ok P1 H1 v y (.dat d0) a w _ n1.ex ⟨nobody, dp_mono s1.ex _ _ h2⟩ (hy.look n1 el) eg fun z P2 H2 S2 al o2 => ?_
        exact h3 _ P2 H2 _ (now_set (al.now n1) (al.tmp n1 o2) (by omega)) (stp_set al.stp fun b hb => .inr (al.new b hb).1) (Kp.set hl hp)
  · exact h.elim
end
end Mi
end
section
set_option Elab.async false
set_option linter.all false
set_option maxRecDepth 100000
/-! Ev21: the law's own call -/
namespace Mi
open PySem PySem.Spec PyProof.Rows L2

theorem callerG {k : Nat} (h : Room k callerA) : RoomG k callerA := ⟨h, rfl⟩
/-- the abstract heap at the law's entry -/
structure Entry (K : PySem.W.Frag) (P : Program) (w : World) (H : Hp) (h : Heap) (a : Addr) (ns : List Int) : Prop where
  only : ∀ b, H b = none ∨ (b = a ∧ K.lookup a = none ∧ ∃ o xs, H b = some (.frz o (.lst xs)))
  seq : SqL K H a (ns.map V.int)
  ok : HOk P w H h
theorem entry_of {K : PySem.W.Frag} {P : Program} {w : World} {h : Heap} {a : Addr} {vs : List Value} {ns : List Int} (KX : K.In h) (ha : h.get? a = some { cls := .type "list", data := .seq vs.toArray }) (hi : IntsAre vs ns) (hl : ns.length ≤ sizeLine) :
    ∃ H, Entry K P w H h a ns := by
  have rv := vals_ints hi
  have lenV := hi.length
  cases hk : K.lookup a with
  | some o =>
    have e := KX a o hk
    rw [ha] at e
    cases e
    exact ⟨fun _ => none, fun _ => .inl rfl, .inr ⟨_, vs.toArray, _, hk, rfl, rfl, rfl, by rw [List.size_toArray, lenV]; exact hl, by simpa using rv⟩, fun b u z => by cases (show (none : Option HO) = some u from z)⟩
  | none =>
    classical
    have hz : (ns.map V.int).length ≤ sizeLine := by rw [List.length_map]; exact hl
    refine ⟨fun b => if b = a then some (.frz { cls := .type "list", data := .seq vs.toArray } (.lst (ns.map V.int))) else none, fun b => ?_, .inl (.inr ⟨_, if_pos rfl⟩), fun b u z => ?_⟩
    · by_cases hb : b = a
      · exact .inr ⟨hb, hk, _, _, if_pos hb⟩
      · exact .inl (if_neg hb)
    · by_cases hb : b = a
      · cases (if_pos hb).symm.trans z
        subst hb
        exact ⟨ha, hz, vs, _, rv, ha⟩
      · cases (if_neg hb).symm.trans z
theorem law_callG {P : Program} {w : World} {K : PySem.W.Frag} {mg mb : Str → Option Value} {k : Nat} {fa a : Addr} {fd : FuncData} {x : Str} {sp : Sp} {s1 : Shared} {vs : List Value} {ns : List Int}
    (KX : K.In s1.heap) (hns : s1.heap.Ns mainGlobals mg) (hb : s1.heap.Ns builtinsNs mb) (hbb : ∀ x : Str, x ≠ "__name__" → mb x = bootBuiltins x) (hlim : s1.heap.NoLimit) (hg : s1.gens = #[])
    (ha : s1.heap.get? a = some { cls := .type "list", data := .seq vs.toArray }) (hi : IntsAre vs ns) (hl : ns.length ≤ sizeLine) (hr : Room k callerA)
    (F : ∀ base : Heap, K.In base → base.Ns mainGlobals mg → FnG P w K mg base k fa fd [x] sp) (hbind : ∀ (s : Shared) (u : Value), BindsTo s fd ⟨[u], []⟩ [(x, u)])
    (hsp : ∀ H : Hp, SqL K H a (ns.map V.int) → sp [.ref a] H (fun v _ => v = .bl true) fun _ _ _ => False) :
    codeAny (model P w) callerA (.call (.ref fa) ⟨[.ref a], []⟩) (fun r s' => r = .ok (.ret (.bool true)) ∧ OldK s1.heap s'.heap ∧ s'.os = s1.os ∧ AllBare s'.gens) s1 := by
  obtain ⟨H, only, seq, ok⟩ := entry_of (P := P) (w := w) KX ha hi hl
  -- what is no list stays in sight
  have seen : ∀ {b : Addr} {o : Obj}, s1.heap.get? b = some o → (b = a → K.lookup a = none → False) → (hidT s1.heap H).get? b = some o := fun {b o} e q => hidT_get e ((only b).elim id fun z => (q z.1 z.2.1).elim)
  have ns2 : ∀ {b : Addr} {m : Str → Option Value}, s1.heap.Ns b m → (hidT s1.heap H).Ns b m := fun {b m} ⟨o, es, ep, e, d, r⟩ => ⟨o, es, ep, seen e (fun z _ => by
    rw [z, ha] at e
    cases e
    have d : Data.seq vs.toArray _ = Data.dict es ep := d
    cases d), d, r⟩
  have Kin : K.In (hidT s1.heap H) := fun b o e => seen (KX b o e) (fun z q => by rw [z, q] at e; cases e)
  obtain ⟨mc, lim1, lim2⟩ := hlim
  have M : Mod K mg (hidT s1.heap H) := ⟨Kin, ns2 hns, ⟨mb, ns2 hb, hbb⟩, mc, ns2 lim1, lim2⟩
  have noFr : ∀ b ∈ frs ([] : List Env), H b = none := fun b z => nomatch z
  have E0 : Env0 P w K mg (hidT s1.heap H) callerA [] s1 H := ⟨rfl, M, fun b o e => of_hidT e, Nat.le_of_eq (hidT_size _ _), trivial, noFr, ok, .of_eq hg⟩
  have run := (F _ Kin (ns2 hns)).run callerA [] s1 H _ [.ref a] [.ref a] _ _ (callerG hr) E0 (hbind s1 (.ref a)) (.cons rfl .nil) (hsp H seq)
  refine codeAny_mono run ?_
  intro r s2 out
  cases r with
  | error e =>
    obtain ⟨_, _, _, _, _, _, _, _, _, _, _, _, z⟩ := out
    exact z.elim
  | ok fl =>
    cases fl with
    | next => exact out.elim
    | brk => exact out.elim
    | cont => exact out.elim
    | ret u =>
    obtain ⟨v, H2, os, bare, un, ok2, rel, q⟩ := out
    have q : v = V.bl true := q
    subst q
    obtain rfl : u = Value.bool true := rel
    refine ⟨rfl, OldK.of_keep fun b o e => ?_, os, bare⟩
    rcases only b with z | ⟨_, _, ob, xs, z⟩
    · exact un.keep b o e z (fun q => nomatch q) (fun q => nomatch q)
    · have e1 := (ok b _ z).1
      have e2 := (ok2 b _ (un.frzs b ob _ z)).1
      rw [e] at e1
      cases e1
      exact e2
/-- the goal of the head, by the law's def -/
theorem walk_G {l : PySem.W.OpenLaw} {k : Nat} {q : Program} {loose : List Str} {XP : (Str → Option Value) → Heap → Prop} {YP : World → Heap → Prop} {d : DefRec} {K : Params → PySem.W.Frag} {ea cl : Params → Nat → Addr} {x : Str} {S : CSpec}
    (hn : l.most = some 63) (hdf : d.params.defaults = []) (hr : Room k callerA) (hY : ∀ (w : World) (h : Heap), YP w h → (K w.params).In h)
    (F : ∀ (w : World) (mg : Str → Option Value) (fa : Addr) (h : Heap), (K w.params).In h → h.Ns mainGlobals mg → mg d.name = some (.ref fa) →
      ∃ fd : FuncData, (∀ (s : Shared) (u : Value), BindsTo s fd ⟨[u], []⟩ [(x, u)]) ∧ ∀ base : Heap, (K w.params).In base → base.Ns mainGlobals mg → FnG l.prog w (K w.params) mg base k fa fd [x] (spV ⟨K w.params, w, ea w.params, cl w.params⟩ [false] S))
    (hS : ∀ ns : List Int, ns.length ≤ 63 → ∃ o, S [.dat (.list (ns.map .int))] = .ok (vB true) o) :
    PySem.W.WalkO q loose XP YP l.row.toRowW d [] (fun f vs => PySem.call f vs) := by
  refine Att.attach_call hn hdf fun w s0 s1 mg mb fa o pm cd doc a vs ns G Y ho hd hcd hmg hobj hints hlen hg => ?_
  have KX := hY w _ Y
  obtain ⟨fd, bd, prom⟩ := F w mg fa _ KX G.T.g hmg
  refine law_callG KX G.T.g G.T.b G.T.builtins G.T.nolimit hg hobj hints (by rw [sizeLine_eq]; omega) hr prom bd fun H sq => ?_
  obtain ⟨o, e⟩ := hS ns hlen
  refine ⟨[.dat (.list (ns.map .int))], H, fun _ => nobody, rfl, rfl, ⟨Same.refl H, fun _ _ _ z => z.elim, fun _ _ z => z.elim, fun _ _ z => z.elim, fun i w' h => ?_, fun _ _ _ z => z.elim⟩, fun _ _ z => z.elim, ?_⟩
  · cases i with
    | zero =>
      have h : some (some (Vl.dat (.list (ns.map .int)))) = some (some w') := h
      cases h
      exact ⟨_, rfl, Dp.lst sq ints_dpa⟩
    | succ i => simp at h
  · rw [e]
    intro v P' H' F' S n1 h2 s1 t src hl
    have h : Dp _ P' v (.bool true) := t.ow
    cases h
    rfl
end Mi
end
section
set_option Elab.async false
set_option linter.all false
set_option maxRecDepth 100000
set_option maxHeartbeats 2000000
/-! Ev20: walks of lists while an exception is handled -/
namespace MiH
open PySem PySem.Spec PyProof.Rows HotX
section
variable {prog : Program} {w : World} {A : Around} {E : Value → Shared → Prop} {s : Shared}
/-- the end of a list's walk, while x1 is handled -/
theorem list_end_hot {it l x1 : Addr} {i : Nat} {items : Array Value} {Q : Option Value → Shared → Prop} (hot : HotAt A x1 s.heap) (hne : x1 ≠ it) (hit : s.heap.IsListIter it l i) (hl : s.heap.IsList l items) (hx : items[i]? = none)
    (hQ : ∀ h', (∀ b o, b ≠ it → s.heap.get? b = some o → h'.get? b = some o) → Q none { s with heap := h' }) : wpAny (model prog w) A (pyNext (.ref it)) Q E s := by
  obtain ⟨o, ho, hc, hd⟩ := id hit
  obtain ⟨ol, hol, _, nl, hdl⟩ := hl
  obtain ⟨hh, o1, vs1, h1, d1, c1⟩ := hot
  have k0 : ∀ b u, b ≠ it → s.heap.get? b = some u → (s.heap.update it (Obj.mapFields (·.setIfInBounds 0 .none))).get? b = some u := fun b u hb e => (Heap.get?_update_other _ _ (Ne.symm hb)).trans e
  unfold pyNext
  refine wpAny_bind (wpAny_attempt (wpAny_callSpecial?_slot (name := Str.ofString "__next__") hit.typeIs slot_listiter_next (wpAny_call_entry slot_listiter_next hit.typeIs entry_listiter_next ?_ (args_listiter_next _))))
  show wpAny _ _ (field (.ref it) 0 >>= _) _ _ s
  refine wpAny_bind (wpAny_field ho hd (x := .ref l) rfl ?_)
  show wpAny _ _ (if (Value.ref l == Value.none) = true then _ else _) _ _ s
  rw [if_neg (show ¬ ((Value.ref l == Value.none) = true) from Bool.false_ne_true)]
  show wpAny _ _ (field (.ref it) 1 >>= _) _ _ s
  refine wpAny_bind (wpAny_field ho hd (x := .int i 0) rfl ?_)
  show wpAny _ _ (seqItems? (.ref l) >>= _) _ _ s
  refine wpAny_bind (wpAny_seqItems hol hdl ?_)
  simp only [Int.toNat_natCast, hx]
  refine wpAny_bind (wpAny_rule (wpAny_bind (wpAny_setField ho hd (by simp) ?_)))
  show wpAny _ _ (newExc (.type "StopIteration") [] >>= _) _ _ _
  refine wpAny_bind ?_
  simp only [newExc, newTuple]
  refine wpAny_bind (wpAny_newObj_type ?_ (by size_fits))
  refine wpAny_bind (m := firstArgMember _ _) (wpAny_of_eq (a := Value.none) (by first | rfl | (simp only [firstArgMember]; rfl)) ?_)
  refine wpAny_newObj_type ?_ (by size_fits)
  have g1 := Heap.get?_push_of_some (h := s.heap.update it (Obj.mapFields (·.setIfInBounds 0 .none))) { cls := .type "tuple", data := .seq #[] } (k0 x1 o1 hne h1)
  refine raiseNew_hot ⟨hh, o1, vs1, Heap.get?_push_of_some _ g1, d1, c1⟩ (Nat.ne_of_lt (Heap.lt_size g1)) (Heap.get?_push_size _ rfl) rfl (by first | (simp; done) | (simp; omega) | (simp only [Array.size_append]; simp; omega)) ?_
  refine wpAny_bind (wpAny_isInstance (T := "StopIteration") (b := true) ⟨_, Heap.get?_update_self _ (Heap.get?_push_size _ rfl) rfl, rfl⟩ isSubtype_stop ?_)
  refine wpAny_pure (hQ _ fun b o hb e => ?_)
  have g2 := Heap.get?_push_of_some (h := s.heap.update it (Obj.mapFields (·.setIfInBounds 0 .none))) { cls := .type "tuple", data := .seq #[] } (k0 b o hb e)
  rw [Heap.get?_update_other _ _ (Nat.ne_of_gt (Heap.lt_size g2))]
  exact Heap.get?_push_of_some _ g2
theorem walks_hot {x1 it l : Addr} (hne : l ≠ it) (hx : x1 ≠ it) (items : Array Value) :
    Walks prog w A it [it, l, x1] [it] items.size (fun i v => items[i]? = some v) (fun i h => h.IsListIter it l i ∧ h.IsList l items ∧ HotAt A x1 h) where
  sub := fun b hb => by simp at hb; simp [hb]
  frame := fun i h h' ⟨a, b, c⟩ k => ⟨a.at fun o e => k it (by simp) o e, b.at fun o e => k l (by simp) o e, c.1, by
    obtain ⟨o, vs, e, r⟩ := c.2
    exact ⟨o, vs, k x1 (by simp) o e, r⟩⟩
  item := fun i s Q E hi ⟨a, b, c⟩ hQ => by
    refine wpAny_pyNext_list_item a b (x := items[i]) (by simp [hi]) fun h' hit' hs' => ?_
    refine hQ _ h' s.toks (by simp [hi]) ⟨hit', b.extBut hs'.extBut hne, c.1, ?_⟩ fun b o hb e => hs'.extBut b o (fun h => hb (by simp [h])) e
    obtain ⟨o, vs, e, r⟩ := c.2
    exact ⟨o, vs, hs'.extBut x1 o hx e, r⟩
  done := fun s Q E ⟨a, b, c⟩ hQ => list_end_hot c hx a b (by simp) fun h' he' => hQ h' s.toks fun b o hb e => he' b o (fun h => hb (by simp [h])) e
  self := fun _ _ _ _ ⟨a, _⟩ hQ => wpAny_pyIter_listiter a hQ
theorem sum_hot {x1 l : Addr} {its : List Value} {ns : List Int} {Q : Value → Shared → Prop} (hot : HotAt A x1 s.heap) (hl : s.heap.IsList l its.toArray) (hi : IntsAre its ns)
    (h : ∀ h' tk t', (∀ b o, s.heap.get? b = some o → h'.get? b = some o) → Q (.int ns.sum t') { s with heap := h', toks := tk }) : wpAny (model prog w) A (call (.builtin "sum") [.ref l]) Q E s := by
  obtain ⟨xs, e⟩ := hi.allInts.items
  have hn : numsOf (intItems xs).toList = ns := by rw [← e]; exact hi.numsOf
  rw [nums_intItems] at hn
  rw [e] at hl
  refine call_sum_walkG (iter_intList hl fun s2 es st hfp hlI => ?_)
  subst es
  obtain ⟨hh, o1, vs1, h1, r1⟩ := hot
  have nx : x1 ≠ s.heap.objs.size := Nat.ne_of_lt (Heap.lt_size h1)
  refine ⟨_, _, _, _, _, _, numAt xs, rfl, walks_hot (A := A.in1) hlI nx (intItems xs), ⟨st.1, st.2, hh, o1, vs1, Heap.get?_push_of_some _ h1, r1⟩, fun b hb => ?_, (fun _ _ => intItems_at), fun h' tk t' hk => ?_⟩
  · rcases List.mem_cons.mp hb with rfl | hb
    · exact hfp _ (by simp)
    · rcases List.mem_cons.mp hb with rfl | hb
      · exact hfp _ (by simp)
      · obtain rfl : b = x1 := by simpa using hb
        rw [Heap.size_push]
        exact Nat.lt_succ_of_lt (Heap.lt_size h1)
  · have q := h h' tk t' (old_kept hk)
    have es : preSum (numAt xs) (intItems xs).size = ns.sum := by
      have : (intItems xs).size = xs.size := by simp [intItems]
      rw [this, preSum_eq, List.take_of_length_le (by simp), hn]
    rw [es]
    exact q
end
end MiH
end
section
set_option Elab.async false
set_option linter.all false
set_option maxRecDepth 100000
set_option maxHeartbeats 2000000
/-! Ev22: a list comprehension over a list while an exception is handled -/
namespace Mi
open PySem PySem.Spec PyProof.Rows L2
section
variable {X : Cx}
/-- what one item becomes -/
abbrev Each (te : TE) (k : Nat) (xs ys : List V) : Prop := xs.length = ys.length ∧ ∀ (i : Nat) (x y : V), xs[i]? = some x → ys[i]? = some y → ∀ (σ : L2.St) (H : Hp) (Q : VK), σ[k]? = some (some x) → Q y H → te σ H Q
theorem pe_lcHot {elt iter : Expr} {x : Str} {xp pos : Pos} {scope : Scope} {own : List (Str × Nat)} {k : Nat} {ti te : TE} (hot : L2H.HotC X) (hN : X.N.Nodup) (ok : BlkOk X.N X.env.scope scope own) (hk : k ∈ own.map (·.2)) (hkl : k < X.N.length) (hi : PE X iter ti)
    (hg : ∀ (s : Shared) (H : Hp) (C : Addr) (cl : List (Str × Addr)) (fp : List Addr), PG (X.blk s H scope (compEnvC scope cl C X.env) fp) (.Name x xp) (gName k))
    (he : ∀ (s : Shared) (H : Hp) (C : Addr) (cl : List (Str × Addr)) (fp : List Addr), PE (X.blk s H scope (compEnvC scope cl C X.env) fp) elt te) (hs : ∀ v, foldedSetIterable iter X.env v = pure v := by intro _; rfl) :
    PE X (.ListComp elt [⟨.Name x xp, iter, [], 0⟩] scope pos) (fun σ H Q => ti σ H fun v H1 => ∃ a xs ys, v = .ref a ∧ H1 a = some (.lst xs) ∧ Each te k xs ys ∧ xs.length ≤ 1000 ∧ ∀ p, H1 p = none → Q (.ref p) (upd H1 p (.lst ys))) := by
  constructor
  intro pins s σ H Q I h
  rw [eval_ListComp]
  have hfree : ∀ y ∈ scope.names, y.2 = .free → ∃ c, X.env.cells.lookup y.1 = some c := fun y hy e => (ok.free y hy e).elim (fun z => I.ok.has _ (.inl z)) fun z => I.ok.has _ (.inr z)
  refine wpAny_comprehension_free (use := none) rfl hs (closure_ok hfree) ok.kind (fun y hy e => by rw [ok.uniq y hy, e]) (thn (hi.run pins s σ H _ I h) ?_)
  rintro v1 s1 ⟨v, H1, I1, r1, a, xs, ys, rfl, hHa, ⟨hlen, hte⟩, hz, hq⟩
  obtain rfl : v1 = Value.ref a := r1
  obtain ⟨its, rv, pl, _⟩ := I1.list (SqL.of hHa)
  refine wpAny_pyIter_list pl.isList ?_
  generalize hIt : s1.heap.objs.size = it
  obtain ⟨p, ⟨hh, pv, pd, pc⟩, hp⟩ := id hot
  have P1 := I1.pin p (List.mem_append_left _ hp)
  have I2 : Inv X pins σ H1 { s1 with heap := s1.heap.push { cls := .type "list_iterator", data := .fields #[.ref a, .int 0 0] } } := I1.kept (t' := s1.toks) fun b o e => Heap.get?_push_of_some _ e
  have st2 : (s1.heap.push { cls := .type "list_iterator", data := .fields #[.ref a, .int 0 0] }).IsListIter it a 0 := ⟨_, by rw [← hIt]; exact Heap.get?_push_size _ rfl, rfl, rfl⟩
  have nIt : H1 it = none := by rw [← hIt]; exact I1.hok.fresh (Nat.le_refl _)
  have fIt : FpOk X pins H1 it := by rw [← hIt]; exact I1.fpOk (Nat.le_refl _) (I1.hok.fresh (Nat.le_refl _))
  have pIt : p.1 ≠ it := by rw [← hIt]; exact Nat.ne_of_lt (Heap.lt_size P1.1)
  have hsz : (s1.heap.push { cls := .type "list_iterator", data := .fields #[.ref a, .int 0 0] }).objs.size = it + 1 := by rw [Heap.size_push, hIt]
  generalize hs2 : ({ s1 with heap := s1.heap.push { cls := .type "list_iterator", data := .fields #[.ref a, .int 0 0] } } : Shared) = s2 at I2 ⊢
  have e2 : s2.heap = s1.heap.push { cls := .type "list_iterator", data := .fields #[.ref a, .int 0 0] } := by rw [← hs2]
  rw [← e2] at st2 hsz
  refine wpAny_newObj_type (newEnv_comp ?_) (by show 0 ≤ sizeLine; decide)
  generalize hD : s2.heap.objs.size = D
  have nD : H1 D = none := I2.hok.fresh (Nat.le_of_eq hD)
  have dIt : it ≠ D := by rw [← hD, hsz]; exact Nat.ne_of_lt (Nat.lt_succ_self _)
  have aD : a ≠ D := fun e => by rw [e, nD] at hHa; cases hHa
  generalize hs3 : ({ s2 with heap := s2.heap.push { cls := .type "list", data := .seq ([] : List Value).toArray } } : Shared) = s3
  have e3 : s3.heap = s2.heap.push { cls := .type "list", data := .seq ([] : List Value).toArray } := by rw [← hs3]
  have I3 : Inv X pins σ (upd H1 D (.lst [])) s3 := by
    rw [← hs3]
    exact I2.laid (t' := s2.toks) (fun b o e => Heap.get?_push_of_some _ e) (Nat.le_of_eq hD) ⟨Nat.zero_le _, [], 0, .nil, by rw [← hD]; exact Heap.get?_push_size _ rfl⟩
  have fp3 : ∀ b ∈ [it], FpOk X pins (upd H1 D (.lst [])) b ∧ b < s3.heap.objs.size := fun b hb => by
    obtain rfl : b = it := by simpa using hb
    refine ⟨⟨by rw [upd_ne dIt]; exact nIt, fIt.2⟩, by rw [e3, Heap.size_push, hsz]; omega⟩
  have I4 := block_start I3 ok hN fp3
  have pg := hg s3 (upd H1 D (.lst [])) s3.heap.objs.size (cellsFrom (s3.heap.objs.size + 1) scope.names (cloFrom X.env.cells scope.names [])) [it]
  have pe := he s3 (upd H1 D (.lst [])) s3.heap.objs.size (cellsFrom (s3.heap.objs.size + 1) scope.names (cloFrom X.env.cells scope.names [])) [it]
  have P3 := I3.pin p (List.mem_append_left _ hp)
  have pFr : p.1 ∉ frs X.stack := fun hm => (List.mem_cons.mp (I3.stkSub p.1 hm)).elim P3.2.2.1 P3.2.2.2.1
  show codeAny _ _ (.compStart (.ListComp elt [⟨.Name x xp, iter, [], 0⟩] scope pos) 0 (.ref it) (.ref D) (compEnvC scope (cellsFrom (s3.heap.objs.size + 1) scope.names (cloFrom X.env.cells scope.names [])) s3.heap.objs.size X.env)) (compPost (model X.prog X.w) X.A X.xe none (EP X pins σ Q) (.ref D) s3.heap.objs.size) { s3 with heap := pushCells (s3.heap.push { cls := .type "dict", data := .dict #[] }) scope.names }
  generalize hce : compEnvC scope (cellsFrom (s3.heap.objs.size + 1) scope.names (cloFrom X.env.cells scope.names [])) s3.heap.objs.size X.env = ce at I4 pg pe ⊢
  have cL : ce.locals = s3.heap.objs.size := by subst hce; rfl
  generalize hs4 : ({ s3 with heap := pushCells (s3.heap.push { cls := .type "dict", data := .dict #[] }) scope.names } : Shared) = s4 at I4 ⊢
  have st4 : s4.heap.IsListIter it a 0 := by
    rw [← hs4]
    exact st2.at fun o e => pushCells_keeps _ _ _ _ (Heap.get?_push_of_some _ (by rw [e3]; exact Heap.get?_push_of_some _ e))
  have hl : its.length = xs.length := rv.length.symm
  -- the list stays through the block
  have lst : ∀ (n : Nat), upd H1 D (.lst (ys.take n)) a = some (.lst xs) := fun n => by rw [upd_ne aD]; exact hHa
  have hotIn : ∀ {σ' : L2.St} {H' : Hp} {s' : Shared} {q : List (Addr × Obj)}, Inv (X.blk s3 (upd H1 D (.lst [])) scope ce [it]) q σ' H' s' → HotX.HotAt X.A p.1 s'.heap := fun {σ' H' s' q} J =>
    ⟨hh, p.2, pv, J.base.keep p.1 p.2 P3.1 P3.2.1 pFr (fun m => pIt (by simpa using m)), pd, pc⟩
  have stat : ∀ {σ' : L2.St} {H' : Hp} {s' : Shared}, Inv (X.blk s3 (upd H1 D (.lst [])) scope ce [it]) [] σ' H' s' → H' it = none → FpOk (X.blk s3 (upd H1 D (.lst [])) scope ce [it]) [] H' it := fun {σ' H' s'} J hn =>
    ⟨hn, (J.ok.exf it (by exact List.mem_cons_self)).1, J.ok.exfs it (by exact List.mem_cons_self), .inl (by exact List.mem_cons_self), fun y c e => (J.ok.exf it (by exact List.mem_cons_self)).2 y c e, fun q hq => absurd (show q ∈ ([] : List (Addr × Obj)) ++ [] from hq) (by simp)⟩
  have loop : codeAny (model X.prog X.w) X.A (.compLoop (.ListComp elt [⟨.Name x xp, iter, [], 0⟩] scope pos) 0 (.ref it) (.ref D) ce) (compPost (model X.prog X.w) X.A X.xe none (EP X pins σ Q) (.ref D) s3.heap.objs.size) s4 := by
    refine compLoop_any (fun n s' => ∃ i, n = xs.length - i ∧ i ≤ xs.length ∧ Inv (X.blk s3 (upd H1 D (.lst [])) scope ce [it]) [] (wipe σ (own.map (·.2))) (upd H1 D (.lst (ys.take i))) s' ∧ s'.heap.IsListIter it a i) ?_ xs.length ⟨0, rfl, Nat.zero_le _, by simpa using I4, st4⟩
    rintro n s5 ⟨i, rfl, hi, I5, st5⟩
    have itN : ∀ m, upd H1 D (.lst (ys.take m)) it = none := fun m => by rw [upd_ne dIt]; exact nIt
    obtain ⟨its5, rv5, pl5, _⟩ := I5.list (SqL.of (lst i))
    obtain ⟨f0, f1, f2, f3, f4, f5⟩ := stat I5 (itN i)
    by_cases hlt : i < xs.length
    · have hx : xs[i]? = some xs[i] := List.getElem?_eq_getElem hlt
      have hy : ys[i]? = some ys[i] := List.getElem?_eq_getElem (by omega)
      obtain ⟨u, hu, ru⟩ := rv5.get hx
      refine wpAny_pyNext_list_item st5 pl5.isList (x := u) (by simpa using hu) fun h' st' sb => ?_
      have I6 : Inv (X.blk s3 (upd H1 D (.lst [])) scope ce [it]) [] (wipe σ (own.map (·.2))) (upd H1 D (.lst (ys.take i))) { s5 with heap := h' } := I5.turned (t' := s5.toks) (fun b o hb e => (sb.2 b hb).trans e) f0 f1 f3 f4 f5
      obtain ⟨o', eo', c', d'⟩ := id st'
      refine go_of (s := { s5 with heap := h' }) eo' c' d' (by decide) ?_
      have I6' : Inv (X.blk s3 (upd H1 D (.lst [])) scope ce [it]) ([(it, o')]) (wipe σ (own.map (·.2))) (upd H1 D (.lst (ys.take i))) { s5 with heap := h' } := I6.pins_of fun q hq => by
        obtain rfl : q = (it, o') := by simpa using hq
        exact ⟨eo', f0, f1, f2, fun v z => by rw [d'] at z; cases z⟩
      refine thnF (pg.run _ _ _ _ xs[i] u _ I6' ru (by exact ⟨rfl, rfl⟩ : gName k xs[i] (wipe σ (own.map (·.2))) (upd H1 D (.lst (ys.take i))) fun σ2 H2 => σ2 = (wipe σ (own.map (·.2))).set k (some xs[i]) ∧ H2 = upd H1 D (.lst (ys.take i)))) ?_
      rintro _ s8 ⟨σ8, H8, I8, rfl, rfl⟩
      refine thnF (pts_nil.run (X := X.blk s3 (upd H1 D (.lst [])) scope ce [it]) _ s8 _ _ (fun b H' => b = true ∧ H' = upd H1 D (.lst (ys.take i))) I8 ⟨rfl, rfl⟩) ?_
      rintro b s9 ⟨H9, I9, rfl, rfl⟩
      rw [if_pos rfl]
      have kW : k < (wipe σ (own.map (·.2))).length := by rw [wipe_length, I.len]; exact hkl
      have rd := hte i xs[i] ys[i] hx hy _ (upd H1 D (.lst (ys.take i))) (fun v H' => v = ys[i] ∧ H' = upd H1 D (.lst (ys.take i))) (List.getElem?_set_self (l := wipe σ (own.map (·.2))) (a := some xs[i]) kW) ⟨rfl, rfl⟩
      refine thnF (pe.run _ s9 _ _ _ I9 rd) ?_
      rintro z s10 ⟨yv, H10, I10, r10, rfl, rfl⟩
      refine app_ok (X := X.blk s3 (upd H1 D (.lst [])) scope ce [it]) I10 upd_same (by rw [List.length_take, sizeLine_eq]; omega) r10 fun s11 I11 => ?_
      refine ⟨xs.length - (i + 1), by omega, i + 1, rfl, hlt, ?_, st'.at fun o e => ?_⟩
      · have e1 : upd (upd H1 D (.lst (ys.take i))) D (.lst (ys.take i ++ [ys[i]])) = upd H1 D (.lst (ys.take (i + 1))) := by
          rw [upd_upd, List.take_append_getElem]
        rw [e1] at I11
        refine (I11.pins_of (pins' := []) fun q hq => nomatch hq).weak (by rw [List.length_set]) fun j v e => ?_
        by_cases hj : k = j
        · subst hj
          have := (wipe_some e).2
          exact (this hk).elim
        · rw [List.getElem?_set_ne hj]; exact e
      · have := (I11.pin (it, o') (List.mem_append_right _ (by exact List.mem_cons_self))).1
        have e' : h'.get? it = some o := e
        rw [eo'] at e'
        cases e'
        exact this
    · have e : i = xs.length := by omega
      subst e
      refine MiH.list_end_hot (hotIn I5) pIt st5 pl5.isList (by have := rv5.length; simp; omega) fun h' eb => ?_
      have I6 : Inv (X.blk s3 (upd H1 D (.lst [])) scope ce [it]) [] (wipe σ (own.map (·.2))) (upd H1 D (.lst (ys.take xs.length))) { s5 with heap := h' } := I5.turned (t' := s5.toks) (fun b o hb e => eb b o hb e) f0 f1 f3 f4 f5
      have I7 : Inv X pins σ (upd H1 D (.lst (ys.take xs.length))) { s5 with heap := h' } := I3.call' (ch := [it]) I6.os I6.base I6.hok I6.bare fun b hb => ⟨(fp3 b hb).1.2.2.2.1, (fp3 b hb).1.2.1, (fp3 b hb).1.2.2.2.2.1, (fp3 b hb).1.2.2.2.2.2⟩
      obtain ⟨m, hn, _⟩ := I6.loc
      have hn : h'.Ns ce.locals m := hn
      rw [cL] at hn
      have fC := I3.fpOk (Nat.le_refl _) (show upd H1 D (.lst (ys.take xs.length)) s3.heap.objs.size = none by
        have z : upd H1 D (.lst (ys.take xs.length)) ce.locals = none := I6.free
        rw [cL] at z
        exact z)
      obtain ⟨g0, g1, g2, g3, g4, g5⟩ := fC
      refine ⟨m, hn, fun h2 sb2 => ⟨.ref D, _, I7.turned (s := { s5 with heap := h' }) (t' := s5.toks) (fun b o hb e => (sb2.2 b hb).trans e) g0 g1 g3 g4 g5, rfl, ?_⟩⟩
      have := hq D nD
      rw [List.take_of_length_le (by omega)]
      exact this
  exact codeAny_compStart_list loop (wpAny_pyIter_listiter st4 loop)
end
end Mi
end
section
set_option Elab.async false
set_option linter.all false
set_option maxRecDepth 100000
set_option maxHeartbeats 2000000
/-! Ev23: the def that names an exception -/
namespace Mi
open PySem PySem.Spec PyProof.Rows L2
theorem err_def {P : Program} {G : Glb} {mg : Str → Option Value} {base : Heap} {k : Nat} {nm y : Str} {st : Stmt} {N : List Str} {r : Nat → Option Str} (d : Def G mg nm st [y]) (S : FnScope N [y] (defScope st))
    (body : ∀ (f : Addr) (cdv : Value) (A : Around) (outer : List Env) (s : Shared) (H : Hp) (E : XK) (Q : VK) (p : Addr × Obj) (c : Nat) (t : Str), L2H.RoomH k (A.deeper (envOfC nm (defScope st) s.heap.objs.size f cdv)) → L2H.Hot1 A p → L2N.Zn (.ref (G.ea c)) none p.2 → r c = some t → (∀ H', Same H H' → Q (.str t) H') →
      ∃ tt, PSs (L2H.cxH (L2N.CX P G.w) P G.w G.K mg base N nm (defScope st) f cdv A outer s H E p) (defBody st) tt ∧ tt { nx := fun _ H' => Q .non H', rt := Q } (L2.start N [.ref p.1]) H) : ErrF P G mg base (k + 1) nm r := by
  obtain ⟨f, fd, Fn, hm, hk, hb⟩ := d.ex
  obtain ⟨oc, od, kV, doc, pm, an, cdv, ct, osl, rfl, lk, hcd⟩ := Fn.ex
  refine ⟨f, _, y, hm, hk, hb, ?_⟩
  intro A outer s H args Q E p c t room hot pin env bind hz hr hq
  have keepB : ∀ b o, base.get? b = some o → s.heap.get? b = some o := fun b o q => (env.bs b o q).1
  have KH : G.K.In s.heap := env.mod.kin.keeps keepB
  have noLim : s.heap.NoLimit := env.mod.nolimit.keeps keepB
  have kinds : ∀ z ∈ [y].zip [Value.ref p.1], (defScope st).names.lookup z.1 = some .local ∨ ((defScope st).names.lookup z.1 = some .cell ∧ ((cellsFrom (s.heap.objs.size + 1) (defScope st).names []).lookup z.1).isSome = true) := by
    rintro ⟨m, v⟩ hy
    rcases S.par m (List.of_mem_zip hy).1 with q | q
    · exact .inl q
    · exact .inr ⟨q, PySem.W.cellsFrom_some _ _ _ (.inl q)⟩
  refine codeAny_call_function room.depth (KH _ _ lk) rfl S.co S.gen rfl (PySem.W.codeRec_of KH hcd) ?_
  refine bind _ _ _ _ (wpAny_newFunctionEnv_cells S.kind kinds ?_)
  rintro _ rfl s1 x
  refine ⟨noLim.keeps x.toInCall.keep, codeAny_func ?_⟩
  obtain ⟨tt, bodyOk, rd⟩ := body f cdv A outer s H E Q p c t (room.deeper _) hot hz hr hq
  have I0 := L2H.inv_startH (CX := L2N.CX P G.w) (E := E) (mg := mg) (cd := cdv) (qual := nm) (f := f) (vs := [V.ref p.1]) S pin env rfl (.cons rfl .nil) x
  refine wpAny_mono (bodyOk.run [] s1 _ H _ I0 rd) (fun fl s' out => ?_) fun _ _ z => z
  cases fl with
  | brk => obtain ⟨_, _, _, z⟩ := out; exact z.elim
  | cont => obtain ⟨_, _, _, z⟩ := out; exact z.elim
  | next =>
    obtain ⟨σ', H', J, q⟩ := out
    exact ⟨V.non, H', J.os, J.bare, J.base, J.hok, rfl, q⟩
  | ret u =>
    obtain ⟨v, σ', H', J, rel, q⟩ := out
    exact ⟨v, H', J.os, J.bare, J.base, J.hok, rel, q⟩
section
variable {X : Cx}
theorem hotC_of {A : Around} {p : Addr × Obj} (hot : L2H.Hot1 A p) (hA : X.A.handled = A.handled) (hp : p ∈ X.pn) : L2H.HotC X := ⟨p, ⟨by rw [hA]; exact hot.1, hot.2⟩, hp⟩
theorem cr_isH {p : Addr × Obj} {D : Addr} (hp : p ∈ X.pn) (C : ExcC X.K D) (hz : L2N.Zn (.ref D) none p.2) (hf : ∃ vs, p.2.data = .fields vs) : CallR X (.builtin "isinstance") (rIsE X.K D p.1) := by
  intro pins s σ H xs us Q I r h
  obtain ⟨c, cv, b, rfl, hcv, e, q⟩ := h
  obtain ⟨u, u', rfl, ru, ru'⟩ := Vals.two r
  obtain rfl : u = Value.ref p.1 := ru
  obtain rfl := hcv _ ru'
  have hget := (I.pin p (List.mem_append_left _ hp)).1
  obtain ⟨vs, hv⟩ := hf
  have J : PySem.W.InstAt s.heap p.1 p.2 D none := by
    obtain ⟨pa, oc, od, oda, osl⟩ := p
    obtain ⟨h1, h2, _⟩ := hz
    dsimp only at h1 h2 hv
    subst h1 h2 hv
    exact ⟨hget, rfl, rfl, trivial⟩
  exact PySem.W.kia_one (PySem.W.handS_kitx_exc C.hg C.hk C.hs C.hd C.ha C.hn C.ht C.hm) I.kIn J e (fun z => nomatch z) fun tk => ⟨.bl b, H, I.kept (t' := tk) fun _ _ z => z, rfl, q⟩
theorem cr_sumH (hot : L2H.HotC X) : CallR X (.builtin "sum") (rSum X.K) := by
  intro pins s σ H vs us Q I r h
  obtain ⟨a, ns, rfl, hs, q⟩ := h
  obtain ⟨its, rv, hl, _⟩ := I.list hs
  obtain ⟨x1, at1⟩ := hot.at I
  rw [Vals.ref1 r]
  exact MiH.sum_hot at1 hl.isList rv.ints fun h' tk t' hk => ⟨.int _, H, I.kept hk, ⟨_, rfl⟩, q⟩
end
/-- the text of the class with the number c -/
def errR : Nat → Option Str
  | 1 => some "refused"
  | 2 => some "form"
  | 3 => some "missing"
  | 4 => some "alike"
  | 5 => some "wrong"
  | _ => none
def rInt1 : List V → Hp → VK → Prop := fun xs H Q => (∃ i, xs = [.int i] ∧ Q (.int i) H) ∨ ∃ k, xs = [.bl k] ∧ Q (.int (if k then 1 else 0)) H
abbrev tIs (K : PySem.W.Frag) (D a C : Addr) : TE := tCB (rIsE K D a) (tCons (tVar 0) (tCons (tC (.ref C)) tNil))
theorem is_rd {K : PySem.W.Frag} {D a C : Addr} {b : Bool} {σ : L2.St} {H : Hp} {Q : VK} (hs : σ[0]? = some (some (.ref a))) (e : PySem.W.kitOne K (.ref D) (.ref C) = some b) (q : Q (.bl b) H) : tIs K D a C σ H Q :=
  ⟨_, hs, _, _, b, rfl, fun _ r => r, e, q⟩
theorem err_rd {K : PySem.W.Frag} {ea : Nat → Addr} {a : Addr} {c : Nat} {t : Str} {H : Hp} {D : Ends} (hr : errR c = some t) (e : ∀ i j, i < 6 → j < 6 → 0 < i → 0 < j → PySem.W.kitOne K (.ref (ea i)) (.ref (ea j)) = some (decide (i = j))) (hq : ∀ H', Same H H' → D.rt (.str t) H') :
    tSeq (tAsg (tLst (tCons (tIs K (ea c) a (ea 1)) (tCons (tIs K (ea c) a (ea 3)) (tCons (tIs K (ea c) a (ea 5)) (tCons (tIs K (ea c) a (ea 2)) (tCons (tIs K (ea c) a (ea 4)) tNil)))))) (gName 1))
      (tSeq (tIfS (tTest (tOp rNe (tCB (rSum K) (tCons (fun σ H Q => tVar 1 σ H fun v H1 => ∃ a xs ys, v = .ref a ∧ H1 a = some (.lst xs) ∧ Each (tCB rInt1 (tCons (tVar 2) tNil)) 2 xs ys ∧ xs.length ≤ 1000 ∧ ∀ p, H1 p = none → Q (.ref p) (upd H1 p (.lst ys))) tNil)) (tC (.int 1)))) (tRet (tC (.str "odd"))) tNext)
        (tRet (tOp (rIxL K) (tLst (tCons (tC (.str "refused")) (tCons (tC (.str "missing")) (tCons (tC (.str "wrong")) (tCons (tC (.str "form")) (tCons (tC (.str "alike")) tNil)))))) (tBM K "list" (rIndex K) (tVar 1) (tCons (tC (.bl true)) tNil))))) D [some (.ref a), none, none] H := by
  have hc : c < 6 ∧ 0 < c := by
    unfold errR at hr
    split at hr <;> first | exact ⟨by decide, by decide⟩ | cases hr
  refine is_rd rfl (e c 1 hc.1 (by decide) hc.2 (by decide)) (is_rd rfl (e c 3 hc.1 (by decide) hc.2 (by decide)) (is_rd rfl (e c 5 hc.1 (by decide) hc.2 (by decide)) (is_rd rfl (e c 2 hc.1 (by decide) hc.2 (by decide)) (is_rd rfl (e c 4 hc.1 (by decide) hc.2 (by decide)) ⟨by simp [sizeLine_eq], fun l hl => ?_⟩))))
  refine ⟨.ref l, rfl, l, _, ([decide (c = 1), decide (c = 3), decide (c = 5), decide (c = 2), decide (c = 4)].map fun b : Bool => V.int (if b then 1 else 0)), rfl, upd_same, ⟨rfl, fun i x y h1 h2 σ' H' Q' h3 h4 => ?_⟩, by simp, fun m hm => ?_⟩
  · have hx : ∃ b : Bool, x = V.bl b ∧ y = V.int (if b then 1 else 0) := by
      match i, h1, h2 with
      | 0, h1, h2 => exact ⟨_, (Option.some.inj h1).symm, (Option.some.inj h2).symm⟩
      | 1, h1, h2 => exact ⟨_, (Option.some.inj h1).symm, (Option.some.inj h2).symm⟩
      | 2, h1, h2 => exact ⟨_, (Option.some.inj h1).symm, (Option.some.inj h2).symm⟩
      | 3, h1, h2 => exact ⟨_, (Option.some.inj h1).symm, (Option.some.inj h2).symm⟩
      | 4, h1, h2 => exact ⟨_, (Option.some.inj h1).symm, (Option.some.inj h2).symm⟩
    obtain ⟨b, rfl, rfl⟩ := hx
    exact ⟨_, h3, .inr ⟨b, rfl, h4⟩⟩
  · have ne : l ≠ m := fun z => by rw [← z, upd_same] at hm; cases hm
    have hm0 : H m = none := by rw [upd_ne (Ne.symm ne)] at hm; exact hm
    refine ⟨m, [decide (c = 1), decide (c = 3), decide (c = 5), decide (c = 2), decide (c = 4)].map fun b : Bool => if b then 1 else 0, rfl, SqL.of (by rw [upd_same]; rfl), ?_⟩
    have sum1 : ([decide (c = 1), decide (c = 3), decide (c = 5), decide (c = 2), decide (c = 4)].map fun b : Bool => (if b then 1 else 0 : Int)).sum = 1 := by
      have : c = 1 ∨ c = 2 ∨ c = 3 ∨ c = 4 ∨ c = 5 := by omega
      rcases this with rfl | rfl | rfl | rfl | rfl <;> decide
    rw [sum1]
    refine ⟨rfl, _, rfl, ?_⟩
    have eB : (!decide (V.int 1 = V.int 1)) = false := by simp
    rw [eB]
    dsimp only []
    rw [if_neg Bool.false_ne_true]
    refine ⟨by simp [sizeLine_eq], fun n hn => ?_⟩
    have s1 : Same H (upd (upd (upd H l (.lst [.bl (decide (c = 1)), .bl (decide (c = 3)), .bl (decide (c = 5)), .bl (decide (c = 2)), .bl (decide (c = 4))])) m (.lst ([decide (c = 1), decide (c = 3), decide (c = 5), decide (c = 2), decide (c = 4)].map fun b : Bool => V.int (if b then 1 else 0)))) n (.lst [.str "refused", .str "missing", .str "wrong", .str "form", .str "alike"])) :=
      ((same_upd hl).trans (same_upd hm)).trans (same_upd hn)
    have hlm : (upd (upd (upd H l (.lst [.bl (decide (c = 1)), .bl (decide (c = 3)), .bl (decide (c = 5)), .bl (decide (c = 2)), .bl (decide (c = 4))])) m (.lst ([decide (c = 1), decide (c = 3), decide (c = 5), decide (c = 2), decide (c = 4)].map fun b : Bool => V.int (if b then 1 else 0)))) n (.lst [.str "refused", .str "missing", .str "wrong", .str "form", .str "alike"])) l = some (.lst [.bl (decide (c = 1)), .bl (decide (c = 3)), .bl (decide (c = 5)), .bl (decide (c = 2)), .bl (decide (c = 4))]) :=
      same_upd hn l _ (same_upd hm l _ upd_same)
    refine ⟨.ref l, rfl, .inl ⟨rfl, _, SqL.of hlm⟩, ?_⟩
    have fin : ∀ (j : Nat) (s : Str), ([.str "refused", .str "missing", .str "wrong", .str "form", .str "alike"] : List V)[j]? = some (.str s) → j < 5 → s = t →
        rIxL K (.ref n) (.int (j : Nat)) (upd (upd (upd H l (.lst [.bl (decide (c = 1)), .bl (decide (c = 3)), .bl (decide (c = 5)), .bl (decide (c = 2)), .bl (decide (c = 4))])) m (.lst ([decide (c = 1), decide (c = 3), decide (c = 5), decide (c = 2), decide (c = 4)].map fun b : Bool => V.int (if b then 1 else 0)))) n (.lst [.str "refused", .str "missing", .str "wrong", .str "form", .str "alike"])) D.rt := fun j s hj hlt hs => by
      refine ⟨n, _, (j : Nat), .str s, rfl, rfl, SqL.of upd_same, ?_, by rw [hs]; exact hq _ s1⟩
      have e5 : ixN 5 (j : Int) = some j := by
        unfold ixN
        rw [if_pos (Int.natCast_nonneg _), if_pos (by omega), Int.toNat_natCast]
      unfold atI
      show (ixN 5 (j : Int)).bind _ = _
      rw [e5]
      exact hj
    have : c = 1 ∨ c = 2 ∨ c = 3 ∨ c = 4 ∨ c = 5 := by omega
    rcases this with rfl | rfl | rfl | rfl | rfl
    · cases hr; exact ⟨l, _, .bl true, 0, .bl true, rfl, rfl, SqL.of hlm, rfl, rfl, rfl, rfl, fun q z h => by omega, fin 0 _ rfl (by decide) rfl⟩
    · cases hr; exact ⟨l, _, .bl true, 3, .bl true, rfl, rfl, SqL.of hlm, rfl, rfl, rfl, rfl, fun q z h e => by
        match q, h, e with
        | 0, _, e => cases e; rfl
        | 1, _, e => cases e; rfl
        | 2, _, e => cases e; rfl, fin 3 _ rfl (by decide) rfl⟩
    · cases hr; exact ⟨l, _, .bl true, 1, .bl true, rfl, rfl, SqL.of hlm, rfl, rfl, rfl, rfl, fun q z h e => by
        match q, h, e with
        | 0, _, e => cases e; rfl, fin 1 _ rfl (by decide) rfl⟩
    · cases hr; exact ⟨l, _, .bl true, 4, .bl true, rfl, rfl, SqL.of hlm, rfl, rfl, rfl, rfl, fun q z h e => by
        match q, h, e with
        | 0, _, e => cases e; rfl
        | 1, _, e => cases e; rfl
        | 2, _, e => cases e; rfl
        | 3, _, e => cases e; rfl, fin 4 _ rfl (by decide) rfl⟩
    · cases hr; exact ⟨l, _, .bl true, 2, .bl true, rfl, rfl, SqL.of hlm, rfl, rfl, rfl, rfl, fun q z h e => by
        match q, h, e with
        | 0, _, e => cases e; rfl
        | 1, _, e => cases e; rfl, fin 2 _ rfl (by decide) rfl⟩
end Mi
end
section
set_option Elab.async false
set_option linter.all false
set_option maxRecDepth 100000
/-! Ev24: from the facts of the head to defs and classes -/
namespace Mi
open PySem PySem.Spec PyProof.Rows L2
section
variable {K : PySem.W.Frag} {h : Heap} {mg : Str → Option Value} {G : Glb}
theorem def_in {name : Str} {st : Stmt} {ps : List Str} {f : Addr} {oc kV doc pm cdv ct : Value} {od an : Option Addr} {osl : Array (Option Value)} (KX : G.K.In h) (NS : h.Ns mainGlobals mg) (a : PySem.W.nsIn G.K mainGlobals name = some (some (.ref f)))
    (l : G.K.lookup f = some ⟨oc, od, .func (PySem.W.fnOf name name (defArgs st) (defBody st) (defScope st) .none kV doc pm an cdv ct), osl⟩) (c : PySem.W.codeIn G.K cdv name = true) (k : PySem.W.keepIn G.K (.ref f) = true)
    (b : ∀ (kV doc pm : Value) (an : Option Addr) (cdv ct : Value) (us : List Value), us.length = ps.length → bindArgs (PySem.W.fnOf name name (defArgs st) (defBody st) (defScope st) .none kV doc pm an cdv ct) ⟨us, []⟩ = pure (ps.zip us)) : Def G mg name st ps :=
  ⟨f, _, fun_mk l c k, PySem.W.mg_of KX NS a, k, (fun_mk l c k).binds b⟩
/-- the classes' places -/
def eaOf (a b c d e f : Addr) : Nat → Addr
  | 0 => a
  | 1 => b
  | 2 => c
  | 3 => d
  | 4 => e
  | _ => f
theorem exc_in {x : Str} {C : Addr} (KX : K.In h) (NS : h.Ns mainGlobals mg) (a : PySem.W.nsIn K mainGlobals x = some (some (.ref C))) (e : PySem.W.excIn K C bmV "ValueError.__new__" = true) (k : PySem.W.keepIn K (.ref C) = true)
    (b : PySem.W.subIn K (.ref C) (.type "BaseException") = some true) (t : PySem.W.typeIn K (.ref C) = some (.type "type")) : Exc1 K mg x C := ⟨PySem.W.mg_of KX NS a, e, k, b, t⟩
theorem kit_same {t : Value} : PySem.W.kitOne K t t = some true := by
  unfold PySem.W.kitOne
  rw [if_pos (beq_self_eq_true t)]
/-- the names that stand for built-ins -/
theorem nog_in {l : List Str} (KX : K.In h) (NS : h.Ns mainGlobals mg) (z : ∀ x, l.contains x = true → PySem.W.nsIn K mainGlobals x = some none) : NoG mg l := ⟨fun x hx => PySem.W.mg_none_of KX NS (z x hx)⟩
theorem nog_nil {P : Str → Prop} : ∀ x, ([] : List Str).contains x = true → P x := fun x h => by simp at h
theorem nog_cons {P : Str → Prop} {y : Str} {l : List Str} (h : P y) (t : ∀ x, l.contains x = true → P x) : ∀ x, (y :: l).contains x = true → P x := fun x hx => by
  rw [List.contains_cons, Bool.or_eq_true] at hx
  rcases hx with e | e
  · rw [beq_iff_eq.mp e]; exact h
  · exact t x e
end
end Mi
namespace Mi
open PySem PySem.Spec PyProof.Rows L2
theorem kit_no {K : PySem.W.Frag} {C D : Addr} (ne : C ≠ D) (hd : PySem.W.hasDictIn K D = true) (t : PySem.W.typeIn K (.ref D) = some (.type "type")) (s : PySem.W.subIn K (.ref C) (.ref D) = some false) : PySem.W.kitOne K (.ref C) (.ref D) = some false := by
  obtain ⟨cd, hc, _⟩ := PySem.W.any_some hd
  have e1 : (Value.ref C == Value.ref D) = false := beq_eq_false_iff_ne.mpr fun e => ne (Value.ref.inj e)
  have e2 : ((PySem.W.clsIn K D).isSome && PySem.W.typeIn K (.ref D) == some (.type "type")) = true := by rw [hc, t]; rfl
  unfold PySem.W.kitOne
  rw [e1, if_neg Bool.false_ne_true]
  show (if ((PySem.W.clsIn K D).isSome && PySem.W.typeIn K (.ref D) == some (.type "type")) = true then PySem.W.subIn K (.ref C) (.ref D) else none) = some false
  rw [if_pos e2]
  exact s
end Mi
namespace Mi
open PySem
theorem nd_ne {l : List Addr} (h : l.Nodup) (i j : Nat) {a b : Addr} (ha : l[i]? = some a) (hb : l[j]? = some b) (ne : i ≠ j) : a ≠ b := fun e => by
  subst e
  obtain ⟨h1, e1⟩ := List.getElem?_eq_some_iff.mp ha
  obtain ⟨h2, e2⟩ := List.getElem?_eq_some_iff.mp hb
  exact ne ((List.getElem_inj h).mp (e1.trans e2.symm))
end Mi
end
section
set_option Elab.async false
set_option linter.all false
set_option maxRecDepth 100000
/-! Ev30: how an evaluator is evaluated -/
namespace Mi
open PySem
section
variable {α β : Type} {a : α} {ρ : Rho} {c i n : Nat} {w : Vl} {d : PyData} {ws : List Vl}
theorem bind_ok {k : α → Rho → Out β} : (Out.ok a ρ).bind k = k a ρ := rfl
theorem bind_exc {k : α → Rho → Out β} : (Out.exc c ρ : Out α).bind k = .exc c ρ := rfl
theorem bind_stk {k : α → Rho → Out β} : (Out.stk : Out α).bind k = .stk := rfl
theorem bindS_ok {k : α → Rho → SO} : (Out.ok a ρ).bindS k = k a ρ := rfl
theorem bindS_exc {k : α → Rho → SO} : (Out.exc c ρ : Out α).bindS k = .exc c ρ := rfl
theorem bindS_stk {k : α → Rho → SO} : (Out.stk : Out α).bindS k = .stk := rfl
theorem ret_some : Mi.ret ρ (some w) = .ok (.val w) ρ := rfl
theorem look_val : look ρ (.val w) = some w := rfl
theorem look_brw : look ρ (.brw i) = (ρ[i]?).join := rfl
theorem fC_ev : fC d ρ = .ok (.val (.dat d)) ρ := rfl
theorem fV_dat (h : ρ[i]? = some (some (.dat d))) : fV i ρ = .ok (.val (.dat d)) ρ := by unfold fV; rw [h]; rfl
theorem setO_val : setO i (.val w) ρ = .nx (ρ.set i (some w)) := rfl
theorem retO_val : retO (.val w) ρ = .ret w ρ := rfl
theorem aNil_ev : aNil ρ = .ok [] ρ := rfl
theorem cT_ev : cT ρ = .ok true ρ := rfl
theorem sSeq_ev {f g : FS} : sSeq f g ρ = match f ρ with
  | .nx ρ1 => g ρ1
  | r => r := rfl
theorem gd_true {p : Prop} (h : p) : gd p w = some w := gd_pos h
theorem iop_ev {C : Int → Int → Prop} {g : Int → Int → PyData} {i j : Int} (h : C i j) : iop C g (.dat (.int i)) (.dat (.int j)) = some (.dat (g i j)) := gd_pos h
theorem boO_ev {b : Bool} : boO ρ (.val (vB b)) = .ok b ρ := rfl
theorem frz1_dat : frz1 ρ (.val (.dat d)) = some (d, ρ) := rfl
theorem frz1_ml {ds : List PyData} : frz1 ρ (.val (.ml ds)) = some (.list ds, ρ) := rfl
theorem bN_ev : bN i d ρ = some (ρ.set i (some (.dat d))) := rfl
theorem gEq_of {a b : Vl} {d e : PyData} (h1 : viewD a = some d) (h2 : viewD b = some e) (s1 : shp d) (s2 : shp e) : gEq a b = some (vB (PyData.eqv d e)) := by
  unfold gEq orG
  have hD : gEqD a b = some (vB (PyData.eqv d e)) := by
    unfold gEqD
    rw [h1, h2]
    exact gd_pos ⟨s1, s2⟩
  cases q : gEqS a b with
  | none => exact hD
  | some w =>
    unfold gEqS at q
    split at q
    · cases q
      cases h1
      cases h2
      rename_i i j
      simp [PyData.eqv, Bool.beq_eq_decide_eq]
    · cases q
theorem gNe_of {a b : Vl} {d e : PyData} (h1 : viewD a = some d) (h2 : viewD b = some e) (s1 : shp d) (s2 : shp e) : gNe a b = some (vB (!PyData.eqv d e)) := by
  unfold gNe orG
  have hD : gNeD a b = some (vB (!PyData.eqv d e)) := by
    unfold gNeD
    rw [h1, h2]
    exact gd_pos ⟨s1, s2⟩
  cases q : gNeS a b with
  | none => exact hD
  | some w =>
    unfold gNeS at q
    split at q
    · cases q
      cases h1
      cases h2
      rename_i i j
      simp [PyData.eqv, Bool.beq_eq_decide_eq]
    · cases q
theorem gEq_int {i j : Int} : gEq (.dat (.int i)) (.dat (.int j)) = some (vB (decide (i = j))) := by
  rw [gEq_of (d := .int i) (e := .int j) rfl rfl rfl rfl]
  simp [PyData.eqv, Bool.beq_eq_decide_eq]
theorem gNe_int {i j : Int} : gNe (.dat (.int i)) (.dat (.int j)) = some (vB (!decide (i = j))) := by
  rw [gNe_of (d := .int i) (e := .int j) rfl rfl rfl rfl]
  simp [PyData.eqv, Bool.beq_eq_decide_eq]
theorem gEq_str {i j : PySem.Str} : gEq (.dat (.str i)) (.dat (.str j)) = some (vB (decide (i = j))) := rfl
theorem gNe_str {i j : PySem.Str} : gNe (.dat (.str i)) (.dat (.str j)) = some (vB (!decide (i = j))) := rfl
theorem int_view {i : Int} : viewD (.dat (.int i)) = some (.int i) := rfl
end
end Mi
end
section
set_option Elab.async false
set_option linter.all false
set_option maxRecDepth 100000
/-! Ev31: loops and comprehensions, evaluated -/
namespace Mi
open PySem
section
variable {b : FB} {body : FS} {c : FT}
theorem forL_step {d : PyData} {ds : List PyData} {ρ ρ1 : Rho} (e1 : b d ρ = some ρ1) : forL b body (d :: ds) ρ = match body ρ1 with
      | .nx ρ2 => forL b body ds ρ2
      | .ct ρ2 => forL b body ds ρ2
      | .bk ρ2 => .nx ρ2
      | .ret w ρ2 => .ret w ρ2
      | .exc c ρ2 => .exc c ρ2
      | .stk => .stk := by
  show (match b d ρ with
    | none => SO.stk
    | some ρ1 => _) = _
  rw [e1]
  all_goals rfl
theorem forL_inv (Inv : Nat → Rho → Prop) (Post : Rho → Prop) {ds : List PyData} {ρ : Rho} (h : Inv 0 ρ)
    (st : ∀ (k : Nat) (d : PyData) (ρ : Rho), ds[k]? = some d → Inv k ρ → ∃ ρ1, b d ρ = some ρ1 ∧ ((∃ ρ2, (body ρ1 = .nx ρ2 ∨ body ρ1 = .ct ρ2) ∧ Inv (k + 1) ρ2) ∨ ∃ ρ2, body ρ1 = .bk ρ2 ∧ Post ρ2)) :
    ∃ ρ', forL b body ds ρ = .nx ρ' ∧ (Inv ds.length ρ' ∨ Post ρ') := by
  have go : ∀ (es : List PyData) (k : Nat) (ρ : Rho), Inv k ρ → (∀ j, es[j]? = ds[k + j]?) → ∃ ρ', forL b body es ρ = .nx ρ' ∧ (Inv (k + es.length) ρ' ∨ Post ρ') := by
    intro es
    induction es with
    | nil => intro k ρ h _; exact ⟨ρ, rfl, .inl h⟩
    | cons d es ih =>
      intro k ρ h e
      obtain ⟨ρ1, e1, r⟩ := st k d ρ (by have := e 0; simpa using this.symm) h
      have unf := forL_step (body := body) (ds := es) e1
      rcases r with ⟨ρ2, e2, i2⟩ | ⟨ρ2, e2, p2⟩
      · obtain ⟨ρ', e3, r3⟩ := ih (k + 1) ρ2 i2 fun j => by have := e (j + 1); rw [show k + 1 + j = k + (j + 1) from by omega]; simpa using this
        refine ⟨ρ', ?_, ?_⟩
        · rw [unf]
          rcases e2 with e2 | e2 <;> rw [e2] <;> exact e3
        · rw [List.length_cons]
          rcases r3 with r3 | r3
          · exact .inl (by rw [show k + (es.length + 1) = k + 1 + es.length from by omega]; exact r3)
          · exact .inr r3
      · exact ⟨ρ2, by rw [unf, e2], .inr p2⟩
  obtain ⟨ρ', h1, h2⟩ := go ds 0 ρ h fun j => by rw [Nat.zero_add]
  exact ⟨ρ', h1, by simpa using h2⟩
/-- without a way out -/
theorem forL_all (Inv : Nat → Rho → Prop) {ds : List PyData} {ρ : Rho} (h : Inv 0 ρ) (st : ∀ (k : Nat) (d : PyData) (ρ : Rho), ds[k]? = some d → Inv k ρ → ∃ ρ1 ρ2, b d ρ = some ρ1 ∧ (body ρ1 = .nx ρ2 ∨ body ρ1 = .ct ρ2) ∧ Inv (k + 1) ρ2) :
    ∃ ρ', forL b body ds ρ = .nx ρ' ∧ Inv ds.length ρ' := by
  have go : ∀ (es : List PyData) (k : Nat) (ρ : Rho), Inv k ρ → (∀ j, es[j]? = ds[k + j]?) → ∃ ρ', forL b body es ρ = .nx ρ' ∧ Inv (k + es.length) ρ' := by
    intro es
    induction es with
    | nil => intro k ρ h _; exact ⟨ρ, rfl, h⟩
    | cons d es ih =>
      intro k ρ h e
      obtain ⟨ρ1, ρ2, e1, e2, i2⟩ := st k d ρ (by have := e 0; simpa using this.symm) h
      obtain ⟨ρ', e3, i3⟩ := ih (k + 1) ρ2 i2 fun j => by have := e (j + 1); rw [show k + 1 + j = k + (j + 1) from by omega]; simpa using this
      refine ⟨ρ', ?_, by rw [List.length_cons, show k + (es.length + 1) = k + 1 + es.length from by omega]; exact i3⟩
      rw [forL_step e1]
      rcases e2 with e2 | e2 <;> rw [e2] <;> exact e3
  obtain ⟨ρ', h1, h2⟩ := go ds 0 ρ h fun j => by rw [Nat.zero_add]
  exact ⟨ρ', h1, by simpa using h2⟩
theorem sFor_ev {fi : FI} {ρ ρ1 : Rho} {ds : List PyData} (h : fi ρ = .ok ds ρ1) : sFor fi b body ρ = forL b body ds ρ1 := by
  unfold sFor
  rw [h]
  rfl
/-- while, by a measure -/
theorem sWh_inv (Inv : Nat → Rho → Prop) (Post : Rho → Prop) (st : ∀ (m : Nat) (ρ : Rho), Inv m ρ → (∃ ρ1, c ρ = .ok false ρ1 ∧ Post ρ1) ∨ ∃ ρ1 ρ2 m', c ρ = .ok true ρ1 ∧ (body ρ1 = .nx ρ2 ∨ body ρ1 = .ct ρ2) ∧ m' < m ∧ Inv m' ρ2) {m : Nat} {ρ : Rho} (h : Inv m ρ) :
    ∃ ρ', sWh c body ρ = .nx ρ' ∧ Post ρ' := by
  have go : ∀ (m : Nat) (ρ : Rho), Inv m ρ → ∃ k ρ', whN c body k ρ = .nx ρ' ∧ Post ρ' := by
    intro m
    induction m using Nat.strongRecOn with
    | ind m ih =>
      intro ρ h
      rcases st m ρ h with ⟨ρ1, e1, p1⟩ | ⟨ρ1, ρ2, m', e1, e2, lt, i2⟩
      · refine ⟨1, ρ1, ?_, p1⟩
        unfold whN
        rw [e1]
        rfl
      · obtain ⟨k, ρ', e3, p3⟩ := ih m' lt ρ2 i2
        refine ⟨k + 1, ρ', ?_, p3⟩
        unfold whN
        rw [e1]
        simp only [bindS_ok, if_true]
        rcases e2 with e2 | e2 <;> rw [e2] <;> exact e3
  obtain ⟨k, ρ', e, p⟩ := go m ρ h
  exact ⟨ρ', by rw [sWh_eq (k := k) (by rw [e]; exact fun z => nomatch z), e], p⟩
end

/-! ### comprehensions -/
theorem wipeR_length (ρ : Rho) : ∀ vs : List Nat, (wipeR ρ vs).length = ρ.length
  | [] => rfl
  | v :: vs => by unfold wipeR; rw [List.length_set, wipeR_length ρ vs]
theorem wipeR_out {ρ : Rho} {j : Nat} : ∀ {vs : List Nat}, j ∉ vs → (wipeR ρ vs)[j]? = ρ[j]?
  | [], _ => rfl
  | v :: vs, h => by
    unfold wipeR
    rw [List.getElem?_set_ne (fun e => h (by rw [e]; exact List.mem_cons_self))]
    exact wipeR_out fun m => h (List.mem_cons_of_mem _ m)
theorem restR_length (ρ0 ρ : Rho) : ∀ vs : List Nat, (restR ρ0 ρ vs).length = ρ.length
  | [] => rfl
  | v :: vs => by unfold restR; rw [List.length_set, restR_length ρ0 ρ vs]
theorem restR_out {ρ0 ρ : Rho} {j : Nat} : ∀ {vs : List Nat}, j ∉ vs → (restR ρ0 ρ vs)[j]? = ρ[j]?
  | [], _ => rfl
  | v :: vs, h => by
    unfold restR
    rw [List.getElem?_set_ne (fun e => h (by rw [e]; exact List.mem_cons_self))]
    exact restR_out fun m => h (List.mem_cons_of_mem _ m)
theorem restR_at {ρ0 ρ : Rho} {j : Nat} : ∀ {vs : List Nat}, j ∈ vs → j < ρ.length → (restR ρ0 ρ vs)[j]? = some (ρ0[j]?).join
  | [], h, _ => by simp at h
  | v :: vs, h, hl => by
    unfold restR
    by_cases e : v = j
    · subst e
      rw [List.getElem?_set_self (by rw [restR_length]; exact hl)]
    · rw [List.getElem?_set_ne e]
      rcases List.mem_cons.mp h with q | q
      · exact (e q.symm).elim
      · exact restR_at q hl
theorem restR_same {ρ0 ρ : Rho} {vs : List Nat} (h : wipeR ρ vs = wipeR ρ0 vs) : restR ρ0 ρ vs = ρ0 := by
  have hl : ρ.length = ρ0.length := by
    have := congrArg List.length h
    rw [wipeR_length, wipeR_length] at this
    exact this
  apply List.ext_getElem?
  intro j
  by_cases hj : j ∈ vs
  · by_cases hlt : j < ρ.length
    · rw [restR_at hj hlt]
      have : j < ρ0.length := by omega
      rw [List.getElem?_eq_getElem this]
      rfl
    · rw [List.getElem?_eq_none (by rw [restR_length]; omega), List.getElem?_eq_none (by omega)]
  · rw [restR_out hj, ← wipeR_out hj, h, wipeR_out hj]
section
variable {vs : List Nat} {fi : FI} {b : FB} {c : FT} {e : FE} {α : Type}
/-- a comprehension whose turns leave the environment as it is -/
theorem compL_pure {ι : α → PyData} {p : α → Bool} {g : α → PyData} {ρw : Rho} : ∀ (xs : List α) (ρ : Rho), wipeR ρ vs = ρw →
    (∀ x ∈ xs, ∃ ρ1, b (ι x) ρw = some ρ1 ∧ wipeR ρ1 vs = ρw ∧ c ρ1 = .ok (p x) ρ1 ∧ (p x = true → ∃ w, e ρ1 = .ok (.val w) ρ1 ∧ viewD w = some (g x))) →
    ∃ ρ', compL vs b c e (xs.map ι) ρ = .ok ((xs.filter p).map g) ρ' ∧ wipeR ρ' vs = ρw
  | [], ρ, h, _ => ⟨ρ, rfl, h⟩
  | x :: xs, ρ, h, st => by
    obtain ⟨ρ1, e1, h1, e2, e3⟩ := st x (by simp)
    have ih : ∀ ρ, wipeR ρ vs = ρw → ∃ ρ', compL vs b c e (xs.map ι) ρ = .ok ((xs.filter p).map g) ρ' ∧ wipeR ρ' vs = ρw := fun ρ hρ => compL_pure xs ρ hρ fun y hy => st y (List.mem_cons_of_mem _ hy)
    rw [List.map_cons]
    unfold compL
    rw [h, e1]
    simp only [e2]
    cases hp : p x with
    | false =>
      obtain ⟨ρ', q1, q2⟩ := ih ρ1 h1
      exact ⟨ρ', by rw [List.filter_cons_of_neg (by rw [hp]; decide)]; exact q1, q2⟩
    | true =>
      obtain ⟨w, e4, e5⟩ := e3 hp
      obtain ⟨ρ', q1, q2⟩ := ih ρ1 h1
      refine ⟨ρ', ?_, q2⟩
      have e6 : frz1 ρ1 (.val w) = some (g x, ρ1) := by
        show (viewD w).map (fun d => (d, ρ1)) = _
        rw [e5]; rfl
      simp only [e4, e6, q1]
      rw [List.filter_cons_of_pos hp]
      rfl
theorem fComp_pure {ι : α → PyData} {p : α → Bool} {g : α → PyData} {ρ ρ1 : Rho} (xs : List α) (hfi : fi ρ = .ok (xs.map ι) ρ1) (hl : xs.length ≤ 100000)
    (st : ∀ x ∈ xs, ∃ ρ2, b (ι x) (wipeR ρ1 vs) = some ρ2 ∧ wipeR ρ2 vs = wipeR ρ1 vs ∧ c ρ2 = .ok (p x) ρ2 ∧ (p x = true → ∃ w, e ρ2 = .ok (.val w) ρ2 ∧ viewD w = some (g x))) :
    fComp vs fi b c e ρ = .ok (.val (.ml ((xs.filter p).map g))) ρ1 := by
  obtain ⟨ρ', e1, e2⟩ := compL_pure (ι := ι) (p := p) (g := g) xs ρ1 rfl st
  unfold fComp
  rw [hfi]
  simp only [bind_ok]
  rw [e1]
  show (if (xs.map ι).length ≤ 100000 then Out.ok (Opd.val (Vl.ml ((xs.filter p).map g))) (restR ρ1 ρ' vs) else Out.stk) = _
  rw [List.length_map, if_pos hl, restR_same e2]
/-- without a test -/
theorem fComp_map {ι : α → PyData} {g : α → PyData} {ρ ρ1 : Rho} (xs : List α) (hfi : fi ρ = .ok (xs.map ι) ρ1) (hl : xs.length ≤ 100000)
    (st : ∀ x ∈ xs, ∃ ρ2 w, b (ι x) (wipeR ρ1 vs) = some ρ2 ∧ wipeR ρ2 vs = wipeR ρ1 vs ∧ e ρ2 = .ok (.val w) ρ2 ∧ viewD w = some (g x)) :
    fComp vs fi b cT e ρ = .ok (.val (.ml (xs.map g))) ρ1 := by
  have := fComp_pure (c := cT) (p := fun _ => true) (g := g) (e := e) (vs := vs) (b := b) xs hfi hl fun x hx => by
    obtain ⟨ρ2, w, h1, h2, h3, h4⟩ := st x hx
    exact ⟨ρ2, h1, h2, rfl, fun _ => ⟨w, h3, h4⟩⟩
  rw [this, List.filter_eq_self.mpr fun _ _ => rfl]
/-- a comprehension whose turns change the environment -/
theorem compL_inv (Inv : Nat → Rho → Prop) (Pd : PyData → Prop) {ds : List PyData} {ρ : Rho} (h : Inv 0 ρ)
    (st : ∀ (k : Nat) (d : PyData) (ρ : Rho), ds[k]? = some d → Inv k ρ → ∃ ρ1 ρ2 o ρ3 d' ρ4, b d (wipeR ρ vs) = some ρ1 ∧ c ρ1 = .ok true ρ2 ∧ e ρ2 = .ok o ρ3 ∧ frz1 ρ3 o = some (d', ρ4) ∧ Pd d' ∧ Inv (k + 1) ρ4) :
    ∃ ds' ρ', compL vs b c e ds ρ = .ok ds' ρ' ∧ ds'.length = ds.length ∧ (∀ d ∈ ds', Pd d) ∧ Inv ds.length ρ' := by
  have go : ∀ (es : List PyData) (k : Nat) (ρ : Rho), Inv k ρ → (∀ j, es[j]? = ds[k + j]?) → ∃ ds' ρ', compL vs b c e es ρ = .ok ds' ρ' ∧ ds'.length = es.length ∧ (∀ d ∈ ds', Pd d) ∧ Inv (k + es.length) ρ' := by
    intro es
    induction es with
    | nil => intro k ρ h _; exact ⟨[], ρ, rfl, rfl, fun _ z => by simp at z, h⟩
    | cons d es ih =>
      intro k ρ h ej
      obtain ⟨ρ1, ρ2, o, ρ3, d', ρ4, e1, e2, e3, e4, pd, i4⟩ := st k d ρ (by have := ej 0; simpa using this.symm) h
      obtain ⟨ds', ρ', e5, e6, e7, e8⟩ := ih (k + 1) ρ4 i4 fun j => by have := ej (j + 1); rw [show k + 1 + j = k + (j + 1) from by omega]; simpa using this
      refine ⟨d' :: ds', ρ', ?_, by simp [e6], fun y hy => ?_, ?_⟩
      · unfold compL
        rw [e1]
        simp only [e2, e3, e4, e5]
      · rcases List.mem_cons.mp hy with rfl | hy
        · exact pd
        · exact e7 y hy
      · rw [List.length_cons, show k + (es.length + 1) = k + 1 + es.length from by omega]
        exact e8
  obtain ⟨ds', ρ', h1, h2, h3, h4⟩ := go ds 0 ρ h fun j => by rw [Nat.zero_add]
  exact ⟨ds', ρ', h1, h2, h3, by simpa using h4⟩
theorem fComp_ev {fi : FI} {ρ ρ1 ρ2 : Rho} {ds ds' : List PyData} (hfi : fi ρ = .ok ds ρ1) (hl : ds.length ≤ 100000) (h : compL vs b c e ds ρ1 = .ok ds' ρ2) : fComp vs fi b c e ρ = .ok (.val (.ml ds')) (restR ρ1 ρ2 vs) := by
  unfold fComp
  rw [hfi]
  simp only [bind_ok]
  rw [h]
  exact if_pos hl
end
end Mi
end
section
set_option Elab.async false
set_option linter.all false
set_option maxRecDepth 100000
/-! Ev32: the defs that all laws have -/
namespace Mi
open PySem (PyData)
noncomputable def F__law_same : FS := (sRet (bin gEq (callB (g1 gRepr) (aCons (fLst (aCons (fV 0) aNil)) aNil)) (callB (g1 gRepr) (aCons (fLst (aCons (fV 1) aNil)) aNil))))
noncomputable def S__law_same : CSpec := specOf [false, false] 2 F__law_same
theorem e__law_same : ∀ ws, S__law_same ws ≠ .stk → specOf [false, false] 2 F__law_same ws = S__law_same ws := fun _ _ => rfl
noncomputable def F__law_stream : FS := (sSeq (sSet 1 (fLst aNil))
  (sSeq (sFor (iE (fSl (fV 0) pNo (pSo (fC (.int 63))))) (bN 2) (sSeq (sSet 3 (callB (g1 gAbs) (aCons (callB (g1 gInt) (aCons (fV 2) aNil)) aNil)))
  (sIf (tBo (bin gGe (fV 3) (bin gPow (fC (.int 10)) (fC (.int 18))))) (sFor (iR1 (aCons (fC (.int 60)) aNil)) (bN 4) (sSeq (sDrop (fApp 1 (bin gMod (callB (g1 gInt) (aCons (fV 3) aNil)) (fC (.int 1009)))))
  (sSeq (sSet 3 (bin gFDiv (fV 3) (fC (.int 1009))))
  (sIf (tBo (bin gEq (fV 3) (fC (.int 0)))) sBrk sNext)))) (sSeq (sSet 5 (bin gMod (callB (g1 gInt) (aCons (fV 3) aNil)) (fC (.int 2147483647))))
  (sFor (iR1 (aCons (fC (.int 10)) aNil)) (bN 4) (sSeq (sSet 5 (bin gMod (callB (g1 gInt) (aCons (bin gAdd (bin gAdd (bin gMul (fV 5) (fC (.int 48271))) (bin gMul (fC (.int 7)) (fV 4))) (fC (.int 11))) aNil)) (fC (.int 2147483647))))
  (sDrop (fApp 1 (bin gMod (bin gMod (callB (g1 gInt) (aCons (bin gAdd (bin gMul (fV 5) (fC (.int 69621))) (fV 4)) aNil)) (fC (.int 2147483629))) (fC (.int 1009)))))))))))
  (sSeq (sIf (tBo (bin gEq (callB (g1 gLen) (aCons (fV 1) aNil)) (fC (.int 0)))) (sDrop (fApp 1 (fC (.int 0)))) sNext)
  (sRet (fV 1)))))
noncomputable def S__law_stream : CSpec := specOf [false] 6 F__law_stream
theorem e__law_stream : ∀ ws, S__law_stream ws ≠ .stk → specOf [false] 6 F__law_stream ws = S__law_stream ws := fun _ _ => rfl
noncomputable def F__law_next : FS := (sSeq (sSetItem 0 (fC (.int 1)) (bin gAdd (bin gIx (fV 0) (fC (.int 1))) (fC (.int 1))))
  (sSeq (sSet 2 (bin gFDiv (bin gIx (fV 0) (fC (.int 1))) (callB (g1 gLen) (aCons (bin gIx (fV 0) (fC (.int 0))) aNil))))
  (sRet (bin gMod (callB (g1 gInt) (aCons (bin gAdd (bin gAdd (bin gIx (bin gIx (fV 0) (fC (.int 0))) (bin gMod (bin gIx (fV 0) (fC (.int 1))) (callB (g1 gLen) (aCons (bin gIx (fV 0) (fC (.int 0))) aNil)))) (bin gMul (fV 2) (fC (.int 389)))) (bin gMul (bin gMul (bin gIx (fV 0) (fC (.int 1))) (fV 2)) (fC (.int 17)))) aNil)) (fV 1)))))
noncomputable def S__law_next : CSpec := specOf [true, false] 3 F__law_next
theorem e__law_next : ∀ ws, S__law_next ws ≠ .stk → specOf [true, false] 3 F__law_next ws = S__law_next ws := fun _ _ => rfl

/-- a list of ints, as a stream -/
structure Nums (ns : List Int) (N : Nat) : Prop where
  len : ns.length ≤ N
  all : ∀ x ∈ ns, 0 ≤ x ∧ x < 1009
theorem Nums.add {ns : List Int} {N : Nat} (h : Nums ns N) {x : Int} (h1 : 0 ≤ x) (h2 : x < 1009) : Nums (ns ++ [x]) (N + 1) :=
  ⟨by rw [List.length_append, List.length_singleton]; have := h.len; omega, fun y hy => by
    rcases List.mem_append.mp hy with q | q
    · exact h.all y q
    · obtain rfl : y = x := by simpa using q
      exact ⟨h1, h2⟩⟩
theorem map_snoc (ns : List Int) (x : Int) : ns.map PyData.int ++ [PyData.int x] = (ns ++ [x]).map PyData.int := by simp
theorem next_ev (nums : List Int) (c m : Int) (hL : 0 < nums.length) (hL2 : nums.length < 10000) (hc : 0 ≤ c) (hc2 : c < 1000000) (hm : 0 < m) :
    ∃ r, S__law_next [.ml [.list (nums.map .int), .int c], .dat (.int m)] = .ok (.dat (.int r)) [some (.ml [.list (nums.map .int), .int (c + 1)]), none] ∧ 0 ≤ r ∧ r < m := by
  have hLi : (0 : Int) < (nums.length : Int) := by omega
  have h1 : L2.CDiv (c + 1) (nums.length : Int) := ⟨by omega, by omega⟩
  have h2 := Int.emod_nonneg (c + 1) (b := (nums.length : Int)) (by omega)
  have h3 := Int.emod_lt_of_pos (c + 1) (b := (nums.length : Int)) (by omega)
  have hi : ((c + 1) % (nums.length : Int)).toNat < nums.length := by omega
  have e1 := List.getElem?_eq_getElem hi
  have h4 : ∀ i : Int, L2.CMul i 389 := fun i => .inr ⟨by decide, by decide⟩
  have h5 : ∀ i : Int, L2.CMul i 17 := fun i => .inr ⟨by decide, by decide⟩
  have h6 : ∀ i : Int, L2.CMul (c + 1) i := fun i => .inl ⟨by omega, by omega⟩
  refine ⟨(nums[((c + 1) % (nums.length : Int)).toNat] + (c + 1) / (nums.length : Int) * 389 + (c + 1) * ((c + 1) / (nums.length : Int)) * 17) % m, ?_, Int.emod_nonneg _ (by omega), Int.emod_lt_of_pos _ hm⟩
  unfold S__law_next F__law_next
  simp [specOf, outs, sSeq_ev, sSet, sRet, sRetN, sIf, sDrop, sRaise, sNext, sBrk, sCnt, sSetItem, sAug, augO, setItemO, setO_val, retO_val, bind_ok, bind_exc, bind_stk, bindS_ok, bindS_exc, bindS_stk, ret_some, look_val, look_brw, fC_ev, fV, bin, una, chain, tBo, tTr, tNotV, tAndV, tOrV, fAnd, fOr, fNot, fIf, boO_ev, trO, tru, aNil_ev, aCons, cT_ev, callB, looks, g1, frz1_dat, frz1_ml, bN_ev, fTup, fLst, mkT, mkL, frzL, iE, seqO, iR1, iR2, rg1, rg2, gAdd, gMul, gSub, gFDiv, gMod, gPow, gShl, gShr, gAnd, gOr, gXor, gLt, gLe, gGt, gGe, gAddI, gMulI, gU, gIx, gLen, gInt, gAbs, gList, gTuple, iop, tt2, orG, viewD, asL, asT, fApp, appO, isMl, fExt, extO, fSl, pNo, pSo, gSl, L2.atI, L2.ixN, gd, gEq_int, gNe_int, gEq_str, gNe_str, gd, h1, h2, h3, h4, h5, h6, e1, hm, hL, hLi]
theorem range_at {lo hi : Int} {k : Nat} {d : PyData} (h : (rangeD lo hi)[k]? = some d) : d = .int (lo + k) ∧ (k : Int) < hi - lo := by
  unfold rangeD at h
  obtain ⟨hk, e⟩ := List.getElem?_eq_some_iff.mp h
  simp at hk e
  exact ⟨e.symm, by omega⟩
theorem range_len (lo hi : Int) : (rangeD lo hi).length = (hi - lo).toNat := by unfold rangeD; simp
noncomputable abbrev B1 : FS := sSeq (sDrop (fApp 1 (bin gMod (callB (g1 gInt) (aCons (fV 3) aNil)) (fC (.int 1009))))) (sSeq (sSet 3 (bin gFDiv (fV 3) (fC (.int 1009)))) (sIf (tBo (bin gEq (fV 3) (fC (.int 0)))) sBrk sNext))
noncomputable abbrev B2 : FS := sSeq (sSet 5 (bin gMod (callB (g1 gInt) (aCons (bin gAdd (bin gAdd (bin gMul (fV 5) (fC (.int 48271))) (bin gMul (fC (.int 7)) (fV 4))) (fC (.int 11))) aNil)) (fC (.int 2147483647))))
  (sDrop (fApp 1 (bin gMod (bin gMod (callB (g1 gInt) (aCons (bin gAdd (bin gMul (fV 5) (fC (.int 69621))) (fV 4)) aNil)) (fC (.int 2147483629))) (fC (.int 1009)))))
theorem inner1 (sc : Option Vl) (nums : List Int) (N : Nat) (cell rest : Int) (x4 x5 : Option Vl) (hN : Nums nums N) (hb : N ≤ 5000) (hr : 0 ≤ rest) :
    ∃ (nums' : List Int) (rest' : Int) (x4' : Option Vl), forL (bN 4) B1 (rangeD 0 60) [sc, some (.ml (nums.map .int)), some (vI cell), some (vI rest), x4, x5] = .nx [sc, some (.ml (nums'.map .int)), some (vI cell), some (vI rest'), x4', x5] ∧ Nums nums' (N + 60) := by
  have st : ∀ (k : Nat) (d : PyData) (ρ : Rho), (rangeD 0 60)[k]? = some d → (∃ (nums' : List Int) (rest' : Int) (x4' : Option Vl), ρ = [sc, some (.ml (nums'.map .int)), some (vI cell), some (vI rest'), x4', x5] ∧ Nums nums' (N + k) ∧ 0 ≤ rest') →
      ∃ ρ1, bN 4 d ρ = some ρ1 ∧ ((∃ ρ2, (B1 ρ1 = .nx ρ2 ∨ B1 ρ1 = .ct ρ2) ∧ ∃ (nums' : List Int) (rest' : Int) (x4' : Option Vl), ρ2 = [sc, some (.ml (nums'.map .int)), some (vI cell), some (vI rest'), x4', x5] ∧ Nums nums' (N + (k + 1)) ∧ 0 ≤ rest') ∨
        ∃ ρ2, B1 ρ1 = .bk ρ2 ∧ ∃ (nums' : List Int) (rest' : Int) (x4' : Option Vl), ρ2 = [sc, some (.ml (nums'.map .int)), some (vI cell), some (vI rest'), x4', x5] ∧ Nums nums' (N + 60)) := by
    rintro k d ρ hd ⟨n', r', x', rfl, q, hr'⟩
    obtain ⟨rfl, hk⟩ := range_at hd
    have hl := q.len
    have c1 : L2.CDiv r' 1009 := ⟨by decide, by decide⟩
    have m1 := Int.emod_nonneg r' (b := 1009) (by decide)
    have m2 := Int.emod_lt_of_pos r' (b := 1009) (by decide)
    have q2 := q.add m1 m2
    have hlen : n'.length ≤ 100000 := by omega
    have d1 : 0 ≤ r' / 1009 := Int.ediv_nonneg hr' (by decide)
    have se : ∀ z : Int, shp (.int z) := fun z => rfl
    refine ⟨_, rfl, ?_⟩
    by_cases hz : r' / 1009 = 0
    · refine .inr ⟨[sc, some (.ml ((n' ++ [r' % 1009]).map .int)), some (vI cell), some (vI (r' / 1009)), some (vI (0 + (k : Int))), x5], ?_, _, _, _, rfl, ⟨by have := q2.len; omega, q2.all⟩⟩
      simp [B1, specOf, outs, sSeq_ev, sSet, sRet, sRetN, sIf, sDrop, sRaise, sNext, sBrk, sCnt, sSetItem, sAug, augO, setItemO, setO_val, retO_val, bind_ok, bind_exc, bind_stk, bindS_ok, bindS_exc, bindS_stk, ret_some, look_val, look_brw, fC_ev, fV, bin, una, chain, tBo, tTr, tNotV, tAndV, tOrV, fAnd, fOr, fNot, fIf, boO_ev, trO, tru, aNil_ev, aCons, cT_ev, callB, looks, g1, frz1_dat, frz1_ml, bN_ev, fTup, fLst, mkT, mkL, frzL, iE, seqO, iR1, iR2, rg1, rg2, gAdd, gMul, gSub, gFDiv, gMod, gPow, gShl, gShr, gAnd, gOr, gXor, gLt, gLe, gGt, gGe, gAddI, gMulI, gU, gIx, gLen, gInt, gAbs, gList, gTuple, iop, tt2, orG, viewD, asL, asT, fApp, appO, isMl, fExt, extO, fSl, pNo, pSo, gSl, L2.atI, L2.ixN, gd, gEq_int, gNe_int, gEq_str, gNe_str, gd, c1, hlen, hz]
    · refine .inl ⟨[sc, some (.ml ((n' ++ [r' % 1009]).map .int)), some (vI cell), some (vI (r' / 1009)), some (vI (0 + (k : Int))), x5], .inl ?_, _, _, _, rfl, q2, d1⟩
      simp [B1, specOf, outs, sSeq_ev, sSet, sRet, sRetN, sIf, sDrop, sRaise, sNext, sBrk, sCnt, sSetItem, sAug, augO, setItemO, setO_val, retO_val, bind_ok, bind_exc, bind_stk, bindS_ok, bindS_exc, bindS_stk, ret_some, look_val, look_brw, fC_ev, fV, bin, una, chain, tBo, tTr, tNotV, tAndV, tOrV, fAnd, fOr, fNot, fIf, boO_ev, trO, tru, aNil_ev, aCons, cT_ev, callB, looks, g1, frz1_dat, frz1_ml, bN_ev, fTup, fLst, mkT, mkL, frzL, iE, seqO, iR1, iR2, rg1, rg2, gAdd, gMul, gSub, gFDiv, gMod, gPow, gShl, gShr, gAnd, gOr, gXor, gLt, gLe, gGt, gGe, gAddI, gMulI, gU, gIx, gLen, gInt, gAbs, gList, gTuple, iop, tt2, orG, viewD, asL, asT, fApp, appO, isMl, fExt, extO, fSl, pNo, pSo, gSl, L2.atI, L2.ixN, gd, gEq_int, gNe_int, gEq_str, gNe_str, gd, c1, hlen, hz]
  obtain ⟨ρ', h1, h2⟩ := forL_inv _ _ ⟨nums, rest, x4, rfl, hN, hr⟩ st
  rcases h2 with ⟨n', r', x', e, q, _⟩ | ⟨n', r', x', e, q⟩
  · exact ⟨n', r', x', by rw [h1, e], by rw [range_len] at q; exact q⟩
  · exact ⟨n', r', x', by rw [h1, e], q⟩
theorem inner2 (sc : Option Vl) (nums : List Int) (N : Nat) (cell rest mixed : Int) (x4 : Option Vl) (hN : Nums nums N) (hb : N ≤ 5000) :
    ∃ (nums' : List Int) (mixed' : Int) (x4' : Option Vl), forL (bN 4) B2 (rangeD 0 10) [sc, some (.ml (nums.map .int)), some (vI cell), some (vI rest), x4, some (vI mixed)] = .nx [sc, some (.ml (nums'.map .int)), some (vI cell), some (vI rest), x4', some (vI mixed')] ∧ Nums nums' (N + 10) ∧ (0 < nums'.length) := by
  have st : ∀ (k : Nat) (d : PyData) (ρ : Rho), (rangeD 0 10)[k]? = some d → (∃ (nums' : List Int) (mixed' : Int) (x4' : Option Vl), ρ = [sc, some (.ml (nums'.map .int)), some (vI cell), some (vI rest), x4', some (vI mixed')] ∧ Nums nums' (N + k) ∧ k ≤ nums'.length) →
      ∃ ρ1 ρ2, bN 4 d ρ = some ρ1 ∧ (B2 ρ1 = .nx ρ2 ∨ B2 ρ1 = .ct ρ2) ∧ ∃ (nums' : List Int) (mixed' : Int) (x4' : Option Vl), ρ2 = [sc, some (.ml (nums'.map .int)), some (vI cell), some (vI rest), x4', some (vI mixed')] ∧ Nums nums' (N + (k + 1)) ∧ k + 1 ≤ nums'.length := by
    rintro k d ρ hd ⟨n', r', x', rfl, q, hlk⟩
    obtain ⟨rfl, hk⟩ := range_at hd
    have hl := q.len
    have c1 : ∀ i : Int, L2.CMul i 48271 := fun i => .inr ⟨by decide, by decide⟩
    have c2 : ∀ i : Int, L2.CMul 7 i := fun i => .inl ⟨by decide, by decide⟩
    have c3 : ∀ i : Int, L2.CMul i 69621 := fun i => .inr ⟨by decide, by decide⟩
    generalize hm : (r' * 48271 + 7 * (0 + (k : Int)) + 11) % 2147483647 = m2
    have q2 := q.add (x := (m2 * 69621 + (0 + (k : Int))) % 2147483629 % 1009) (Int.emod_nonneg _ (by decide)) (Int.emod_lt_of_pos _ (by decide))
    have hlen : n'.length ≤ 100000 := by omega
    refine ⟨_, [sc, some (.ml ((n' ++ [(m2 * 69621 + (0 + (k : Int))) % 2147483629 % 1009]).map .int)), some (vI cell), some (vI rest), some (vI (0 + (k : Int))), some (vI m2)], rfl, .inl ?_, _, _, _, rfl, q2, by rw [List.length_append, List.length_singleton]; omega⟩
    rw [Int.zero_add] at hm ⊢
    simp [B2, specOf, outs, sSeq_ev, sSet, sRet, sRetN, sIf, sDrop, sRaise, sNext, sBrk, sCnt, sSetItem, sAug, augO, setItemO, setO_val, retO_val, bind_ok, bind_exc, bind_stk, bindS_ok, bindS_exc, bindS_stk, ret_some, look_val, look_brw, fC_ev, fV, bin, una, chain, tBo, tTr, tNotV, tAndV, tOrV, fAnd, fOr, fNot, fIf, boO_ev, trO, tru, aNil_ev, aCons, cT_ev, callB, looks, g1, frz1_dat, frz1_ml, bN_ev, fTup, fLst, mkT, mkL, frzL, iE, seqO, iR1, iR2, rg1, rg2, gAdd, gMul, gSub, gFDiv, gMod, gPow, gShl, gShr, gAnd, gOr, gXor, gLt, gLe, gGt, gGe, gAddI, gMulI, gU, gIx, gLen, gInt, gAbs, gList, gTuple, iop, tt2, orG, viewD, asL, asT, fApp, appO, isMl, fExt, extO, fSl, pNo, pSo, gSl, L2.atI, L2.ixN, gd, gEq_int, gNe_int, gEq_str, gNe_str, gd, c1, c2, c3, hlen, hm]
  obtain ⟨ρ', h1, n', r', x', e, q, hl⟩ := forL_all _ ⟨nums, mixed, x4, rfl, hN, Nat.zero_le _⟩ st
  exact ⟨n', r', x', by rw [h1, e], by rw [range_len] at q; exact q, by
    rw [range_len] at hl
    have : (10 - 0 : Int).toNat = 10 := by decide
    omega⟩
noncomputable abbrev B3 : FS := sSeq (sSet 3 (callB (g1 gAbs) (aCons (callB (g1 gInt) (aCons (fV 2) aNil)) aNil)))
  (sIf (tBo (bin gGe (fV 3) (bin gPow (fC (.int 10)) (fC (.int 18))))) (sFor (iR1 (aCons (fC (.int 60)) aNil)) (bN 4) B1) (sSeq (sSet 5 (bin gMod (callB (g1 gInt) (aCons (fV 3) aNil)) (fC (.int 2147483647)))) (sFor (iR1 (aCons (fC (.int 10)) aNil)) (bN 4) B2)))
theorem rng1 {ρ : Rho} {n : Int} (h1 : -(2 ^ 62) ≤ n) (h2 : n < 2 ^ 62) : iR1 (aCons (fC (.int n)) aNil) ρ = .ok (rangeD 0 n) ρ := by
  unfold iR1 aCons aNil
  show rg1 ρ [.val (.dat (.int n))] = _
  unfold rg1
  show (if -(2 ^ 62) ≤ n ∧ n < 2 ^ 62 then _ else _) = _
  rw [if_pos ⟨h1, h2⟩]
theorem cell_ev (sc : Option Vl) (nums : List Int) (N : Nat) (z : Int) (x3 x4 x5 : Option Vl) (hN : Nums nums N) (hb : N ≤ 4900) :
    ∃ (nums' : List Int) (x3' x4' x5' : Option Vl), B3 [sc, some (.ml (nums.map .int)), some (vI z), x3, x4, x5] = .nx [sc, some (.ml (nums'.map .int)), some (vI z), x3', x4', x5'] ∧ Nums nums' (N + 60) := by
  obtain ⟨a, ha, ha0⟩ : ∃ a : Int, (if z < 0 then -z else z) = a ∧ 0 ≤ a := ⟨_, rfl, by split <;> omega⟩
  have pw : L2.CPow 10 18 := ⟨by decide, by decide, by decide⟩
  have e0 : ∀ ρ : Rho, iR1 (aCons (fC (.int 60)) aNil) ρ = .ok (rangeD 0 60) ρ := fun ρ => rng1 (by decide) (by decide)
  have e1 : ∀ ρ : Rho, iR1 (aCons (fC (.int 10)) aNil) ρ = .ok (rangeD 0 10) ρ := fun ρ => rng1 (by decide) (by decide)
  obtain ⟨n1, r1, y1, h1, q1⟩ := inner1 sc nums N z a x4 x5 hN (by omega) ha0
  obtain ⟨n2, r2, y2, h2, q2, _⟩ := inner2 sc nums N z a (a % 2147483647) x4 hN (by omega)
  rw [← sFor_ev (e0 _)] at h1
  rw [← sFor_ev (e1 _)] at h2
  unfold B3
  revert h1 h2
  generalize sFor (iR1 (aCons (fC (.int 60)) aNil)) (bN 4) B1 = F1
  generalize sFor (iR1 (aCons (fC (.int 10)) aNil)) (bN 4) B2 = F2
  intro h1 h2
  by_cases hb2 : (1000000000000000000 : Int) ≤ a
  · refine ⟨n1, some (vI r1), y1, x5, ?_, q1⟩
    rw [← h1]
    simp [specOf, outs, sSeq_ev, sSet, sRet, sRetN, sIf, sDrop, sRaise, sNext, sBrk, sCnt, sSetItem, sAug, augO, setItemO, setO_val, retO_val, bind_ok, bind_exc, bind_stk, bindS_ok, bindS_exc, bindS_stk, ret_some, look_val, look_brw, fC_ev, fV, bin, una, chain, tBo, tTr, tNotV, tAndV, tOrV, fAnd, fOr, fNot, fIf, boO_ev, trO, tru, aNil_ev, aCons, cT_ev, callB, looks, g1, frz1_dat, frz1_ml, bN_ev, fTup, fLst, mkT, mkL, frzL, iE, seqO, iR1, iR2, rg1, rg2, gAdd, gMul, gSub, gFDiv, gMod, gPow, gShl, gShr, gAnd, gOr, gXor, gLt, gLe, gGt, gGe, gAddI, gMulI, gU, gIx, gLen, gInt, gAbs, gList, gTuple, iop, tt2, orG, viewD, asL, asT, fApp, appO, isMl, fExt, extO, fSl, pNo, pSo, gSl, L2.atI, L2.ixN, gd, gEq_int, gNe_int, gEq_str, gNe_str, gd, pw, ha, hb2]
  · refine ⟨n2, some (vI a), y2, some (vI r2), ?_, ⟨by have := q2.len; omega, q2.all⟩⟩
    rw [← h2]
    simp [specOf, outs, sSeq_ev, sSet, sRet, sRetN, sIf, sDrop, sRaise, sNext, sBrk, sCnt, sSetItem, sAug, augO, setItemO, setO_val, retO_val, bind_ok, bind_exc, bind_stk, bindS_ok, bindS_exc, bindS_stk, ret_some, look_val, look_brw, fC_ev, fV, bin, una, chain, tBo, tTr, tNotV, tAndV, tOrV, fAnd, fOr, fNot, fIf, boO_ev, trO, tru, aNil_ev, aCons, cT_ev, callB, looks, g1, frz1_dat, frz1_ml, bN_ev, fTup, fLst, mkT, mkL, frzL, iE, seqO, iR1, iR2, rg1, rg2, gAdd, gMul, gSub, gFDiv, gMod, gPow, gShl, gShr, gAnd, gOr, gXor, gLt, gLe, gGt, gGe, gAddI, gMulI, gU, gIx, gLen, gInt, gAbs, gList, gTuple, iop, tt2, orG, viewD, asL, asT, fApp, appO, isMl, fExt, extO, fSl, pNo, pSo, gSl, L2.atI, L2.ixN, gd, gEq_int, gNe_int, gEq_str, gNe_str, gd, pw, ha, hb2]
/-- the stream -/
theorem stream_ev (ns : List Int) (hn : ns.length ≤ 63) : ∃ nums : List Int, S__law_stream [.dat (.list (ns.map .int))] = .ok (.ml (nums.map .int)) [none] ∧ 0 < nums.length ∧ nums.length < 10000 ∧ ∀ x ∈ nums, 0 ≤ x ∧ x < 1009 := by
  have hit : iE (fSl (fV 0) pNo (pSo (fC (.int 63)))) [some (.dat (.list (ns.map .int))), some (.ml []), none, none, none, none] = .ok (ns.map .int) [some (.dat (.list (ns.map .int))), some (.ml []), none, none, none, none] := by
    have e : cutD (ns.map PyData.int) none (some 63) = ns.map PyData.int := whole_cut ⟨rfl, by
      have : ∀ n : Nat, n ≤ 63 → HT.sIx n n (some 63) = n := fun n h => by unfold HT.sIx; simp; omega
      exact this _ (by rw [List.length_map]; exact hn)⟩
    simp [specOf, outs, sSeq_ev, sSet, sRet, sRetN, sIf, sDrop, sRaise, sNext, sBrk, sCnt, sSetItem, sAug, augO, setItemO, setO_val, retO_val, bind_ok, bind_exc, bind_stk, bindS_ok, bindS_exc, bindS_stk, ret_some, look_val, look_brw, fC_ev, fV, bin, una, chain, tBo, tTr, tNotV, tAndV, tOrV, fAnd, fOr, fNot, fIf, boO_ev, trO, tru, aNil_ev, aCons, cT_ev, callB, looks, g1, frz1_dat, frz1_ml, bN_ev, fTup, fLst, mkT, mkL, frzL, iE, seqO, iR1, iR2, rg1, rg2, gAdd, gMul, gSub, gFDiv, gMod, gPow, gShl, gShr, gAnd, gOr, gXor, gLt, gLe, gGt, gGe, gAddI, gMulI, gU, gIx, gLen, gInt, gAbs, gList, gTuple, iop, tt2, orG, viewD, asL, asT, fApp, appO, isMl, fExt, extO, fSl, pNo, pSo, gSl, L2.atI, L2.ixN, gd, gEq_int, gNe_int, gEq_str, gNe_str, e]
  have st : ∀ (k : Nat) (d : PyData) (ρ : Rho), (ns.map PyData.int)[k]? = some d → (∃ (nums' : List Int) (x2 x3 x4 x5 : Option Vl), ρ = [some (.dat (.list (ns.map .int))), some (.ml (nums'.map .int)), x2, x3, x4, x5] ∧ Nums nums' (60 * k)) →
      ∃ ρ1 ρ2, bN 2 d ρ = some ρ1 ∧ (B3 ρ1 = .nx ρ2 ∨ B3 ρ1 = .ct ρ2) ∧ ∃ (nums' : List Int) (x2 x3 x4 x5 : Option Vl), ρ2 = [some (.dat (.list (ns.map .int))), some (.ml (nums'.map .int)), x2, x3, x4, x5] ∧ Nums nums' (60 * (k + 1)) := by
    rintro k d ρ hd ⟨n', x2, x3, x4, x5, rfl, q⟩
    have hk : k < 63 := by
      have := (List.getElem?_eq_some_iff.mp hd).1
      rw [List.length_map] at this; omega
    obtain ⟨z, rfl⟩ : ∃ z, d = PyData.int z := by
      rw [List.getElem?_map] at hd
      obtain ⟨z, _, e⟩ := Option.map_eq_some_iff.mp hd
      exact ⟨z, e.symm⟩
    obtain ⟨n2, y3, y4, y5, h, q2⟩ := cell_ev (some (.dat (.list (ns.map .int)))) n' (60 * k) z x3 x4 x5 q (by omega)
    exact ⟨_, _, rfl, .inl h, n2, _, y3, y4, y5, rfl, ⟨by have := q2.len; omega, q2.all⟩⟩
  obtain ⟨ρ', h1, n', x2, x3, x4, x5, rfl, q⟩ := forL_all _ ⟨[], none, none, none, none, rfl, ⟨by simp, fun x hx => by simp at hx⟩⟩ st
  have h2 := (sFor_ev (body := B3) (b := bN 2) hit).trans h1
  rw [List.length_map] at q
  have hql := q.len
  unfold S__law_stream F__law_stream
  revert h2
  generalize hF : sFor (iE (fSl (fV 0) pNo (pSo (fC (.int 63))))) (bN 2) B3 = F1
  intro h2
  by_cases hz : n'.length = 0
  · have hz' : n' = [] := List.length_eq_zero_iff.mp hz
    subst hz'
    refine ⟨[0], ?_, by simp, by simp, by simp⟩
    simp at h2
    simp [specOf, outs, sSeq_ev, sSet, sRet, sRetN, sIf, sDrop, sRaise, sNext, sBrk, sCnt, sSetItem, sAug, augO, setItemO, setO_val, retO_val, bind_ok, bind_exc, bind_stk, bindS_ok, bindS_exc, bindS_stk, ret_some, look_val, look_brw, fC_ev, fV, bin, una, chain, tBo, tTr, tNotV, tAndV, tOrV, fAnd, fOr, fNot, fIf, boO_ev, trO, tru, aNil_ev, aCons, cT_ev, callB, looks, g1, frz1_dat, frz1_ml, bN_ev, fTup, fLst, mkT, mkL, frzL, iE, seqO, iR1, iR2, rg1, rg2, gAdd, gMul, gSub, gFDiv, gMod, gPow, gShl, gShr, gAnd, gOr, gXor, gLt, gLe, gGt, gGe, gAddI, gMulI, gU, gIx, gLen, gInt, gAbs, gList, gTuple, iop, tt2, orG, viewD, asL, asT, fApp, appO, isMl, fExt, extO, fSl, pNo, pSo, gSl, L2.atI, L2.ixN, gd, gEq_int, gNe_int, gEq_str, gNe_str, h2, retO, own]
  · refine ⟨n', ?_, by omega, by omega, q.all⟩
    simp [specOf, outs, sSeq_ev, sSet, sRet, sRetN, sIf, sDrop, sRaise, sNext, sBrk, sCnt, sSetItem, sAug, augO, setItemO, setO_val, retO_val, bind_ok, bind_exc, bind_stk, bindS_ok, bindS_exc, bindS_stk, ret_some, look_val, look_brw, fC_ev, fV, bin, una, chain, tBo, tTr, tNotV, tAndV, tOrV, fAnd, fOr, fNot, fIf, boO_ev, trO, tru, aNil_ev, aCons, cT_ev, callB, looks, g1, frz1_dat, frz1_ml, bN_ev, fTup, fLst, mkT, mkL, frzL, iE, seqO, iR1, iR2, rg1, rg2, gAdd, gMul, gSub, gFDiv, gMod, gPow, gShl, gShr, gAnd, gOr, gXor, gLt, gLe, gGt, gGe, gAddI, gMulI, gU, gIx, gLen, gInt, gAbs, gList, gTuple, iop, tt2, orG, viewD, asL, asT, fApp, appO, isMl, fExt, extO, fSl, pNo, pSo, gSl, L2.atI, L2.ixN, gd, gEq_int, gNe_int, gEq_str, gNe_str, h2, retO, own, hz]
end Mi
end
section
set_option Elab.async false
set_option linter.all false
set_option maxRecDepth 100000
/-! Ev33: small data: what may be compared, shown -/
namespace Mi
open PySem PySem.PyData
/-- small data: of depth k at most, of weight N at most -/
structure Sm (k N : Nat) (d : PyData) : Prop where
  lay : d.canLay0 = true
  dep : d.depth ≤ k
  wei : d.weight ≤ N
  sho : d.intsShort 13 = true
  vis : d.showable = true
theorem Sm.mono {k k' N N' : Nat} {d : PyData} (h : Sm k N d) (a : k ≤ k') (b : N ≤ N') : Sm k' N' d := ⟨h.lay, Nat.le_trans h.dep a, Nat.le_trans h.wei b, h.sho, h.vis⟩
theorem log_small {i : Int} (h : i.natAbs < 10 ^ 12) : i.natAbs.log2 ≤ 40 := by
  by_cases z : i.natAbs = 0
  · rw [z]; decide
  · have : i.natAbs.log2 < 41 := (Nat.log2_lt z).mpr (Nat.lt_trans h (by decide))
    omega
theorem sm_int {i : Int} (h : i.natAbs < 10 ^ 12) : Sm 0 41 (.int i) := by
  have hl := log_small h
  refine ⟨rfl, Nat.le_refl _, ?_, ?_, ?_⟩
  · unfold weight
    split <;> omega
  · have := intsShortAll_ints [i] (by simpa using h)
    simpa [intsShortAll] using this
  · unfold showable
    exact decide_eq_true (by omega)
theorem sm_bool {b : Bool} : Sm 0 0 (.bool b) := ⟨rfl, Nat.le_refl _, Nat.le_refl _, rfl, rfl⟩
theorem sm_none : Sm 0 0 .none := ⟨rfl, Nat.le_refl _, Nat.le_refl _, rfl, rfl⟩
theorem sm_str {s : Str} {n : Nat} (h : strOk s = true) (hn : s.cps.size ≤ n) : Sm 0 n (.str s) := ⟨h, Nat.le_refl _, hn, rfl, rfl⟩
structure SmAll (k N : Nat) (ds : List PyData) : Prop where
  lay : canLayAll0 ds = true
  dep : depthAll ds ≤ k
  wei : weightAll ds ≤ N
  sho : intsShortAll 13 ds = true
  vis : showableAll ds = true
theorem sm_nil {k N : Nat} : SmAll k N [] := ⟨rfl, Nat.zero_le _, Nat.zero_le _, rfl, rfl⟩
theorem sm_cons {k N M : Nat} {d : PyData} {ds : List PyData} (h : Sm k N d) (t : SmAll k M ds) : SmAll k (N + 1 + M) (d :: ds) := by
  refine ⟨?_, ?_, ?_, ?_, ?_⟩
  · unfold canLayAll0; rw [h.lay, t.lay]; rfl
  · unfold depthAll; have := h.dep; have := t.dep; omega
  · unfold weightAll; have := h.wei; have := t.wei; omega
  · unfold intsShortAll; rw [h.sho, t.sho]; rfl
  · unfold showableAll; rw [h.vis, t.vis]; rfl
theorem SmAll.mono {k k' N N' : Nat} {ds : List PyData} (h : SmAll k N ds) (a : k ≤ k') (b : N ≤ N') : SmAll k' N' ds := ⟨h.lay, Nat.le_trans h.dep a, Nat.le_trans h.wei b, h.sho, h.vis⟩
theorem sm_all {k N : Nat} : ∀ {ds : List PyData}, (∀ d ∈ ds, Sm k N d) → SmAll k (ds.length * (N + 1)) ds
  | [], _ => sm_nil
  | d :: ds, h => (sm_cons (h d (by simp)) (sm_all fun x hx => h x (List.mem_cons_of_mem _ hx))).mono (Nat.le_refl _) (by rw [List.length_cons, Nat.succ_mul]; omega)
theorem sm_tup {k N : Nat} {ds : List PyData} (h : SmAll k N ds) : Sm (k + 1) N (.tuple ds) := by
  refine ⟨?_, ?_, ?_, ?_, ?_⟩
  · unfold canLay0; exact h.lay
  · unfold depth; have := h.dep; omega
  · unfold weight; exact h.wei
  · unfold intsShort; exact h.sho
  · unfold showable; exact h.vis
theorem sm_lst {k N : Nat} {ds : List PyData} (h : SmAll k N ds) : Sm (k + 1) N (.list ds) := by
  refine ⟨?_, ?_, ?_, ?_, ?_⟩
  · unfold canLay0; exact h.lay
  · unfold depth; have := h.dep; omega
  · unfold weight; exact h.wei
  · unfold intsShort; exact h.sho
  · unfold showable; exact h.vis
theorem sm_ints {ns : List Int} (h : ∀ x ∈ ns, x.natAbs < 10 ^ 12) : SmAll 0 (ns.length * 42) (ns.map .int) := by
  have := sm_all (ds := ns.map PyData.int) (k := 0) (N := 41) fun d hd => by
    obtain ⟨x, hx, rfl⟩ := List.mem_map.mp hd
    exact sm_int (h x hx)
  rw [List.length_map] at this
  exact this
theorem Sm.shp {k N : Nat} {d : PyData} (h : Sm k N d) (hk : k ≤ 64) : shp d := by
  show (d.canLay0 && decide (d.depth ≤ 64)) = true
  rw [h.lay, decide_eq_true (Nat.le_trans h.dep hk)]
  rfl
theorem Sm.rok {k N : Nat} {d : PyData} (h : Sm k N d) (hk : k ≤ 64) (hN : N ≤ 2 ^ 20) : Rok d := by
  refine ⟨h.vis, PyData.hasDict_of_canLay _ h.lay, Nat.le_trans h.dep hk, ?_⟩
  refine shown_fits_of_layable0 (B := 13) (by decide) (by decide) ?_ h.sho
  unfold layable0
  rw [h.lay, decide_eq_true (Nat.le_trans h.dep hk), decide_eq_true (Nat.le_trans h.wei hN)]
  rfl
theorem canLay_ints : ∀ ns : List Int, canLayAll0 (ns.map .int) = true
  | [] => rfl
  | n :: ns => by show (canLay0 (.int n) && canLayAll0 (ns.map .int)) = true; rw [canLay_ints ns]; rfl
theorem depth_ints : ∀ ns : List Int, depthAll (ns.map .int) = 0
  | [] => rfl
  | n :: ns => by show max (depth (.int n)) (depthAll (ns.map .int)) = 0; rw [depth_ints ns]; rfl
theorem shp_tupI (ns : List Int) : shp (.tuple (ns.map .int)) := by
  show (canLayAll0 (ns.map .int) && decide (depthAll (ns.map .int) + 1 ≤ 64)) = true
  rw [canLay_ints, depth_ints]; rfl
theorem shp_lstI (ns : List Int) : shp (.list (ns.map .int)) := by
  show (canLayAll0 (ns.map .int) && decide (depthAll (ns.map .int) + 1 ≤ 64)) = true
  rw [canLay_ints, depth_ints]; rfl
theorem eqvAll_ints : ∀ ns ms : List Int, PyData.eqvAll (ns.map .int) (ms.map .int) = decide (ns = ms)
  | [], [] => rfl
  | [], m :: ms => rfl
  | n :: ns, [] => rfl
  | n :: ns, m :: ms => by
    show (PyData.eqv (.int n) (.int m) && PyData.eqvAll (ns.map .int) (ms.map .int)) = _
    rw [eqvAll_ints ns ms]
    show ((n == m) && decide (ns = ms)) = _
    by_cases h : n = m <;> by_cases h2 : ns = ms <;> simp [h, h2]
theorem eqv_tupI (ns ms : List Int) : PyData.eqv (.tuple (ns.map .int)) (.tuple (ms.map .int)) = decide (ns = ms) := eqvAll_ints ns ms
theorem eqv_lstI (ns ms : List Int) : PyData.eqv (.list (ns.map .int)) (.list (ms.map .int)) = decide (ns = ms) := eqvAll_ints ns ms
theorem gEq_tupI (ns ms : List Int) : gEq (.dat (.tuple (ns.map .int))) (.dat (.tuple (ms.map .int))) = some (vB (decide (ns = ms))) := by
  rw [gEq_of (d := .tuple (ns.map .int)) (e := .tuple (ms.map .int)) rfl rfl (shp_tupI _) (shp_tupI _), eqv_tupI]
theorem gNe_tupI (ns ms : List Int) : gNe (.dat (.tuple (ns.map .int))) (.dat (.tuple (ms.map .int))) = some (vB (!decide (ns = ms))) := by
  rw [gNe_of (d := .tuple (ns.map .int)) (e := .tuple (ms.map .int)) rfl rfl (shp_tupI _) (shp_tupI _), eqv_tupI]
theorem gNe_mlI (ns ms : List Int) : gNe (.ml (ns.map .int)) (.ml (ms.map .int)) = some (vB (!decide (ns = ms))) := by
  rw [gNe_of (d := .list (ns.map .int)) (e := .list (ms.map .int)) rfl rfl (shp_lstI _) (shp_lstI _), eqv_lstI]
theorem gEq_mlI (ns ms : List Int) : gEq (.ml (ns.map .int)) (.ml (ms.map .int)) = some (vB (decide (ns = ms))) := by
  rw [gEq_of (d := .list (ns.map .int)) (e := .list (ms.map .int)) rfl rfl (shp_lstI _) (shp_lstI _), eqv_lstI]
/-- told and due are the same -/
theorem same_ev {d : PyData} (h : Rok (.list [d])) : S__law_same [.dat d, .dat d] = .ok (vB true) [none, none] := by
  have hr : gRepr (.ml [d]) = some (.dat (.str (PyData.shown (.list [d])))) := gd_pos ⟨h, rfl⟩
  unfold S__law_same F__law_same
  simp [specOf, sRet, bin, callB, g1, fLst, aCons, aNil, fV, bind_ok, bindS_ok, mkL, frzL, frz1, viewD, looks, look, hr, ret_some, gEq_str, retO_val, outs, List.replicate]
/-- sorted ints -/
theorem srt_ints (ns : List Int) : Srt (ns.map .int) := by
  refine ⟨fun d hd d' hd' => ?_, .inr fun d hd => ?_, fun d hd => ?_⟩
  · obtain ⟨x, _, rfl⟩ := List.mem_map.mp hd
    obtain ⟨y, _, rfl⟩ := List.mem_map.mp hd'
    rfl
  · obtain ⟨x, _, rfl⟩ := List.mem_map.mp hd
    exact ⟨(fun z => nomatch z), (fun _ z => nomatch z)⟩
  · obtain ⟨x, _, rfl⟩ := List.mem_map.mp hd
    exact Nat.zero_le _
def sortI (ns : List Int) : List Int := ns.mergeSort fun a b => decide (a ≤ b)
theorem sortD_ints (ns : List Int) : sortD false (ns.map .int) = (sortI ns).map .int := by
  unfold sortD sortI
  have e : ∀ a b : Int, PySem.W.dataLe false id (PyData.int a) (PyData.int b) = decide (a ≤ b) := fun a b => by
    have := congrFun (congrFun (PySem.W.dataLe_int (β := Int) id) a) b
    exact this
  rw [List.map_mergeSort (r := fun a b => decide (a ≤ b)) (s := PySem.W.dataLe false id) (f := PyData.int) fun a _ b _ => (e a b).symm]
theorem perm_sortI (ns : List Int) : (sortI ns).Perm ns := List.mergeSort_perm ..
theorem pw_sortI (ns : List Int) : (sortI ns).Pairwise (· ≤ ·) := by
  have := List.pairwise_mergeSort (le := fun a b : Int => decide (a ≤ b)) (fun a b c h1 h2 => by simp at *; omega) (fun a b => by simp; omega) ns
  exact this.imp fun h => by simpa using h
theorem asc_sortI {ns : List Int} (h : ns.Nodup) : (sortI ns).Pairwise (· < ·) := by
  have h1 := pw_sortI ns
  have h2 : (sortI ns).Nodup := (perm_sortI ns).nodup_iff.mpr h
  exact (h1.and h2).imp fun ⟨a, b⟩ => by omega
theorem gSorted_ml (ns : List Int) : gSorted (.ml (ns.map .int)) = some (.ml ((sortI ns).map .int)) := by
  have e : gSorted (.ml (ns.map .int)) = some (.ml (sortD false (ns.map .int))) := gd_pos (srt_ints ns)
  rw [e, sortD_ints]
end Mi
end
section
set_option Elab.async false
set_option linter.all false
set_option maxRecDepth 100000
/-! Fam: sets as bit masks -/
namespace Fm
/-- the bit i of x -/
def bt (x : Int) (i : Nat) : Prop := x / 2 ^ i % 2 = 1
theorem bt_zero (x : Int) : bt x 0 ↔ x % 2 = 1 := by unfold bt; simp
theorem bt_succ (x : Int) (i : Nat) : bt x (i + 1) ↔ bt (x / 2) i := by
  unfold bt
  rw [Int.pow_succ, Int.mul_comm, Int.ediv_ediv_of_nonneg (by decide)]
theorem eq_zero : ∀ (n : Nat) (x : Int), x.natAbs ≤ n → (∀ i, ¬ bt x i) → x = 0
  | 0, x, h, _ => by omega
  | n + 1, x, h, hb => by
    have h0 := hb 0
    rw [bt_zero] at h0
    by_cases hx : x = 0
    · exact hx
    · have h2 : x / 2 = 0 := eq_zero n (x / 2) (by omega) fun i => by rw [← bt_succ]; exact hb (i + 1)
      omega
theorem bt_eq_zero {x : Int} : x = 0 ↔ ∀ i, ¬ bt x i := by
  constructor
  · rintro rfl i
    unfold bt
    simp
  · exact eq_zero _ x (Nat.le_refl _)
theorem ext_aux : ∀ (n : Nat) (x y : Int), x.natAbs + y.natAbs ≤ n → (∀ i, bt x i ↔ bt y i) → x = y
  | 0, x, y, h, _ => by omega
  | n + 1, x, y, h, hb => by
    have h0 := hb 0
    rw [bt_zero, bt_zero] at h0
    have hr : x % 2 = y % 2 := by omega
    by_cases hs : x.natAbs + y.natAbs = 0
    · omega
    · by_cases hd : (x / 2).natAbs + (y / 2).natAbs ≤ n
      · have h2 := ext_aux n (x / 2) (y / 2) hd fun i => by rw [← bt_succ, ← bt_succ]; exact hb (i + 1)
        omega
      · -- both are 0 or -1
        omega
theorem bt_ext {x y : Int} (h : ∀ i, bt x i ↔ bt y i) : x = y := ext_aux _ x y (Nat.le_refl _) h
open PySem
theorem bt_and : ∀ (i : Nat) (x y : Int), bt (Builtin.bitAnd x y) i ↔ bt x i ∧ bt y i
  | 0, x, y => by
    rw [bt_zero, bt_zero, bt_zero, W.kbt_halves x y]
    by_cases h : x % 2 = 1 ∧ y % 2 = 1
    · rw [if_pos h]; omega
    · rw [if_neg h]; omega
  | i + 1, x, y => by
    rw [bt_succ, bt_succ, bt_succ, ← bt_and i]
    have : Builtin.bitAnd x y / 2 = Builtin.bitAnd (x / 2) (y / 2) := by
      have e := W.kbt_halves x y
      by_cases h : x % 2 = 1 ∧ y % 2 = 1
      · rw [if_pos h] at e; omega
      · rw [if_neg h] at e; omega
    rw [this]
theorem bt_not : ∀ (i : Nat) (x : Int), bt (Builtin.bitNot x) i ↔ ¬ bt x i
  | 0, x => by
    rw [bt_zero, bt_zero]
    unfold Builtin.bitNot
    omega
  | i + 1, x => by
    rw [bt_succ, bt_succ, ← bt_not i]
    have : Builtin.bitNot x / 2 = Builtin.bitNot (x / 2) := by unfold Builtin.bitNot; omega
    rw [this]
theorem bt_or (i : Nat) (x y : Int) : bt (Builtin.bitOr x y) i ↔ bt x i ∨ bt y i := by
  show bt (Builtin.bitNot (Builtin.bitAnd (Builtin.bitNot x) (Builtin.bitNot y))) i ↔ _
  rw [bt_not, bt_and, bt_not, bt_not]
  exact ⟨fun h => Classical.byContradiction fun q => h ⟨fun a => q (.inl a), fun a => q (.inr a)⟩, fun h ⟨a, b⟩ => h.elim a b⟩
/-- x lies within y -/
def Sub (x y : Int) : Prop := ∀ i, bt x i → bt y i
theorem sub_iff {x y : Int} : Builtin.bitAnd x (Builtin.bitNot y) = 0 ↔ Sub x y := by
  rw [bt_eq_zero]
  constructor
  · intro h i hx
    have := h i
    rw [bt_and, bt_not] at this
    exact Classical.byContradiction fun q => this ⟨hx, q⟩
  · intro h i q
    rw [bt_and, bt_not] at q
    exact q.2 (h i q.1)
theorem Sub.refl (x : Int) : Sub x x := fun _ h => h
theorem Sub.trans {x y z : Int} (a : Sub x y) (b : Sub y z) : Sub x z := fun i h => b i (a i h)
theorem Sub.anti {x y : Int} (a : Sub x y) (b : Sub y x) : x = y := bt_ext fun i => ⟨a i, b i⟩
/-- x and y have something in common -/
def Meet (x y : Int) : Prop := ∃ i, bt x i ∧ bt y i
theorem meet_iff {x y : Int} : Builtin.bitAnd x y ≠ 0 ↔ Meet x y := by
  rw [Ne, bt_eq_zero]
  constructor
  · intro h
    exact Classical.byContradiction fun q => h fun i hi => q ⟨i, (bt_and i x y).mp hi⟩
  · rintro ⟨i, h⟩ q
    exact q i ((bt_and i x y).mpr h)
theorem Meet.symm {x y : Int} (h : Meet x y) : Meet y x := let ⟨i, a, b⟩ := h; ⟨i, b, a⟩
/-- the sets of n things -/
def U (n : Nat) (x : Int) : Prop := 0 ≤ x ∧ x < 2 ^ n
theorem bt_high : ∀ (n i : Nat) (x : Int), U n x → n ≤ i → ¬ bt x i := fun n i x ⟨h0, h1⟩ hi h => by
  unfold bt at h
  have : x < 2 ^ i := Int.lt_of_lt_of_le h1 (by
    have := Nat.pow_le_pow_right (n := 2) (by decide) hi
    exact_mod_cast this)
  rw [Int.ediv_eq_zero_of_lt h0 this] at h
  cases h
theorem sub_le : ∀ (n : Nat) (x y : Int), U n x → 0 ≤ y → Sub x y → x ≤ y
  | 0, x, y, ⟨h0, h1⟩, hy, _ => by
    have : (2 : Int) ^ 0 = 1 := rfl
    omega
  | n + 1, x, y, ⟨h0, h1⟩, hy, h => by
    have e : (2 : Int) ^ (n + 1) = 2 ^ n * 2 := Int.pow_succ ..
    have ih := sub_le n (x / 2) (y / 2) ⟨by omega, by omega⟩ (by omega) fun i hi => by
      rw [← bt_succ] at hi ⊢
      exact h _ hi
    have b0 := h 0
    rw [bt_zero, bt_zero] at b0
    omega
theorem u_of_high : ∀ (n : Nat) (x : Int), 0 ≤ x → (∀ i, n ≤ i → ¬ bt x i) → U n x
  | 0, x, h0, h => by
    have : x = 0 := bt_eq_zero.mpr fun i => h i (Nat.zero_le _)
    subst this
    exact ⟨Int.le_refl _, by decide⟩
  | n + 1, x, h0, h => by
    have e : (2 : Int) ^ (n + 1) = 2 ^ n * 2 := Int.pow_succ ..
    have ih := u_of_high n (x / 2) (by omega) fun i hi => by rw [← bt_succ]; exact h _ (by omega)
    exact ⟨h0, by have := ih.2; omega⟩
theorem u_sub {n : Nat} {x y : Int} (hy : U n y) (h0 : 0 ≤ x) (h : Sub x y) : U n x := u_of_high n x h0 fun i hi hb => bt_high n i y hy hi (h i hb)
theorem and_nonneg {x y : Int} (h : 0 ≤ x) : 0 ≤ Builtin.bitAnd x y := by
  have e : Builtin.bitAnd x y = Builtin.bitAnd y x := bt_ext fun i => by rw [bt_and, bt_and]; exact And.comm
  rw [e]
  exact (PyProof.Rows.bitAnd_range y h).1
theorem bt_pow : ∀ (t i : Nat), bt (2 ^ t) i ↔ i = t
  | 0, 0 => by rw [bt_zero]; simp
  | 0, i + 1 => by
    rw [bt_succ]
    have : (2 : Int) ^ 0 / 2 = 0 := by decide
    rw [this]
    constructor
    · intro h
      exact ((bt_eq_zero.mp rfl) i h).elim
    · intro h; omega
  | t + 1, 0 => by
    rw [bt_zero]
    have e : (2 : Int) ^ (t + 1) = 2 ^ t * 2 := Int.pow_succ ..
    constructor
    · intro h; omega
    · intro h; omega
  | t + 1, i + 1 => by
    rw [bt_succ]
    have e : (2 : Int) ^ (t + 1) = 2 ^ t * 2 := Int.pow_succ ..
    have : (2 : Int) ^ (t + 1) / 2 = 2 ^ t := by omega
    rw [this, bt_pow t i]
    omega
/-- all n things -/
def whole (n : Nat) : Int := 2 ^ n - 1
theorem bt_whole : ∀ (n i : Nat), bt (whole n) i ↔ i < n
  | 0, i => by
    have : whole 0 = 0 := by decide
    rw [this]
    exact ⟨fun h => ((bt_eq_zero.mp rfl) i h).elim, fun h => by omega⟩
  | n + 1, 0 => by
    have e : (2 : Int) ^ (n + 1) = 2 ^ n * 2 := Int.pow_succ ..
    rw [bt_zero]
    unfold whole
    omega
  | n + 1, i + 1 => by
    have e : (2 : Int) ^ (n + 1) = 2 ^ n * 2 := Int.pow_succ ..
    rw [bt_succ]
    have : whole (n + 1) / 2 = whole n := by unfold whole; omega
    rw [this, bt_whole n i]
    omega
theorem u_whole (n : Nat) : U n (whole n) := u_of_high n _ (by
    unfold whole
    have : (0 : Int) < 2 ^ n := Int.pow_pos (by decide)
    omega) fun i hi h => by rw [bt_whole] at h; omega
/-- all things but those of x -/
def co (n : Nat) (x : Int) : Int := Builtin.bitAnd (whole n) (Builtin.bitNot x)
theorem bt_co {n : Nat} {x : Int} {i : Nat} : bt (co n x) i ↔ i < n ∧ ¬ bt x i := by unfold co; rw [bt_and, bt_not, bt_whole]
theorem u_co (n : Nat) (x : Int) : U n (co n x) := u_sub (u_whole n) (and_nonneg (u_whole n).1) fun i h => (bt_whole n i).mpr (bt_co.mp h).1
theorem co_co {n : Nat} {x : Int} (h : U n x) : co n (co n x) = x := bt_ext fun i => by
  rw [bt_co, bt_co]
  constructor
  · rintro ⟨a, b⟩
    exact Classical.byContradiction fun q => b ⟨a, q⟩
  · intro hx
    have : i < n := Classical.byContradiction fun q => bt_high n i x h (by omega) hx
    exact ⟨this, fun z => z.2 hx⟩
theorem co_sub {n : Nat} {x y : Int} (hx : U n x) (hy : U n y) : Sub (co n x) (co n y) ↔ Sub y x := by
  constructor
  · intro h i hi
    have hn : i < n := Classical.byContradiction fun q => bt_high n i y hy (by omega) hi
    exact Classical.byContradiction fun q => (bt_co.mp (h i (bt_co.mpr ⟨hn, q⟩))).2 hi
  · intro h i hi
    obtain ⟨a, b⟩ := bt_co.mp hi
    exact bt_co.mpr ⟨a, fun z => b (h i z)⟩
/-- nothing of y lies outside x just if y meets not what is left -/
theorem sub_co {n : Nat} {x y : Int} (hy : U n y) : Sub y x ↔ ¬ Meet y (co n x) := by
  constructor
  · rintro h ⟨i, a, b⟩
    exact (bt_co.mp b).2 (h i a)
  · intro h i hi
    have hn : i < n := Classical.byContradiction fun q => bt_high n i y hy (by omega) hi
    exact Classical.byContradiction fun q => h ⟨i, hi, bt_co.mpr ⟨hn, q⟩⟩
end Fm
end
section
set_option Elab.async false
set_option linter.all false
set_option maxRecDepth 100000
/-! Fam2: families of sets; least, greatest, crossing -/
namespace Fm
open PySem
abbrev Asc (l : List Int) : Prop := l.Pairwise (· < ·)
theorem asc_eq : ∀ {xs ys : List Int}, Asc xs → Asc ys → (∀ j, j ∈ xs ↔ j ∈ ys) → xs = ys
  | [], [], _, _, _ => rfl
  | [], y :: ys, _, _, h => by have := (h y).mpr (by simp); simp at this
  | x :: xs, [], _, _, h => by have := (h x).mp (by simp); simp at this
  | x :: xs, y :: ys, h1, h2, h => by
    have hx := List.pairwise_cons.mp h1
    have hy := List.pairwise_cons.mp h2
    have e : x = y := by
      have a : x ∈ y :: ys := (h x).mp (by simp)
      have b : y ∈ x :: xs := (h y).mpr (by simp)
      rcases List.mem_cons.mp a with a | a
      · exact a
      · rcases List.mem_cons.mp b with b | b
        · exact b.symm
        · have := hx.1 y b
          have := hy.1 x a
          omega
    subst e
    rw [asc_eq hx.2 hy.2 fun j => ?_]
    constructor
    · intro hj
      rcases List.mem_cons.mp ((h j).mp (List.mem_cons_of_mem _ hj)) with rfl | q
      · have := hx.1 j hj; omega
      · exact q
    · intro hj
      rcases List.mem_cons.mp ((h j).mpr (List.mem_cons_of_mem _ hj)) with rfl | q
      · have := hy.1 j hj; omega
      · exact q
/-- other lies within one, as the text asks it -/
def inB (other one : Int) : Bool := decide (Builtin.bitAnd other (Builtin.bitNot one) = 0)
theorem inB_iff {a b : Int} : inB a b = true ↔ Sub a b := by
  unfold inB
  rw [decide_eq_true_iff, sub_iff]
def leastOf (rows : List Int) : List Int := rows.filter fun one => !rows.any fun other => decide (other ≠ one) && inB other one
def greatOf (rows : List Int) : List Int := rows.filter fun one => !rows.any fun other => decide (other ≠ one) && inB one other
theorem mem_least {rows : List Int} {x : Int} : x ∈ leastOf rows ↔ x ∈ rows ∧ ∀ y ∈ rows, Sub y x → y = x := by
  unfold leastOf
  rw [List.mem_filter]
  refine and_congr Iff.rfl ?_
  rw [Bool.not_eq_true', List.any_eq_false]
  constructor
  · intro h y hy hs
    have := h y hy
    exact Classical.byContradiction fun q => this (by rw [Bool.and_eq_true, inB_iff]; exact ⟨decide_eq_true q, hs⟩)
  · intro h y hy q
    rw [Bool.and_eq_true, inB_iff] at q
    exact (of_decide_eq_true q.1) (h y hy q.2)
theorem mem_great {rows : List Int} {x : Int} : x ∈ greatOf rows ↔ x ∈ rows ∧ ∀ y ∈ rows, Sub x y → y = x := by
  unfold greatOf
  rw [List.mem_filter]
  refine and_congr Iff.rfl ?_
  rw [Bool.not_eq_true', List.any_eq_false]
  constructor
  · intro h y hy hs
    have := h y hy
    exact Classical.byContradiction fun q => this (by rw [Bool.and_eq_true, inB_iff]; exact ⟨decide_eq_true q, hs⟩)
  · intro h y hy q
    rw [Bool.and_eq_true, inB_iff] at q
    exact (of_decide_eq_true q.1) (h y hy q.2)
theorem asc_least {rows : List Int} (h : Asc rows) : Asc (leastOf rows) := h.sublist List.filter_sublist
theorem asc_great {rows : List Int} (h : Asc rows) : Asc (greatOf rows) := h.sublist List.filter_sublist
/-- an antichain -/
def Anti (l : List Int) : Prop := ∀ x ∈ l, ∀ y ∈ l, Sub y x → y = x
theorem anti_least {rows : List Int} : Anti (leastOf rows) := fun x hx y hy s => (mem_least.mp hx).2 y (mem_least.mp hy).1 s
theorem anti_great {rows : List Int} : Anti (greatOf rows) := fun x hx y hy s => ((mem_great.mp hy).2 x (mem_great.mp hx).1 s).symm
theorem least_self {l : List Int} (h : Anti l) : leastOf l = l := by
  unfold leastOf
  rw [List.filter_eq_self]
  intro x hx
  rw [Bool.not_eq_true', List.any_eq_false]
  intro y hy q
  rw [Bool.and_eq_true, inB_iff] at q
  exact (of_decide_eq_true q.1) (h x hx y hy q.2)
/-- each set of a family has a least one within it -/
theorem least_cover {n : Nat} {rows : List Int} (hU : ∀ x ∈ rows, U n x) : ∀ (k : Nat) (x : Int), x.toNat ≤ k → x ∈ rows → ∃ y ∈ leastOf rows, Sub y x := by
  intro k
  induction k with
  | zero =>
    intro x hx hm
    have h0 := (hU x hm).1
    have : x = 0 := by omega
    subst this
    refine ⟨0, mem_least.mpr ⟨hm, fun y hy hs => ?_⟩, Sub.refl _⟩
    have := sub_le n y 0 (hU y hy) (Int.le_refl _) hs
    have := (hU y hy).1
    omega
  | succ k ih =>
    intro x hx hm
    by_cases h : ∀ y ∈ rows, Sub y x → y = x
    · exact ⟨x, mem_least.mpr ⟨hm, h⟩, Sub.refl _⟩
    · obtain ⟨y, hy⟩ := Classical.not_forall.mp h
      obtain ⟨hy1, hy2⟩ := Classical.not_imp.mp hy
      obtain ⟨hs, hne⟩ := Classical.not_imp.mp hy2
      have hle := sub_le n y x (hU y hy1) (hU x hm).1 hs
      have h0 := (hU y hy1).1
      obtain ⟨z, hz, hzs⟩ := ih y (by omega) hy1
      exact ⟨z, hz, hzs.trans hs⟩
/-- two families with the same least sets -/
theorem least_eq {n : Nat} {R W : List Int} (hR : Asc R) (hW : Asc W) (sub : ∀ x ∈ R, x ∈ W) (cov : ∀ u ∈ W, ∃ x ∈ R, Sub x u) : leastOf R = leastOf W := by
  apply asc_eq (asc_least hR) (asc_least hW)
  intro x
  rw [mem_least, mem_least]
  constructor
  · rintro ⟨hx, hm⟩
    refine ⟨sub x hx, fun u hu hs => ?_⟩
    obtain ⟨r, hr, hrs⟩ := cov u hu
    have e := hm r hr (hrs.trans hs)
    subst e
    exact hs.anti hrs
  · rintro ⟨hx, hm⟩
    obtain ⟨r, hr, hrs⟩ := cov x hx
    have e := hm r (sub r hr) hrs
    subst e
    exact ⟨hr, fun y hy hs => hm y (sub y hy) hs⟩
/-- all sets of n things -/
def allOf (n : Nat) : List Int := (List.range (2 ^ n)).map fun k : Nat => (k : Int)
theorem mem_all {n : Nat} {x : Int} : x ∈ allOf n ↔ U n x := by
  unfold allOf U
  rw [List.mem_map]
  constructor
  · rintro ⟨k, hk, rfl⟩
    have := List.mem_range.mp hk
    exact ⟨Int.natCast_nonneg _, by exact_mod_cast this⟩
  · rintro ⟨h0, h1⟩
    refine ⟨x.toNat, List.mem_range.mpr ?_, by omega⟩
    have : ((2 ^ n : Nat) : Int) = 2 ^ n := by norm_cast
    omega
theorem asc_all (n : Nat) : Asc (allOf n) := by
  unfold allOf Asc
  rw [List.pairwise_map]
  exact (List.pairwise_lt_range).imp fun h => by omega
/-- what meets all of F -/
def trs (n : Nat) (F : List Int) : List Int := (allOf n).filter fun one => F.all fun other => decide (Builtin.bitAnd one other ≠ 0)
theorem mem_trs {n : Nat} {F : List Int} {x : Int} : x ∈ trs n F ↔ U n x ∧ ∀ s ∈ F, Meet x s := by
  unfold trs
  rw [List.mem_filter, mem_all, List.all_eq_true]
  refine and_congr Iff.rfl ⟨fun h s hs => meet_iff.mp (of_decide_eq_true (h s hs)), fun h s hs => decide_eq_true (meet_iff.mpr (h s hs))⟩
theorem asc_trs {n : Nat} {F : List Int} : Asc (trs n F) := (asc_all n).sublist List.filter_sublist
theorem trs_congr {n : Nat} {F F' : List Int} (h : ∀ x, x ∈ F ↔ x ∈ F') : trs n F = trs n F' := asc_eq asc_trs asc_trs fun x => by
  rw [mem_trs, mem_trs]
  exact and_congr Iff.rfl ⟨fun a s hs => a s ((h s).mpr hs), fun a s hs => a s ((h s).mp hs)⟩
def crossOf (n : Nat) (F : List Int) : List Int := leastOf (trs n F)
/-- crossing twice leads back -/
theorem cross_cross {n : Nat} {T : List Int} (hT : Asc T) (hU : ∀ x ∈ T, U n x) (ha : Anti T) : crossOf n (crossOf n T) = T := by
  unfold crossOf
  rw [← least_eq (n := n) hT asc_trs (fun t ht => mem_trs.mpr ⟨hU t ht, fun m hm => ?_⟩) (fun u hu => ?_), least_self ha]
  · exact ((mem_trs.mp (mem_least.mp hm).1).2 t ht).symm
  · obtain ⟨hu1, hu2⟩ := mem_trs.mp hu
    refine Classical.byContradiction fun q => ?_
    have q' : ∀ t ∈ T, ¬ Sub t u := fun t ht hs => q ⟨t, ht, hs⟩
    -- what u leaves out meets all of T
    have hc : co n u ∈ trs n T := mem_trs.mpr ⟨u_co n u, fun t ht => Classical.byContradiction fun z => q' t ht ((sub_co (hU t ht)).mpr fun m => z m.symm)⟩
    obtain ⟨m, hm, hms⟩ := least_cover (rows := trs n T) (fun x hx => (mem_trs.mp hx).1) _ (co n u) (Nat.le_refl _) hc
    obtain ⟨i, hi1, hi2⟩ := hu2 m hm
    exact (bt_co.mp (hms i hi2)).2 hi1
/-- one more set is to be met: rows -/
theorem cross_step {n : Nat} {F rows : List Int} {e : Int} (hR : Asc rows) (he : U n e) (hF : ∀ s ∈ F, U n s)
    (mem : ∀ x, x ∈ rows ↔ ∃ r ∈ crossOf n F, (Meet r e ∧ x = r) ∨ (¬ Meet r e ∧ ∃ t : Nat, bt e t ∧ x = Builtin.bitOr r (2 ^ t))) : leastOf rows = crossOf n (F ++ [e]) := by
  have hc : ∀ r ∈ crossOf n F, U n r ∧ ∀ s ∈ F, Meet r s := fun r hr => mem_trs.mp (mem_least.mp hr).1
  refine least_eq (n := n) hR asc_trs (fun x hx => ?_) (fun u hu => ?_)
  · obtain ⟨r, hr, h⟩ := (mem x).mp hx
    obtain ⟨hrU, hrF⟩ := hc r hr
    rw [mem_trs]
    rcases h with ⟨hm, rfl⟩ | ⟨hm, t, ht, rfl⟩
    · exact ⟨hrU, fun s hs => (List.mem_append.mp hs).elim (hrF s) fun q => by
        obtain rfl : s = e := by simpa using q
        exact hm⟩
    · have tn : t < n := Classical.byContradiction fun q => bt_high n t e he (by omega) ht
      have hb : ∀ i, bt (Builtin.bitOr r (2 ^ t)) i ↔ bt r i ∨ i = t := fun i => by rw [bt_or, bt_pow]
      have h0 : 0 ≤ Builtin.bitOr r (2 ^ t) := by
        have e1 : Builtin.bitOr r (2 ^ t) = Builtin.bitAnd (whole n) (Builtin.bitOr r (2 ^ t)) := bt_ext fun i => by
          rw [bt_and, bt_whole, hb]
          constructor
          · intro q
            refine ⟨?_, q⟩
            rcases q with q | q
            · exact Classical.byContradiction fun z => bt_high n i r hrU (by omega) q
            · omega
          · exact fun q => q.2
        rw [e1]
        exact and_nonneg (u_whole n).1
      refine ⟨u_of_high n _ h0 fun i hi q => ?_, fun s hs => ?_⟩
      · rcases (hb i).mp q with q | q
        · exact bt_high n i r hrU hi q
        · omega
      · rcases List.mem_append.mp hs with hs | hs
        · obtain ⟨i, a, b⟩ := hrF s hs
          exact ⟨i, (hb i).mpr (.inl a), b⟩
        · obtain rfl : s = e := by simpa using hs
          exact ⟨t, (hb t).mpr (.inr rfl), ht⟩
  · obtain ⟨hu1, hu2⟩ := mem_trs.mp hu
    have hu3 : u ∈ trs n F := mem_trs.mpr ⟨hu1, fun s hs => hu2 s (List.mem_append_left _ hs)⟩
    obtain ⟨r, hr, hrs⟩ := least_cover (rows := trs n F) (fun x hx => (mem_trs.mp hx).1) _ u (Nat.le_refl _) hu3
    by_cases hm : Meet r e
    · exact ⟨r, (mem r).mpr ⟨r, hr, .inl ⟨hm, rfl⟩⟩, hrs⟩
    · obtain ⟨t, a, b⟩ := hu2 e (by simp)
      refine ⟨_, (mem _).mpr ⟨r, hr, .inr ⟨hm, t, b, rfl⟩⟩, fun i hi => ?_⟩
      rw [bt_or, bt_pow] at hi
      rcases hi with hi | hi
      · exact hrs i hi
      · rw [hi]; exact a
theorem cross_nil {n : Nat} : crossOf n [] = [0] := by
  have z0 : U n 0 := ⟨Int.le_refl _, Int.pow_pos (by decide)⟩
  refine asc_eq (asc_least asc_trs) (by simp) fun x => ?_
  unfold crossOf
  rw [mem_least, mem_trs]
  constructor
  · rintro ⟨⟨hx, _⟩, hm⟩
    have := hm 0 (mem_trs.mpr ⟨z0, fun s hs => by simp at hs⟩) fun i hi => (bt_eq_zero.mp rfl i hi).elim
    simp [← this]
  · intro hx
    obtain rfl : x = 0 := by simpa using hx
    refine ⟨⟨z0, fun s hs => by simp at hs⟩, fun y hy hs => ?_⟩
    exact (bt_eq_zero.mpr fun i hi => bt_eq_zero.mp rfl i (hs i hi))
/-- a set is true: a true one lies within it -/
def isT (trues : List Int) (one : Int) : Bool := trues.any fun t => inB t one
theorem isT_iff {T : List Int} {x : Int} : isT T x = true ↔ ∃ t ∈ T, Sub t x := by
  unfold isT
  rw [List.any_eq_true]
  exact ⟨fun ⟨t, h1, h2⟩ => ⟨t, h1, inB_iff.mp h2⟩, fun ⟨t, h1, h2⟩ => ⟨t, h1, inB_iff.mpr h2⟩⟩
def falsesOf (n : Nat) (T : List Int) : List Int := greatOf ((allOf n).filter fun one => !isT T one)
theorem mem_falses {n : Nat} {T : List Int} (hU : ∀ x ∈ T, U n x) {x : Int} : x ∈ falsesOf n T ↔ U n x ∧ co n x ∈ crossOf n T := by
  have nt : ∀ y, y ∈ (allOf n).filter (fun one => !isT T one) ↔ U n y ∧ co n y ∈ trs n T := fun y => by
    rw [List.mem_filter, mem_all, Bool.not_eq_true', mem_trs]
    refine and_congr Iff.rfl ?_
    rw [← Bool.not_eq_true, isT_iff]
    constructor
    · intro h
      exact ⟨u_co n y, fun t ht => Classical.byContradiction fun z => h ⟨t, ht, (sub_co (hU t ht)).mpr fun m => z m.symm⟩⟩
    · rintro ⟨_, h⟩ ⟨t, ht, hs⟩
      exact (sub_co (hU t ht)).mp hs (h t ht).symm
  unfold falsesOf crossOf
  rw [mem_great, mem_least, nt]
  constructor
  · rintro ⟨⟨h1, h2⟩, h3⟩
    refine ⟨h1, h2, fun y hy hs => ?_⟩
    have hyU := (mem_trs.mp hy).1
    have := h3 (co n y) ((nt _).mpr ⟨u_co n y, by rw [co_co hyU]; exact hy⟩) ((co_sub (u_co n x) (u_co n x) |> fun _ => by
      rw [← co_co h1]
      exact (co_sub (u_co n x) hyU).mpr hs))
    rw [← this, co_co hyU]
  · rintro ⟨h1, h2, h3⟩
    refine ⟨⟨h1, h2⟩, fun y hy hs => ?_⟩
    obtain ⟨hy1, hy2⟩ := (nt y).mp hy
    have := h3 (co n y) hy2 ((co_sub hy1 h1).mpr hs)
    rw [← co_co hy1, this, co_co h1]
theorem asc_falses {n : Nat} {T : List Int} : Asc (falsesOf n T) := asc_great ((asc_all n).sublist List.filter_sublist)
theorem u_falses {n : Nat} {T : List Int} : ∀ x ∈ falsesOf n T, U n x := fun x hx => mem_all.mp (List.mem_filter.mp (mem_great.mp hx).1).1
theorem anti_falses {n : Nat} {T : List Int} : Anti (falsesOf n T) := anti_great
end Fm
end
section
set_option Elab.async false
set_option linter.all false
set_option maxRecDepth 100000
set_option maxHeartbeats 4000000
namespace K08
open PySem PySem.Spec PyProof.Rows L2 Mi
def top (i : Nat) : Stmt := PySem.Challenge.pw_askcraft_k08_whole_borders.main.body.getD i (.Pass ⟨0, 0, 0, 0⟩)
def blts : List Str := ["list", "sorted", "set", "all", "any", "tuple", "len", "abs", "int", "range", "repr", "sum", "isinstance"]
abbrev s__law_error : Stmt := top 27
theorem sc__law_error : FnScope ["e", "names", "one"] ["e"] (defScope s__law_error) := ⟨rfl, rfl, rfl, by decide +kernel, rfl, by decide +kernel, by decide +kernel⟩
theorem errR_lt {c : Nat} {t : Str} (h : errR c = some t) : 0 < c ∧ c < 6 := by
  unfold errR at h
  split at h <;> first | exact ⟨by decide, by decide⟩ | cases h
theorem k__law_error {P : Program} {G : Glb} {mg : Str → Option Value} {base : Heap} (d : Def G mg "_law_error" s__law_error ["e"]) (B : NoG mg blts) (x_NotAllowed : Exc1 G.K mg "NotAllowed" (G.ea 1)) (x_BadForm : Exc1 G.K mg "BadForm" (G.ea 2)) (x_Missing : Exc1 G.K mg "Missing" (G.ea 3)) (x_Alike : Exc1 G.K mg "Alike" (G.ea 4)) (x_Wrong : Exc1 G.K mg "Wrong" (G.ea 5))
    (XC : ∀ c, 0 < c → c < 6 → ExcC G.K (G.ea c)) (kit : ∀ i j, i < 6 → j < 6 → 0 < i → 0 < j → PySem.W.kitOne G.K (.ref (G.ea i)) (.ref (G.ea j)) = some (decide (i = j))) : ErrF P G mg base 3 "_law_error" errR :=
  err_def (k := 2) d sc__law_error fun f cdv A outer s H E Q p c t room hot hz hr hq => by
    have hc := errR_lt hr
    have hv := hotC_of (X := L2H.cxH (L2N.CX P G.w) P G.w G.K mg base ["e", "names", "one"] "_law_error" (defScope s__law_error) f cdv A outer s H E p) hot rfl (by exact List.mem_cons_self)
    have is := cr_isH (X := L2H.cxH (L2N.CX P G.w) P G.w G.K mg base ["e", "names", "one"] "_law_error" (defScope s__law_error) f cdv A outer s H E p) (p := p) (by exact List.mem_cons_self) (XC c hc.1 hc.2) hz ⟨hot.2.choose, hot.2.choose_spec.1⟩
    have hi := B.n "isinstance" (by decide +kernel)
    exact ⟨_, pss_cons (ps_set (i := 1) sc__law_error.nd rfl (Or.inl rfl) (pe_lst (pa_cons (pe_callB is (by rfl) hi boot_isinstance (pa_cons (pe_var (i := 0) rfl (Or.inl rfl)) (pa_cons (pe_glob (v := .ref (G.ea 1)) (by rfl) x_NotAllowed.g rfl) pa_nil)))
      (pa_cons (pe_callB is (by rfl) hi boot_isinstance (pa_cons (pe_var (i := 0) rfl (Or.inl rfl)) (pa_cons (pe_glob (v := .ref (G.ea 3)) (by rfl) x_Missing.g rfl) pa_nil)))
      (pa_cons (pe_callB is (by rfl) hi boot_isinstance (pa_cons (pe_var (i := 0) rfl (Or.inl rfl)) (pa_cons (pe_glob (v := .ref (G.ea 5)) (by rfl) x_Wrong.g rfl) pa_nil)))
      (pa_cons (pe_callB is (by rfl) hi boot_isinstance (pa_cons (pe_var (i := 0) rfl (Or.inl rfl)) (pa_cons (pe_glob (v := .ref (G.ea 2)) (by rfl) x_BadForm.g rfl) pa_nil)))
      (pa_cons (pe_callB is (by rfl) hi boot_isinstance (pa_cons (pe_var (i := 0) rfl (Or.inl rfl)) (pa_cons (pe_glob (v := .ref (G.ea 4)) (by rfl) x_Alike.g rfl) pa_nil))) pa_nil)))))))
      (pss_cons (ps_if (pt_cmpR op_ne (pe_callB (cr_sumH hv) (by rfl) (B.n "sum" (by decide +kernel)) boot_sum (pa_cons (pe_lcHot (k := 2) (own := [("one", 2)]) hv sc__law_error.nd (blkOk_by (by rfl)) (by simp) (by show 2 < 3; decide) (pe_var (i := 1) rfl (Or.inl rfl))
          (fun _ _ _ _ _ => pg_name sc__law_error.nd rfl (Or.inl rfl)) (fun _ _ _ _ _ => pe_callTy call_int1 (by rfl) (B.n "int" (by decide +kernel)) (by decide +kernel) (pa_cons (pe_var (i := 2) rfl (Or.inl rfl)) pa_nil))) pa_nil)) pe_int (nomark _))
        (pss_one (ps_ret pe_str)) pss_nil)
      (pss_one (ps_ret (pe_ix ix_list (pe_lst (pa_cons pe_str (pa_cons pe_str (pa_cons pe_str (pa_cons pe_str (pa_cons pe_str pa_nil))))))
        (pe_bm PySem.F.plainAttrs_list PySem.F.slot_list_index PySem.F.type_list_index mt_index (pe_var (i := 1) rfl (Or.inl rfl)) (pa_cons pe_bl pa_nil)) (fun _ _ => rfl))))), err_rd hr kit hq⟩


abbrev s_check_count : Stmt := top 9
noncomputable def F_check_count : FS := (sIf (tNotV (tBo (chain gLe gLe (fC (.int 1)) (fV 0) (fC (.int 8))))) (sRaise 1) sNext)
theorem sc_check_count : FnScope ["count"] ["count"] (defScope s_check_count) := ⟨rfl, rfl, rfl, by decide +kernel, rfl, by decide +kernel, by decide +kernel⟩
theorem k_check_count {P : Program} {G : Glb} {mg : Str → Option Value} {base : Heap} (d : Def G mg "check_count" s_check_count ["count"]) (x_NotAllowed : Exc1 G.K mg "NotAllowed" (G.ea 1)) (T_MAX_THINGS : ∃ t, mg "MAX_THINGS" = some (Value.int 8 t)) : Cal P G mg base 1 "check_count" [false] (specOf [false] 1 F_check_count) :=
  Def.cal (k := 0) d sc_check_count rfl rfl fun f cdv A outer s H E cx =>
  (s_one (s_if (t_not (t_chain c_le c_le pc_int pv_V (pc_glob (v := .int 8) (by exact rfl) T_MAX_THINGS.choose_spec ⟨_, rfl⟩ fun _ => .int _))) (s_one (s_raiseX cx x_NotAllowed)) s_nil))
noncomputable def S_check_count : CSpec := specOf [false] 1 F_check_count
theorem e_check_count : ∀ ws, S_check_count ws ≠ .stk → specOf [false] 1 F_check_count ws = S_check_count ws := fun _ _ => rfl
abbrev s_check_sets : Stmt := top 10
noncomputable def F_check_sets : FS := (sSeq (sDrop (fCall [false] S_check_count (aCons (fV 0) aNil)))
  (sIf (tOrV (tBo (bin gNe (callB (g1 gList) (aCons (fV 1) aNil)) (callB (orC (g1 gSortS) (g1 gSorted)) (aCons (callB (g1 gSet) (aCons (fV 1) aNil)) aNil)))) (tNotV (tTr (callB (g1 gAll) (aCons (fComp [2] (iE (fV 1)) (bN 2) cT (chain gLe gLt (fC (.int 0)) (fV 2) (bin gShl (fC (.int 1)) (fV 0)))) aNil))))) (sRaise 1) sNext))
theorem sc_check_sets : FnScope ["count", "sets", "one"] ["count", "sets"] (defScope s_check_sets) := ⟨rfl, rfl, rfl, by decide +kernel, rfl, by decide +kernel, by decide +kernel⟩
theorem k_check_sets {P : Program} {G : Glb} {mg : Str → Option Value} {base : Heap} (d : Def G mg "check_sets" s_check_sets ["count", "sets"]) (B : NoG mg blts) (c_check_count : Cal P G mg base 1 "check_count" [false] S_check_count) (x_NotAllowed : Exc1 G.K mg "NotAllowed" (G.ea 1)) : Cal P G mg base 2 "check_sets" [false, false] (specOf [false, false] 3 F_check_sets) :=
  Def.cal (k := 1) d sc_check_sets rfl rfl fun f cdv A outer s H E cx =>
  (s_cons (s_expr (e_callC cx c_check_count rfl (by decide) (pa_consV pv_V pa_nilV)))
  (s_one (s_if (PW.pt (w_or (t_cmp (c_ne cx) (e_ty (b_list cx) (B.n "list" (by decide +kernel)) (pa_consV pv_V pa_nilV)) (e_blt (b_sorted2 cx rfl) (B.n "sorted" (by decide +kernel)) (pa_consV (e_ty (b_set cx rfl) (B.n "set" (by decide +kernel)) (pa_consV pv_V pa_nilV)) pa_nilV))) (w_or1 (t_not (t_tru cx.K (e_blt (b_all cx) (B.n "all" (by decide +kernel)) (pa_consV (e_comp cx rfl (n := 3) (i_E cx.K pv_V) (own := [("one", 2)]) rfl rfl rfl (fun _ _ _ _ _ => (g_name (Cxt.blk cx _ _ _ _ _).nd rfl (by first | exact Or.inl rfl | exact Or.inr rfl) (by decide) rfl)) (fun _ _ _ _ _ => pts_nil) (fun σ H Q ⟨ρ, P, F, nw, h⟩ => h P H F nw Stp.refl) (fun _ _ _ _ _ => (e_chain c_le c_lt pc_int pv_V (e_shl pc_int pv_V)))) pa_nilV))))))) (s_one (s_raiseX cx x_NotAllowed)) s_nil)))
noncomputable def S_check_sets : CSpec := specOf [false, false] 3 F_check_sets
theorem e_check_sets : ∀ ws, S_check_sets ws ≠ .stk → specOf [false, false] 3 F_check_sets ws = S_check_sets ws := fun _ _ => rfl
abbrev s_things_in : Stmt := top 11
noncomputable def F_things_in : FS := (sSeq (sSet 1 (fLst aNil))
  (sSeq (sSet 2 (fC (.int 0)))
  (sSeq (sWh (tBo (bin gGt (bin gShr (fV 0) (fV 2)) (fC (.int 0)))) (sSeq (sIf (tTr (bin gAnd (bin gShr (fV 0) (fV 2)) (fC (.int 1)))) (sDrop (fApp 1 (fV 2))) sNext)
  (sAug 2 (iop tt2 fun i j => .int (i + j)) (fC (.int 1)))))
  (sRet (fV 1)))))
theorem sc_things_in : FnScope ["one", "found", "thing"] ["one"] (defScope s_things_in) := ⟨rfl, rfl, rfl, by decide +kernel, rfl, by decide +kernel, by decide +kernel⟩
theorem k_things_in {P : Program} {G : Glb} {mg : Str → Option Value} {base : Heap} (d : Def G mg "things_in" s_things_in ["one"]) : Cal P G mg base 1 "things_in" [false] (specOf [false] 3 F_things_in) :=
  Def.cal (k := 0) d sc_things_in rfl rfl fun f cdv A outer s H E cx =>
  (s_cons (s_set cx.nd rfl (by first | exact Or.inl rfl | exact Or.inr rfl) (by decide) rfl (e_lst pa_nilV))
  (s_cons (s_set cx.nd rfl (by first | exact Or.inl rfl | exact Or.inr rfl) (by decide) rfl pc_int)
  (s_cons (s_while (passes_of rfl) (t_cmp c_gt (e_shr pv_V pv_V) pc_int) (s_cons (s_if (t_tru cx.K (e_and (e_shr pv_V pv_V) pc_int)) (s_one (s_expr (e_append cx.K v_var pv_V))) s_nil)
  (s_one (s_aug q_add cx.nd rfl (by first | exact Or.inl rfl | exact Or.inr rfl) (by decide) rfl pc_int))))
  (s_one (s_ret pv_V)))))
noncomputable def S_things_in : CSpec := specOf [false] 3 F_things_in
theorem e_things_in : ∀ ws, S_things_in ws ≠ .stk → specOf [false] 3 F_things_in ws = S_things_in ws := fun _ _ => rfl
abbrev s_least_of : Stmt := top 12
noncomputable def F_least_of : FS := (sSeq (sSet 1 (callB (orC (g1 gSortS) (g1 gSorted)) (aCons (callB (g1 gSet) (aCons (fV 0) aNil)) aNil)))
  (sRet (callB (g1 gTuple) (aCons (fComp [2] (iE (fV 1)) (bN 2) (tNotV (tTr (callB (g1 gAny) (aCons (fComp [3] (iE (fV 1)) (bN 3) cT (fAnd (bin gNe (fV 3) (fV 2)) (bin gEq (bin gAnd (fV 3) (una (gU Builtin.bitNot) (fV 2))) (fC (.int 0))))) aNil)))) (fV 2)) aNil))))
theorem sc_least_of : FnScope ["sets", "rows", "one", "other"] ["sets"] (defScope s_least_of) := ⟨rfl, rfl, rfl, by decide +kernel, rfl, by decide +kernel, by decide +kernel⟩
theorem k_least_of {P : Program} {G : Glb} {mg : Str → Option Value} {base : Heap} (d : Def G mg "least_of" s_least_of ["sets"]) (B : NoG mg blts) : Cal P G mg base 1 "least_of" [false] (specOf [false] 4 F_least_of) :=
  Def.cal (k := 0) d sc_least_of rfl rfl fun f cdv A outer s H E cx =>
  (s_cons (s_set cx.nd rfl (by first | exact Or.inl rfl | exact Or.inr rfl) (by decide) rfl (e_blt (b_sorted2 cx rfl) (B.n "sorted" (by decide +kernel)) (pa_consV (e_ty (b_set cx rfl) (B.n "set" (by decide +kernel)) (pa_consV pv_V pa_nilV)) pa_nilV)))
  (s_one (s_ret (e_ty (b_tuple cx) (B.n "tuple" (by decide +kernel)) (pa_consV (e_comp cx rfl (n := 4) (i_E cx.K pv_V) (own := [("one", 2)]) rfl rfl rfl (fun _ _ _ _ _ => (g_name (Cxt.blk cx _ _ _ _ _).nd rfl (by first | exact Or.inl rfl | exact Or.inr rfl) (by decide) rfl)) (fun _ _ _ _ _ => pts_one (t_not (t_tru (Cxt.blk cx _ _ _ _ _).K (e_blt (b_any (Cxt.blk cx _ _ _ _ _)) (B.n "any" (by decide +kernel)) (pa_consV (e_comp (Cxt.blk cx _ _ _ _ _) rfl (n := 4) (i_E (Cxt.blk cx _ _ _ _ _).K pv_V) (own := [("other", 3)]) rfl rfl rfl (fun _ _ _ _ _ => (g_name (Cxt.blk (Cxt.blk cx _ _ _ _ _) _ _ _ _ _).nd rfl (by first | exact Or.inl rfl | exact Or.inr rfl) (by decide) rfl)) (fun _ _ _ _ _ => pts_nil) (fun σ H Q ⟨ρ, P, F, nw, h⟩ => h P H F nw Stp.refl) (fun _ _ _ _ _ => (e_andV (Cxt.blk (Cxt.blk cx _ _ _ _ _) _ _ _ _ _).K (e_cmp (c_ne (Cxt.blk (Cxt.blk cx _ _ _ _ _) _ _ _ _ _)) pv_V pv_V) (e_one (e_cmp (c_eq (Cxt.blk (Cxt.blk cx _ _ _ _ _) _ _ _ _ _)) (e_and pv_V (e_inv pv_V)) pc_int))))) pa_nilV))))) (fun _ _ _ h => h) (fun _ _ _ _ _ => pv_V)) pa_nilV)))))
noncomputable def S_least_of : CSpec := specOf [false] 4 F_least_of
theorem e_least_of : ∀ ws, S_least_of ws ≠ .stk → specOf [false] 4 F_least_of ws = S_least_of ws := fun _ _ => rfl
abbrev s_check_border : Stmt := top 13
noncomputable def F_check_border : FS := (sSeq (sDrop (fCall [false, false] S_check_sets (aCons (fV 0) (aCons (fV 1) aNil))))
  (sIf (tBo (bin gNe (fCall [false] S_least_of (aCons (fV 1) aNil)) (callB (g1 gTuple) (aCons (fV 1) aNil)))) (sRaise 1) sNext))
theorem sc_check_border : FnScope ["count", "sets"] ["count", "sets"] (defScope s_check_border) := ⟨rfl, rfl, rfl, by decide +kernel, rfl, by decide +kernel, by decide +kernel⟩
theorem k_check_border {P : Program} {G : Glb} {mg : Str → Option Value} {base : Heap} (d : Def G mg "check_border" s_check_border ["count", "sets"]) (B : NoG mg blts) (c_least_of : Cal P G mg base 1 "least_of" [false] S_least_of) (c_check_sets : Cal P G mg base 2 "check_sets" [false, false] S_check_sets) (x_NotAllowed : Exc1 G.K mg "NotAllowed" (G.ea 1)) : Cal P G mg base 3 "check_border" [false, false] (specOf [false, false] 2 F_check_border) :=
  Def.cal (k := 2) d sc_check_border rfl rfl fun f cdv A outer s H E cx =>
  (s_cons (s_expr (e_callC cx c_check_sets rfl (by decide) (pa_consV pv_V (pa_consV pv_V pa_nilV))))
  (s_one (s_if (t_cmp (c_ne cx) (e_callC cx c_least_of rfl (by decide) (pa_consV pv_V pa_nilV)) (e_ty (b_tuple cx) (B.n "tuple" (by decide +kernel)) (pa_consV pv_V pa_nilV))) (s_one (s_raiseX cx x_NotAllowed)) s_nil)))
noncomputable def S_check_border : CSpec := specOf [false, false] 2 F_check_border
theorem e_check_border : ∀ ws, S_check_border ws ≠ .stk → specOf [false, false] 2 F_check_border ws = S_check_border ws := fun _ _ => rfl
abbrev s_crossing_of : Stmt := top 14
noncomputable def F_crossing_of : FS := (sSeq (sSet 1 (fTup (aCons (fC (.int 0)) aNil)))
  (sSeq (sFor (iE (fV 0)) (bN 2) (sSeq (sSet 3 (fLst aNil))
  (sSeq (sFor (iE (fV 1)) (bN 4) (sIf (tBo (bin gNe (bin gAnd (fV 4) (fV 2)) (fC (.int 0)))) (sDrop (fApp 3 (fV 4))) (sDrop (fExt 3 (fComp [5] (iE (fCall [false] S_things_in (aCons (fV 2) aNil))) (bN 5) cT (bin gOr (fV 4) (bin gShl (fC (.int 1)) (fV 5))))))))
  (sSet 1 (fCall [false] S_least_of (aCons (fV 3) aNil))))))
  (sRet (fV 1))))
theorem sc_crossing_of : FnScope ["sets", "found", "one", "rows", "row", "thing"] ["sets"] (defScope s_crossing_of) := ⟨rfl, rfl, rfl, by decide +kernel, rfl, by decide +kernel, by decide +kernel⟩
theorem k_crossing_of {P : Program} {G : Glb} {mg : Str → Option Value} {base : Heap} (d : Def G mg "crossing_of" s_crossing_of ["sets"]) (c_least_of : Cal P G mg base 1 "least_of" [false] S_least_of) (c_things_in : Cal P G mg base 1 "things_in" [false] S_things_in) : Cal P G mg base 2 "crossing_of" [false] (specOf [false] 6 F_crossing_of) :=
  Def.cal (k := 1) d sc_crossing_of rfl rfl fun f cdv A outer s H E cx =>
  (s_cons (s_set cx.nd rfl (by first | exact Or.inl rfl | exact Or.inr rfl) (by decide) rfl (e_tup (pa_consV pc_int pa_nilV)))
  (s_cons (s_for (passes_of rfl) cx.calm (i_E cx.K pv_V) (g_name cx.nd rfl (by first | exact Or.inl rfl | exact Or.inr rfl) (by decide) rfl) (s_cons (s_set cx.nd rfl (by first | exact Or.inl rfl | exact Or.inr rfl) (by decide) rfl (e_lst pa_nilV))
  (s_cons (s_for (passes_of rfl) cx.calm (i_E cx.K pv_V) (g_name cx.nd rfl (by first | exact Or.inl rfl | exact Or.inr rfl) (by decide) rfl) (s_one (s_if (t_cmp (c_ne cx) (e_and pv_V pv_V) pc_int) (s_one (s_expr (e_append cx.K v_var pv_V))) (s_one (s_expr (e_extend cx.K v_var (e_comp cx rfl (n := 6) (i_E cx.K (e_callC cx c_things_in rfl (by decide) (pa_consV pv_V pa_nilV))) (own := [("thing", 5)]) rfl rfl rfl (fun _ _ _ _ _ => (g_name (Cxt.blk cx _ _ _ _ _).nd rfl (by first | exact Or.inl rfl | exact Or.inr rfl) (by decide) rfl)) (fun _ _ _ _ _ => pts_nil) (fun σ H Q ⟨ρ, P, F, nw, h⟩ => h P H F nw Stp.refl) (fun _ _ _ _ _ => (e_or pv_V (e_shl pc_int pv_V))))))))))
  (s_one (s_set cx.nd rfl (by first | exact Or.inl rfl | exact Or.inr rfl) (by decide) rfl (e_callC cx c_least_of rfl (by decide) (pa_consV pv_V pa_nilV)))))))
  (s_one (s_ret pv_V))))
noncomputable def S_crossing_of : CSpec := specOf [false] 6 F_crossing_of
theorem e_crossing_of : ∀ ws, S_crossing_of ws ≠ .stk → specOf [false] 6 F_crossing_of ws = S_crossing_of ws := fun _ _ => rfl
abbrev s_crossing : Stmt := top 15
noncomputable def F_crossing : FS := (sSeq (sDrop (fCall [false, false] S_check_sets (aCons (fV 0) (aCons (fV 1) aNil))))
  (sRet (fCall [false] S_crossing_of (aCons (fV 1) aNil))))
theorem sc_crossing : FnScope ["count", "sets"] ["count", "sets"] (defScope s_crossing) := ⟨rfl, rfl, rfl, by decide +kernel, rfl, by decide +kernel, by decide +kernel⟩
theorem k_crossing {P : Program} {G : Glb} {mg : Str → Option Value} {base : Heap} (d : Def G mg "crossing" s_crossing ["count", "sets"]) (c_crossing_of : Cal P G mg base 2 "crossing_of" [false] S_crossing_of) (c_check_sets : Cal P G mg base 2 "check_sets" [false, false] S_check_sets) : Cal P G mg base 3 "crossing" [false, false] (specOf [false, false] 2 F_crossing) :=
  Def.cal (k := 2) d sc_crossing rfl rfl fun f cdv A outer s H E cx =>
  (s_cons (s_expr (e_callC cx c_check_sets rfl (by decide) (pa_consV pv_V (pa_consV pv_V pa_nilV))))
  (s_one (s_ret (e_callC cx c_crossing_of rfl (by decide) (pa_consV pv_V pa_nilV)))))
noncomputable def S_crossing : CSpec := specOf [false, false] 2 F_crossing
theorem e_crossing : ∀ ws, S_crossing ws ≠ .stk → specOf [false, false] 2 F_crossing ws = S_crossing ws := fun _ _ => rfl
abbrev s_falses_of : Stmt := top 16
noncomputable def F_falses_of : FS := (sSeq (sSet 2 (bin gSub (bin gShl (fC (.int 1)) (fV 0)) (fC (.int 1))))
  (sRet (callB (g1 gTuple) (aCons (callB (orC (g1 gSortS) (g1 gSorted)) (aCons (fComp [3] (iE (fCall [false] S_crossing_of (aCons (fV 1) aNil))) (bN 3) cT (bin gAnd (fV 2) (una (gU Builtin.bitNot) (fV 3)))) aNil)) aNil))))
theorem sc_falses_of : FnScope ["count", "trues", "whole", "one"] ["count", "trues"] (defScope s_falses_of) := ⟨rfl, rfl, rfl, by decide +kernel, rfl, by decide +kernel, by decide +kernel⟩
theorem k_falses_of {P : Program} {G : Glb} {mg : Str → Option Value} {base : Heap} (d : Def G mg "falses_of" s_falses_of ["count", "trues"]) (B : NoG mg blts) (c_crossing_of : Cal P G mg base 2 "crossing_of" [false] S_crossing_of) : Cal P G mg base 3 "falses_of" [false, false] (specOf [false, false] 4 F_falses_of) :=
  Def.cal (k := 2) d sc_falses_of rfl rfl fun f cdv A outer s H E cx =>
  (s_cons (s_set cx.nd rfl (by first | exact Or.inl rfl | exact Or.inr rfl) (by decide) rfl (e_sub (e_shl pc_int pv_V) pc_int))
  (s_one (s_ret (e_ty (b_tuple cx) (B.n "tuple" (by decide +kernel)) (pa_consV (e_blt (b_sorted2 cx rfl) (B.n "sorted" (by decide +kernel)) (pa_consV (e_comp cx rfl (n := 4) (i_E cx.K (e_callC cx c_crossing_of rfl (by decide) (pa_consV pv_V pa_nilV))) (own := [("one", 3)]) rfl rfl rfl (fun _ _ _ _ _ => (g_name (Cxt.blk cx _ _ _ _ _).nd rfl (by first | exact Or.inl rfl | exact Or.inr rfl) (by decide) rfl)) (fun _ _ _ _ _ => pts_nil) (fun σ H Q ⟨ρ, P, F, nw, h⟩ => h P H F nw Stp.refl) (fun _ _ _ _ _ => (e_and pv_V (e_inv pv_V)))) pa_nilV)) pa_nilV)))))
noncomputable def S_falses_of : CSpec := specOf [false, false] 4 F_falses_of
theorem e_falses_of : ∀ ws, S_falses_of ws ≠ .stk → specOf [false, false] 4 F_falses_of ws = S_falses_of ws := fun _ _ => rfl
abbrev s_greatest_falses : Stmt := top 17
noncomputable def F_greatest_falses : FS := (sSeq (sDrop (fCall [false, false] S_check_border (aCons (fV 0) (aCons (fV 1) aNil))))
  (sRet (fCall [false, false] S_falses_of (aCons (fV 0) (aCons (fV 1) aNil)))))
theorem sc_greatest_falses : FnScope ["count", "trues"] ["count", "trues"] (defScope s_greatest_falses) := ⟨rfl, rfl, rfl, by decide +kernel, rfl, by decide +kernel, by decide +kernel⟩
theorem k_greatest_falses {P : Program} {G : Glb} {mg : Str → Option Value} {base : Heap} (d : Def G mg "greatest_falses" s_greatest_falses ["count", "trues"]) (c_falses_of : Cal P G mg base 3 "falses_of" [false, false] S_falses_of) (c_check_border : Cal P G mg base 3 "check_border" [false, false] S_check_border) : Cal P G mg base 4 "greatest_falses" [false, false] (specOf [false, false] 2 F_greatest_falses) :=
  Def.cal (k := 3) d sc_greatest_falses rfl rfl fun f cdv A outer s H E cx =>
  (s_cons (s_expr (e_callC cx c_check_border rfl (by decide) (pa_consV pv_V (pa_consV pv_V pa_nilV))))
  (s_one (s_ret (e_callC cx c_falses_of rfl (by decide) (pa_consV pv_V (pa_consV pv_V pa_nilV))))))
noncomputable def S_greatest_falses : CSpec := specOf [false, false] 2 F_greatest_falses
theorem e_greatest_falses : ∀ ws, S_greatest_falses ws ≠ .stk → specOf [false, false] 2 F_greatest_falses ws = S_greatest_falses ws := fun _ _ => rfl
abbrev s_least_trues : Stmt := top 18
noncomputable def F_least_trues : FS := (sSeq (sDrop (fCall [false, false] S_check_border (aCons (fV 0) (aCons (fV 1) aNil))))
  (sSeq (sSet 2 (bin gSub (bin gShl (fC (.int 1)) (fV 0)) (fC (.int 1))))
  (sRet (fCall [false] S_crossing_of (aCons (fComp [3] (iE (fV 1)) (bN 3) cT (bin gAnd (fV 2) (una (gU Builtin.bitNot) (fV 3)))) aNil)))))
theorem sc_least_trues : FnScope ["count", "falses", "whole", "one"] ["count", "falses"] (defScope s_least_trues) := ⟨rfl, rfl, rfl, by decide +kernel, rfl, by decide +kernel, by decide +kernel⟩
theorem k_least_trues {P : Program} {G : Glb} {mg : Str → Option Value} {base : Heap} (d : Def G mg "least_trues" s_least_trues ["count", "falses"]) (c_crossing_of : Cal P G mg base 2 "crossing_of" [false] S_crossing_of) (c_check_border : Cal P G mg base 3 "check_border" [false, false] S_check_border) : Cal P G mg base 4 "least_trues" [false, false] (specOf [false, false] 4 F_least_trues) :=
  Def.cal (k := 3) d sc_least_trues rfl rfl fun f cdv A outer s H E cx =>
  (s_cons (s_expr (e_callC cx c_check_border rfl (by decide) (pa_consV pv_V (pa_consV pv_V pa_nilV))))
  (s_cons (s_set cx.nd rfl (by first | exact Or.inl rfl | exact Or.inr rfl) (by decide) rfl (e_sub (e_shl pc_int pv_V) pc_int))
  (s_one (s_ret (e_callC cx c_crossing_of rfl (by decide) (pa_consV (e_comp cx rfl (n := 4) (i_E cx.K pv_V) (own := [("one", 3)]) rfl rfl rfl (fun _ _ _ _ _ => (g_name (Cxt.blk cx _ _ _ _ _).nd rfl (by first | exact Or.inl rfl | exact Or.inr rfl) (by decide) rfl)) (fun _ _ _ _ _ => pts_nil) (fun σ H Q ⟨ρ, P, F, nw, h⟩ => h P H F nw Stp.refl) (fun _ _ _ _ _ => (e_and pv_V (e_inv pv_V)))) pa_nilV))))))
noncomputable def S_least_trues : CSpec := specOf [false, false] 4 F_least_trues
theorem e_least_trues : ∀ ws, S_least_trues ws ≠ .stk → specOf [false, false] 4 F_least_trues ws = S_least_trues ws := fun _ _ => rfl
abbrev s_is_true : Stmt := top 19
noncomputable def F_is_true : FS := (sSeq (sDrop (fCall [false, false] S_check_border (aCons (fV 0) (aCons (fV 1) aNil))))
  (sSeq (sDrop (fCall [false, false] S_check_sets (aCons (fV 0) (aCons (fTup (aCons (fV 2) aNil)) aNil))))
  (sRet (callB (g1 gAny) (aCons (fComp [3] (iE (fV 1)) (bN 3) cT (bin gEq (bin gAnd (fV 3) (una (gU Builtin.bitNot) (fV 2))) (fC (.int 0)))) aNil)))))
theorem sc_is_true : FnScope ["count", "trues", "one", "true"] ["count", "trues", "one"] (defScope s_is_true) := ⟨rfl, rfl, rfl, by decide +kernel, rfl, by decide +kernel, by decide +kernel⟩
theorem k_is_true {P : Program} {G : Glb} {mg : Str → Option Value} {base : Heap} (d : Def G mg "is_true" s_is_true ["count", "trues", "one"]) (B : NoG mg blts) (c_check_sets : Cal P G mg base 2 "check_sets" [false, false] S_check_sets) (c_check_border : Cal P G mg base 3 "check_border" [false, false] S_check_border) : Cal P G mg base 4 "is_true" [false, false, false] (specOf [false, false, false] 4 F_is_true) :=
  Def.cal (k := 3) d sc_is_true rfl rfl fun f cdv A outer s H E cx =>
  (s_cons (s_expr (e_callC cx c_check_border rfl (by decide) (pa_consV pv_V (pa_consV pv_V pa_nilV))))
  (s_cons (s_expr (e_callC cx c_check_sets rfl (by decide) (pa_consV pv_V (pa_consV (e_tup (pa_consV pv_V pa_nilV)) pa_nilV))))
  (s_one (s_ret (e_blt (b_any cx) (B.n "any" (by decide +kernel)) (pa_consV (e_comp cx rfl (n := 4) (i_E cx.K pv_V) (own := [("true", 3)]) rfl rfl rfl (fun _ _ _ _ _ => (g_name (Cxt.blk cx _ _ _ _ _).nd rfl (by first | exact Or.inl rfl | exact Or.inr rfl) (by decide) rfl)) (fun _ _ _ _ _ => pts_nil) (fun σ H Q ⟨ρ, P, F, nw, h⟩ => h P H F nw Stp.refl) (fun _ _ _ _ _ => (e_cmp (c_eq (Cxt.blk cx _ _ _ _ _)) (e_and pv_V (e_inv pv_V)) pc_int))) pa_nilV))))))
noncomputable def S_is_true : CSpec := specOf [false, false, false] 4 F_is_true
theorem e_is_true : ∀ ws, S_is_true ws ≠ .stk → specOf [false, false, false] 4 F_is_true ws = S_is_true ws := fun _ _ => rfl
abbrev s_first_open : Stmt := top 20
noncomputable def F_first_open : FS := (sSeq (sFor (iR1 (aCons (bin gShl (fC (.int 1)) (fV 0)) aNil)) (bN 3) (sIf (tAndV (tNotV (tTr (callB (g1 gAny) (aCons (fComp [4] (iE (fV 1)) (bN 4) cT (bin gEq (bin gAnd (fV 4) (una (gU Builtin.bitNot) (fV 3))) (fC (.int 0)))) aNil)))) (tNotV (tTr (callB (g1 gAny) (aCons (fComp [5] (iE (fV 2)) (bN 5) cT (bin gEq (bin gAnd (fV 3) (una (gU Builtin.bitNot) (fV 5))) (fC (.int 0)))) aNil))))) (sRet (fV 3)) sNext))
  (sRet (fC .none)))
theorem sc_first_open : FnScope ["count", "trues", "falses", "one", "true", "false"] ["count", "trues", "falses"] (defScope s_first_open) := ⟨rfl, rfl, rfl, by decide +kernel, rfl, by decide +kernel, by decide +kernel⟩
theorem k_first_open {P : Program} {G : Glb} {mg : Str → Option Value} {base : Heap} (d : Def G mg "first_open" s_first_open ["count", "trues", "falses"]) (B : NoG mg blts) : Cal P G mg base 1 "first_open" [false, false, false] (specOf [false, false, false] 6 F_first_open) :=
  Def.cal (k := 0) d sc_first_open rfl rfl fun f cdv A outer s H E cx =>
  (s_cons (s_for (passes_of rfl) cx.calm (i_R1 (B.n "range" (by decide +kernel)) (pa_consV (e_shl pc_int pv_V) pa_nilV)) (g_name cx.nd rfl (by first | exact Or.inl rfl | exact Or.inr rfl) (by decide) rfl) (s_one (s_if (PW.pt (w_and (t_not (t_tru cx.K (e_blt (b_any cx) (B.n "any" (by decide +kernel)) (pa_consV (e_comp cx rfl (n := 6) (i_E cx.K pv_V) (own := [("true", 4)]) rfl rfl rfl (fun _ _ _ _ _ => (g_name (Cxt.blk cx _ _ _ _ _).nd rfl (by first | exact Or.inl rfl | exact Or.inr rfl) (by decide) rfl)) (fun _ _ _ _ _ => pts_nil) (fun σ H Q ⟨ρ, P, F, nw, h⟩ => h P H F nw Stp.refl) (fun _ _ _ _ _ => (e_cmp (c_eq (Cxt.blk cx _ _ _ _ _)) (e_and pv_V (e_inv pv_V)) pc_int))) pa_nilV)))) (w_and1 (t_not (t_tru cx.K (e_blt (b_any cx) (B.n "any" (by decide +kernel)) (pa_consV (e_comp cx rfl (n := 6) (i_E cx.K pv_V) (own := [("false", 5)]) rfl rfl rfl (fun _ _ _ _ _ => (g_name (Cxt.blk cx _ _ _ _ _).nd rfl (by first | exact Or.inl rfl | exact Or.inr rfl) (by decide) rfl)) (fun _ _ _ _ _ => pts_nil) (fun σ H Q ⟨ρ, P, F, nw, h⟩ => h P H F nw Stp.refl) (fun _ _ _ _ _ => (e_cmp (c_eq (Cxt.blk cx _ _ _ _ _)) (e_and pv_V (e_inv pv_V)) pc_int))) pa_nilV))))))) (s_one (s_ret pv_V)) s_nil)))
  (s_one (s_ret pc_non)))
noncomputable def S_first_open : CSpec := specOf [false, false, false] 6 F_first_open
theorem e_first_open : ∀ ws, S_first_open ws ≠ .stk → specOf [false, false, false] 6 F_first_open ws = S_first_open ws := fun _ _ => rfl
abbrev s_undecided : Stmt := top 21
noncomputable def F_undecided : FS := (sSeq (sDrop (fCall [false, false] S_check_border (aCons (fV 0) (aCons (fV 1) aNil))))
  (sSeq (sDrop (fCall [false, false] S_check_border (aCons (fV 0) (aCons (fV 2) aNil))))
  (sSeq (sIf (tTr (callB (g1 gAny) (aCons (fComp2 [4, 5] [5] (iE (fV 1)) (bN 4) cT (iE (fV 2)) (bN 5) cT (bin gEq (bin gAnd (fV 4) (una (gU Builtin.bitNot) (fV 5))) (fC (.int 0)))) aNil))) (sRaise 1) sNext)
  (sSeq (sSet 3 (fCall [false, false, false] S_first_open (aCons (fV 0) (aCons (fV 1) (aCons (fV 2) aNil)))))
  (sSeq (sIf (tBo (bin (gIsN false) (fV 3) (fC .none))) (sRaise 3) sNext)
  (sRet (fV 3)))))))
theorem sc_undecided : FnScope ["count", "trues", "falses", "found", "true", "false"] ["count", "trues", "falses"] (defScope s_undecided) := ⟨rfl, rfl, rfl, by decide +kernel, rfl, by decide +kernel, by decide +kernel⟩
theorem k_undecided {P : Program} {G : Glb} {mg : Str → Option Value} {base : Heap} (d : Def G mg "undecided" s_undecided ["count", "trues", "falses"]) (B : NoG mg blts) (c_first_open : Cal P G mg base 1 "first_open" [false, false, false] S_first_open) (c_check_border : Cal P G mg base 3 "check_border" [false, false] S_check_border) (x_Missing : Exc1 G.K mg "Missing" (G.ea 3)) (x_NotAllowed : Exc1 G.K mg "NotAllowed" (G.ea 1)) : Cal P G mg base 4 "undecided" [false, false, false] (specOf [false, false, false] 6 F_undecided) :=
  Def.cal (k := 3) d sc_undecided rfl rfl fun f cdv A outer s H E cx =>
  (s_cons (s_expr (e_callC cx c_check_border rfl (by decide) (pa_consV pv_V (pa_consV pv_V pa_nilV))))
  (s_cons (s_expr (e_callC cx c_check_border rfl (by decide) (pa_consV pv_V (pa_consV pv_V pa_nilV))))
  (s_cons (s_if (t_tru cx.K (e_blt (b_any cx) (B.n "any" (by decide +kernel)) (pa_consV (e_comp2 cx rfl (n := 6) (i_E cx.K pv_V) (own := [("true", 4), ("false", 5)]) rfl rfl (by decide) rfl rfl (fun _ _ _ _ _ => (g_name (Cxt.blk cx _ _ _ _ _).nd rfl (by first | exact Or.inl rfl | exact Or.inr rfl) (by decide) rfl)) (fun _ _ _ _ _ => pts_nil) (fun σ H Q ⟨ρ, P, F, nw, h⟩ => h P H F nw Stp.refl) (fun _ _ _ _ _ => (i_E (Cxt.blk cx _ _ _ _ _).K pv_V)) (fun _ _ _ _ _ => (g_name (Cxt.blk cx _ _ _ _ _).nd rfl (by first | exact Or.inl rfl | exact Or.inr rfl) (by decide) rfl)) (fun _ _ _ _ _ => pts_nil) (fun σ H Q ⟨ρ, P, F, nw, h⟩ => h P H F nw Stp.refl) (fun _ _ _ _ _ => (e_cmp (c_eq (Cxt.blk cx _ _ _ _ _)) (e_and pv_V (e_inv pv_V)) pc_int))) pa_nilV))) (s_one (s_raiseX cx x_NotAllowed)) s_nil)
  (s_cons (s_set cx.nd rfl (by first | exact Or.inl rfl | exact Or.inr rfl) (by decide) rfl (e_callC cx c_first_open rfl (by decide) (pa_consV pv_V (pa_consV pv_V (pa_consV pv_V pa_nilV)))))
  (s_cons (s_if (t_cmp c_isN pv_V pc_non) (s_one (s_raiseX cx x_Missing)) s_nil)
  (s_one (s_ret pv_V)))))))
noncomputable def S_undecided : CSpec := specOf [false, false, false] 6 F_undecided
theorem e_undecided : ∀ ws, S_undecided ws ≠ .stk → specOf [false, false, false] 6 F_undecided ws = S_undecided ws := fun _ _ => rfl
abbrev s_is_whole : Stmt := top 22
noncomputable def F_is_whole : FS := (sSeq (sDrop (fCall [false, false] S_check_border (aCons (fV 0) (aCons (fV 1) aNil))))
  (sSeq (sDrop (fCall [false, false] S_check_border (aCons (fV 0) (aCons (fV 2) aNil))))
  (sRet (bin gEq (fCall [false, false] S_falses_of (aCons (fV 0) (aCons (fV 1) aNil))) (callB (g1 gTuple) (aCons (fV 2) aNil))))))
theorem sc_is_whole : FnScope ["count", "trues", "falses"] ["count", "trues", "falses"] (defScope s_is_whole) := ⟨rfl, rfl, rfl, by decide +kernel, rfl, by decide +kernel, by decide +kernel⟩
theorem k_is_whole {P : Program} {G : Glb} {mg : Str → Option Value} {base : Heap} (d : Def G mg "is_whole" s_is_whole ["count", "trues", "falses"]) (B : NoG mg blts) (c_falses_of : Cal P G mg base 3 "falses_of" [false, false] S_falses_of) (c_check_border : Cal P G mg base 3 "check_border" [false, false] S_check_border) : Cal P G mg base 4 "is_whole" [false, false, false] (specOf [false, false, false] 3 F_is_whole) :=
  Def.cal (k := 3) d sc_is_whole rfl rfl fun f cdv A outer s H E cx =>
  (s_cons (s_expr (e_callC cx c_check_border rfl (by decide) (pa_consV pv_V (pa_consV pv_V pa_nilV))))
  (s_cons (s_expr (e_callC cx c_check_border rfl (by decide) (pa_consV pv_V (pa_consV pv_V pa_nilV))))
  (s_one (s_ret (e_cmp (c_eq cx) (e_callC cx c_falses_of rfl (by decide) (pa_consV pv_V (pa_consV pv_V pa_nilV))) (e_ty (b_tuple cx) (B.n "tuple" (by decide +kernel)) (pa_consV pv_V pa_nilV)))))))
noncomputable def S_is_whole : CSpec := specOf [false, false, false] 3 F_is_whole
theorem e_is_whole : ∀ ws, S_is_whole ws ≠ .stk → specOf [false, false, false] 3 F_is_whole ws = S_is_whole ws := fun _ _ => rfl
abbrev s__law_same : Stmt := top 24
theorem sc__law_same : FnScope ["told", "due"] ["told", "due"] (defScope s__law_same) := ⟨rfl, rfl, rfl, by decide +kernel, rfl, by decide +kernel, by decide +kernel⟩
theorem k__law_same {P : Program} {G : Glb} {mg : Str → Option Value} {base : Heap} (d : Def G mg "_law_same" s__law_same ["told", "due"]) (B : NoG mg blts) : Cal P G mg base 1 "_law_same" [false, false] (specOf [false, false] 2 F__law_same) :=
  Def.cal (k := 0) d sc__law_same rfl rfl fun f cdv A outer s H E cx =>
  (s_one (s_ret (e_cmp (c_eq cx) (e_blt (b_repr cx) (B.n "repr" (by decide +kernel)) (pa_consV (e_lst (pa_consV pv_V pa_nilV)) pa_nilV)) (e_blt (b_repr cx) (B.n "repr" (by decide +kernel)) (pa_consV (e_lst (pa_consV pv_V pa_nilV)) pa_nilV)))))
abbrev s__law_stream : Stmt := top 25
theorem sc__law_stream : FnScope ["script", "numbers", "cell", "rest", "k", "mixed"] ["script"] (defScope s__law_stream) := ⟨rfl, rfl, rfl, by decide +kernel, rfl, by decide +kernel, by decide +kernel⟩
theorem k__law_stream {P : Program} {G : Glb} {mg : Str → Option Value} {base : Heap} (d : Def G mg "_law_stream" s__law_stream ["script"]) (B : NoG mg blts) : Cal P G mg base 1 "_law_stream" [false] (specOf [false] 6 F__law_stream) :=
  Def.cal (k := 0) d sc__law_stream rfl rfl fun f cdv A outer s H E cx =>
  (s_cons (s_set cx.nd rfl (by first | exact Or.inl rfl | exact Or.inr rfl) (by decide) rfl (e_lst pa_nilV))
  (s_cons (s_for (passes_of rfl) cx.calm (i_E cx.K (e_sl cx.K pv_V o_no (o_so pc_int))) (g_name cx.nd rfl (by first | exact Or.inl rfl | exact Or.inr rfl) (by decide) rfl) (s_cons (s_set cx.nd rfl (by first | exact Or.inl rfl | exact Or.inr rfl) (by decide) rfl (e_blt b_abs (B.n "abs" (by decide +kernel)) (pa_consV (e_ty b_int (B.n "int" (by decide +kernel)) (pa_consV pv_V pa_nilV)) pa_nilV)))
  (s_one (s_if (t_cmp c_ge pv_V (e_pow pc_int pc_int)) (s_one (s_for (passes_of rfl) cx.calm (i_R1 (B.n "range" (by decide +kernel)) (pa_consV pc_int pa_nilV)) (g_name cx.nd rfl (by first | exact Or.inl rfl | exact Or.inr rfl) (by decide) rfl) (s_cons (s_expr (e_append cx.K v_var (e_mod (e_ty b_int (B.n "int" (by decide +kernel)) (pa_consV pv_V pa_nilV)) pc_int)))
  (s_cons (s_set cx.nd rfl (by first | exact Or.inl rfl | exact Or.inr rfl) (by decide) rfl (e_fdiv pv_V pc_int))
  (s_one (s_if (t_cmp (c_eq cx) pv_V pc_int) (s_one s_break) s_nil)))))) (s_cons (s_set cx.nd rfl (by first | exact Or.inl rfl | exact Or.inr rfl) (by decide) rfl (e_mod (e_ty b_int (B.n "int" (by decide +kernel)) (pa_consV pv_V pa_nilV)) pc_int))
  (s_one (s_for (passes_of rfl) cx.calm (i_R1 (B.n "range" (by decide +kernel)) (pa_consV pc_int pa_nilV)) (g_name cx.nd rfl (by first | exact Or.inl rfl | exact Or.inr rfl) (by decide) rfl) (s_cons (s_set cx.nd rfl (by first | exact Or.inl rfl | exact Or.inr rfl) (by decide) rfl (e_mod (e_ty b_int (B.n "int" (by decide +kernel)) (pa_consV (e_add cx (e_add cx (e_mul cx pv_V pc_int) (e_mul cx pc_int pv_V)) pc_int) pa_nilV)) pc_int))
  (s_one (s_expr (e_append cx.K v_var (e_mod (e_mod (e_ty b_int (B.n "int" (by decide +kernel)) (pa_consV (e_add cx (e_mul cx pv_V pc_int) pv_V) pa_nilV)) pc_int) pc_int))))))))))))
  (s_cons (s_if (t_cmp (c_eq cx) (e_blt (b_len cx) (B.n "len" (by decide +kernel)) (pa_consV pv_V pa_nilV)) pc_int) (s_one (s_expr (e_append cx.K v_var pc_int))) s_nil)
  (s_one (s_ret pv_V)))))
abbrev s__law_next : Stmt := top 26
theorem sc__law_next : FnScope ["state", "many", "turn"] ["state", "many"] (defScope s__law_next) := ⟨rfl, rfl, rfl, by decide +kernel, rfl, by decide +kernel, by decide +kernel⟩
theorem k__law_next {P : Program} {G : Glb} {mg : Str → Option Value} {base : Heap} (d : Def G mg "_law_next" s__law_next ["state", "many"]) (B : NoG mg blts) : Cal P G mg base 1 "_law_next" [true, false] (specOf [true, false] 3 F__law_next) :=
  Def.cal (k := 0) d sc__law_next rfl rfl fun f cdv A outer s H E cx =>
  (s_cons (s_setItem v_var pc_int (e_add cx (e_ix cx pv_V pc_int) pc_int))
  (s_cons (s_set cx.nd rfl (by first | exact Or.inl rfl | exact Or.inr rfl) (by decide) rfl (e_fdiv (e_ix cx pv_V pc_int) (e_blt (b_len cx) (B.n "len" (by decide +kernel)) (pa_consV (e_ix cx pv_V pc_int) pa_nilV))))
  (s_one (s_ret (e_mod (e_ty b_int (B.n "int" (by decide +kernel)) (pa_consV (e_add cx (e_add cx (e_ix cx (e_ix cx pv_V pc_int) (e_mod (e_ix cx pv_V pc_int) (e_blt (b_len cx) (B.n "len" (by decide +kernel)) (pa_consV (e_ix cx pv_V pc_int) pa_nilV)))) (e_mul cx pv_V pc_int)) (e_mul cx (e_mul cx (e_ix cx pv_V pc_int) pv_V) pc_int)) pa_nilV)) pv_V)))))
abbrev s__law_least : Stmt := top 28
noncomputable def F__law_least : FS := (sSeq (sSet 1 (callB (orC (g1 gSortS) (g1 gSorted)) (aCons (callB (g1 gSet) (aCons (fV 0) aNil)) aNil)))
  (sRet (callB (g1 gTuple) (aCons (fComp [2] (iE (fV 1)) (bN 2) (tNotV (tTr (callB (g1 gAny) (aCons (fComp [3] (iE (fV 1)) (bN 3) cT (fAnd (bin gNe (fV 3) (fV 2)) (bin gEq (bin gAnd (fV 3) (una (gU Builtin.bitNot) (fV 2))) (fC (.int 0))))) aNil)))) (fV 2)) aNil))))
theorem sc__law_least : FnScope ["sets", "rows", "one", "other"] ["sets"] (defScope s__law_least) := ⟨rfl, rfl, rfl, by decide +kernel, rfl, by decide +kernel, by decide +kernel⟩
theorem k__law_least {P : Program} {G : Glb} {mg : Str → Option Value} {base : Heap} (d : Def G mg "_law_least" s__law_least ["sets"]) (B : NoG mg blts) : Cal P G mg base 1 "_law_least" [false] (specOf [false] 4 F__law_least) :=
  Def.cal (k := 0) d sc__law_least rfl rfl fun f cdv A outer s H E cx =>
  (s_cons (s_set cx.nd rfl (by first | exact Or.inl rfl | exact Or.inr rfl) (by decide) rfl (e_blt (b_sorted2 cx rfl) (B.n "sorted" (by decide +kernel)) (pa_consV (e_ty (b_set cx rfl) (B.n "set" (by decide +kernel)) (pa_consV pv_V pa_nilV)) pa_nilV)))
  (s_one (s_ret (e_ty (b_tuple cx) (B.n "tuple" (by decide +kernel)) (pa_consV (e_comp cx rfl (n := 4) (i_E cx.K pv_V) (own := [("one", 2)]) rfl rfl rfl (fun _ _ _ _ _ => (g_name (Cxt.blk cx _ _ _ _ _).nd rfl (by first | exact Or.inl rfl | exact Or.inr rfl) (by decide) rfl)) (fun _ _ _ _ _ => pts_one (t_not (t_tru (Cxt.blk cx _ _ _ _ _).K (e_blt (b_any (Cxt.blk cx _ _ _ _ _)) (B.n "any" (by decide +kernel)) (pa_consV (e_comp (Cxt.blk cx _ _ _ _ _) rfl (n := 4) (i_E (Cxt.blk cx _ _ _ _ _).K pv_V) (own := [("other", 3)]) rfl rfl rfl (fun _ _ _ _ _ => (g_name (Cxt.blk (Cxt.blk cx _ _ _ _ _) _ _ _ _ _).nd rfl (by first | exact Or.inl rfl | exact Or.inr rfl) (by decide) rfl)) (fun _ _ _ _ _ => pts_nil) (fun σ H Q ⟨ρ, P, F, nw, h⟩ => h P H F nw Stp.refl) (fun _ _ _ _ _ => (e_andV (Cxt.blk (Cxt.blk cx _ _ _ _ _) _ _ _ _ _).K (e_cmp (c_ne (Cxt.blk (Cxt.blk cx _ _ _ _ _) _ _ _ _ _)) pv_V pv_V) (e_one (e_cmp (c_eq (Cxt.blk (Cxt.blk cx _ _ _ _ _) _ _ _ _ _)) (e_and pv_V (e_inv pv_V)) pc_int))))) pa_nilV))))) (fun _ _ _ h => h) (fun _ _ _ _ _ => pv_V)) pa_nilV)))))
noncomputable def S__law_least : CSpec := specOf [false] 4 F__law_least
theorem e__law_least : ∀ ws, S__law_least ws ≠ .stk → specOf [false] 4 F__law_least ws = S__law_least ws := fun _ _ => rfl
abbrev s__law_greatest : Stmt := top 29
noncomputable def F__law_greatest : FS := (sSeq (sSet 1 (callB (orC (g1 gSortS) (g1 gSorted)) (aCons (callB (g1 gSet) (aCons (fV 0) aNil)) aNil)))
  (sRet (callB (g1 gTuple) (aCons (fComp [2] (iE (fV 1)) (bN 2) (tNotV (tTr (callB (g1 gAny) (aCons (fComp [3] (iE (fV 1)) (bN 3) cT (fAnd (bin gNe (fV 3) (fV 2)) (bin gEq (bin gAnd (fV 2) (una (gU Builtin.bitNot) (fV 3))) (fC (.int 0))))) aNil)))) (fV 2)) aNil))))
theorem sc__law_greatest : FnScope ["sets", "rows", "one", "other"] ["sets"] (defScope s__law_greatest) := ⟨rfl, rfl, rfl, by decide +kernel, rfl, by decide +kernel, by decide +kernel⟩
theorem k__law_greatest {P : Program} {G : Glb} {mg : Str → Option Value} {base : Heap} (d : Def G mg "_law_greatest" s__law_greatest ["sets"]) (B : NoG mg blts) : Cal P G mg base 1 "_law_greatest" [false] (specOf [false] 4 F__law_greatest) :=
  Def.cal (k := 0) d sc__law_greatest rfl rfl fun f cdv A outer s H E cx =>
  (s_cons (s_set cx.nd rfl (by first | exact Or.inl rfl | exact Or.inr rfl) (by decide) rfl (e_blt (b_sorted2 cx rfl) (B.n "sorted" (by decide +kernel)) (pa_consV (e_ty (b_set cx rfl) (B.n "set" (by decide +kernel)) (pa_consV pv_V pa_nilV)) pa_nilV)))
  (s_one (s_ret (e_ty (b_tuple cx) (B.n "tuple" (by decide +kernel)) (pa_consV (e_comp cx rfl (n := 4) (i_E cx.K pv_V) (own := [("one", 2)]) rfl rfl rfl (fun _ _ _ _ _ => (g_name (Cxt.blk cx _ _ _ _ _).nd rfl (by first | exact Or.inl rfl | exact Or.inr rfl) (by decide) rfl)) (fun _ _ _ _ _ => pts_one (t_not (t_tru (Cxt.blk cx _ _ _ _ _).K (e_blt (b_any (Cxt.blk cx _ _ _ _ _)) (B.n "any" (by decide +kernel)) (pa_consV (e_comp (Cxt.blk cx _ _ _ _ _) rfl (n := 4) (i_E (Cxt.blk cx _ _ _ _ _).K pv_V) (own := [("other", 3)]) rfl rfl rfl (fun _ _ _ _ _ => (g_name (Cxt.blk (Cxt.blk cx _ _ _ _ _) _ _ _ _ _).nd rfl (by first | exact Or.inl rfl | exact Or.inr rfl) (by decide) rfl)) (fun _ _ _ _ _ => pts_nil) (fun σ H Q ⟨ρ, P, F, nw, h⟩ => h P H F nw Stp.refl) (fun _ _ _ _ _ => (e_andV (Cxt.blk (Cxt.blk cx _ _ _ _ _) _ _ _ _ _).K (e_cmp (c_ne (Cxt.blk (Cxt.blk cx _ _ _ _ _) _ _ _ _ _)) pv_V pv_V) (e_one (e_cmp (c_eq (Cxt.blk (Cxt.blk cx _ _ _ _ _) _ _ _ _ _)) (e_and pv_V (e_inv pv_V)) pc_int))))) pa_nilV))))) (fun _ _ _ h => h) (fun _ _ _ _ _ => pv_V)) pa_nilV)))))
noncomputable def S__law_greatest : CSpec := specOf [false] 4 F__law_greatest
theorem e__law_greatest : ∀ ws, S__law_greatest ws ≠ .stk → specOf [false] 4 F__law_greatest ws = S__law_greatest ws := fun _ _ => rfl
abbrev s__law_true : Stmt := top 30
noncomputable def F__law_true : FS := (sRet (callB (g1 gAny) (aCons (fComp [2] (iE (fV 0)) (bN 2) cT (bin gEq (bin gAnd (fV 2) (una (gU Builtin.bitNot) (fV 1))) (fC (.int 0)))) aNil)))
theorem sc__law_true : FnScope ["trues", "one", "true"] ["trues", "one"] (defScope s__law_true) := ⟨rfl, rfl, rfl, by decide +kernel, rfl, by decide +kernel, by decide +kernel⟩
theorem k__law_true {P : Program} {G : Glb} {mg : Str → Option Value} {base : Heap} (d : Def G mg "_law_true" s__law_true ["trues", "one"]) (B : NoG mg blts) : Cal P G mg base 1 "_law_true" [false, false] (specOf [false, false] 3 F__law_true) :=
  Def.cal (k := 0) d sc__law_true rfl rfl fun f cdv A outer s H E cx =>
  (s_one (s_ret (e_blt (b_any cx) (B.n "any" (by decide +kernel)) (pa_consV (e_comp cx rfl (n := 3) (i_E cx.K pv_V) (own := [("true", 2)]) rfl rfl rfl (fun _ _ _ _ _ => (g_name (Cxt.blk cx _ _ _ _ _).nd rfl (by first | exact Or.inl rfl | exact Or.inr rfl) (by decide) rfl)) (fun _ _ _ _ _ => pts_nil) (fun σ H Q ⟨ρ, P, F, nw, h⟩ => h P H F nw Stp.refl) (fun _ _ _ _ _ => (e_cmp (c_eq (Cxt.blk cx _ _ _ _ _)) (e_and pv_V (e_inv pv_V)) pc_int))) pa_nilV))))
noncomputable def S__law_true : CSpec := specOf [false, false] 3 F__law_true
theorem e__law_true : ∀ ws, S__law_true ws ≠ .stk → specOf [false, false] 3 F__law_true ws = S__law_true ws := fun _ _ => rfl
abbrev s__law_border : Stmt := top 31
noncomputable def F__law_border : FS := (sSeq (sSet 2 (fCall [true, false] S__law_next (aCons (fV 0) (aCons (fC (.int 6)) aNil))))
  (sSeq (sIf (tBo (bin gEq (fV 2) (fC (.int 0)))) (sRet (bin gIx (fLst (aCons (fTup aNil) (aCons (fTup (aCons (fC (.int 0)) aNil)) aNil))) (fCall [true, false] S__law_next (aCons (fV 0) (aCons (fC (.int 2)) aNil))))) sNext)
  (sRet (fCall [false] S__law_least (aCons (fComp [3] (iR1 (aCons (bin gAdd (fC (.int 1)) (fCall [true, false] S__law_next (aCons (fV 0) (aCons (fC (.int 5)) aNil)))) aNil)) (bN 3) cT (bin gOr (fCall [true, false] S__law_next (aCons (fV 0) (aCons (bin gShl (fC (.int 1)) (fV 1)) aNil))) (bin gMul (fCall [true, false] S__law_next (aCons (fV 0) (aCons (bin gShl (fC (.int 1)) (fV 1)) aNil))) (callB (g1 gInt) (aCons (bin gGt (fV 2) (fC (.int 3))) aNil))))) aNil)))))
theorem sc__law_border : FnScope ["state", "count", "kind", "k"] ["state", "count"] (defScope s__law_border) := ⟨rfl, rfl, rfl, by decide +kernel, rfl, by decide +kernel, by decide +kernel⟩
theorem k__law_border {P : Program} {G : Glb} {mg : Str → Option Value} {base : Heap} (d : Def G mg "_law_border" s__law_border ["state", "count"]) (B : NoG mg blts) (c__law_least : Cal P G mg base 1 "_law_least" [false] S__law_least) (c__law_next : Cal P G mg base 1 "_law_next" [true, false] S__law_next) : Cal P G mg base 2 "_law_border" [true, false] (specOf [true, false] 4 F__law_border) :=
  Def.cal (k := 1) d sc__law_border rfl rfl fun f cdv A outer s H E cx =>
  (s_cons (s_set cx.nd rfl (by first | exact Or.inl rfl | exact Or.inr rfl) (by decide) rfl (e_callC cx c__law_next rfl (by decide) (pa_consV pv_V (pa_consV pc_int pa_nilV))))
  (s_cons (s_if (t_cmp (c_eq cx) pv_V pc_int) (s_one (s_ret (e_ix cx (e_lst (pa_consV (e_tup pa_nilV) (pa_consV (e_tup (pa_consV pc_int pa_nilV)) pa_nilV))) (e_callC cx c__law_next rfl (by decide) (pa_consV pv_V (pa_consV pc_int pa_nilV)))))) s_nil)
  (s_one (s_ret (e_callC cx c__law_least rfl (by decide) (pa_consV (e_comp cx rfl (n := 4) (i_R1 (B.n "range" (by decide +kernel)) (pa_consV (e_add cx pc_int (e_callC cx c__law_next rfl (by decide) (pa_consV pv_V (pa_consV pc_int pa_nilV)))) pa_nilV)) (own := [("k", 3)]) rfl rfl rfl (fun _ _ _ _ _ => (g_name (Cxt.blk cx _ _ _ _ _).nd rfl (by first | exact Or.inl rfl | exact Or.inr rfl) (by decide) rfl)) (fun _ _ _ _ _ => pts_nil) (fun σ H Q ⟨ρ, P, F, nw, h⟩ => h P H F nw Stp.refl) (fun _ _ _ _ _ => (e_or (e_callC (Cxt.blk cx _ _ _ _ _) c__law_next rfl (by decide) (pa_consV pv_V (pa_consV (e_shl pc_int pv_V) pa_nilV))) (e_mul (Cxt.blk cx _ _ _ _ _) (e_callC (Cxt.blk cx _ _ _ _ _) c__law_next rfl (by decide) (pa_consV pv_V (pa_consV (e_shl pc_int pv_V) pa_nilV))) (e_ty b_int (B.n "int" (by decide +kernel)) (pa_consV (e_cmp c_gt pv_V pc_int) pa_nilV)))))) pa_nilV))))))
noncomputable def S__law_border : CSpec := specOf [true, false] 4 F__law_border
theorem e__law_border : ∀ ws, S__law_border ws ≠ .stk → specOf [true, false] 4 F__law_border ws = S__law_border ws := fun _ _ => rfl
abbrev s__law_falses : Stmt := top 32
noncomputable def F__law_falses : FS := (sRet (fCall [false] S__law_greatest (aCons (fComp [2] (iR1 (aCons (bin gShl (fC (.int 1)) (fV 0)) aNil)) (bN 2) (tNotV (tTr (fCall [false, false] S__law_true (aCons (fV 1) (aCons (fV 2) aNil))))) (fV 2)) aNil)))
theorem sc__law_falses : FnScope ["count", "trues", "one"] ["count", "trues"] (defScope s__law_falses) := ⟨rfl, rfl, rfl, by decide +kernel, rfl, by decide +kernel, by decide +kernel⟩
theorem k__law_falses {P : Program} {G : Glb} {mg : Str → Option Value} {base : Heap} (d : Def G mg "_law_falses" s__law_falses ["count", "trues"]) (B : NoG mg blts) (c__law_greatest : Cal P G mg base 1 "_law_greatest" [false] S__law_greatest) (c__law_true : Cal P G mg base 1 "_law_true" [false, false] S__law_true) : Cal P G mg base 2 "_law_falses" [false, false] (specOf [false, false] 3 F__law_falses) :=
  Def.cal (k := 1) d sc__law_falses rfl rfl fun f cdv A outer s H E cx =>
  (s_one (s_ret (e_callC cx c__law_greatest rfl (by decide) (pa_consV (e_comp cx rfl (n := 3) (i_R1 (B.n "range" (by decide +kernel)) (pa_consV (e_shl pc_int pv_V) pa_nilV)) (own := [("one", 2)]) rfl rfl rfl (fun _ _ _ _ _ => (g_name (Cxt.blk cx _ _ _ _ _).nd rfl (by first | exact Or.inl rfl | exact Or.inr rfl) (by decide) rfl)) (fun _ _ _ _ _ => pts_one (t_not (t_tru (Cxt.blk cx _ _ _ _ _).K (e_callC (Cxt.blk cx _ _ _ _ _) c__law_true rfl (by decide) (pa_consV pv_V (pa_consV pv_V pa_nilV)))))) (fun _ _ _ h => h) (fun _ _ _ _ _ => pv_V)) pa_nilV))))
noncomputable def S__law_falses : CSpec := specOf [false, false] 3 F__law_falses
theorem e__law_falses : ∀ ws, S__law_falses ws ≠ .stk → specOf [false, false] 3 F__law_falses ws = S__law_falses ws := fun _ _ => rfl
abbrev s__law_crossing : Stmt := top 33
noncomputable def F__law_crossing : FS := (sRet (fCall [false] S__law_least (aCons (fComp [2] (iR1 (aCons (bin gShl (fC (.int 1)) (fV 0)) aNil)) (bN 2) (tTr (callB (g1 gAll) (aCons (fComp [3] (iE (fV 1)) (bN 3) cT (bin gNe (bin gAnd (fV 2) (fV 3)) (fC (.int 0)))) aNil))) (fV 2)) aNil)))
theorem sc__law_crossing : FnScope ["count", "sets", "one", "other"] ["count", "sets"] (defScope s__law_crossing) := ⟨rfl, rfl, rfl, by decide +kernel, rfl, by decide +kernel, by decide +kernel⟩
theorem k__law_crossing {P : Program} {G : Glb} {mg : Str → Option Value} {base : Heap} (d : Def G mg "_law_crossing" s__law_crossing ["count", "sets"]) (B : NoG mg blts) (c__law_least : Cal P G mg base 1 "_law_least" [false] S__law_least) : Cal P G mg base 2 "_law_crossing" [false, false] (specOf [false, false] 4 F__law_crossing) :=
  Def.cal (k := 1) d sc__law_crossing rfl rfl fun f cdv A outer s H E cx =>
  (s_one (s_ret (e_callC cx c__law_least rfl (by decide) (pa_consV (e_comp cx rfl (n := 4) (i_R1 (B.n "range" (by decide +kernel)) (pa_consV (e_shl pc_int pv_V) pa_nilV)) (own := [("one", 2)]) rfl rfl rfl (fun _ _ _ _ _ => (g_name (Cxt.blk cx _ _ _ _ _).nd rfl (by first | exact Or.inl rfl | exact Or.inr rfl) (by decide) rfl)) (fun _ _ _ _ _ => pts_one (t_tru (Cxt.blk cx _ _ _ _ _).K (e_blt (b_all (Cxt.blk cx _ _ _ _ _)) (B.n "all" (by decide +kernel)) (pa_consV (e_comp (Cxt.blk cx _ _ _ _ _) rfl (n := 4) (i_E (Cxt.blk cx _ _ _ _ _).K pv_V) (own := [("other", 3)]) rfl rfl rfl (fun _ _ _ _ _ => (g_name (Cxt.blk (Cxt.blk cx _ _ _ _ _) _ _ _ _ _).nd rfl (by first | exact Or.inl rfl | exact Or.inr rfl) (by decide) rfl)) (fun _ _ _ _ _ => pts_nil) (fun σ H Q ⟨ρ, P, F, nw, h⟩ => h P H F nw Stp.refl) (fun _ _ _ _ _ => (e_cmp (c_ne (Cxt.blk (Cxt.blk cx _ _ _ _ _) _ _ _ _ _)) (e_and pv_V pv_V) pc_int))) pa_nilV)))) (fun _ _ _ h => h) (fun _ _ _ _ _ => pv_V)) pa_nilV))))
noncomputable def S__law_crossing : CSpec := specOf [false, false] 4 F__law_crossing
theorem e__law_crossing : ∀ ws, S__law_crossing ws ≠ .stk → specOf [false, false] 4 F__law_crossing ws = S__law_crossing ws := fun _ _ => rfl
abbrev s__law_told : Stmt := top 34
noncomputable def F__law_told : FS := (sTry errR (sSeq (sIf (tBo (bin gLt (fV 0) (fC (.int 3)))) (sRet (fTup (aCons (fC (.str "told")) (aCons (fPick [false, false] [S_crossing, S_greatest_falses, S_least_trues] (fV 0) (aCons (fV 1) (aCons (fV 2) aNil))) aNil)))) sNext)
  (sRet (fTup (aCons (fC (.str "told")) (aCons (fPick [false, false, false] [S_is_true, S_is_whole, S_undecided] (bin gSub (fV 0) (fC (.int 3))) (aCons (fV 1) (aCons (fV 2) (aCons (fV 3) aNil)))) aNil))))))
theorem sc__law_told : FnScope ["kind", "count", "one", "two", "e"] ["kind", "count", "one", "two"] (defScope s__law_told) := ⟨rfl, rfl, rfl, by decide +kernel, rfl, by decide +kernel, by decide +kernel⟩
theorem k__law_told {P : Program} {G : Glb} {mg : Str → Option Value} {base : Heap} (d : Def G mg "_law_told" s__law_told ["kind", "count", "one", "two"]) (c_is_true : Cal P G mg base 4 "is_true" [false, false, false] S_is_true) (c_is_whole : Cal P G mg base 4 "is_whole" [false, false, false] S_is_whole) (c_undecided : Cal P G mg base 4 "undecided" [false, false, false] S_undecided) (c_crossing : Cal P G mg base 3 "crossing" [false, false] S_crossing) (c_greatest_falses : Cal P G mg base 4 "greatest_falses" [false, false] S_greatest_falses) (c_least_trues : Cal P G mg base 4 "least_trues" [false, false] S_least_trues) (x_MaieuticError : Exc1 G.K mg "MaieuticError" (G.ea 0)) (er__law_error : ErrF P G mg base 3 "_law_error" errR) (er_sub : ∀ c t, errR c = some t → PySem.W.exmOne G.K (.ref (G.ea c)) (.ref (G.ea 0)) = some true) : Cal P G mg base 5 "_law_told" [false, false, false, false] (specOf [false, false, false, false] 5 F__law_told) :=
  Def.cal (k := 4) d sc__law_told rfl rfl fun f cdv A outer s H E cx =>
  (s_one (s_try (n := 5) (i := 4) cx rfl rfl rfl rfl (by decide) rfl ⟨rfl, by decide, .inl x_MaieuticError.g⟩ er_sub rfl er__law_error (by decide) fun W' pn xe cy po => (s_cons (s_if (t_cmp c_lt pv_V pc_int) (s_one (s_ret (e_tup (pa_consV pc_str (pa_consV (e_pick cy (.cons (def1C cy c_crossing rfl (by decide)) (.cons (def1C cy c_greatest_falses rfl (by decide)) (.cons (def1C cy c_least_trues rfl (by decide)) Defs.nil))) pv_V (by decide) (by intro _ _; rfl) (pa_consV pv_V (pa_consV pv_V pa_nilV))) pa_nilV))))) s_nil)
  (s_one (s_ret (e_tup (pa_consV pc_str (pa_consV (e_pick cy (.cons (def1C cy c_is_true rfl (by decide)) (.cons (def1C cy c_is_whole rfl (by decide)) (.cons (def1C cy c_undecided rfl (by decide)) Defs.nil))) (e_sub pv_V pc_int) (by decide) (by intro _ _; rfl) (pa_consV pv_V (pa_consV pv_V (pa_consV pv_V pa_nilV)))) pa_nilV))))))))
noncomputable def S__law_told : CSpec := specOf [false, false, false, false] 5 F__law_told
theorem e__law_told : ∀ ws, S__law_told ws ≠ .stk → specOf [false, false, false, false] 5 F__law_told ws = S__law_told ws := fun _ _ => rfl
abbrev s__law_fits : Stmt := top 35
noncomputable def F__law_fits : FS := (sSeq (sSet 1 (bin gAdd (fC (.int 1)) (fCall [true, false] S__law_next (aCons (fV 0) (aCons (bin gIx (fLst (aCons (fC (.int 4)) (aCons (fC (.int 7)) (aCons (fC (.int 8)) aNil)))) (fCall [true, false] S__law_next (aCons (fV 0) (aCons (fC (.int 3)) aNil)))) aNil)))))
  (sSeq (sSet 2 (fCall [true, false] S__law_border (aCons (fV 0) (aCons (fV 1) aNil))))
  (sSeq (sSet 3 (fCall [false, false] S__law_falses (aCons (fV 1) (aCons (fV 2) aNil))))
  (sSeq (sSet 4 (callB (g1 gRepr) (aCons (fTup (aCons (fV 2) (aCons (fV 3) aNil))) aNil)))
  (sSeq (sSet 5 (bin gSub (bin gShl (fC (.int 1)) (fV 1)) (fC (.int 1))))
  (sSeq (sSet 6 (callB (g1 gTuple) (aCons (callB (orC (g1 gSortS) (g1 gSorted)) (aCons (callB (g1 gSet) (aCons (fComp [8] (iR1 (aCons (fCall [true, false] S__law_next (aCons (fV 0) (aCons (fC (.int 5)) aNil))) aNil)) (bN 8) cT (fCall [true, false] S__law_next (aCons (fV 0) (aCons (bin gShl (fC (.int 1)) (fV 1)) aNil)))) aNil)) aNil)) aNil)))
  (sSeq (sSet 7 (fLst (aCons (fTup (aCons (fC (.str "told")) (aCons (fCall [false, false] S__law_crossing (aCons (fV 1) (aCons (fV 6) aNil))) aNil))) (aCons (fTup (aCons (fC (.str "told")) (aCons (fV 3) aNil))) (aCons (fTup (aCons (fC (.str "told")) (aCons (fV 2) aNil))) aNil)))))
  (sSeq (sIf (tNotV (tTr (fCall [false, false] S__law_same (aCons (fLst (aCons (fCall [false, false, false, false] S__law_told (aCons (fC (.int 0)) (aCons (fV 1) (aCons (fV 6) (aCons (fC (.int 0)) aNil))))) (aCons (fCall [false, false, false, false] S__law_told (aCons (fC (.int 1)) (aCons (fV 1) (aCons (fV 2) (aCons (fC (.int 0)) aNil))))) (aCons (fCall [false, false, false, false] S__law_told (aCons (fC (.int 2)) (aCons (fV 1) (aCons (fV 3) (aCons (fC (.int 0)) aNil))))) aNil)))) (aCons (fV 7) aNil))))) (sRet (fC (.bool false))) sNext)
  (sSeq (sIf (tBo (bin gNe (fCall [false, false] S__law_crossing (aCons (fV 1) (aCons (fV 2) aNil))) (callB (g1 gTuple) (aCons (callB (orC (g1 gSortS) (g1 gSorted)) (aCons (fComp [9] (iE (fV 3)) (bN 9) cT (bin gAnd (fV 5) (una (gU Builtin.bitNot) (fV 9)))) aNil)) aNil)))) (sRet (fC (.bool false))) sNext)
  (sSeq (sFor (iR1 (aCons (fC (.int 3)) aNil)) (bN 8) (sSeq (sSet 9 (fCall [true, false] S__law_next (aCons (fV 0) (aCons (bin gShl (fC (.int 1)) (fV 1)) aNil))))
  (sIf (tNotV (tTr (fCall [false, false] S__law_same (aCons (fCall [false, false, false, false] S__law_told (aCons (fC (.int 3)) (aCons (fV 1) (aCons (fV 2) (aCons (fV 9) aNil))))) (aCons (fTup (aCons (fC (.str "told")) (aCons (fCall [false, false] S__law_true (aCons (fV 2) (aCons (fV 9) aNil))) aNil))) aNil))))) (sRet (fC (.bool false))) sNext)))
  (sSeq (sSet 10 (bin gIx (fLst (aCons (fV 3) (aCons (fSl (fV 3) (pSo (fC (.int 1))) pNo) (aCons (fCall [false] S__law_greatest (aCons (fComp [8] (iR1 (aCons (fC (.int 3)) aNil)) (bN 8) cT (fCall [true, false] S__law_next (aCons (fV 0) (aCons (bin gShl (fC (.int 1)) (fV 1)) aNil)))) aNil)) aNil)))) (fCall [true, false] S__law_next (aCons (fV 0) (aCons (fC (.int 3)) aNil)))))
  (sSeq (sSet 11 (bin gIx (fLst (aCons (fV 2) (aCons (fSl (fV 2) (pSo (fC (.int 1))) pNo) (aCons (fSl (fV 2) pNo (pSo (fC (.int 1)))) aNil)))) (fCall [true, false] S__law_next (aCons (fV 0) (aCons (fC (.int 3)) aNil)))))
  (sSeq (sSet 12 (fC (.str "refused")))
  (sSeq (sIf (tNotV (tTr (callB (g1 gAny) (aCons (fComp [16] (iE (fV 11)) (bN 16) cT (callB (g1 gAny) (aCons (fComp [17] (iE (fV 10)) (bN 17) cT (bin gEq (bin gAnd (fV 16) (una (gU Builtin.bitNot) (fV 17))) (fC (.int 0)))) aNil))) aNil)))) (sSeq (sSet 13 (fComp [9] (iR1 (aCons (bin gShl (fC (.int 1)) (fV 1)) aNil)) (bN 9) (tAndV (tNotV (tTr (fCall [false, false] S__law_true (aCons (fV 11) (aCons (fV 9) aNil))))) (tNotV (tTr (callB (g1 gAny) (aCons (fComp [17] (iE (fV 10)) (bN 17) cT (bin gEq (bin gAnd (fV 9) (una (gU Builtin.bitNot) (fV 17))) (fC (.int 0)))) aNil))))) (fV 9)))
  (sSeq (sSet 12 (fTup (aCons (fC (.str "told")) (aCons (bin gIx (bin gAdd (fV 13) (fLst (aCons (fC (.int 0)) aNil))) (fC (.int 0))) aNil))))
  (sIf (tBo (bin gEq (callB (g1 gLen) (aCons (fV 13) aNil)) (fC (.int 0)))) (sSet 12 (fC (.str "missing"))) sNext))) sNext)
  (sSeq (sIf (tNotV (tTr (fCall [false, false] S__law_same (aCons (fLst (aCons (fCall [false, false, false, false] S__law_told (aCons (fC (.int 5)) (aCons (fV 1) (aCons (fV 11) (aCons (fV 10) aNil))))) (aCons (fCall [false, false, false, false] S__law_told (aCons (fC (.int 4)) (aCons (fV 1) (aCons (fV 11) (aCons (fV 10) aNil))))) aNil))) (aCons (fLst (aCons (fV 12) (aCons (fTup (aCons (fC (.str "told")) (aCons (bin gEq (fCall [false, false] S__law_falses (aCons (fV 1) (aCons (fV 11) aNil))) (fV 10)) aNil))) aNil))) aNil))))) (sRet (fC (.bool false))) sNext)
  (sSeq (sSet 14 (bin gAdd (fLst (aCons (fTup (aCons (bin gAdd (fV 5) (fC (.int 1))) aNil)) (aCons (fTup (aCons (una (gU fun i => -i) (fC (.int 1))) aNil)) (aCons (fTup (aCons (fC (.int 0)) (aCons (fC (.int 0)) aNil))) (aCons (fTup (aCons (fC (.int 1)) (aCons (fC (.int 0)) aNil))) aNil))))) (fLst (aCons (fTup (aCons (fC (.int 0)) (aCons (fC (.int 1)) aNil))) aNil))))
  (sSeq (sSet 15 (bin gAdd (bin gAdd (bin gAdd (bin gAdd (fComp [9] (iE (fSl (fV 14) pNo (pSo (fC (.int 4))))) (bN 9) cT (fCall [false, false, false, false] S__law_told (aCons (fC (.int 0)) (aCons (fV 1) (aCons (fV 9) (aCons (fC (.int 0)) aNil)))))) (fComp [9] (iE (fV 14)) (bN 9) cT (fCall [false, false, false, false] S__law_told (aCons (fC (.int 1)) (aCons (fV 1) (aCons (fV 9) (aCons (fC (.int 0)) aNil))))))) (fComp [9] (iE (fV 14)) (bN 9) cT (fCall [false, false, false, false] S__law_told (aCons (fC (.int 2)) (aCons (fV 1) (aCons (fV 9) (aCons (fC (.int 0)) aNil))))))) (fComp [9] (iE (fV 14)) (bN 9) cT (fCall [false, false, false, false] S__law_told (aCons (fC (.int 3)) (aCons (fV 1) (aCons (fV 9) (aCons (fC (.int 0)) aNil))))))) (fComp [9] (iE (fV 14)) (bN 9) cT (fCall [false, false, false, false] S__law_told (aCons (fC (.int 4)) (aCons (fV 1) (aCons (fV 2) (aCons (fV 9) aNil))))))))
  (sSeq (sSet 15 (bin gAdd (fV 15) (fLst (aCons (fCall [false, false, false, false] S__law_told (aCons (fC (.int 5)) (aCons (fV 1) (aCons (bin gIx (fV 14) (fC (.int 4))) (aCons (fTup aNil) aNil))))) (aCons (fCall [false, false, false, false] S__law_told (aCons (fC (.int 3)) (aCons (fV 1) (aCons (fV 2) (aCons (bin gAdd (fV 5) (fC (.int 1))) aNil))))) (aCons (fCall [false, false, false, false] S__law_told (aCons (fC (.int 5)) (aCons (fV 1) (aCons (fTup aNil) (aCons (bin gIx (fV 14) (fC (.int 4))) aNil))))) aNil))))))
  (sRet (fAnd (bin gEq (fV 15) (bin gMul (fLst (aCons (fC (.str "refused")) aNil)) (fC (.int 27)))) (bin gEq (callB (g1 gRepr) (aCons (fTup (aCons (fV 2) (aCons (fV 3) aNil))) aNil)) (fV 4))))))))))))))))))))))
theorem sc__law_fits : FnScope ["state", "count", "trues", "falses", "kept", "whole", "sets", "dues", "k", "one", "other", "some", "due", "left", "bad", "odd", "true", "false"] ["state"] (defScope s__law_fits) := ⟨rfl, rfl, rfl, by decide +kernel, rfl, by decide +kernel, by decide +kernel⟩
theorem k__law_fits {P : Program} {G : Glb} {mg : Str → Option Value} {base : Heap} (d : Def G mg "_law_fits" s__law_fits ["state"]) (B : NoG mg blts) (c__law_told : Cal P G mg base 5 "_law_told" [false, false, false, false] S__law_told) (c__law_same : Cal P G mg base 1 "_law_same" [false, false] S__law_same) (c__law_falses : Cal P G mg base 2 "_law_falses" [false, false] S__law_falses) (c__law_true : Cal P G mg base 1 "_law_true" [false, false] S__law_true) (c__law_next : Cal P G mg base 1 "_law_next" [true, false] S__law_next) (c__law_greatest : Cal P G mg base 1 "_law_greatest" [false] S__law_greatest) (c__law_crossing : Cal P G mg base 2 "_law_crossing" [false, false] S__law_crossing) (c__law_border : Cal P G mg base 2 "_law_border" [true, false] S__law_border) : Cal P G mg base 6 "_law_fits" [true] (specOf [true] 18 F__law_fits) :=
  Def.cal (k := 5) d sc__law_fits rfl rfl fun f cdv A outer s H E cx =>
  (s_cons (s_set cx.nd rfl (by first | exact Or.inl rfl | exact Or.inr rfl) (by decide) rfl (e_add cx pc_int (e_callC cx c__law_next rfl (by decide) (pa_consV pv_V (pa_consV (e_ix cx (e_lst (pa_consV pc_int (pa_consV pc_int (pa_consV pc_int pa_nilV)))) (e_callC cx c__law_next rfl (by decide) (pa_consV pv_V (pa_consV pc_int pa_nilV)))) pa_nilV)))))
  (s_cons (s_set cx.nd rfl (by first | exact Or.inl rfl | exact Or.inr rfl) (by decide) rfl (e_callC cx c__law_border rfl (by decide) (pa_consV pv_V (pa_consV pv_V pa_nilV))))
  (s_cons (s_set cx.nd rfl (by first | exact Or.inl rfl | exact Or.inr rfl) (by decide) rfl (e_callC cx c__law_falses rfl (by decide) (pa_consV pv_V (pa_consV pv_V pa_nilV))))
  (s_cons (s_set cx.nd rfl (by first | exact Or.inl rfl | exact Or.inr rfl) (by decide) rfl (e_blt (b_repr cx) (B.n "repr" (by decide +kernel)) (pa_consV (e_tup (pa_consV pv_V (pa_consV pv_V pa_nilV))) pa_nilV)))
  (s_cons (s_set cx.nd rfl (by first | exact Or.inl rfl | exact Or.inr rfl) (by decide) rfl (e_sub (e_shl pc_int pv_V) pc_int))
  (s_cons (s_set cx.nd rfl (by first | exact Or.inl rfl | exact Or.inr rfl) (by decide) rfl (e_ty (b_tuple cx) (B.n "tuple" (by decide +kernel)) (pa_consV (e_blt (b_sorted2 cx rfl) (B.n "sorted" (by decide +kernel)) (pa_consV (e_ty (b_set cx rfl) (B.n "set" (by decide +kernel)) (pa_consV (e_comp cx rfl (n := 18) (i_R1 (B.n "range" (by decide +kernel)) (pa_consV (e_callC cx c__law_next rfl (by decide) (pa_consV pv_V (pa_consV pc_int pa_nilV))) pa_nilV)) (own := [("k", 8)]) rfl rfl rfl (fun _ _ _ _ _ => (g_name (Cxt.blk cx _ _ _ _ _).nd rfl (by first | exact Or.inl rfl | exact Or.inr rfl) (by decide) rfl)) (fun _ _ _ _ _ => pts_nil) (fun σ H Q ⟨ρ, P, F, nw, h⟩ => h P H F nw Stp.refl) (fun _ _ _ _ _ => (e_callC (Cxt.blk cx _ _ _ _ _) c__law_next rfl (by decide) (pa_consV pv_V (pa_consV (e_shl pc_int pv_V) pa_nilV))))) pa_nilV)) pa_nilV)) pa_nilV)))
  (s_cons (s_set cx.nd rfl (by first | exact Or.inl rfl | exact Or.inr rfl) (by decide) rfl (e_lst (pa_consV (e_tup (pa_consV pc_str (pa_consV (e_callC cx c__law_crossing rfl (by decide) (pa_consV pv_V (pa_consV pv_V pa_nilV))) pa_nilV))) (pa_consV (e_tup (pa_consV pc_str (pa_consV pv_V pa_nilV))) (pa_consV (e_tup (pa_consV pc_str (pa_consV pv_V pa_nilV))) pa_nilV)))))
  (s_cons (s_if (t_not (t_tru cx.K (e_callC cx c__law_same rfl (by decide) (pa_consV (e_lst (pa_consV (e_callC cx c__law_told rfl (by decide) (pa_consV pc_int (pa_consV pv_V (pa_consV pv_V (pa_consV pc_int pa_nilV))))) (pa_consV (e_callC cx c__law_told rfl (by decide) (pa_consV pc_int (pa_consV pv_V (pa_consV pv_V (pa_consV pc_int pa_nilV))))) (pa_consV (e_callC cx c__law_told rfl (by decide) (pa_consV pc_int (pa_consV pv_V (pa_consV pv_V (pa_consV pc_int pa_nilV))))) pa_nilV)))) (pa_consV pv_V pa_nilV))))) (s_one (s_ret pc_bl)) s_nil)
  (s_cons (s_if (t_cmp (c_ne cx) (e_callC cx c__law_crossing rfl (by decide) (pa_consV pv_V (pa_consV pv_V pa_nilV))) (e_ty (b_tuple cx) (B.n "tuple" (by decide +kernel)) (pa_consV (e_blt (b_sorted2 cx rfl) (B.n "sorted" (by decide +kernel)) (pa_consV (e_comp cx rfl (n := 18) (i_E cx.K pv_V) (own := [("one", 9)]) rfl rfl rfl (fun _ _ _ _ _ => (g_name (Cxt.blk cx _ _ _ _ _).nd rfl (by first | exact Or.inl rfl | exact Or.inr rfl) (by decide) rfl)) (fun _ _ _ _ _ => pts_nil) (fun σ H Q ⟨ρ, P, F, nw, h⟩ => h P H F nw Stp.refl) (fun _ _ _ _ _ => (e_and pv_V (e_inv pv_V)))) pa_nilV)) pa_nilV))) (s_one (s_ret pc_bl)) s_nil)
  (s_cons (s_for (passes_of rfl) cx.calm (i_R1 (B.n "range" (by decide +kernel)) (pa_consV pc_int pa_nilV)) (g_name cx.nd rfl (by first | exact Or.inl rfl | exact Or.inr rfl) (by decide) rfl) (s_cons (s_set cx.nd rfl (by first | exact Or.inl rfl | exact Or.inr rfl) (by decide) rfl (e_callC cx c__law_next rfl (by decide) (pa_consV pv_V (pa_consV (e_shl pc_int pv_V) pa_nilV))))
  (s_one (s_if (t_not (t_tru cx.K (e_callC cx c__law_same rfl (by decide) (pa_consV (e_callC cx c__law_told rfl (by decide) (pa_consV pc_int (pa_consV pv_V (pa_consV pv_V (pa_consV pv_V pa_nilV))))) (pa_consV (e_tup (pa_consV pc_str (pa_consV (e_callC cx c__law_true rfl (by decide) (pa_consV pv_V (pa_consV pv_V pa_nilV))) pa_nilV))) pa_nilV))))) (s_one (s_ret pc_bl)) s_nil))))
  (s_cons (s_set cx.nd rfl (by first | exact Or.inl rfl | exact Or.inr rfl) (by decide) rfl (e_ix cx (e_lst (pa_consV pv_V (pa_consV (e_sl cx.K pv_V (o_so pc_int) o_no) (pa_consV (e_callC cx c__law_greatest rfl (by decide) (pa_consV (e_comp cx rfl (n := 18) (i_R1 (B.n "range" (by decide +kernel)) (pa_consV pc_int pa_nilV)) (own := [("k", 8)]) rfl rfl rfl (fun _ _ _ _ _ => (g_name (Cxt.blk cx _ _ _ _ _).nd rfl (by first | exact Or.inl rfl | exact Or.inr rfl) (by decide) rfl)) (fun _ _ _ _ _ => pts_nil) (fun σ H Q ⟨ρ, P, F, nw, h⟩ => h P H F nw Stp.refl) (fun _ _ _ _ _ => (e_callC (Cxt.blk cx _ _ _ _ _) c__law_next rfl (by decide) (pa_consV pv_V (pa_consV (e_shl pc_int pv_V) pa_nilV))))) pa_nilV)) pa_nilV)))) (e_callC cx c__law_next rfl (by decide) (pa_consV pv_V (pa_consV pc_int pa_nilV)))))
  (s_cons (s_set cx.nd rfl (by first | exact Or.inl rfl | exact Or.inr rfl) (by decide) rfl (e_ix cx (e_lst (pa_consV pv_V (pa_consV (e_sl cx.K pv_V (o_so pc_int) o_no) (pa_consV (e_sl cx.K pv_V o_no (o_so pc_int)) pa_nilV)))) (e_callC cx c__law_next rfl (by decide) (pa_consV pv_V (pa_consV pc_int pa_nilV)))))
  (s_cons (s_set cx.nd rfl (by first | exact Or.inl rfl | exact Or.inr rfl) (by decide) rfl pc_str)
  (s_cons (s_if (t_not (t_tru cx.K (e_blt (b_any cx) (B.n "any" (by decide +kernel)) (pa_consV (e_comp cx rfl (n := 18) (i_E cx.K pv_V) (own := [("true", 16)]) rfl rfl rfl (fun _ _ _ _ _ => (g_name (Cxt.blk cx _ _ _ _ _).nd rfl (by first | exact Or.inl rfl | exact Or.inr rfl) (by decide) rfl)) (fun _ _ _ _ _ => pts_nil) (fun σ H Q ⟨ρ, P, F, nw, h⟩ => h P H F nw Stp.refl) (fun _ _ _ _ _ => (e_blt (b_any (Cxt.blk cx _ _ _ _ _)) (B.n "any" (by decide +kernel)) (pa_consV (e_comp (Cxt.blk cx _ _ _ _ _) rfl (n := 18) (i_E (Cxt.blk cx _ _ _ _ _).K pv_V) (own := [("false", 17)]) rfl rfl rfl (fun _ _ _ _ _ => (g_name (Cxt.blk (Cxt.blk cx _ _ _ _ _) _ _ _ _ _).nd rfl (by first | exact Or.inl rfl | exact Or.inr rfl) (by decide) rfl)) (fun _ _ _ _ _ => pts_nil) (fun σ H Q ⟨ρ, P, F, nw, h⟩ => h P H F nw Stp.refl) (fun _ _ _ _ _ => (e_cmp (c_eq (Cxt.blk (Cxt.blk cx _ _ _ _ _) _ _ _ _ _)) (e_and pv_V (e_inv pv_V)) pc_int))) pa_nilV)))) pa_nilV)))) (s_cons (s_setComp cx rfl rfl rfl (by decide) rfl (n := 18) (i_R1 (B.n "range" (by decide +kernel)) (pa_consV (e_shl pc_int pv_V) pa_nilV)) (own := [("one", 9)]) rfl rfl rfl (fun _ _ _ _ _ => (g_name (Cxt.blk cx _ _ _ _ _).nd rfl (by first | exact Or.inl rfl | exact Or.inr rfl) (by decide) rfl)) (fun _ _ _ _ _ => pts_one (PW.pt (w_and (t_not (t_tru (Cxt.blk cx _ _ _ _ _).K (e_callC (Cxt.blk cx _ _ _ _ _) c__law_true rfl (by decide) (pa_consV pv_V (pa_consV pv_V pa_nilV))))) (w_and1 (t_not (t_tru (Cxt.blk cx _ _ _ _ _).K (e_blt (b_any (Cxt.blk cx _ _ _ _ _)) (B.n "any" (by decide +kernel)) (pa_consV (e_comp (Cxt.blk cx _ _ _ _ _) rfl (n := 18) (i_E (Cxt.blk cx _ _ _ _ _).K pv_V) (own := [("false", 17)]) rfl rfl rfl (fun _ _ _ _ _ => (g_name (Cxt.blk (Cxt.blk cx _ _ _ _ _) _ _ _ _ _).nd rfl (by first | exact Or.inl rfl | exact Or.inr rfl) (by decide) rfl)) (fun _ _ _ _ _ => pts_nil) (fun σ H Q ⟨ρ, P, F, nw, h⟩ => h P H F nw Stp.refl) (fun _ _ _ _ _ => (e_cmp (c_eq (Cxt.blk (Cxt.blk cx _ _ _ _ _) _ _ _ _ _)) (e_and pv_V (e_inv pv_V)) pc_int))) pa_nilV)))))))) (fun _ _ _ h => h) (fun _ _ _ _ _ => pv_V) (by intro _; rfl) (sw_true rfl rfl rfl rfl))
  (s_cons (s_set cx.nd rfl (by first | exact Or.inl rfl | exact Or.inr rfl) (by decide) rfl (e_tup (pa_consV pc_str (pa_consV (e_ix cx (e_add cx pv_V (e_lst (pa_consV pc_int pa_nilV))) pc_int) pa_nilV))))
  (s_one (s_if (t_cmp (c_eq cx) (e_blt (b_len cx) (B.n "len" (by decide +kernel)) (pa_consV pv_V pa_nilV)) pc_int) (s_one (s_set cx.nd rfl (by first | exact Or.inl rfl | exact Or.inr rfl) (by decide) rfl pc_str)) s_nil)))) s_nil)
  (s_cons (s_if (t_not (t_tru cx.K (e_callC cx c__law_same rfl (by decide) (pa_consV (e_lst (pa_consV (e_callC cx c__law_told rfl (by decide) (pa_consV pc_int (pa_consV pv_V (pa_consV pv_V (pa_consV pv_V pa_nilV))))) (pa_consV (e_callC cx c__law_told rfl (by decide) (pa_consV pc_int (pa_consV pv_V (pa_consV pv_V (pa_consV pv_V pa_nilV))))) pa_nilV))) (pa_consV (e_lst (pa_consV pv_V (pa_consV (e_tup (pa_consV pc_str (pa_consV (e_cmp (c_eq cx) (e_callC cx c__law_falses rfl (by decide) (pa_consV pv_V (pa_consV pv_V pa_nilV))) pv_V) pa_nilV))) pa_nilV))) pa_nilV))))) (s_one (s_ret pc_bl)) s_nil)
  (s_cons (s_set cx.nd rfl (by first | exact Or.inl rfl | exact Or.inr rfl) (by decide) rfl (e_add cx (e_lst (pa_consV (e_tup (pa_consV (e_add cx pv_V pc_int) pa_nilV)) (pa_consV (e_tup (pa_consV (e_neg pc_int) pa_nilV)) (pa_consV (e_tup (pa_consV pc_int (pa_consV pc_int pa_nilV))) (pa_consV (e_tup (pa_consV pc_int (pa_consV pc_int pa_nilV))) pa_nilV))))) (e_lst (pa_consV (e_tup (pa_consV pc_int (pa_consV pc_int pa_nilV))) pa_nilV))))
  (s_cons (s_set cx.nd rfl (by first | exact Or.inl rfl | exact Or.inr rfl) (by decide) rfl (e_add cx (e_add cx (e_add cx (e_add cx (e_comp cx rfl (n := 18) (i_E cx.K (e_sl cx.K pv_V o_no (o_so pc_int))) (own := [("one", 9)]) rfl rfl rfl (fun _ _ _ _ _ => (g_name (Cxt.blk cx _ _ _ _ _).nd rfl (by first | exact Or.inl rfl | exact Or.inr rfl) (by decide) rfl)) (fun _ _ _ _ _ => pts_nil) (fun σ H Q ⟨ρ, P, F, nw, h⟩ => h P H F nw Stp.refl) (fun _ _ _ _ _ => (e_callC (Cxt.blk cx _ _ _ _ _) c__law_told rfl (by decide) (pa_consV pc_int (pa_consV pv_V (pa_consV pv_V (pa_consV pc_int pa_nilV))))))) (e_comp cx rfl (n := 18) (i_E cx.K pv_V) (own := [("one", 9)]) rfl rfl rfl (fun _ _ _ _ _ => (g_name (Cxt.blk cx _ _ _ _ _).nd rfl (by first | exact Or.inl rfl | exact Or.inr rfl) (by decide) rfl)) (fun _ _ _ _ _ => pts_nil) (fun σ H Q ⟨ρ, P, F, nw, h⟩ => h P H F nw Stp.refl) (fun _ _ _ _ _ => (e_callC (Cxt.blk cx _ _ _ _ _) c__law_told rfl (by decide) (pa_consV pc_int (pa_consV pv_V (pa_consV pv_V (pa_consV pc_int pa_nilV)))))))) (e_comp cx rfl (n := 18) (i_E cx.K pv_V) (own := [("one", 9)]) rfl rfl rfl (fun _ _ _ _ _ => (g_name (Cxt.blk cx _ _ _ _ _).nd rfl (by first | exact Or.inl rfl | exact Or.inr rfl) (by decide) rfl)) (fun _ _ _ _ _ => pts_nil) (fun σ H Q ⟨ρ, P, F, nw, h⟩ => h P H F nw Stp.refl) (fun _ _ _ _ _ => (e_callC (Cxt.blk cx _ _ _ _ _) c__law_told rfl (by decide) (pa_consV pc_int (pa_consV pv_V (pa_consV pv_V (pa_consV pc_int pa_nilV)))))))) (e_comp cx rfl (n := 18) (i_E cx.K pv_V) (own := [("one", 9)]) rfl rfl rfl (fun _ _ _ _ _ => (g_name (Cxt.blk cx _ _ _ _ _).nd rfl (by first | exact Or.inl rfl | exact Or.inr rfl) (by decide) rfl)) (fun _ _ _ _ _ => pts_nil) (fun σ H Q ⟨ρ, P, F, nw, h⟩ => h P H F nw Stp.refl) (fun _ _ _ _ _ => (e_callC (Cxt.blk cx _ _ _ _ _) c__law_told rfl (by decide) (pa_consV pc_int (pa_consV pv_V (pa_consV pv_V (pa_consV pc_int pa_nilV)))))))) (e_comp cx rfl (n := 18) (i_E cx.K pv_V) (own := [("one", 9)]) rfl rfl rfl (fun _ _ _ _ _ => (g_name (Cxt.blk cx _ _ _ _ _).nd rfl (by first | exact Or.inl rfl | exact Or.inr rfl) (by decide) rfl)) (fun _ _ _ _ _ => pts_nil) (fun σ H Q ⟨ρ, P, F, nw, h⟩ => h P H F nw Stp.refl) (fun _ _ _ _ _ => (e_callC (Cxt.blk cx _ _ _ _ _) c__law_told rfl (by decide) (pa_consV pc_int (pa_consV pv_V (pa_consV pv_V (pa_consV pv_V pa_nilV)))))))))
  (s_cons (s_set cx.nd rfl (by first | exact Or.inl rfl | exact Or.inr rfl) (by decide) rfl (e_add cx pv_V (e_lst (pa_consV (e_callC cx c__law_told rfl (by decide) (pa_consV pc_int (pa_consV pv_V (pa_consV (e_ix cx pv_V pc_int) (pa_consV (e_tup pa_nilV) pa_nilV))))) (pa_consV (e_callC cx c__law_told rfl (by decide) (pa_consV pc_int (pa_consV pv_V (pa_consV pv_V (pa_consV (e_add cx pv_V pc_int) pa_nilV))))) (pa_consV (e_callC cx c__law_told rfl (by decide) (pa_consV pc_int (pa_consV pv_V (pa_consV (e_tup pa_nilV) (pa_consV (e_ix cx pv_V pc_int) pa_nilV))))) pa_nilV))))))
  (s_one (s_ret (e_andV cx.K (e_cmp (c_eq cx) pv_V (e_mul cx (e_lst (pa_consV pc_str pa_nilV)) pc_int)) (e_one (e_cmp (c_eq cx) (e_blt (b_repr cx) (B.n "repr" (by decide +kernel)) (pa_consV (e_tup (pa_consV pv_V (pa_consV pv_V pa_nilV))) pa_nilV)) pv_V)))))))))))))))))))))))
noncomputable def S__law_fits : CSpec := specOf [true] 18 F__law_fits
theorem e__law_fits : ∀ ws, S__law_fits ws ≠ .stk → specOf [true] 18 F__law_fits ws = S__law_fits ws := fun _ _ => rfl
abbrev s_law : Stmt := top 36
noncomputable def F_law : FS := (sSeq (sSet 1 (fLst (aCons (fCall [false] S__law_stream (aCons (fV 0) aNil)) (aCons (fC (.int 0)) aNil))))
  (sSeq (sFor (iR1 (aCons (fC (.int 4)) aNil)) (bN 2) (sIf (tNotV (tTr (fCall [true] S__law_fits (aCons (fV 1) aNil)))) (sRet (fC (.bool false))) sNext))
  (sSeq (sSet 3 (fComp [4, 5] (iE (fLst (aCons (fTup (aCons (fC (.int 0)) (aCons (fC (.int 9)) aNil))) (aCons (fTup (aCons (fC (.int 1)) (aCons (fC (.int 0)) aNil))) (aCons (fTup (aCons (fC (.int 2)) (aCons (una (gU fun i => -i) (fC (.int 1))) aNil))) (aCons (fTup (aCons (fC (.int 4)) (aCons (fC (.int 9)) aNil))) (aCons (fTup (aCons (fC (.int 5)) (aCons (fC (.int 9)) aNil))) aNil))))))) (bT [4, 5]) cT (fCall [false, false, false, false] S__law_told (aCons (fV 4) (aCons (fV 5) (aCons (fTup aNil) (aCons (fTup aNil) aNil)))))))
  (sRet (fAnd (bin gEq (fV 3) (bin gMul (fLst (aCons (fC (.str "refused")) aNil)) (fC (.int 5)))) (bin gEq (fC (.int 8)) (fC (.int 8))))))))
theorem sc_law : FnScope ["script", "state", "turn", "told", "kind", "count"] ["script"] (defScope s_law) := ⟨rfl, rfl, rfl, by decide +kernel, rfl, by decide +kernel, by decide +kernel⟩
theorem k_law {P : Program} {G : Glb} {mg : Str → Option Value} {base : Heap} {f : Addr} {fd : FuncData} (d : Fun G.K "law" "law" s_law f fd) (B : NoG mg blts) (c__law_told : Cal P G mg base 5 "_law_told" [false, false, false, false] S__law_told) (c__law_fits : Cal P G mg base 6 "_law_fits" [true] S__law_fits) (c__law_stream : Cal P G mg base 1 "_law_stream" [false] S__law_stream) (T_MAX_THINGS : ∃ t, mg "MAX_THINGS" = some (Value.int 8 t)) : FnG P G.w G.K mg base 7 f fd ["script"] (spV G [false] (specOf [false] 6 F_law)) :=
  fn_def (k := 6) d sc_law rfl rfl fun cdv A outer s H E cx =>
  (s_cons (s_set cx.nd rfl (by first | exact Or.inl rfl | exact Or.inr rfl) (by decide) rfl (e_lst (pa_consV (e_callC cx c__law_stream rfl (by decide) (pa_consV pv_V pa_nilV)) (pa_consV pc_int pa_nilV))))
  (s_cons (s_for (passes_of rfl) cx.calm (i_R1 (B.n "range" (by decide +kernel)) (pa_consV pc_int pa_nilV)) (g_name cx.nd rfl (by first | exact Or.inl rfl | exact Or.inr rfl) (by decide) rfl) (s_one (s_if (t_not (t_tru cx.K (e_callC cx c__law_fits rfl (by decide) (pa_consV pv_V pa_nilV)))) (s_one (s_ret pc_bl)) s_nil)))
  (s_cons (s_setComp cx rfl rfl rfl (by decide) rfl (n := 6) (i_E cx.K (e_lst (pa_consV (e_tup (pa_consV pc_int (pa_consV pc_int pa_nilV))) (pa_consV (e_tup (pa_consV pc_int (pa_consV pc_int pa_nilV))) (pa_consV (e_tup (pa_consV pc_int (pa_consV (e_neg pc_int) pa_nilV))) (pa_consV (e_tup (pa_consV pc_int (pa_consV pc_int pa_nilV))) (pa_consV (e_tup (pa_consV pc_int (pa_consV pc_int pa_nilV))) pa_nilV))))))) (own := [("kind", 4), ("count", 5)]) rfl rfl rfl (fun _ _ _ _ _ => (g_tup (Cxt.blk cx _ _ _ _ _).K (Cxt.blk cx _ _ _ _ _).calm (gs_cons (Cxt.blk cx _ _ _ _ _).nd rfl (by first | exact Or.inl rfl | exact Or.inr rfl) (by decide) rfl (gs_cons (Cxt.blk cx _ _ _ _ _).nd rfl (by first | exact Or.inl rfl | exact Or.inr rfl) (by decide) rfl gs_nil)) rfl)) (fun _ _ _ _ _ => pts_nil) (fun σ H Q ⟨ρ, P, F, nw, h⟩ => h P H F nw Stp.refl) (fun _ _ _ _ _ => (e_callC (Cxt.blk cx _ _ _ _ _) c__law_told rfl (by decide) (pa_consV pv_V (pa_consV pv_V (pa_consV (e_tup pa_nilV) (pa_consV (e_tup pa_nilV) pa_nilV)))))) (by intro _; rfl) (sw_true rfl rfl rfl rfl))
  (s_one (s_ret (e_andV cx.K (e_cmp (c_eq cx) pv_V (e_mul cx (e_lst (pa_consV pc_str pa_nilV)) pc_int)) (e_one (e_cmp (c_eq cx) (pc_glob (v := .int 8) (by exact rfl) T_MAX_THINGS.choose_spec ⟨_, rfl⟩ fun _ => .int _) pc_int))))))))
noncomputable def S_law : CSpec := specOf [false] 6 F_law
theorem e_law : ∀ ws, S_law ws ≠ .stk → specOf [false] 6 F_law ws = S_law ws := fun _ _ => rfl
end K08
end
section
set_option Elab.async false
set_option linter.all false
set_option maxRecDepth 100000
set_option maxHeartbeats 4000000
namespace K08
open Mi Fm
open PySem (PyData)
abbrev tI (ns : List Int) : Vl := .dat (.tuple (ns.map .int))
theorem check_count_ev (c : Int) : S_check_count [.dat (.int c)] = if 1 ≤ c ∧ c ≤ 8 then .ok (.dat .none) [none] else .exc 1 [none] := by
  unfold S_check_count F_check_count
  by_cases h : 1 ≤ c <;> by_cases h2 : c ≤ 8 <;> simp [specOf, outs, sSeq_ev, sSet, sRet, sRetN, sIf, sDrop, sRaise, sNext, sBrk, sCnt, sSetItem, sAug, augO, setItemO, setO_val, retO_val, bind_ok, bind_exc, bind_stk, bindS_ok, bindS_exc, bindS_stk, ret_some, look_val, look_brw, fC_ev, fV, bin, una, chain, tBo, tTr, tNotV, tAndV, tOrV, fAnd, fOr, fNot, fIf, boO_ev, trO, tru, aNil_ev, aCons, cT_ev, callB, looks, g1, frz1_dat, frz1_ml, bN_ev, fTup, fLst, mkT, mkL, frzL, iE, seqO, iR1, iR2, rg1, rg2, gAdd, gMul, gSub, gFDiv, gMod, gPow, gShl, gShr, gAnd, gOr, gXor, gLt, gLe, gGt, gGe, gAddI, gMulI, gU, gIx, gLen, gInt, gAbs, gList, gTuple, iop, tt2, orG, viewD, asL, asT, fApp, appO, isMl, fExt, extO, fSl, pNo, pSo, gSl, L2.atI, L2.ixN, gd, gEq_int, gNe_int, gEq_str, gNe_str, gNe_mlI, gEq_mlI, gNe_tupI, gEq_tupI, h, h2, gd]
/-- any([..]), all([..]) of bools -/
theorem gAny_map {α : Type} (l : List α) (f : α → Bool) : gAny (.ml (l.map fun x => PyData.bool (f x))) = some (vB (l.any f)) := by
  have : (l.map fun x => PyData.bool (f x)) = (l.map f).map .bool := by rw [List.map_map]; rfl
  rw [this]
  unfold gAny
  show (asBools ((l.map f).map .bool)).map _ = _
  rw [asBools_map]
  simp [Function.comp_def]
theorem gAll_map {α : Type} (l : List α) (f : α → Bool) : gAll (.ml (l.map fun x => PyData.bool (f x))) = some (vB (l.all f)) := by
  have : (l.map fun x => PyData.bool (f x)) = (l.map f).map .bool := by rw [List.map_map]; rfl
  rw [this]
  unfold gAll
  show (asBools ((l.map f).map .bool)).map _ = _
  rw [asBools_map]
  simp [Function.comp_def]
theorem gAny_ml (bs : List Bool) : gAny (.ml (bs.map .bool)) = some (vB (bs.any id)) := by
  unfold gAny
  simp [asL, asBools_map]
theorem gAll_ml (bs : List Bool) : gAll (.ml (bs.map .bool)) = some (vB (bs.all id)) := by
  unfold gAll
  simp [asL, asBools_map]
theorem gSet_ints {a : Vl} {ns : List Int} (h : ((asL a).orElse fun _ => asT a) = some (ns.map .int)) (hl : ns.length < 4000) : gSet a = some (.st ns) := by
  unfold gSet
  rw [h]
  simp [asInts_map, gd, hl]
theorem sortSet_ev {ns : List Int} : orC (g1 gSortS) (g1 gSorted) [.st ns] = some (.ml ((sortSet ns).map .int)) := rfl
theorem sorted_ml {ns : List Int} : orC (g1 gSortS) (g1 gSorted) [.ml (ns.map .int)] = some (.ml ((sortI ns).map .int)) := by
  show (match g1 gSortS [.ml (ns.map .int)] with | some w => some w | none => g1 gSorted [.ml (ns.map .int)]) = _
  show gSorted _ = _
  exact gSorted_ml ns
theorem sortSet_len (ns : List Int) : (sortSet ns).length ≤ ns.length := by
  induction ns with
  | nil => exact Nat.le_refl _
  | cons n ns ih =>
    have ins : ∀ (k : Int) (l : List Int), (insS k l).length ≤ l.length + 1 := by
      intro k l
      induction l with
      | nil => simp [insS]
      | cons x xs ih2 =>
        unfold insS
        split
        · simp
        · split
          · simp
          · simp; omega
    show (insS n (sortSet ns)).length ≤ _
    have := ins n (sortSet ns)
    simp; omega
/-- the inner question of least_of -/
theorem any_in (rows : List Int) (hl : rows.length ≤ 100000) (x0 : Option Vl) (one : Int) (x3 : Option Vl) :
    callB (g1 gAny) (aCons (fComp [3] (iE (fV 1)) (bN 3) cT (fAnd (bin gNe (fV 3) (fV 2)) (bin gEq (bin gAnd (fV 3) (una (gU PySem.Builtin.bitNot) (fV 2))) (fC (.int 0))))) aNil) [x0, some (.dat (.list (rows.map .int))), some (vI one), x3] =
      .ok (.val (vB (rows.any fun other => decide (other ≠ one) && inB other one))) [x0, some (.dat (.list (rows.map .int))), some (vI one), x3] := by
  have hc := fComp_map (vs := [3]) (fi := iE (fV 1)) (b := bN 3) (e := fAnd (bin gNe (fV 3) (fV 2)) (bin gEq (bin gAnd (fV 3) (una (gU PySem.Builtin.bitNot) (fV 2))) (fC (.int 0)))) (ι := PyData.int) (g := fun other => .bool (decide (other ≠ one) && inB other one)) (ρ := [x0, some (.dat (.list (rows.map .int))), some (vI one), x3]) (ρ1 := [x0, some (.dat (.list (rows.map .int))), some (vI one), x3]) rows (by simp [specOf, outs, sSeq_ev, sSet, sRet, sRetN, sIf, sDrop, sRaise, sNext, sBrk, sCnt, sSetItem, sAug, augO, setItemO, setO_val, retO_val, bind_ok, bind_exc, bind_stk, bindS_ok, bindS_exc, bindS_stk, ret_some, look_val, look_brw, fC_ev, fV, bin, una, chain, tBo, tTr, tNotV, tAndV, tOrV, fAnd, fOr, fNot, fIf, boO_ev, trO, tru, aNil_ev, aCons, cT_ev, callB, looks, g1, frz1_dat, frz1_ml, bN_ev, fTup, fLst, mkT, mkL, frzL, iE, seqO, iR1, iR2, rg1, rg2, gAdd, gMul, gSub, gFDiv, gMod, gPow, gShl, gShr, gAnd, gOr, gXor, gLt, gLe, gGt, gGe, gAddI, gMulI, gU, gIx, gLen, gInt, gAbs, gList, gTuple, iop, tt2, orG, viewD, asL, asT, fApp, appO, isMl, fExt, extO, fSl, pNo, pSo, gSl, L2.atI, L2.ixN, gd, gEq_int, gNe_int, gEq_str, gNe_str, gNe_mlI, gEq_mlI, gNe_tupI, gEq_tupI]) hl (fun other _ => by
    refine ⟨[x0, some (.dat (.list (rows.map .int))), some (vI one), some (vI other)], vB (decide (other ≠ one) && inB other one), rfl, rfl, ?_, rfl⟩
    by_cases h : other = one
    · simp [specOf, outs, sSeq_ev, sSet, sRet, sRetN, sIf, sDrop, sRaise, sNext, sBrk, sCnt, sSetItem, sAug, augO, setItemO, setO_val, retO_val, bind_ok, bind_exc, bind_stk, bindS_ok, bindS_exc, bindS_stk, ret_some, look_val, look_brw, fC_ev, fV, bin, una, chain, tBo, tTr, tNotV, tAndV, tOrV, fAnd, fOr, fNot, fIf, boO_ev, trO, tru, aNil_ev, aCons, cT_ev, callB, looks, g1, frz1_dat, frz1_ml, bN_ev, fTup, fLst, mkT, mkL, frzL, iE, seqO, iR1, iR2, rg1, rg2, gAdd, gMul, gSub, gFDiv, gMod, gPow, gShl, gShr, gAnd, gOr, gXor, gLt, gLe, gGt, gGe, gAddI, gMulI, gU, gIx, gLen, gInt, gAbs, gList, gTuple, iop, tt2, orG, viewD, asL, asT, fApp, appO, isMl, fExt, extO, fSl, pNo, pSo, gSl, L2.atI, L2.ixN, gd, gEq_int, gNe_int, gEq_str, gNe_str, gNe_mlI, gEq_mlI, gNe_tupI, gEq_tupI, h]
    · by_cases h2 : PySem.Builtin.bitAnd other (PySem.Builtin.bitNot one) = 0 <;> simp [specOf, outs, sSeq_ev, sSet, sRet, sRetN, sIf, sDrop, sRaise, sNext, sBrk, sCnt, sSetItem, sAug, augO, setItemO, setO_val, retO_val, bind_ok, bind_exc, bind_stk, bindS_ok, bindS_exc, bindS_stk, ret_some, look_val, look_brw, fC_ev, fV, bin, una, chain, tBo, tTr, tNotV, tAndV, tOrV, fAnd, fOr, fNot, fIf, boO_ev, trO, tru, aNil_ev, aCons, cT_ev, callB, looks, g1, frz1_dat, frz1_ml, bN_ev, fTup, fLst, mkT, mkL, frzL, iE, seqO, iR1, iR2, rg1, rg2, gAdd, gMul, gSub, gFDiv, gMod, gPow, gShl, gShr, gAnd, gOr, gXor, gLt, gLe, gGt, gGe, gAddI, gMulI, gU, gIx, gLen, gInt, gAbs, gList, gTuple, iop, tt2, orG, viewD, asL, asT, fApp, appO, isMl, fExt, extO, fSl, pNo, pSo, gSl, L2.atI, L2.ixN, gd, gEq_int, gNe_int, gEq_str, gNe_str, gNe_mlI, gEq_mlI, gNe_tupI, gEq_tupI, h, inB, h2])
  unfold callB aCons
  rw [hc]
  simp [specOf, outs, sSeq_ev, sSet, sRet, sRetN, sIf, sDrop, sRaise, sNext, sBrk, sCnt, sSetItem, sAug, augO, setItemO, setO_val, retO_val, bind_ok, bind_exc, bind_stk, bindS_ok, bindS_exc, bindS_stk, ret_some, look_val, look_brw, fC_ev, fV, bin, una, chain, tBo, tTr, tNotV, tAndV, tOrV, fAnd, fOr, fNot, fIf, boO_ev, trO, tru, aNil_ev, aCons, cT_ev, callB, looks, g1, frz1_dat, frz1_ml, bN_ev, fTup, fLst, mkT, mkL, frzL, iE, seqO, iR1, iR2, rg1, rg2, gAdd, gMul, gSub, gFDiv, gMod, gPow, gShl, gShr, gAnd, gOr, gXor, gLt, gLe, gGt, gGe, gAddI, gMulI, gU, gIx, gLen, gInt, gAbs, gList, gTuple, iop, tt2, orG, viewD, asL, asT, fApp, appO, isMl, fExt, extO, fSl, pNo, pSo, gSl, L2.atI, L2.ixN, gd, gEq_int, gNe_int, gEq_str, gNe_str, gNe_mlI, gEq_mlI, gNe_tupI, gEq_tupI, gAny_map]
theorem least_ev {d : PyData} {ns : List Int} (hd : d = .tuple (ns.map .int) ∨ d = .list (ns.map .int)) (hl : ns.length < 4000) : S_least_of [.dat d] = .ok (tI (leastOf (sortSet ns))) [none] := by
  have hset : gSet (.dat d) = some (.st ns) := gSet_ints (by rcases hd with rfl | rfl <;> rfl) hl
  have hlen := sortSet_len ns
  have hc := fComp_pure (vs := [2]) (fi := iE (fV 1)) (b := bN 2) (c := tNotV (tTr (callB (g1 gAny) (aCons (fComp [3] (iE (fV 1)) (bN 3) cT (fAnd (bin gNe (fV 3) (fV 2)) (bin gEq (bin gAnd (fV 3) (una (gU PySem.Builtin.bitNot) (fV 2))) (fC (.int 0))))) aNil)))) (e := fV 2)
    (ι := PyData.int) (p := fun one => !(sortSet ns).any fun other => decide (other ≠ one) && inB other one) (g := PyData.int) (ρ := [some (.dat d), some (.ml ((sortSet ns).map .int)), none, none]) (ρ1 := [some (.dat d), some (.dat (.list ((sortSet ns).map .int))), none, none]) (sortSet ns) (by simp [specOf, outs, sSeq_ev, sSet, sRet, sRetN, sIf, sDrop, sRaise, sNext, sBrk, sCnt, sSetItem, sAug, augO, setItemO, setO_val, retO_val, bind_ok, bind_exc, bind_stk, bindS_ok, bindS_exc, bindS_stk, ret_some, look_val, look_brw, fC_ev, fV, bin, una, chain, tBo, tTr, tNotV, tAndV, tOrV, fAnd, fOr, fNot, fIf, boO_ev, trO, tru, aNil_ev, aCons, cT_ev, callB, looks, g1, frz1_dat, frz1_ml, bN_ev, fTup, fLst, mkT, mkL, frzL, iE, seqO, iR1, iR2, rg1, rg2, gAdd, gMul, gSub, gFDiv, gMod, gPow, gShl, gShr, gAnd, gOr, gXor, gLt, gLe, gGt, gGe, gAddI, gMulI, gU, gIx, gLen, gInt, gAbs, gList, gTuple, iop, tt2, orG, viewD, asL, asT, fApp, appO, isMl, fExt, extO, fSl, pNo, pSo, gSl, L2.atI, L2.ixN, gd, gEq_int, gNe_int, gEq_str, gNe_str, gNe_mlI, gEq_mlI, gNe_tupI, gEq_tupI, frz1, upR, look]) (by omega) (fun one _ => by
    refine ⟨[some (.dat d), some (.dat (.list ((sortSet ns).map .int))), some (vI one), none], rfl, rfl, ?_, fun _ => ⟨vI one, by simp [specOf, outs, sSeq_ev, sSet, sRet, sRetN, sIf, sDrop, sRaise, sNext, sBrk, sCnt, sSetItem, sAug, augO, setItemO, setO_val, retO_val, bind_ok, bind_exc, bind_stk, bindS_ok, bindS_exc, bindS_stk, ret_some, look_val, look_brw, fC_ev, fV, bin, una, chain, tBo, tTr, tNotV, tAndV, tOrV, fAnd, fOr, fNot, fIf, boO_ev, trO, tru, aNil_ev, aCons, cT_ev, callB, looks, g1, frz1_dat, frz1_ml, bN_ev, fTup, fLst, mkT, mkL, frzL, iE, seqO, iR1, iR2, rg1, rg2, gAdd, gMul, gSub, gFDiv, gMod, gPow, gShl, gShr, gAnd, gOr, gXor, gLt, gLe, gGt, gGe, gAddI, gMulI, gU, gIx, gLen, gInt, gAbs, gList, gTuple, iop, tt2, orG, viewD, asL, asT, fApp, appO, isMl, fExt, extO, fSl, pNo, pSo, gSl, L2.atI, L2.ixN, gd, gEq_int, gNe_int, gEq_str, gNe_str, gNe_mlI, gEq_mlI, gNe_tupI, gEq_tupI], rfl⟩⟩
    have := any_in (sortSet ns) (by omega) (some (.dat d)) one none
    unfold tNotV tTr
    rw [this]
    simp [specOf, outs, sSeq_ev, sSet, sRet, sRetN, sIf, sDrop, sRaise, sNext, sBrk, sCnt, sSetItem, sAug, augO, setItemO, setO_val, retO_val, bind_ok, bind_exc, bind_stk, bindS_ok, bindS_exc, bindS_stk, ret_some, look_val, look_brw, fC_ev, fV, bin, una, chain, tBo, tTr, tNotV, tAndV, tOrV, fAnd, fOr, fNot, fIf, boO_ev, trO, tru, aNil_ev, aCons, cT_ev, callB, looks, g1, frz1_dat, frz1_ml, bN_ev, fTup, fLst, mkT, mkL, frzL, iE, seqO, iR1, iR2, rg1, rg2, gAdd, gMul, gSub, gFDiv, gMod, gPow, gShl, gShr, gAnd, gOr, gXor, gLt, gLe, gGt, gGe, gAddI, gMulI, gU, gIx, gLen, gInt, gAbs, gList, gTuple, iop, tt2, orG, viewD, asL, asT, fApp, appO, isMl, fExt, extO, fSl, pNo, pSo, gSl, L2.atI, L2.ixN, gd, gEq_int, gNe_int, gEq_str, gNe_str, gNe_mlI, gEq_mlI, gNe_tupI, gEq_tupI])
  unfold S_least_of F_least_of
  revert hc
  generalize fComp [2] (iE (fV 1)) (bN 2) _ (fV 2) = Fc
  intro hc
  simp [specOf, outs, sSeq_ev, sSet, sRet, sRetN, sIf, sDrop, sRaise, sNext, sBrk, sCnt, sSetItem, sAug, augO, setItemO, setO_val, retO_val, bind_ok, bind_exc, bind_stk, bindS_ok, bindS_exc, bindS_stk, ret_some, look_val, look_brw, fC_ev, fV, bin, una, chain, tBo, tTr, tNotV, tAndV, tOrV, fAnd, fOr, fNot, fIf, boO_ev, trO, tru, aNil_ev, aCons, cT_ev, callB, looks, g1, frz1_dat, frz1_ml, bN_ev, fTup, fLst, mkT, mkL, frzL, iE, seqO, iR1, iR2, rg1, rg2, gAdd, gMul, gSub, gFDiv, gMod, gPow, gShl, gShr, gAnd, gOr, gXor, gLt, gLe, gGt, gGe, gAddI, gMulI, gU, gIx, gLen, gInt, gAbs, gList, gTuple, iop, tt2, orG, viewD, asL, asT, fApp, appO, isMl, fExt, extO, fSl, pNo, pSo, gSl, L2.atI, L2.ixN, gd, gEq_int, gNe_int, gEq_str, gNe_str, gNe_mlI, gEq_mlI, gNe_tupI, gEq_tupI, hset, sortSet_ev, hc, leastOf, List.replicate]
theorem asc_iff {ns : List Int} : ns = sortSet ns ↔ Asc ns := by
  constructor
  · intro h; rw [h]; exact asc_sortSet
  · intro h; exact asc_eq h asc_sortSet fun j => mem_sortSet.symm
/-- sets that check_sets lets pass -/
def okSets (c : Int) (ns : List Int) : Prop := Asc ns ∧ ∀ x ∈ ns, U c.toNat x
theorem callOk {io : List Bool} : True := trivial
theorem fCall1 {spec : CSpec} {f : FE} {ρ : Rho} {w w' : Vl} {d : PyData} {o : List (Option Vl)} (hf : f ρ = .ok (.val w) ρ) (hw : viewD w = some d) (hs : spec [.dat d] = .ok w' o) (ho : o.length = 1) : fCall [false] spec (aCons f aNil) ρ = .ok (.val w') ρ := by
  obtain ⟨x, rfl⟩ : ∃ x, o = [x] := by
    match o, ho with
    | [x], _ => exact ⟨x, rfl⟩
  simp [fCall, aCons, aNil, hf, bind_ok, ioC, argW, look, hw, hs, noBor, setIO]
theorem fCall1x {spec : CSpec} {f : FE} {ρ : Rho} {w : Vl} {d : PyData} {o : List (Option Vl)} {c : Nat} (hf : f ρ = .ok (.val w) ρ) (hw : viewD w = some d) (hs : spec [.dat d] = .exc c o) (ho : o.length = 1) : fCall [false] spec (aCons f aNil) ρ = .exc c ρ := by
  obtain ⟨x, rfl⟩ : ∃ x, o = [x] := by
    match o, ho with
    | [x], _ => exact ⟨x, rfl⟩
  simp [fCall, aCons, aNil, hf, bind_ok, ioC, argW, look, hw, hs, noBor, setIO]
theorem fCall2 {spec : CSpec} {f f2 : FE} {ρ : Rho} {w w2 w' : Vl} {d d2 : PyData} {o : List (Option Vl)} (hf : f ρ = .ok (.val w) ρ) (hw : viewD w = some d) (hf2 : f2 ρ = .ok (.val w2) ρ) (hw2 : viewD w2 = some d2) (hs : spec [.dat d, .dat d2] = .ok w' o) (ho : o.length = 2) : fCall [false, false] spec (aCons f (aCons f2 aNil)) ρ = .ok (.val w') ρ := by
  obtain ⟨x, y, rfl⟩ : ∃ x y, o = [x, y] := by
    match o, ho with
    | [x, y], _ => exact ⟨x, y, rfl⟩
  simp [fCall, aCons, aNil, hf, hf2, bind_ok, ioC, argW, look, hw, hw2, hs, noBor, setIO]
theorem fCall2x {spec : CSpec} {f f2 : FE} {ρ : Rho} {w w2 : Vl} {d d2 : PyData} {o : List (Option Vl)} {c : Nat} (hf : f ρ = .ok (.val w) ρ) (hw : viewD w = some d) (hf2 : f2 ρ = .ok (.val w2) ρ) (hw2 : viewD w2 = some d2) (hs : spec [.dat d, .dat d2] = .exc c o) (ho : o.length = 2) : fCall [false, false] spec (aCons f (aCons f2 aNil)) ρ = .exc c ρ := by
  obtain ⟨x, y, rfl⟩ : ∃ x y, o = [x, y] := by
    match o, ho with
    | [x, y], _ => exact ⟨x, y, rfl⟩
  simp [fCall, aCons, aNil, hf, hf2, bind_ok, ioC, argW, look, hw, hw2, hs, noBor, setIO]
theorem check_sets_ev (c : Int) (ns : List Int) (hl : ns.length < 4000) : ((1 ≤ c ∧ c ≤ 8) ∧ okSets c ns → S_check_sets [.dat (.int c), tI ns] = .ok (.dat .none) [none, none]) ∧ (¬ ((1 ≤ c ∧ c ≤ 8) ∧ okSets c ns) → S_check_sets [.dat (.int c), tI ns] = .exc 1 [none, none]) := by
  have hset : gSet (tI ns) = some (.st ns) := gSet_ints rfl hl
  have hg := gNe_mlI ns (sortSet ns)
  by_cases hc : 1 ≤ c ∧ c ≤ 8
  · have e1 : fCall [false] S_check_count (aCons (fV 0) aNil) [some (.dat (.int c)), some (tI ns), none] = .ok (.val (.dat .none)) [some (.dat (.int c)), some (tI ns), none] := fCall1 (d := .int c) (w := .dat (.int c)) rfl rfl (by rw [check_count_ev, if_pos hc]) rfl
    have pw : L2.CPow 1 c := ⟨by omega, by omega, by decide⟩
    have e2 := fComp_map (vs := [2]) (fi := iE (fV 1)) (b := bN 2) (e := chain gLe gLt (fC (.int 0)) (fV 2) (bin gShl (fC (.int 1)) (fV 0))) (ι := PyData.int) (g := fun one => .bool (decide (0 ≤ one) && decide (one < 2 ^ c.toNat))) (ρ := [some (.dat (.int c)), some (tI ns), none]) (ρ1 := [some (.dat (.int c)), some (tI ns), none]) ns (by simp [specOf, outs, sSeq_ev, sSet, sRet, sRetN, sIf, sDrop, sRaise, sNext, sBrk, sCnt, sSetItem, sAug, augO, setItemO, setO_val, retO_val, bind_ok, bind_exc, bind_stk, bindS_ok, bindS_exc, bindS_stk, ret_some, look_val, look_brw, fC_ev, fV, bin, una, chain, tBo, tTr, tNotV, tAndV, tOrV, fAnd, fOr, fNot, fIf, boO_ev, trO, tru, aNil_ev, aCons, cT_ev, callB, looks, g1, frz1_dat, frz1_ml, bN_ev, fTup, fLst, mkT, mkL, frzL, iE, seqO, iR1, iR2, rg1, rg2, gAdd, gMul, gSub, gFDiv, gMod, gPow, gShl, gShr, gAnd, gOr, gXor, gLt, gLe, gGt, gGe, gAddI, gMulI, gU, gIx, gLen, gInt, gAbs, gList, gTuple, iop, tt2, orG, viewD, asL, asT, fApp, appO, isMl, fExt, extO, fSl, pNo, pSo, gSl, L2.atI, L2.ixN, gd, gEq_int, gNe_int, gEq_str, gNe_str, gNe_mlI, gEq_mlI, gNe_tupI, gEq_tupI]) (by omega) (fun one _ => by
      refine ⟨[some (.dat (.int c)), some (tI ns), some (vI one)], vB (decide (0 ≤ one) && decide (one < 2 ^ c.toNat)), rfl, rfl, ?_, rfl⟩
      by_cases h : 0 ≤ one <;> simp [specOf, outs, sSeq_ev, sSet, sRet, sRetN, sIf, sDrop, sRaise, sNext, sBrk, sCnt, sSetItem, sAug, augO, setItemO, setO_val, retO_val, bind_ok, bind_exc, bind_stk, bindS_ok, bindS_exc, bindS_stk, ret_some, look_val, look_brw, fC_ev, fV, bin, una, chain, tBo, tTr, tNotV, tAndV, tOrV, fAnd, fOr, fNot, fIf, boO_ev, trO, tru, aNil_ev, aCons, cT_ev, callB, looks, g1, frz1_dat, frz1_ml, bN_ev, fTup, fLst, mkT, mkL, frzL, iE, seqO, iR1, iR2, rg1, rg2, gAdd, gMul, gSub, gFDiv, gMod, gPow, gShl, gShr, gAnd, gOr, gXor, gLt, gLe, gGt, gGe, gAddI, gMulI, gU, gIx, gLen, gInt, gAbs, gList, gTuple, iop, tt2, orG, viewD, asL, asT, fApp, appO, isMl, fExt, extO, fSl, pNo, pSo, gSl, L2.atI, L2.ixN, gd, gEq_int, gNe_int, gEq_str, gNe_str, gNe_mlI, gEq_mlI, gNe_tupI, gEq_tupI, h, pw])
    have hall : (ns.all fun one => decide (0 ≤ one) && decide (one < 2 ^ c.toNat)) = true ↔ ∀ x ∈ ns, U c.toNat x := by
      rw [List.all_eq_true]
      unfold U
      simp
    unfold S_check_sets F_check_sets
    revert e1 e2
    generalize fCall [false] S_check_count (aCons (fV 0) aNil) = F1
    generalize fComp [2] (iE (fV 1)) (bN 2) cT _ = F2
    intro e1 e2
    constructor
    · rintro ⟨_, ha, hu⟩
      have h1 := asc_iff.mpr ha
      have h2 := hall.mpr hu
      simp [specOf, outs, sSeq_ev, sSet, sRet, sRetN, sIf, sDrop, sRaise, sNext, sBrk, sCnt, sSetItem, sAug, augO, setItemO, setO_val, retO_val, bind_ok, bind_exc, bind_stk, bindS_ok, bindS_exc, bindS_stk, ret_some, look_val, look_brw, fC_ev, fV, bin, una, chain, tBo, tTr, tNotV, tAndV, tOrV, fAnd, fOr, fNot, fIf, boO_ev, trO, tru, aNil_ev, aCons, cT_ev, callB, looks, g1, frz1_dat, frz1_ml, bN_ev, fTup, fLst, mkT, mkL, frzL, iE, seqO, iR1, iR2, rg1, rg2, gAdd, gMul, gSub, gFDiv, gMod, gPow, gShl, gShr, gAnd, gOr, gXor, gLt, gLe, gGt, gGe, gAddI, gMulI, gU, gIx, gLen, gInt, gAbs, gList, gTuple, iop, tt2, orG, viewD, asL, asT, fApp, appO, isMl, fExt, extO, fSl, pNo, pSo, gSl, L2.atI, L2.ixN, gd, gEq_int, gNe_int, gEq_str, gNe_str, gNe_mlI, gEq_mlI, gNe_tupI, gEq_tupI, e1, e2, hset, sortSet_ev, gAll_map, h2, ← h1]
    · intro hn
      by_cases h1 : ns = sortSet ns
      · have h2 : ¬ (ns.all fun one => decide (0 ≤ one) && decide (one < 2 ^ c.toNat)) = true := fun h => hn ⟨hc, asc_iff.mp h1, hall.mp h⟩
        have h2 := Bool.eq_false_iff.mpr h2
        simp [specOf, outs, sSeq_ev, sSet, sRet, sRetN, sIf, sDrop, sRaise, sNext, sBrk, sCnt, sSetItem, sAug, augO, setItemO, setO_val, retO_val, bind_ok, bind_exc, bind_stk, bindS_ok, bindS_exc, bindS_stk, ret_some, look_val, look_brw, fC_ev, fV, bin, una, chain, tBo, tTr, tNotV, tAndV, tOrV, fAnd, fOr, fNot, fIf, boO_ev, trO, tru, aNil_ev, aCons, cT_ev, callB, looks, g1, frz1_dat, frz1_ml, bN_ev, fTup, fLst, mkT, mkL, frzL, iE, seqO, iR1, iR2, rg1, rg2, gAdd, gMul, gSub, gFDiv, gMod, gPow, gShl, gShr, gAnd, gOr, gXor, gLt, gLe, gGt, gGe, gAddI, gMulI, gU, gIx, gLen, gInt, gAbs, gList, gTuple, iop, tt2, orG, viewD, asL, asT, fApp, appO, isMl, fExt, extO, fSl, pNo, pSo, gSl, L2.atI, L2.ixN, gd, gEq_int, gNe_int, gEq_str, gNe_str, gNe_mlI, gEq_mlI, gNe_tupI, gEq_tupI, e1, e2, hset, sortSet_ev, gAll_map, h2, ← h1]
      · simp [specOf, outs, sSeq_ev, sSet, sRet, sRetN, sIf, sDrop, sRaise, sNext, sBrk, sCnt, sSetItem, sAug, augO, setItemO, setO_val, retO_val, bind_ok, bind_exc, bind_stk, bindS_ok, bindS_exc, bindS_stk, ret_some, look_val, look_brw, fC_ev, fV, bin, una, chain, tBo, tTr, tNotV, tAndV, tOrV, fAnd, fOr, fNot, fIf, boO_ev, trO, tru, aNil_ev, aCons, cT_ev, callB, looks, g1, frz1_dat, frz1_ml, bN_ev, fTup, fLst, mkT, mkL, frzL, iE, seqO, iR1, iR2, rg1, rg2, gAdd, gMul, gSub, gFDiv, gMod, gPow, gShl, gShr, gAnd, gOr, gXor, gLt, gLe, gGt, gGe, gAddI, gMulI, gU, gIx, gLen, gInt, gAbs, gList, gTuple, iop, tt2, orG, viewD, asL, asT, fApp, appO, isMl, fExt, extO, fSl, pNo, pSo, gSl, L2.atI, L2.ixN, gd, gEq_int, gNe_int, gEq_str, gNe_str, gNe_mlI, gEq_mlI, gNe_tupI, gEq_tupI, e1, hset, sortSet_ev, h1]
  · have e1 : fCall [false] S_check_count (aCons (fV 0) aNil) [some (.dat (.int c)), some (tI ns), none] = .exc 1 [some (.dat (.int c)), some (tI ns), none] := fCall1x (d := .int c) (w := .dat (.int c)) rfl rfl (by rw [check_count_ev, if_neg hc]) rfl
    refine ⟨fun h => (hc h.1).elim, fun _ => ?_⟩
    unfold S_check_sets F_check_sets
    simp [specOf, outs, sSeq_ev, sSet, sRet, sRetN, sIf, sDrop, sRaise, sNext, sBrk, sCnt, sSetItem, sAug, augO, setItemO, setO_val, retO_val, bind_ok, bind_exc, bind_stk, bindS_ok, bindS_exc, bindS_stk, ret_some, look_val, look_brw, fC_ev, fV, bin, una, chain, tBo, tTr, tNotV, tAndV, tOrV, fAnd, fOr, fNot, fIf, boO_ev, trO, tru, aNil_ev, aCons, cT_ev, callB, looks, g1, frz1_dat, frz1_ml, bN_ev, fTup, fLst, mkT, mkL, frzL, iE, seqO, iR1, iR2, rg1, rg2, gAdd, gMul, gSub, gFDiv, gMod, gPow, gShl, gShr, gAnd, gOr, gXor, gLt, gLe, gGt, gGe, gAddI, gMulI, gU, gIx, gLen, gInt, gAbs, gList, gTuple, iop, tt2, orG, viewD, asL, asT, fApp, appO, isMl, fExt, extO, fSl, pNo, pSo, gSl, L2.atI, L2.ixN, gd, gEq_int, gNe_int, gEq_str, gNe_str, gNe_mlI, gEq_mlI, gNe_tupI, gEq_tupI, e1]
/-- a border -/
def okBorder (c : Int) (ns : List Int) : Prop := okSets c ns ∧ Anti ns
theorem leastOf_iff {ns : List Int} (ha : Asc ns) : leastOf (sortSet ns) = ns ↔ Anti ns := by
  have e : sortSet ns = ns := (asc_iff.mpr ha).symm
  rw [e]
  exact ⟨fun h => by rw [← h]; exact anti_least, least_self⟩
theorem check_border_ev (c : Int) (ns : List Int) (hl : ns.length < 4000) : ((1 ≤ c ∧ c ≤ 8) ∧ okBorder c ns → S_check_border [.dat (.int c), tI ns] = .ok (.dat .none) [none, none]) ∧ (¬ ((1 ≤ c ∧ c ≤ 8) ∧ okBorder c ns) → S_check_border [.dat (.int c), tI ns] = .exc 1 [none, none]) := by
  obtain ⟨h1, h2⟩ := check_sets_ev c ns hl
  have e2 : fCall [false] S_least_of (aCons (fV 1) aNil) [some (.dat (.int c)), some (tI ns)] = .ok (.val (tI (leastOf (sortSet ns)))) [some (.dat (.int c)), some (tI ns)] := fCall1 (w := tI ns) rfl rfl (least_ev (.inl rfl) hl) rfl
  by_cases hc : (1 ≤ c ∧ c ≤ 8) ∧ okSets c ns
  · have e1 : fCall [false, false] S_check_sets (aCons (fV 0) (aCons (fV 1) aNil)) [some (.dat (.int c)), some (tI ns)] = .ok (.val (.dat .none)) [some (.dat (.int c)), some (tI ns)] := fCall2 (w := .dat (.int c)) (w2 := tI ns) rfl rfl rfl rfl (h1 hc) rfl
    have hiff := leastOf_iff hc.2.1
    have hne := gNe_tupI (leastOf (sortSet ns)) ns
    unfold S_check_border F_check_border
    constructor
    · rintro ⟨_, _, ha⟩
      have := hiff.mpr ha
      simp [specOf, outs, sSeq_ev, sSet, sRet, sRetN, sIf, sDrop, sRaise, sNext, sBrk, sCnt, sSetItem, sAug, augO, setItemO, setO_val, retO_val, bind_ok, bind_exc, bind_stk, bindS_ok, bindS_exc, bindS_stk, ret_some, look_val, look_brw, fC_ev, fV, bin, una, chain, tBo, tTr, tNotV, tAndV, tOrV, fAnd, fOr, fNot, fIf, boO_ev, trO, tru, aNil_ev, aCons, cT_ev, callB, looks, g1, frz1_dat, frz1_ml, bN_ev, fTup, fLst, mkT, mkL, frzL, iE, seqO, iR1, iR2, rg1, rg2, gAdd, gMul, gSub, gFDiv, gMod, gPow, gShl, gShr, gAnd, gOr, gXor, gLt, gLe, gGt, gGe, gAddI, gMulI, gU, gIx, gLen, gInt, gAbs, gList, gTuple, iop, tt2, orG, viewD, asL, asT, fApp, appO, isMl, fExt, extO, fSl, pNo, pSo, gSl, L2.atI, L2.ixN, gd, gEq_int, gNe_int, gEq_str, gNe_str, gNe_mlI, gEq_mlI, gNe_tupI, gEq_tupI, e1, e2, this]
    · intro hn
      have : ¬ leastOf (sortSet ns) = ns := fun q => hn ⟨hc.1, hc.2, hiff.mp q⟩
      simp [specOf, outs, sSeq_ev, sSet, sRet, sRetN, sIf, sDrop, sRaise, sNext, sBrk, sCnt, sSetItem, sAug, augO, setItemO, setO_val, retO_val, bind_ok, bind_exc, bind_stk, bindS_ok, bindS_exc, bindS_stk, ret_some, look_val, look_brw, fC_ev, fV, bin, una, chain, tBo, tTr, tNotV, tAndV, tOrV, fAnd, fOr, fNot, fIf, boO_ev, trO, tru, aNil_ev, aCons, cT_ev, callB, looks, g1, frz1_dat, frz1_ml, bN_ev, fTup, fLst, mkT, mkL, frzL, iE, seqO, iR1, iR2, rg1, rg2, gAdd, gMul, gSub, gFDiv, gMod, gPow, gShl, gShr, gAnd, gOr, gXor, gLt, gLe, gGt, gGe, gAddI, gMulI, gU, gIx, gLen, gInt, gAbs, gList, gTuple, iop, tt2, orG, viewD, asL, asT, fApp, appO, isMl, fExt, extO, fSl, pNo, pSo, gSl, L2.atI, L2.ixN, gd, gEq_int, gNe_int, gEq_str, gNe_str, gNe_mlI, gEq_mlI, gNe_tupI, gEq_tupI, e1, e2, this]
  · have e1 : fCall [false, false] S_check_sets (aCons (fV 0) (aCons (fV 1) aNil)) [some (.dat (.int c)), some (tI ns)] = .exc 1 [some (.dat (.int c)), some (tI ns)] := fCall2x (w := .dat (.int c)) (w2 := tI ns) rfl rfl rfl rfl (h2 hc) rfl
    refine ⟨fun h => (hc ⟨h.1, h.2.1⟩).elim, fun _ => ?_⟩
    unfold S_check_border F_check_border
    simp [specOf, outs, sSeq_ev, sSet, sRet, sRetN, sIf, sDrop, sRaise, sNext, sBrk, sCnt, sSetItem, sAug, augO, setItemO, setO_val, retO_val, bind_ok, bind_exc, bind_stk, bindS_ok, bindS_exc, bindS_stk, ret_some, look_val, look_brw, fC_ev, fV, bin, una, chain, tBo, tTr, tNotV, tAndV, tOrV, fAnd, fOr, fNot, fIf, boO_ev, trO, tru, aNil_ev, aCons, cT_ev, callB, looks, g1, frz1_dat, frz1_ml, bN_ev, fTup, fLst, mkT, mkL, frzL, iE, seqO, iR1, iR2, rg1, rg2, gAdd, gMul, gSub, gFDiv, gMod, gPow, gShl, gShr, gAnd, gOr, gXor, gLt, gLe, gGt, gGe, gAddI, gMulI, gU, gIx, gLen, gInt, gAbs, gList, gTuple, iop, tt2, orG, viewD, asL, asT, fApp, appO, isMl, fExt, extO, fSl, pNo, pSo, gSl, L2.atI, L2.ixN, gd, gEq_int, gNe_int, gEq_str, gNe_str, gNe_mlI, gEq_mlI, gNe_tupI, gEq_tupI, e1]
end K08
end
section
set_option Elab.async false
set_option linter.all false
set_option maxRecDepth 100000
set_option maxHeartbeats 4000000
namespace K08
open Mi Fm
open PySem (PyData)
def bitsTo (x : Int) (k : Nat) : List Int := ((List.range k).filter fun t => decide (x / 2 ^ t % 2 = 1)).map fun t : Nat => (t : Int)
theorem bitsTo_succ (x : Int) (k : Nat) : bitsTo x (k + 1) = if x / 2 ^ k % 2 = 1 then bitsTo x k ++ [(k : Int)] else bitsTo x k := by
  unfold bitsTo
  rw [List.range_succ, List.filter_append, List.map_append]
  by_cases h : x / 2 ^ k % 2 = 1 <;> simp [h]
theorem mem_bitsTo {x j : Int} {k : Nat} : j ∈ bitsTo x k ↔ ∃ t : Nat, t < k ∧ bt x t ∧ j = t := by
  unfold bitsTo bt
  rw [List.mem_map]
  constructor
  · rintro ⟨t, ht, rfl⟩
    obtain ⟨h1, h2⟩ := List.mem_filter.mp ht
    exact ⟨t, List.mem_range.mp h1, of_decide_eq_true h2, rfl⟩
  · rintro ⟨t, h1, h2, rfl⟩
    exact ⟨t, List.mem_filter.mpr ⟨List.mem_range.mpr h1, decide_eq_true h2⟩, rfl⟩
theorem bitsTo_len (x : Int) (k : Nat) : (bitsTo x k).length ≤ k := by
  unfold bitsTo
  rw [List.length_map]
  have := List.length_filter_le (fun t => decide (x / 2 ^ t % 2 = 1)) (List.range k)
  simp at this ⊢
  omega
theorem and_one {y : Int} : PySem.Builtin.bitAnd y 1 = 0 ↔ ¬ y % 2 = 1 := by
  have h := meet_iff (x := y) (y := 1)
  have e : Meet y 1 ↔ y % 2 = 1 := by
    rw [← bt_zero]
    constructor
    · rintro ⟨i, a, b⟩
      have := (bt_pow 0 i).mp b
      subst this
      exact a
    · intro a
      exact ⟨0, a, (bt_pow 0 0).mpr rfl⟩
  rw [← e, ← h]
  exact ⟨fun a b => b a, fun a => Classical.byContradiction a⟩
theorem things_ev (n : Nat) (hn : n ≤ 8) (x : Int) (hx : U n x) : ∃ bs : List Int, S_things_in [.dat (.int x)] = .ok (.ml (bs.map .int)) [none] ∧ bs.length ≤ 8 ∧ ∀ j, j ∈ bs ↔ ∃ t : Nat, bt x t ∧ j = t := by
  obtain ⟨ρ', e1, k, rfl, hk, hz⟩ := sWh_inv (c := tBo (bin gGt (bin gShr (fV 0) (fV 2)) (fC (.int 0)))) (body := sSeq (sIf (tTr (bin gAnd (bin gShr (fV 0) (fV 2)) (fC (.int 1)))) (sDrop (fApp 1 (fV 2))) sNext) (sAug 2 (iop tt2 fun i j => .int (i + j)) (fC (.int 1))))
    (fun m ρ => ∃ k : Nat, k ≤ n ∧ m = n - k ∧ ρ = [some (vI x), some (.ml ((bitsTo x k).map .int)), some (vI k)])
    (fun ρ => ∃ k : Nat, ρ = [some (vI x), some (.ml ((bitsTo x k).map .int)), some (vI k)] ∧ k ≤ n ∧ x / 2 ^ k ≤ 0)
    (by
      rintro m ρ ⟨k, hk, rfl, rfl⟩
      by_cases hp : 0 < x / 2 ^ k
      · have hkn : k < n := Classical.byContradiction fun q => by
          have : k = n := by omega
          subst this
          rw [Int.ediv_eq_zero_of_lt hx.1 hx.2] at hp
          omega
        have hlen := bitsTo_len x k
        have hl2 : (bitsTo x k).length ≤ 100000 := by omega
        refine .inr ⟨[some (vI x), some (.ml ((bitsTo x k).map .int)), some (vI k)], [some (vI x), some (.ml ((bitsTo x (k + 1)).map .int)), some (vI ((k + 1 : Nat) : Int))], n - (k + 1), ?_, .inl ?_, by omega, k + 1, hkn, rfl, rfl⟩
        · simp [specOf, outs, sSeq_ev, sSet, sRet, sRetN, sIf, sDrop, sRaise, sNext, sBrk, sCnt, sSetItem, sAug, augO, setItemO, setO_val, retO_val, bind_ok, bind_exc, bind_stk, bindS_ok, bindS_exc, bindS_stk, ret_some, look_val, look_brw, fC_ev, fV, bin, una, chain, tBo, tTr, tNotV, tAndV, tOrV, fAnd, fOr, fNot, fIf, boO_ev, trO, tru, aNil_ev, aCons, cT_ev, callB, looks, g1, frz1_dat, frz1_ml, bN_ev, fTup, fLst, mkT, mkL, frzL, iE, seqO, iR1, iR2, rg1, rg2, gAdd, gMul, gSub, gFDiv, gMod, gPow, gShl, gShr, gAnd, gOr, gXor, gLt, gLe, gGt, gGe, gAddI, gMulI, gU, gIx, gLen, gInt, gAbs, gList, gTuple, iop, tt2, orG, viewD, asL, asT, fApp, appO, isMl, fExt, extO, fSl, pNo, pSo, gSl, L2.atI, L2.ixN, gd, gEq_int, gNe_int, gEq_str, gNe_str, gNe_mlI, gEq_mlI, gNe_tupI, gEq_tupI, hp]
        · rw [bitsTo_succ]
          by_cases hb : x / 2 ^ k % 2 = 1
          · have h0 : ¬ PySem.Builtin.bitAnd (x / 2 ^ k) 1 = 0 := fun z => and_one.mp z hb
            simp [specOf, outs, sSeq_ev, sSet, sRet, sRetN, sIf, sDrop, sRaise, sNext, sBrk, sCnt, sSetItem, sAug, augO, setItemO, setO_val, retO_val, bind_ok, bind_exc, bind_stk, bindS_ok, bindS_exc, bindS_stk, ret_some, look_val, look_brw, fC_ev, fV, bin, una, chain, tBo, tTr, tNotV, tAndV, tOrV, fAnd, fOr, fNot, fIf, boO_ev, trO, tru, aNil_ev, aCons, cT_ev, callB, looks, g1, frz1_dat, frz1_ml, bN_ev, fTup, fLst, mkT, mkL, frzL, iE, seqO, iR1, iR2, rg1, rg2, gAdd, gMul, gSub, gFDiv, gMod, gPow, gShl, gShr, gAnd, gOr, gXor, gLt, gLe, gGt, gGe, gAddI, gMulI, gU, gIx, gLen, gInt, gAbs, gList, gTuple, iop, tt2, orG, viewD, asL, asT, fApp, appO, isMl, fExt, extO, fSl, pNo, pSo, gSl, L2.atI, L2.ixN, gd, gEq_int, gNe_int, gEq_str, gNe_str, gNe_mlI, gEq_mlI, gNe_tupI, gEq_tupI, h0, hb, hl2]
          · have h0 : PySem.Builtin.bitAnd (x / 2 ^ k) 1 = 0 := and_one.mpr hb
            simp [specOf, outs, sSeq_ev, sSet, sRet, sRetN, sIf, sDrop, sRaise, sNext, sBrk, sCnt, sSetItem, sAug, augO, setItemO, setO_val, retO_val, bind_ok, bind_exc, bind_stk, bindS_ok, bindS_exc, bindS_stk, ret_some, look_val, look_brw, fC_ev, fV, bin, una, chain, tBo, tTr, tNotV, tAndV, tOrV, fAnd, fOr, fNot, fIf, boO_ev, trO, tru, aNil_ev, aCons, cT_ev, callB, looks, g1, frz1_dat, frz1_ml, bN_ev, fTup, fLst, mkT, mkL, frzL, iE, seqO, iR1, iR2, rg1, rg2, gAdd, gMul, gSub, gFDiv, gMod, gPow, gShl, gShr, gAnd, gOr, gXor, gLt, gLe, gGt, gGe, gAddI, gMulI, gU, gIx, gLen, gInt, gAbs, gList, gTuple, iop, tt2, orG, viewD, asL, asT, fApp, appO, isMl, fExt, extO, fSl, pNo, pSo, gSl, L2.atI, L2.ixN, gd, gEq_int, gNe_int, gEq_str, gNe_str, gNe_mlI, gEq_mlI, gNe_tupI, gEq_tupI, h0, hb, hl2]
      · refine .inl ⟨[some (vI x), some (.ml ((bitsTo x k).map .int)), some (vI k)], ?_, k, rfl, hk, by omega⟩
        simp [specOf, outs, sSeq_ev, sSet, sRet, sRetN, sIf, sDrop, sRaise, sNext, sBrk, sCnt, sSetItem, sAug, augO, setItemO, setO_val, retO_val, bind_ok, bind_exc, bind_stk, bindS_ok, bindS_exc, bindS_stk, ret_some, look_val, look_brw, fC_ev, fV, bin, una, chain, tBo, tTr, tNotV, tAndV, tOrV, fAnd, fOr, fNot, fIf, boO_ev, trO, tru, aNil_ev, aCons, cT_ev, callB, looks, g1, frz1_dat, frz1_ml, bN_ev, fTup, fLst, mkT, mkL, frzL, iE, seqO, iR1, iR2, rg1, rg2, gAdd, gMul, gSub, gFDiv, gMod, gPow, gShl, gShr, gAnd, gOr, gXor, gLt, gLe, gGt, gGe, gAddI, gMulI, gU, gIx, gLen, gInt, gAbs, gList, gTuple, iop, tt2, orG, viewD, asL, asT, fApp, appO, isMl, fExt, extO, fSl, pNo, pSo, gSl, L2.atI, L2.ixN, gd, gEq_int, gNe_int, gEq_str, gNe_str, gNe_mlI, gEq_mlI, gNe_tupI, gEq_tupI, hp])
    (m := n - 0) (ρ := [some (vI x), some (.ml []), some (vI 0)]) ⟨0, Nat.zero_le _, rfl, rfl⟩
  refine ⟨bitsTo x k, ?_, by have := bitsTo_len x k; omega, fun j => ?_⟩
  · unfold S_things_in F_things_in
    revert e1
    generalize sWh (tBo (bin gGt (bin gShr (fV 0) (fV 2)) (fC (.int 0)))) _ = F1
    intro e1
    simp [specOf, outs, sSeq_ev, sSet, sRet, sRetN, sIf, sDrop, sRaise, sNext, sBrk, sCnt, sSetItem, sAug, augO, setItemO, setO_val, retO_val, bind_ok, bind_exc, bind_stk, bindS_ok, bindS_exc, bindS_stk, ret_some, look_val, look_brw, fC_ev, fV, bin, una, chain, tBo, tTr, tNotV, tAndV, tOrV, fAnd, fOr, fNot, fIf, boO_ev, trO, tru, aNil_ev, aCons, cT_ev, callB, looks, g1, frz1_dat, frz1_ml, bN_ev, fTup, fLst, mkT, mkL, frzL, iE, seqO, iR1, iR2, rg1, rg2, gAdd, gMul, gSub, gFDiv, gMod, gPow, gShl, gShr, gAnd, gOr, gXor, gLt, gLe, gGt, gGe, gAddI, gMulI, gU, gIx, gLen, gInt, gAbs, gList, gTuple, iop, tt2, orG, viewD, asL, asT, fApp, appO, isMl, fExt, extO, fSl, pNo, pSo, gSl, L2.atI, L2.ixN, gd, gEq_int, gNe_int, gEq_str, gNe_str, gNe_mlI, gEq_mlI, gNe_tupI, gEq_tupI, e1, retO, own, List.replicate]
  · rw [mem_bitsTo]
    have hu : U k x := ⟨hx.1, by
      have p : (0 : Int) < 2 ^ k := Int.pow_pos (by decide)
      have e := Int.emod_add_mul_ediv x (2 ^ k)
      have l := Int.emod_lt_of_pos x p
      have q := hx.1
      have z : x / 2 ^ k = 0 := Int.le_antisymm hz (Int.ediv_nonneg q (Int.le_of_lt p))
      rw [z] at e
      simp at e
      omega⟩
    constructor
    · rintro ⟨t, _, h, e⟩; exact ⟨t, h, e⟩
    · rintro ⟨t, h, e⟩
      exact ⟨t, Classical.byContradiction fun q => bt_high k t x hu (by omega) h, h, e⟩
end K08
end
section
set_option Elab.async false
set_option linter.all false
set_option maxRecDepth 100000
set_option maxHeartbeats 4000000
namespace K08
open Mi Fm
open PySem (PyData)
theorem cross_len {n : Nat} (F : List Int) : (crossOf n F).length ≤ 2 ^ n := by
  unfold crossOf leastOf trs
  refine Nat.le_trans (List.length_filter_le _ _) (Nat.le_trans (List.length_filter_le _ _) ?_)
  unfold allOf
  simp
theorem u_cross {n : Nat} {F : List Int} : ∀ x ∈ crossOf n F, U n x := fun x hx => (mem_trs.mp (mem_least.mp hx).1).1
theorem asc_cross {n : Nat} {F : List Int} : Asc (crossOf n F) := asc_least asc_trs
noncomputable abbrev C1 : FS := sIf (tBo (bin gNe (bin gAnd (fV 4) (fV 2)) (fC (.int 0)))) (sDrop (fApp 3 (fV 4))) (sDrop (fExt 3 (fComp [5] (iE (fCall [false] S_things_in (aCons (fV 2) aNil))) (bN 5) cT (bin gOr (fV 4) (bin gShl (fC (.int 1)) (fV 5))))))
theorem row_ev (n : Nat) (hn : n ≤ 8) (e : Int) (he : U n e) (x0 x1 : Option Vl) (rows : List Int) (hl : rows.length ≤ 4000) (row : Int) (x5 : Option Vl) :
    ∃ rows' : List Int, C1 [x0, x1, some (vI e), some (.ml (rows.map .int)), some (vI row), x5] = .nx [x0, x1, some (vI e), some (.ml (rows'.map .int)), some (vI row), x5] ∧ rows'.length ≤ rows.length + 8 ∧
      ∀ x, x ∈ rows' ↔ x ∈ rows ∨ (Meet row e ∧ x = row) ∨ (¬ Meet row e ∧ ∃ t : Nat, bt e t ∧ x = PySem.Builtin.bitOr row (2 ^ t)) := by
  obtain ⟨bs, eb, hbl, hb⟩ := things_ev n hn e he
  have hit : iE (fCall [false] S_things_in (aCons (fV 2) aNil)) [x0, x1, some (vI e), some (.ml (rows.map .int)), some (vI row), x5] = .ok (bs.map .int) [x0, x1, some (vI e), some (.ml (rows.map .int)), some (vI row), x5] := by
    have := fCall1 (spec := S_things_in) (f := fV 2) (ρ := [x0, x1, some (vI e), some (.ml (rows.map .int)), some (vI row), x5]) (w := vI e) rfl rfl eb rfl
    unfold iE
    rw [this]
    simp [bind_ok, seqO, frz1_ml]
  have pw : ∀ j ∈ bs, L2.CPow 1 j := fun j hj => by
    obtain ⟨t, ht, rfl⟩ := (hb j).mp hj
    have : t < n := Classical.byContradiction fun q => bt_high n t e he (by omega) ht
    exact ⟨by omega, by omega, by decide⟩
  have hc := fComp_map (vs := [5]) (fi := iE (fCall [false] S_things_in (aCons (fV 2) aNil))) (b := bN 5) (e := bin gOr (fV 4) (bin gShl (fC (.int 1)) (fV 5))) (ι := PyData.int) (g := fun j => .int (PySem.Builtin.bitOr row (2 ^ j.toNat))) bs hit (by omega) (fun j hj => by
    refine ⟨[x0, x1, some (vI e), some (.ml (rows.map .int)), some (vI row), some (vI j)], vI (PySem.Builtin.bitOr row (2 ^ j.toNat)), rfl, rfl, ?_, rfl⟩
    simp [specOf, outs, sSeq_ev, sSet, sRet, sRetN, sIf, sDrop, sRaise, sNext, sBrk, sCnt, sSetItem, sAug, augO, setItemO, setO_val, retO_val, bind_ok, bind_exc, bind_stk, bindS_ok, bindS_exc, bindS_stk, ret_some, look_val, look_brw, fC_ev, fV, bin, una, chain, tBo, tTr, tNotV, tAndV, tOrV, fAnd, fOr, fNot, fIf, boO_ev, trO, tru, aNil_ev, aCons, cT_ev, callB, looks, g1, frz1_dat, frz1_ml, bN_ev, fTup, fLst, mkT, mkL, frzL, iE, seqO, iR1, iR2, rg1, rg2, gAdd, gMul, gSub, gFDiv, gMod, gPow, gShl, gShr, gAnd, gOr, gXor, gLt, gLe, gGt, gGe, gAddI, gMulI, gU, gIx, gLen, gInt, gAbs, gList, gTuple, iop, tt2, orG, viewD, asL, asT, fApp, appO, isMl, fExt, extO, fSl, pNo, pSo, gSl, L2.atI, L2.ixN, gd, gEq_int, gNe_int, gEq_str, gNe_str, gNe_mlI, gEq_mlI, gNe_tupI, gEq_tupI, pw j hj])
  have e2 : (bs.map fun j => PyData.int (PySem.Builtin.bitOr row (2 ^ j.toNat))) = (bs.map fun j : Int => PySem.Builtin.bitOr row (2 ^ j.toNat)).map .int := by rw [List.map_map]; rfl
  rw [e2] at hc
  by_cases hm : PySem.Builtin.bitAnd row e = 0
  · have hM : ¬ Meet row e := fun z => meet_iff.mpr z hm
    refine ⟨rows ++ bs.map fun j : Int => PySem.Builtin.bitOr row (2 ^ j.toNat), ?_, by simp; omega, fun x => ?_⟩
    · unfold C1
      revert hc
      generalize fComp [5] _ (bN 5) cT _ = F1
      intro hc
      have : rows.length + bs.length ≤ 100000 := by omega
      simp [specOf, outs, sSeq_ev, sSet, sRet, sRetN, sIf, sDrop, sRaise, sNext, sBrk, sCnt, sSetItem, sAug, augO, setItemO, setO_val, retO_val, bind_ok, bind_exc, bind_stk, bindS_ok, bindS_exc, bindS_stk, ret_some, look_val, look_brw, fC_ev, fV, bin, una, chain, tBo, tTr, tNotV, tAndV, tOrV, fAnd, fOr, fNot, fIf, boO_ev, trO, tru, aNil_ev, aCons, cT_ev, callB, looks, g1, frz1_dat, frz1_ml, bN_ev, fTup, fLst, mkT, mkL, frzL, iE, seqO, iR1, iR2, rg1, rg2, gAdd, gMul, gSub, gFDiv, gMod, gPow, gShl, gShr, gAnd, gOr, gXor, gLt, gLe, gGt, gGe, gAddI, gMulI, gU, gIx, gLen, gInt, gAbs, gList, gTuple, iop, tt2, orG, viewD, asL, asT, fApp, appO, isMl, fExt, extO, fSl, pNo, pSo, gSl, L2.atI, L2.ixN, gd, gEq_int, gNe_int, gEq_str, gNe_str, gNe_mlI, gEq_mlI, gNe_tupI, gEq_tupI, hm, hc, this]
    · rw [List.mem_append, List.mem_map]
      refine or_congr Iff.rfl ?_
      constructor
      · rintro ⟨j, hj, rfl⟩
        obtain ⟨t, ht, rfl⟩ := (hb j).mp hj
        exact .inr ⟨hM, t, ht, by simp⟩
      · rintro (⟨h, _⟩ | ⟨_, t, ht, rfl⟩)
        · exact (hM h).elim
        · exact ⟨(t : Int), (hb t).mpr ⟨t, ht, rfl⟩, by simp⟩
  · have hM : Meet row e := meet_iff.mp hm
    refine ⟨rows ++ [row], ?_, by simp, fun x => ?_⟩
    · unfold C1
      have : rows.length ≤ 100000 := by omega
      simp [specOf, outs, sSeq_ev, sSet, sRet, sRetN, sIf, sDrop, sRaise, sNext, sBrk, sCnt, sSetItem, sAug, augO, setItemO, setO_val, retO_val, bind_ok, bind_exc, bind_stk, bindS_ok, bindS_exc, bindS_stk, ret_some, look_val, look_brw, fC_ev, fV, bin, una, chain, tBo, tTr, tNotV, tAndV, tOrV, fAnd, fOr, fNot, fIf, boO_ev, trO, tru, aNil_ev, aCons, cT_ev, callB, looks, g1, frz1_dat, frz1_ml, bN_ev, fTup, fLst, mkT, mkL, frzL, iE, seqO, iR1, iR2, rg1, rg2, gAdd, gMul, gSub, gFDiv, gMod, gPow, gShl, gShr, gAnd, gOr, gXor, gLt, gLe, gGt, gGe, gAddI, gMulI, gU, gIx, gLen, gInt, gAbs, gList, gTuple, iop, tt2, orG, viewD, asL, asT, fApp, appO, isMl, fExt, extO, fSl, pNo, pSo, gSl, L2.atI, L2.ixN, gd, gEq_int, gNe_int, gEq_str, gNe_str, gNe_mlI, gEq_mlI, gNe_tupI, gEq_tupI, hm, this]
    · rw [List.mem_append, List.mem_singleton]
      refine or_congr Iff.rfl ?_
      exact ⟨fun h => .inl ⟨hM, h⟩, fun h => h.elim (fun h => h.2) fun h => (h.1 hM).elim⟩
noncomputable abbrev C2 : FS := sSeq (sSet 3 (fLst aNil)) (sSeq (sFor (iE (fV 1)) (bN 4) C1) (sSet 1 (fCall [false] S_least_of (aCons (fV 3) aNil))))
theorem take_succ_mem {α : Type} {l : List α} {k : Nat} {d x : α} (h : l[k]? = some d) : x ∈ l.take (k + 1) ↔ x ∈ l.take k ∨ x = d := by
  rw [List.take_add_one, h]
  simp
theorem noLs_ints : ∀ ns : List Int, noLs (ns.map .int) = true
  | [] => rfl
  | n :: ns => by
    show (noL (.int n) && noLs (ns.map .int)) = true
    rw [noLs_ints ns]
    rfl
theorem clean_tI (ns : List Int) : clean (tI ns) = true := noLs_ints ns
theorem one_ev (n : Nat) (hn : n ≤ 8) (F : List Int) (hF : ∀ s ∈ F, U n s) (e : Int) (he : U n e) (x0 x3 x4 x5 : Option Vl) :
    ∃ y3 y4 y5, C2 [x0, some (tI (crossOf n F)), some (vI e), x3, x4, x5] = .nx [x0, some (tI (crossOf n (F ++ [e]))), some (vI e), y3, y4, y5] := by
  have h256 : (2 : Nat) ^ n ≤ 256 := Nat.le_trans (Nat.pow_le_pow_right (by decide) hn) (by decide)
  have hcl := cross_len (n := n) F
  obtain ⟨ρ', e1, rows, y4, rfl, hl, hm⟩ := forL_all (b := bN 4) (body := C1) (ds := (crossOf n F).map .int) (ρ := [x0, some (tI (crossOf n F)), some (vI e), some (.ml []), x4, x5])
    (fun k ρ => ∃ (rows : List Int) (y4 : Option Vl), ρ = [x0, some (tI (crossOf n F)), some (vI e), some (.ml (rows.map .int)), y4, x5] ∧ rows.length ≤ 8 * k ∧
      ∀ x, x ∈ rows ↔ ∃ r ∈ (crossOf n F).take k, (Meet r e ∧ x = r) ∨ (¬ Meet r e ∧ ∃ t : Nat, bt e t ∧ x = PySem.Builtin.bitOr r (2 ^ t)))
    ⟨[], x4, rfl, by simp, fun x => by simp⟩ (by
      rintro k d ρ hd ⟨rows, y4, rfl, hl, hm⟩
      rw [List.getElem?_map] at hd
      obtain ⟨row, hr, rfl⟩ := Option.map_eq_some_iff.mp hd
      have hk := (List.getElem?_eq_some_iff.mp hr).1
      obtain ⟨rows', e2, hl2, hm2⟩ := row_ev n hn e he x0 (some (tI (crossOf n F))) rows (by omega) row x5
      refine ⟨_, _, rfl, .inl e2, rows', some (vI row), rfl, by omega, fun x => ?_⟩
      rw [hm2, hm]
      constructor
      · rintro (⟨r, h1, h2⟩ | h)
        · exact ⟨r, (take_succ_mem hr).mpr (.inl h1), h2⟩
        · exact ⟨row, (take_succ_mem hr).mpr (.inr rfl), h⟩
      · rintro ⟨r, h1, h2⟩
        rcases (take_succ_mem hr).mp h1 with h1 | rfl
        · exact .inl ⟨r, h1, h2⟩
        · exact .inr h2)
  rw [List.length_map] at hl hm
  rw [List.take_length] at hm
  have e3 : sFor (iE (fV 1)) (bN 4) C1 [x0, some (tI (crossOf n F)), some (vI e), some (.ml []), x4, x5] = .nx [x0, some (tI (crossOf n F)), some (vI e), some (.ml (rows.map .int)), y4, x5] := by
    rw [← e1]
    exact sFor_ev (by simp [specOf, outs, sSeq_ev, sSet, sRet, sRetN, sIf, sDrop, sRaise, sNext, sBrk, sCnt, sSetItem, sAug, augO, setItemO, setO_val, retO_val, bind_ok, bind_exc, bind_stk, bindS_ok, bindS_exc, bindS_stk, ret_some, look_val, look_brw, fC_ev, fV, bin, una, chain, tBo, tTr, tNotV, tAndV, tOrV, fAnd, fOr, fNot, fIf, boO_ev, trO, tru, aNil_ev, aCons, cT_ev, callB, looks, g1, frz1_dat, frz1_ml, bN_ev, fTup, fLst, mkT, mkL, frzL, iE, seqO, iR1, iR2, rg1, rg2, gAdd, gMul, gSub, gFDiv, gMod, gPow, gShl, gShr, gAnd, gOr, gXor, gLt, gLe, gGt, gGe, gAddI, gMulI, gU, gIx, gLen, gInt, gAbs, gList, gTuple, iop, tt2, orG, viewD, asL, asT, fApp, appO, isMl, fExt, extO, fSl, pNo, pSo, gSl, L2.atI, L2.ixN, gd, gEq_int, gNe_int, gEq_str, gNe_str, gNe_mlI, gEq_mlI, gNe_tupI, gEq_tupI])
  have hcs : leastOf (sortSet rows) = crossOf n (F ++ [e]) := cross_step asc_sortSet he hF fun x => by rw [mem_sortSet]; exact hm x
  have e4 : fCall [false] S_least_of (aCons (fV 3) aNil) [x0, some (tI (crossOf n F)), some (vI e), some (.ml (rows.map .int)), y4, x5] = .ok (.val (tI (crossOf n (F ++ [e])))) [x0, some (tI (crossOf n F)), some (vI e), some (.ml (rows.map .int)), y4, x5] := by
    rw [← hcs]
    obtain ⟨x, hx⟩ : ∃ x, [x] = [(none : Option Vl)] := ⟨none, rfl⟩
    have := least_ev (ns := rows) (.inr rfl) (by omega)
    simp [fCall, aCons, aNil, fV, bind_ok, ioC, argW, look, viewD, this, noBor, setIO]
    exact ⟨clean_tI _, rfl⟩
  refine ⟨some (.ml (rows.map .int)), y4, x5, ?_⟩
  unfold C2
  revert e3 e4
  generalize sFor (iE (fV 1)) (bN 4) C1 = F1
  generalize fCall [false] S_least_of (aCons (fV 3) aNil) = F2
  intro e3 e4
  simp [specOf, outs, sSeq_ev, sSet, sRet, sRetN, sIf, sDrop, sRaise, sNext, sBrk, sCnt, sSetItem, sAug, augO, setItemO, setO_val, retO_val, bind_ok, bind_exc, bind_stk, bindS_ok, bindS_exc, bindS_stk, ret_some, look_val, look_brw, fC_ev, fV, bin, una, chain, tBo, tTr, tNotV, tAndV, tOrV, fAnd, fOr, fNot, fIf, boO_ev, trO, tru, aNil_ev, aCons, cT_ev, callB, looks, g1, frz1_dat, frz1_ml, bN_ev, fTup, fLst, mkT, mkL, frzL, iE, seqO, iR1, iR2, rg1, rg2, gAdd, gMul, gSub, gFDiv, gMod, gPow, gShl, gShr, gAnd, gOr, gXor, gLt, gLe, gGt, gGe, gAddI, gMulI, gU, gIx, gLen, gInt, gAbs, gList, gTuple, iop, tt2, orG, viewD, asL, asT, fApp, appO, isMl, fExt, extO, fSl, pNo, pSo, gSl, L2.atI, L2.ixN, gd, gEq_int, gNe_int, gEq_str, gNe_str, gNe_mlI, gEq_mlI, gNe_tupI, gEq_tupI, e3, e4]
theorem crossing_of_ev (n : Nat) (hn : n ≤ 8) (ns : List Int) (hU : ∀ s ∈ ns, U n s) {d : PyData} (hd : d = .tuple (ns.map .int) ∨ d = .list (ns.map .int)) : S_crossing_of [.dat d] = .ok (tI (crossOf n ns)) [none] := by
  have hit : iE (fV 0) [some (.dat d), some (tI [0]), none, none, none, none] = .ok (ns.map .int) [some (.dat d), some (tI [0]), none, none, none, none] := by
    rcases hd with rfl | rfl <;> simp [specOf, outs, sSeq_ev, sSet, sRet, sRetN, sIf, sDrop, sRaise, sNext, sBrk, sCnt, sSetItem, sAug, augO, setItemO, setO_val, retO_val, bind_ok, bind_exc, bind_stk, bindS_ok, bindS_exc, bindS_stk, ret_some, look_val, look_brw, fC_ev, fV, bin, una, chain, tBo, tTr, tNotV, tAndV, tOrV, fAnd, fOr, fNot, fIf, boO_ev, trO, tru, aNil_ev, aCons, cT_ev, callB, looks, g1, frz1_dat, frz1_ml, bN_ev, fTup, fLst, mkT, mkL, frzL, iE, seqO, iR1, iR2, rg1, rg2, gAdd, gMul, gSub, gFDiv, gMod, gPow, gShl, gShr, gAnd, gOr, gXor, gLt, gLe, gGt, gGe, gAddI, gMulI, gU, gIx, gLen, gInt, gAbs, gList, gTuple, iop, tt2, orG, viewD, asL, asT, fApp, appO, isMl, fExt, extO, fSl, pNo, pSo, gSl, L2.atI, L2.ixN, gd, gEq_int, gNe_int, gEq_str, gNe_str, gNe_mlI, gEq_mlI, gNe_tupI, gEq_tupI]
  obtain ⟨ρ', e1, y2, y3, y4, y5, rfl⟩ := forL_all (b := bN 2) (body := C2) (ds := ns.map .int) (ρ := [some (.dat d), some (tI [0]), none, none, none, none])
    (fun k ρ => ∃ y2 y3 y4 y5, ρ = [some (.dat d), some (tI (crossOf n (ns.take k))), y2, y3, y4, y5])
    ⟨none, none, none, none, by rw [List.take_zero, cross_nil]⟩ (by
      rintro k d2 ρ hd2 ⟨y2, y3, y4, y5, rfl⟩
      rw [List.getElem?_map] at hd2
      obtain ⟨e, hr, rfl⟩ := Option.map_eq_some_iff.mp hd2
      obtain ⟨z3, z4, z5, h⟩ := one_ev n hn (ns.take k) (fun s hs => hU s (List.mem_of_mem_take hs)) e (hU e (List.mem_of_getElem? hr)) (some (.dat d)) y3 y4 y5
      refine ⟨_, _, rfl, .inl h, some (vI e), z3, z4, z5, ?_⟩
      rw [List.take_add_one, hr]
      rfl)
  rw [List.length_map, List.take_length] at e1
  have e3 : sFor (iE (fV 0)) (bN 2) C2 [some (.dat d), some (tI [0]), none, none, none, none] = _ := (sFor_ev hit).trans e1
  unfold S_crossing_of F_crossing_of
  revert e3
  generalize sFor (iE (fV 0)) (bN 2) _ = F1
  intro e3
  have e4 : F1 [some (.dat d), some (.dat (.tuple [.int 0])), none, none, none, none] = .nx [some (.dat d), some (tI (crossOf n ns)), y2, y3, y4, y5] := e3
  simp [specOf, outs, sSeq_ev, sSet, sRet, sRetN, sIf, sDrop, sRaise, sNext, sBrk, sCnt, sSetItem, sAug, augO, setItemO, setO_val, retO_val, bind_ok, bind_exc, bind_stk, bindS_ok, bindS_exc, bindS_stk, ret_some, look_val, look_brw, fC_ev, fV, bin, una, chain, tBo, tTr, tNotV, tAndV, tOrV, fAnd, fOr, fNot, fIf, boO_ev, trO, tru, aNil_ev, aCons, cT_ev, callB, looks, g1, frz1_dat, frz1_ml, bN_ev, fTup, fLst, mkT, mkL, frzL, iE, seqO, iR1, iR2, rg1, rg2, gAdd, gMul, gSub, gFDiv, gMod, gPow, gShl, gShr, gAnd, gOr, gXor, gLt, gLe, gGt, gGe, gAddI, gMulI, gU, gIx, gLen, gInt, gAbs, gList, gTuple, iop, tt2, orG, viewD, asL, asT, fApp, appO, isMl, fExt, extO, fSl, pNo, pSo, gSl, L2.atI, L2.ixN, gd, gEq_int, gNe_int, gEq_str, gNe_str, gNe_mlI, gEq_mlI, gNe_tupI, gEq_tupI, e4, retO, own, List.replicate]
end K08
end
section
set_option Elab.async false
set_option linter.all false
set_option maxRecDepth 100000
set_option maxHeartbeats 4000000
namespace K08
open Mi Fm
open PySem (PyData)
theorem fV_set {ρ : Rho} {v : Nat} {d : PyData} (hv : v < ρ.length) : fV v (ρ.set v (some (.dat d))) = .ok (.val (.dat d)) (ρ.set v (some (.dat d))) := fV_dat (List.getElem?_set_self hv)
theorem wipe1 {ρ : Rho} {v : Nat} : wipeR ρ [v] = ρ.set v none := rfl
/-- any([t & ~one == 0 for t in T]) -/
theorem any_sub {ρ : Rho} {v a o : Nat} {T : List Int} {one : Int} (hl : T.length ≤ 100000) (ha : fV a ρ = .ok (.val (tI T)) ρ) (ho : ∀ j, fV o (ρ.set v (some (vI j))) = .ok (.val (vI one)) (ρ.set v (some (vI j)))) (hv : v < ρ.length) :
    callB (g1 gAny) (aCons (fComp [v] (iE (fV a)) (bN v) cT (bin gEq (bin gAnd (fV v) (una (gU PySem.Builtin.bitNot) (fV o))) (fC (.int 0)))) aNil) ρ = .ok (.val (vB (isT T one))) ρ := by
  have hc := fComp_map (vs := [v]) (fi := iE (fV a)) (b := bN v) (e := bin gEq (bin gAnd (fV v) (una (gU PySem.Builtin.bitNot) (fV o))) (fC (.int 0))) (ι := PyData.int) (g := fun t => .bool (inB t one)) (ρ := ρ) (ρ1 := ρ) T (by unfold iE; rw [ha]; simp [bind_ok, seqO, frz1_dat]) hl (fun t _ => by
    refine ⟨ρ.set v (some (vI t)), vB (inB t one), by rw [bN_ev, wipe1, List.set_set], by rw [wipe1, wipe1, List.set_set], ?_, rfl⟩
    have h1 := fV_set (d := .int t) hv
    by_cases h2 : PySem.Builtin.bitAnd t (PySem.Builtin.bitNot one) = 0 <;> simp [bin, una, bind_ok, h1, ho, look_val, gU, iop, gAnd, tt2, gd, fC_ev, gEq_int, ret_some, inB, h2])
  unfold callB aCons
  rw [hc]
  simp [specOf, outs, sSeq_ev, sSet, sRet, sRetN, sIf, sDrop, sRaise, sNext, sBrk, sCnt, sSetItem, sAug, augO, setItemO, setO_val, retO_val, bind_ok, bind_exc, bind_stk, bindS_ok, bindS_exc, bindS_stk, ret_some, look_val, look_brw, fC_ev, fV, bin, una, chain, tBo, tTr, tNotV, tAndV, tOrV, fAnd, fOr, fNot, fIf, boO_ev, trO, tru, aNil_ev, aCons, cT_ev, callB, looks, g1, frz1_dat, frz1_ml, bN_ev, fTup, fLst, mkT, mkL, frzL, iE, seqO, iR1, iR2, rg1, rg2, gAdd, gMul, gSub, gFDiv, gMod, gPow, gShl, gShr, gAnd, gOr, gXor, gLt, gLe, gGt, gGe, gAddI, gMulI, gU, gIx, gLen, gInt, gAbs, gList, gTuple, iop, tt2, orG, viewD, asL, asT, fApp, appO, isMl, fExt, extO, fSl, pNo, pSo, gSl, L2.atI, L2.ixN, gd, gEq_int, gNe_int, gEq_str, gNe_str, gNe_mlI, gEq_mlI, gNe_tupI, gEq_tupI, gAny_map, isT]
/-- any([one & ~t == 0 for t in T]) -/
theorem any_sup {ρ : Rho} {v a o : Nat} {T : List Int} {one : Int} (hl : T.length ≤ 100000) (ha : fV a ρ = .ok (.val (tI T)) ρ) (ho : ∀ j, fV o (ρ.set v (some (vI j))) = .ok (.val (vI one)) (ρ.set v (some (vI j)))) (hv : v < ρ.length) :
    callB (g1 gAny) (aCons (fComp [v] (iE (fV a)) (bN v) cT (bin gEq (bin gAnd (fV o) (una (gU PySem.Builtin.bitNot) (fV v))) (fC (.int 0)))) aNil) ρ = .ok (.val (vB (T.any fun t => inB one t))) ρ := by
  have hc := fComp_map (vs := [v]) (fi := iE (fV a)) (b := bN v) (e := bin gEq (bin gAnd (fV o) (una (gU PySem.Builtin.bitNot) (fV v))) (fC (.int 0))) (ι := PyData.int) (g := fun t => .bool (inB one t)) (ρ := ρ) (ρ1 := ρ) T (by unfold iE; rw [ha]; simp [bind_ok, seqO, frz1_dat]) hl (fun t _ => by
    refine ⟨ρ.set v (some (vI t)), vB (inB one t), by rw [bN_ev, wipe1, List.set_set], by rw [wipe1, wipe1, List.set_set], ?_, rfl⟩
    have h1 := fV_set (d := .int t) hv
    by_cases h2 : PySem.Builtin.bitAnd one (PySem.Builtin.bitNot t) = 0 <;> simp [bin, una, bind_ok, h1, ho, look_val, gU, iop, gAnd, tt2, gd, fC_ev, gEq_int, ret_some, inB, h2])
  unfold callB aCons
  rw [hc]
  simp [specOf, outs, sSeq_ev, sSet, sRet, sRetN, sIf, sDrop, sRaise, sNext, sBrk, sCnt, sSetItem, sAug, augO, setItemO, setO_val, retO_val, bind_ok, bind_exc, bind_stk, bindS_ok, bindS_exc, bindS_stk, ret_some, look_val, look_brw, fC_ev, fV, bin, una, chain, tBo, tTr, tNotV, tAndV, tOrV, fAnd, fOr, fNot, fIf, boO_ev, trO, tru, aNil_ev, aCons, cT_ev, callB, looks, g1, frz1_dat, frz1_ml, bN_ev, fTup, fLst, mkT, mkL, frzL, iE, seqO, iR1, iR2, rg1, rg2, gAdd, gMul, gSub, gFDiv, gMod, gPow, gShl, gShr, gAnd, gOr, gXor, gLt, gLe, gGt, gGe, gAddI, gMulI, gU, gIx, gLen, gInt, gAbs, gList, gTuple, iop, tt2, orG, viewD, asL, asT, fApp, appO, isMl, fExt, extO, fSl, pNo, pSo, gSl, L2.atI, L2.ixN, gd, gEq_int, gNe_int, gEq_str, gNe_str, gNe_mlI, gEq_mlI, gNe_tupI, gEq_tupI, gAny_map]
/-- [whole & ~one for one in ..] -/
theorem co_comp {ρ : Rho} {fi : FI} {n : Nat} {T : List Int} (hl : T.length ≤ 100000) (hi : fi ρ = .ok (T.map .int) ρ) (h2 : ∀ j, fV 2 (ρ.set 3 (some (vI j))) = .ok (.val (vI (whole n))) (ρ.set 3 (some (vI j)))) (hv : 3 < ρ.length) :
    fComp [3] fi (bN 3) cT (bin gAnd (fV 2) (una (gU PySem.Builtin.bitNot) (fV 3))) ρ = .ok (.val (.ml ((T.map (co n)).map .int))) ρ := by
  have hc := fComp_map (vs := [3]) (fi := fi) (b := bN 3) (e := bin gAnd (fV 2) (una (gU PySem.Builtin.bitNot) (fV 3))) (ι := PyData.int) (g := fun t => .int (co n t)) (ρ := ρ) (ρ1 := ρ) T hi hl (fun t _ => by
    refine ⟨ρ.set 3 (some (vI t)), vI (co n t), by rw [bN_ev, wipe1, List.set_set], by rw [wipe1, wipe1, List.set_set], ?_, rfl⟩
    have h1 := fV_set (d := .int t) hv
    simp [bin, una, bind_ok, h1, h2, look_val, gU, iop, gAnd, tt2, gd, fC_ev, ret_some, co])
  rw [hc, List.map_map]
  rfl
abbrev okC (c : Int) : Prop := 1 ≤ c ∧ c ≤ 8
theorem pow1 {c : Int} (hc : okC c) : L2.CPow 1 c := ⟨by have := hc.1; omega, by have := hc.2; omega, by decide⟩
theorem n8 {c : Int} (hc : okC c) : c.toNat ≤ 8 := by have := hc.2; omega
theorem crossing_ev (c : Int) (ns : List Int) (hl : ns.length < 4000) : (okC c ∧ okSets c ns → S_crossing [.dat (.int c), tI ns] = .ok (tI (crossOf c.toNat ns)) [none, none]) ∧ (¬ (okC c ∧ okSets c ns) → S_crossing [.dat (.int c), tI ns] = .exc 1 [none, none]) := by
  obtain ⟨h1, h2⟩ := check_sets_ev c ns hl
  constructor
  · intro hc
    have e1 : fCall [false, false] S_check_sets (aCons (fV 0) (aCons (fV 1) aNil)) [some (.dat (.int c)), some (tI ns)] = .ok (.val (.dat .none)) [some (.dat (.int c)), some (tI ns)] := fCall2 (w := .dat (.int c)) (w2 := tI ns) rfl rfl rfl rfl (h1 hc) rfl
    have e2 : fCall [false] S_crossing_of (aCons (fV 1) aNil) [some (.dat (.int c)), some (tI ns)] = .ok (.val (tI (crossOf c.toNat ns))) [some (.dat (.int c)), some (tI ns)] := fCall1 (w := tI ns) rfl rfl (crossing_of_ev c.toNat (n8 hc.1) ns hc.2.2 (.inl rfl)) rfl
    unfold S_crossing F_crossing
    simp [specOf, outs, sSeq_ev, sSet, sRet, sRetN, sIf, sDrop, sRaise, sNext, sBrk, sCnt, sSetItem, sAug, augO, setItemO, setO_val, retO_val, bind_ok, bind_exc, bind_stk, bindS_ok, bindS_exc, bindS_stk, ret_some, look_val, look_brw, fC_ev, fV, bin, una, chain, tBo, tTr, tNotV, tAndV, tOrV, fAnd, fOr, fNot, fIf, boO_ev, trO, tru, aNil_ev, aCons, cT_ev, callB, looks, g1, frz1_dat, frz1_ml, bN_ev, fTup, fLst, mkT, mkL, frzL, iE, seqO, iR1, iR2, rg1, rg2, gAdd, gMul, gSub, gFDiv, gMod, gPow, gShl, gShr, gAnd, gOr, gXor, gLt, gLe, gGt, gGe, gAddI, gMulI, gU, gIx, gLen, gInt, gAbs, gList, gTuple, iop, tt2, orG, viewD, asL, asT, fApp, appO, isMl, fExt, extO, fSl, pNo, pSo, gSl, L2.atI, L2.ixN, gd, gEq_int, gNe_int, gEq_str, gNe_str, gNe_mlI, gEq_mlI, gNe_tupI, gEq_tupI, e1, e2]
  · intro hc
    have e1 : fCall [false, false] S_check_sets (aCons (fV 0) (aCons (fV 1) aNil)) [some (.dat (.int c)), some (tI ns)] = .exc 1 [some (.dat (.int c)), some (tI ns)] := fCall2x (w := .dat (.int c)) (w2 := tI ns) rfl rfl rfl rfl (h2 hc) rfl
    unfold S_crossing F_crossing
    simp [specOf, outs, sSeq_ev, sSet, sRet, sRetN, sIf, sDrop, sRaise, sNext, sBrk, sCnt, sSetItem, sAug, augO, setItemO, setO_val, retO_val, bind_ok, bind_exc, bind_stk, bindS_ok, bindS_exc, bindS_stk, ret_some, look_val, look_brw, fC_ev, fV, bin, una, chain, tBo, tTr, tNotV, tAndV, tOrV, fAnd, fOr, fNot, fIf, boO_ev, trO, tru, aNil_ev, aCons, cT_ev, callB, looks, g1, frz1_dat, frz1_ml, bN_ev, fTup, fLst, mkT, mkL, frzL, iE, seqO, iR1, iR2, rg1, rg2, gAdd, gMul, gSub, gFDiv, gMod, gPow, gShl, gShr, gAnd, gOr, gXor, gLt, gLe, gGt, gGe, gAddI, gMulI, gU, gIx, gLen, gInt, gAbs, gList, gTuple, iop, tt2, orG, viewD, asL, asT, fApp, appO, isMl, fExt, extO, fSl, pNo, pSo, gSl, L2.atI, L2.ixN, gd, gEq_int, gNe_int, gEq_str, gNe_str, gNe_mlI, gEq_mlI, gNe_tupI, gEq_tupI, e1]
theorem sort_co {n : Nat} {T : List Int} (hU : ∀ x ∈ T, U n x) : sortI ((crossOf n T).map (co n)) = falsesOf n T := by
  have nd : ((crossOf n T).map (co n)).Nodup := by
    have h : (crossOf n T).Pairwise (fun a b => U n a ∧ U n b ∧ a < b) := by
      have h1 : (crossOf n T).Pairwise (· < ·) := asc_cross
      refine List.Pairwise.imp_of_mem (fun {a b} ha hb h => ⟨u_cross a ha, u_cross b hb, h⟩) h1
    refine List.pairwise_map.mpr (h.imp fun {a b} ⟨ha, hb, h⟩ q => ?_)
    have := congrArg (co n) q
    rw [co_co ha, co_co hb] at this
    omega
  refine asc_eq (asc_sortI nd) asc_falses fun j => ?_
  rw [(perm_sortI _).mem_iff, mem_falses hU, List.mem_map]
  constructor
  · rintro ⟨x, hx, rfl⟩
    exact ⟨u_co n x, by rw [co_co (u_cross x hx)]; exact hx⟩
  · rintro ⟨h1, h2⟩
    exact ⟨co n j, h2, co_co h1⟩
theorem falses_of_ev (c : Int) (ns : List Int) (hc : okC c) (hU : ∀ x ∈ ns, U c.toNat x) : S_falses_of [.dat (.int c), tI ns] = .ok (tI (falsesOf c.toNat ns)) [none, none] := by
  have h256 : (2 : Nat) ^ c.toNat ≤ 256 := Nat.le_trans (Nat.pow_le_pow_right (by decide) (n8 hc)) (by decide)
  have e2 : fCall [false] S_crossing_of (aCons (fV 1) aNil) [some (.dat (.int c)), some (tI ns), some (vI (whole c.toNat)), none] = .ok (.val (tI (crossOf c.toNat ns))) [some (.dat (.int c)), some (tI ns), some (vI (whole c.toNat)), none] := fCall1 (w := tI ns) rfl rfl (crossing_of_ev c.toNat (n8 hc) ns hU (.inl rfl)) rfl
  have e3 := co_comp (n := c.toNat) (fi := iE (fCall [false] S_crossing_of (aCons (fV 1) aNil))) (ρ := [some (.dat (.int c)), some (tI ns), some (vI (whole c.toNat)), none]) (T := crossOf c.toNat ns) (by have := cross_len (n := c.toNat) ns; omega) (by
    unfold iE
    rw [e2]
    simp [bind_ok, seqO, frz1_dat]) (fun j => rfl) (by simp)
  unfold S_falses_of F_falses_of
  revert e3
  generalize fComp [3] _ (bN 3) cT _ = F1
  intro e3
  have pw := pow1 hc
  unfold whole at e3
  simp [specOf, outs, sSeq_ev, sSet, sRet, sRetN, sIf, sDrop, sRaise, sNext, sBrk, sCnt, sSetItem, sAug, augO, setItemO, setO_val, retO_val, bind_ok, bind_exc, bind_stk, bindS_ok, bindS_exc, bindS_stk, ret_some, look_val, look_brw, fC_ev, fV, bin, una, chain, tBo, tTr, tNotV, tAndV, tOrV, fAnd, fOr, fNot, fIf, boO_ev, trO, tru, aNil_ev, aCons, cT_ev, callB, looks, g1, frz1_dat, frz1_ml, bN_ev, fTup, fLst, mkT, mkL, frzL, iE, seqO, iR1, iR2, rg1, rg2, gAdd, gMul, gSub, gFDiv, gMod, gPow, gShl, gShr, gAnd, gOr, gXor, gLt, gLe, gGt, gGe, gAddI, gMulI, gU, gIx, gLen, gInt, gAbs, gList, gTuple, iop, tt2, orG, viewD, asL, asT, fApp, appO, isMl, fExt, extO, fSl, pNo, pSo, gSl, L2.atI, L2.ixN, gd, gEq_int, gNe_int, gEq_str, gNe_str, gNe_mlI, gEq_mlI, gNe_tupI, gEq_tupI, e3, pw, sorted_ml, sort_co hU, -List.map_map, retO, own, List.replicate]
theorem greatest_falses_ev (c : Int) (ns : List Int) (hl : ns.length < 4000) : (okC c ∧ okBorder c ns → S_greatest_falses [.dat (.int c), tI ns] = .ok (tI (falsesOf c.toNat ns)) [none, none]) ∧ (¬ (okC c ∧ okBorder c ns) → S_greatest_falses [.dat (.int c), tI ns] = .exc 1 [none, none]) := by
  obtain ⟨h1, h2⟩ := check_border_ev c ns hl
  constructor
  · intro hc
    have e1 : fCall [false, false] S_check_border (aCons (fV 0) (aCons (fV 1) aNil)) [some (.dat (.int c)), some (tI ns)] = .ok (.val (.dat .none)) [some (.dat (.int c)), some (tI ns)] := fCall2 (w := .dat (.int c)) (w2 := tI ns) rfl rfl rfl rfl (h1 hc) rfl
    have e2 : fCall [false, false] S_falses_of (aCons (fV 0) (aCons (fV 1) aNil)) [some (.dat (.int c)), some (tI ns)] = .ok (.val (tI (falsesOf c.toNat ns))) [some (.dat (.int c)), some (tI ns)] := fCall2 (w := .dat (.int c)) (w2 := tI ns) rfl rfl rfl rfl (falses_of_ev c ns hc.1 hc.2.1.2) rfl
    unfold S_greatest_falses F_greatest_falses
    simp [specOf, outs, sSeq_ev, sSet, sRet, sRetN, sIf, sDrop, sRaise, sNext, sBrk, sCnt, sSetItem, sAug, augO, setItemO, setO_val, retO_val, bind_ok, bind_exc, bind_stk, bindS_ok, bindS_exc, bindS_stk, ret_some, look_val, look_brw, fC_ev, fV, bin, una, chain, tBo, tTr, tNotV, tAndV, tOrV, fAnd, fOr, fNot, fIf, boO_ev, trO, tru, aNil_ev, aCons, cT_ev, callB, looks, g1, frz1_dat, frz1_ml, bN_ev, fTup, fLst, mkT, mkL, frzL, iE, seqO, iR1, iR2, rg1, rg2, gAdd, gMul, gSub, gFDiv, gMod, gPow, gShl, gShr, gAnd, gOr, gXor, gLt, gLe, gGt, gGe, gAddI, gMulI, gU, gIx, gLen, gInt, gAbs, gList, gTuple, iop, tt2, orG, viewD, asL, asT, fApp, appO, isMl, fExt, extO, fSl, pNo, pSo, gSl, L2.atI, L2.ixN, gd, gEq_int, gNe_int, gEq_str, gNe_str, gNe_mlI, gEq_mlI, gNe_tupI, gEq_tupI, e1, e2]
  · intro hc
    have e1 : fCall [false, false] S_check_border (aCons (fV 0) (aCons (fV 1) aNil)) [some (.dat (.int c)), some (tI ns)] = .exc 1 [some (.dat (.int c)), some (tI ns)] := fCall2x (w := .dat (.int c)) (w2 := tI ns) rfl rfl rfl rfl (h2 hc) rfl
    unfold S_greatest_falses F_greatest_falses
    simp [specOf, outs, sSeq_ev, sSet, sRet, sRetN, sIf, sDrop, sRaise, sNext, sBrk, sCnt, sSetItem, sAug, augO, setItemO, setO_val, retO_val, bind_ok, bind_exc, bind_stk, bindS_ok, bindS_exc, bindS_stk, ret_some, look_val, look_brw, fC_ev, fV, bin, una, chain, tBo, tTr, tNotV, tAndV, tOrV, fAnd, fOr, fNot, fIf, boO_ev, trO, tru, aNil_ev, aCons, cT_ev, callB, looks, g1, frz1_dat, frz1_ml, bN_ev, fTup, fLst, mkT, mkL, frzL, iE, seqO, iR1, iR2, rg1, rg2, gAdd, gMul, gSub, gFDiv, gMod, gPow, gShl, gShr, gAnd, gOr, gXor, gLt, gLe, gGt, gGe, gAddI, gMulI, gU, gIx, gLen, gInt, gAbs, gList, gTuple, iop, tt2, orG, viewD, asL, asT, fApp, appO, isMl, fExt, extO, fSl, pNo, pSo, gSl, L2.atI, L2.ixN, gd, gEq_int, gNe_int, gEq_str, gNe_str, gNe_mlI, gEq_mlI, gNe_tupI, gEq_tupI, e1]
theorem least_trues_ev (c : Int) (ns : List Int) (hl : ns.length < 4000) : (okC c ∧ okBorder c ns → S_least_trues [.dat (.int c), tI ns] = .ok (tI (crossOf c.toNat (ns.map (co c.toNat)))) [none, none]) ∧ (¬ (okC c ∧ okBorder c ns) → S_least_trues [.dat (.int c), tI ns] = .exc 1 [none, none]) := by
  obtain ⟨h1, h2⟩ := check_border_ev c ns hl
  constructor
  · intro hc
    have e1 : fCall [false, false] S_check_border (aCons (fV 0) (aCons (fV 1) aNil)) [some (.dat (.int c)), some (tI ns), none, none] = .ok (.val (.dat .none)) [some (.dat (.int c)), some (tI ns), none, none] := fCall2 (w := .dat (.int c)) (w2 := tI ns) rfl rfl rfl rfl (h1 hc) rfl
    have e3 := co_comp (n := c.toNat) (fi := iE (fV 1)) (ρ := [some (.dat (.int c)), some (tI ns), some (vI (whole c.toNat)), none]) (T := ns) (by omega) (by
      simp [specOf, outs, sSeq_ev, sSet, sRet, sRetN, sIf, sDrop, sRaise, sNext, sBrk, sCnt, sSetItem, sAug, augO, setItemO, setO_val, retO_val, bind_ok, bind_exc, bind_stk, bindS_ok, bindS_exc, bindS_stk, ret_some, look_val, look_brw, fC_ev, fV, bin, una, chain, tBo, tTr, tNotV, tAndV, tOrV, fAnd, fOr, fNot, fIf, boO_ev, trO, tru, aNil_ev, aCons, cT_ev, callB, looks, g1, frz1_dat, frz1_ml, bN_ev, fTup, fLst, mkT, mkL, frzL, iE, seqO, iR1, iR2, rg1, rg2, gAdd, gMul, gSub, gFDiv, gMod, gPow, gShl, gShr, gAnd, gOr, gXor, gLt, gLe, gGt, gGe, gAddI, gMulI, gU, gIx, gLen, gInt, gAbs, gList, gTuple, iop, tt2, orG, viewD, asL, asT, fApp, appO, isMl, fExt, extO, fSl, pNo, pSo, gSl, L2.atI, L2.ixN, gd, gEq_int, gNe_int, gEq_str, gNe_str, gNe_mlI, gEq_mlI, gNe_tupI, gEq_tupI]) (fun j => rfl) (by simp)
    have e4 := fCall1 (spec := S_crossing_of) e3 rfl (crossing_of_ev c.toNat (n8 hc.1) (ns.map (co c.toNat)) (fun s hs => by obtain ⟨x, _, rfl⟩ := List.mem_map.mp hs; exact u_co _ x) (.inr rfl)) rfl
    unfold S_least_trues F_least_trues
    revert e4
    generalize fCall [false] S_crossing_of _ = F1
    intro e4
    have pw := pow1 hc.1
    unfold whole at e4
    simp [specOf, outs, sSeq_ev, sSet, sRet, sRetN, sIf, sDrop, sRaise, sNext, sBrk, sCnt, sSetItem, sAug, augO, setItemO, setO_val, retO_val, bind_ok, bind_exc, bind_stk, bindS_ok, bindS_exc, bindS_stk, ret_some, look_val, look_brw, fC_ev, fV, bin, una, chain, tBo, tTr, tNotV, tAndV, tOrV, fAnd, fOr, fNot, fIf, boO_ev, trO, tru, aNil_ev, aCons, cT_ev, callB, looks, g1, frz1_dat, frz1_ml, bN_ev, fTup, fLst, mkT, mkL, frzL, iE, seqO, iR1, iR2, rg1, rg2, gAdd, gMul, gSub, gFDiv, gMod, gPow, gShl, gShr, gAnd, gOr, gXor, gLt, gLe, gGt, gGe, gAddI, gMulI, gU, gIx, gLen, gInt, gAbs, gList, gTuple, iop, tt2, orG, viewD, asL, asT, fApp, appO, isMl, fExt, extO, fSl, pNo, pSo, gSl, L2.atI, L2.ixN, gd, gEq_int, gNe_int, gEq_str, gNe_str, gNe_mlI, gEq_mlI, gNe_tupI, gEq_tupI, e1, e4, pw, -List.map_map]
  · intro hc
    have e1 : fCall [false, false] S_check_border (aCons (fV 0) (aCons (fV 1) aNil)) [some (.dat (.int c)), some (tI ns), none, none] = .exc 1 [some (.dat (.int c)), some (tI ns), none, none] := fCall2x (w := .dat (.int c)) (w2 := tI ns) rfl rfl rfl rfl (h2 hc) rfl
    unfold S_least_trues F_least_trues
    simp [specOf, outs, sSeq_ev, sSet, sRet, sRetN, sIf, sDrop, sRaise, sNext, sBrk, sCnt, sSetItem, sAug, augO, setItemO, setO_val, retO_val, bind_ok, bind_exc, bind_stk, bindS_ok, bindS_exc, bindS_stk, ret_some, look_val, look_brw, fC_ev, fV, bin, una, chain, tBo, tTr, tNotV, tAndV, tOrV, fAnd, fOr, fNot, fIf, boO_ev, trO, tru, aNil_ev, aCons, cT_ev, callB, looks, g1, frz1_dat, frz1_ml, bN_ev, fTup, fLst, mkT, mkL, frzL, iE, seqO, iR1, iR2, rg1, rg2, gAdd, gMul, gSub, gFDiv, gMod, gPow, gShl, gShr, gAnd, gOr, gXor, gLt, gLe, gGt, gGe, gAddI, gMulI, gU, gIx, gLen, gInt, gAbs, gList, gTuple, iop, tt2, orG, viewD, asL, asT, fApp, appO, isMl, fExt, extO, fSl, pNo, pSo, gSl, L2.atI, L2.ixN, gd, gEq_int, gNe_int, gEq_str, gNe_str, gNe_mlI, gEq_mlI, gNe_tupI, gEq_tupI, e1]
theorem is_true_ev (c : Int) (ns : List Int) (one : Int) (hl : ns.length < 4000) : ((okC c ∧ okBorder c ns) ∧ okSets c [one] → S_is_true [.dat (.int c), tI ns, vI one] = .ok (vB (isT ns one)) [none, none, none]) ∧ (¬ ((okC c ∧ okBorder c ns) ∧ okSets c [one]) → S_is_true [.dat (.int c), tI ns, vI one] = .exc 1 [none, none, none]) := by
  obtain ⟨h1, h2⟩ := check_border_ev c ns hl
  obtain ⟨h3, h4⟩ := check_sets_ev c [one] (by simp)
  have et : fTup (aCons (fV 2) aNil) [some (.dat (.int c)), some (tI ns), some (vI one), none] = .ok (.val (tI [one])) [some (.dat (.int c)), some (tI ns), some (vI one), none] := by simp [specOf, outs, sSeq_ev, sSet, sRet, sRetN, sIf, sDrop, sRaise, sNext, sBrk, sCnt, sSetItem, sAug, augO, setItemO, setO_val, retO_val, bind_ok, bind_exc, bind_stk, bindS_ok, bindS_exc, bindS_stk, ret_some, look_val, look_brw, fC_ev, fV, bin, una, chain, tBo, tTr, tNotV, tAndV, tOrV, fAnd, fOr, fNot, fIf, boO_ev, trO, tru, aNil_ev, aCons, cT_ev, callB, looks, g1, frz1_dat, frz1_ml, bN_ev, fTup, fLst, mkT, mkL, frzL, iE, seqO, iR1, iR2, rg1, rg2, gAdd, gMul, gSub, gFDiv, gMod, gPow, gShl, gShr, gAnd, gOr, gXor, gLt, gLe, gGt, gGe, gAddI, gMulI, gU, gIx, gLen, gInt, gAbs, gList, gTuple, iop, tt2, orG, viewD, asL, asT, fApp, appO, isMl, fExt, extO, fSl, pNo, pSo, gSl, L2.atI, L2.ixN, gd, gEq_int, gNe_int, gEq_str, gNe_str, gNe_mlI, gEq_mlI, gNe_tupI, gEq_tupI]
  by_cases hc : okC c ∧ okBorder c ns
  · have e1 : fCall [false, false] S_check_border (aCons (fV 0) (aCons (fV 1) aNil)) [some (.dat (.int c)), some (tI ns), some (vI one), none] = .ok (.val (.dat .none)) [some (.dat (.int c)), some (tI ns), some (vI one), none] := fCall2 (w := .dat (.int c)) (w2 := tI ns) rfl rfl rfl rfl (h1 hc) rfl
    constructor
    · rintro ⟨_, ho⟩
      have e2 : fCall [false, false] S_check_sets (aCons (fV 0) (aCons (fTup (aCons (fV 2) aNil)) aNil)) [some (.dat (.int c)), some (tI ns), some (vI one), none] = .ok (.val (.dat .none)) [some (.dat (.int c)), some (tI ns), some (vI one), none] := fCall2 (w := .dat (.int c)) (w2 := tI [one]) rfl rfl et rfl (h3 ⟨hc.1, ho⟩) rfl
      have e3 := any_sub (ρ := [some (.dat (.int c)), some (tI ns), some (vI one), none]) (v := 3) (a := 1) (o := 2) (T := ns) (one := one) (by omega) rfl (fun j => rfl) (by simp)
      unfold S_is_true F_is_true
      revert e3
      generalize callB (g1 gAny) _ = F1
      intro e3
      simp [specOf, outs, sSeq_ev, sSet, sRet, sRetN, sIf, sDrop, sRaise, sNext, sBrk, sCnt, sSetItem, sAug, augO, setItemO, setO_val, retO_val, bind_ok, bind_exc, bind_stk, bindS_ok, bindS_exc, bindS_stk, ret_some, look_val, look_brw, fC_ev, fV, bin, una, chain, tBo, tTr, tNotV, tAndV, tOrV, fAnd, fOr, fNot, fIf, boO_ev, trO, tru, aNil_ev, aCons, cT_ev, callB, looks, g1, frz1_dat, frz1_ml, bN_ev, fTup, fLst, mkT, mkL, frzL, iE, seqO, iR1, iR2, rg1, rg2, gAdd, gMul, gSub, gFDiv, gMod, gPow, gShl, gShr, gAnd, gOr, gXor, gLt, gLe, gGt, gGe, gAddI, gMulI, gU, gIx, gLen, gInt, gAbs, gList, gTuple, iop, tt2, orG, viewD, asL, asT, fApp, appO, isMl, fExt, extO, fSl, pNo, pSo, gSl, L2.atI, L2.ixN, gd, gEq_int, gNe_int, gEq_str, gNe_str, gNe_mlI, gEq_mlI, gNe_tupI, gEq_tupI, e1, e2, e3]
    · intro hn
      have e2 : fCall [false, false] S_check_sets (aCons (fV 0) (aCons (fTup (aCons (fV 2) aNil)) aNil)) [some (.dat (.int c)), some (tI ns), some (vI one), none] = .exc 1 [some (.dat (.int c)), some (tI ns), some (vI one), none] := fCall2x (w := .dat (.int c)) (w2 := tI [one]) rfl rfl et rfl (h4 fun q => hn ⟨hc, q.2⟩) rfl
      unfold S_is_true F_is_true
      simp [specOf, outs, sSeq_ev, sSet, sRet, sRetN, sIf, sDrop, sRaise, sNext, sBrk, sCnt, sSetItem, sAug, augO, setItemO, setO_val, retO_val, bind_ok, bind_exc, bind_stk, bindS_ok, bindS_exc, bindS_stk, ret_some, look_val, look_brw, fC_ev, fV, bin, una, chain, tBo, tTr, tNotV, tAndV, tOrV, fAnd, fOr, fNot, fIf, boO_ev, trO, tru, aNil_ev, aCons, cT_ev, callB, looks, g1, frz1_dat, frz1_ml, bN_ev, fTup, fLst, mkT, mkL, frzL, iE, seqO, iR1, iR2, rg1, rg2, gAdd, gMul, gSub, gFDiv, gMod, gPow, gShl, gShr, gAnd, gOr, gXor, gLt, gLe, gGt, gGe, gAddI, gMulI, gU, gIx, gLen, gInt, gAbs, gList, gTuple, iop, tt2, orG, viewD, asL, asT, fApp, appO, isMl, fExt, extO, fSl, pNo, pSo, gSl, L2.atI, L2.ixN, gd, gEq_int, gNe_int, gEq_str, gNe_str, gNe_mlI, gEq_mlI, gNe_tupI, gEq_tupI, e1, e2]
  · have e1 : fCall [false, false] S_check_border (aCons (fV 0) (aCons (fV 1) aNil)) [some (.dat (.int c)), some (tI ns), some (vI one), none] = .exc 1 [some (.dat (.int c)), some (tI ns), some (vI one), none] := fCall2x (w := .dat (.int c)) (w2 := tI ns) rfl rfl rfl rfl (h2 hc) rfl
    refine ⟨fun h => (hc h.1).elim, fun _ => ?_⟩
    unfold S_is_true F_is_true
    simp [specOf, outs, sSeq_ev, sSet, sRet, sRetN, sIf, sDrop, sRaise, sNext, sBrk, sCnt, sSetItem, sAug, augO, setItemO, setO_val, retO_val, bind_ok, bind_exc, bind_stk, bindS_ok, bindS_exc, bindS_stk, ret_some, look_val, look_brw, fC_ev, fV, bin, una, chain, tBo, tTr, tNotV, tAndV, tOrV, fAnd, fOr, fNot, fIf, boO_ev, trO, tru, aNil_ev, aCons, cT_ev, callB, looks, g1, frz1_dat, frz1_ml, bN_ev, fTup, fLst, mkT, mkL, frzL, iE, seqO, iR1, iR2, rg1, rg2, gAdd, gMul, gSub, gFDiv, gMod, gPow, gShl, gShr, gAnd, gOr, gXor, gLt, gLe, gGt, gGe, gAddI, gMulI, gU, gIx, gLen, gInt, gAbs, gList, gTuple, iop, tt2, orG, viewD, asL, asT, fApp, appO, isMl, fExt, extO, fSl, pNo, pSo, gSl, L2.atI, L2.ixN, gd, gEq_int, gNe_int, gEq_str, gNe_str, gNe_mlI, gEq_mlI, gNe_tupI, gEq_tupI, e1]
end K08
end
section
set_option Elab.async false
set_option linter.all false
set_option maxRecDepth 100000
set_option maxHeartbeats 4000000
namespace K08
open Mi Fm
open PySem (PyData)
theorem forL_find {v : Nat} {body : FS} {p : Int → Bool} (R : Option Vl → Rho) (hR : ∀ y d, bN v d (R y) = some (R (some (.dat d)))) : ∀ (xs : List Int), (∀ x ∈ xs, body (R (some (vI x))) = if p x then .ret (vI x) (R (some (vI x))) else .nx (R (some (vI x)))) →
    ∀ y, (∀ z, xs.find? p = some z → forL (bN v) body (xs.map .int) (R y) = .ret (vI z) (R (some (vI z)))) ∧ (xs.find? p = none → ∃ y', forL (bN v) body (xs.map .int) (R y) = .nx (R y'))
  | [], _, y => ⟨fun z h => by simp at h, fun _ => ⟨y, rfl⟩⟩
  | x :: xs, hb, y => by
    have ih := forL_find R hR xs (fun x hx => hb x (List.mem_cons_of_mem _ hx)) (some (vI x))
    have h1 := hb x (by simp)
    have unf := forL_step (b := bN v) (body := body) (d := .int x) (ds := xs.map .int) (hR y (.int x))
    rw [List.map_cons, unf, h1]
    by_cases hp : p x = true
    · rw [List.find?_cons_of_pos hp, if_pos hp]
      exact ⟨fun z hz => by cases hz; rfl, fun h => by cases h⟩
    · rw [List.find?_cons_of_neg hp, if_neg hp]
      exact ih
theorem rangeD_all (n : Nat) : rangeD 0 (2 ^ n) = (allOf n).map .int := by
  unfold rangeD allOf
  have : ((2 : Int) ^ n - 0).toNat = 2 ^ n := by
    have : ((2 ^ n : Nat) : Int) = 2 ^ n := by norm_cast
    rw [Int.sub_zero, ← this, Int.toNat_natCast]
  rw [this, List.map_map]
  refine List.map_congr_left fun k _ => ?_
  show PyData.int (0 + (k : Int)) = _
  rw [Int.zero_add]
  rfl
theorem pow_small {n : Nat} (hn : n ≤ 8) : (2 : Int) ^ n ≤ 256 := by
  have := Nat.pow_le_pow_right (n := 2) (by decide) hn
  exact_mod_cast this
theorem rg1_ev {ρ : Rho} {m : Int} (h3 : -(2 ^ 62) ≤ m) (h4 : m < 2 ^ 62) : rg1 ρ [.val (vI m)] = .ok (rangeD 0 m) ρ := by
  unfold rg1
  show (if -(2 ^ 62) ≤ m ∧ m < 2 ^ 62 then _ else _) = _
  rw [if_pos ⟨h3, h4⟩]
theorem rng_all {ρ : Rho} {i : Nat} {c : Int} (hc : okC c) (hi : fV i ρ = .ok (.val (.dat (.int c))) ρ) : iR1 (aCons (bin gShl (fC (.int 1)) (fV i)) aNil) ρ = .ok ((allOf c.toNat).map .int) ρ := by
  rw [← rangeD_all]
  have pw := pow1 hc
  have h1 := pow_small (n8 hc)
  have h2 : (0 : Int) < 2 ^ c.toNat := Int.pow_pos (by decide)
  have h3 : -(2 ^ 62 : Int) ≤ (2 : Int) ^ c.toNat := Int.le_trans (by decide) (Int.le_of_lt h2)
  have h4 : (2 : Int) ^ c.toNat < 2 ^ 62 := Int.lt_of_le_of_lt h1 (by decide)
  have e1 : aCons (bin gShl (fC (.int 1)) (fV i)) aNil ρ = .ok [.val (vI (2 ^ c.toNat))] ρ := by
    simp [aCons, aNil, bin, bind_ok, hi, fC_ev, look_val, gShl, iop, gd, pw, ret_some]
  unfold iR1
  rw [e1]
  rw [bind_ok]
  exact rg1_ev h3 h4
def openP (T F : List Int) (one : Int) : Bool := !isT T one && !(F.any fun f => inB one f)
def openOf (n : Nat) (T F : List Int) : Option Int := (allOf n).find? (openP T F)
def optV : Option Int → Vl
  | some z => vI z
  | none => .dat .none
theorem first_open_ev (c : Int) (T F : List Int) (hc : okC c) (hT : T.length ≤ 300) (hF : F.length ≤ 300) : S_first_open [.dat (.int c), tI T, tI F] = .ok (optV (openOf c.toNat T F)) [none, none, none] := by
  have hf := forL_find (v := 3) (body := sIf (tAndV (tNotV (tTr (callB (g1 gAny) (aCons (fComp [4] (iE (fV 1)) (bN 4) cT (bin gEq (bin gAnd (fV 4) (una (gU PySem.Builtin.bitNot) (fV 3))) (fC (.int 0)))) aNil)))) (tNotV (tTr (callB (g1 gAny) (aCons (fComp [5] (iE (fV 2)) (bN 5) cT (bin gEq (bin gAnd (fV 3) (una (gU PySem.Builtin.bitNot) (fV 5))) (fC (.int 0)))) aNil))))) (sRet (fV 3)) sNext)
    (p := openP T F) (fun y => [some (.dat (.int c)), some (tI T), some (tI F), y, none, none]) (fun y d => rfl) (allOf c.toNat) (fun x _ => by
      have a1 := any_sub (ρ := [some (.dat (.int c)), some (tI T), some (tI F), some (vI x), none, none]) (v := 4) (a := 1) (o := 3) (T := T) (one := x) (by omega) rfl (fun j => rfl) (by simp)
      have a2 := any_sup (ρ := [some (.dat (.int c)), some (tI T), some (tI F), some (vI x), none, none]) (v := 5) (a := 2) (o := 3) (T := F) (one := x) (by omega) rfl (fun j => rfl) (by simp)
      revert a1 a2
      generalize callB (g1 gAny) (aCons (fComp [4] _ _ _ _) aNil) = F1
      generalize callB (g1 gAny) (aCons (fComp [5] _ _ _ _) aNil) = F2
      intro a1 a2
      unfold openP
      cases h1 : isT T x <;> cases h2 : (F.any fun f => inB x f) <;> simp [specOf, outs, sSeq_ev, sSet, sRet, sRetN, sIf, sDrop, sRaise, sNext, sBrk, sCnt, sSetItem, sAug, augO, setItemO, setO_val, retO_val, bind_ok, bind_exc, bind_stk, bindS_ok, bindS_exc, bindS_stk, ret_some, look_val, look_brw, fC_ev, fV, bin, una, chain, tBo, tTr, tNotV, tAndV, tOrV, fAnd, fOr, fNot, fIf, boO_ev, trO, tru, aNil_ev, aCons, cT_ev, callB, looks, g1, frz1_dat, frz1_ml, bN_ev, fTup, fLst, mkT, mkL, frzL, iE, seqO, iR1, iR2, rg1, rg2, gAdd, gMul, gSub, gFDiv, gMod, gPow, gShl, gShr, gAnd, gOr, gXor, gLt, gLe, gGt, gGe, gAddI, gMulI, gU, gIx, gLen, gInt, gAbs, gList, gTuple, iop, tt2, orG, viewD, asL, asT, fApp, appO, isMl, fExt, extO, fSl, pNo, pSo, gSl, L2.atI, L2.ixN, gd, gEq_int, gNe_int, gEq_str, gNe_str, gNe_mlI, gEq_mlI, gNe_tupI, gEq_tupI, a1, a2, h1, h2, retO, own]) none
  have hs := sFor_ev (body := sIf (tAndV (tNotV (tTr (callB (g1 gAny) (aCons (fComp [4] (iE (fV 1)) (bN 4) cT (bin gEq (bin gAnd (fV 4) (una (gU PySem.Builtin.bitNot) (fV 3))) (fC (.int 0)))) aNil)))) (tNotV (tTr (callB (g1 gAny) (aCons (fComp [5] (iE (fV 2)) (bN 5) cT (bin gEq (bin gAnd (fV 3) (una (gU PySem.Builtin.bitNot) (fV 5))) (fC (.int 0)))) aNil))))) (sRet (fV 3)) sNext)
    (b := bN 3) (rng_all (ρ := [some (.dat (.int c)), some (tI T), some (tI F), none, none, none]) (i := 0) hc rfl)
  unfold openOf
  unfold S_first_open F_first_open
  revert hs
  generalize sFor _ (bN 3) _ = F1
  cases hq : (allOf c.toNat).find? (openP T F) with
  | some z =>
    intro hs
    rw [hf.1 z hq] at hs
    simp [specOf, outs, sSeq_ev, sSet, sRet, sRetN, sIf, sDrop, sRaise, sNext, sBrk, sCnt, sSetItem, sAug, augO, setItemO, setO_val, retO_val, bind_ok, bind_exc, bind_stk, bindS_ok, bindS_exc, bindS_stk, ret_some, look_val, look_brw, fC_ev, fV, bin, una, chain, tBo, tTr, tNotV, tAndV, tOrV, fAnd, fOr, fNot, fIf, boO_ev, trO, tru, aNil_ev, aCons, cT_ev, callB, looks, g1, frz1_dat, frz1_ml, bN_ev, fTup, fLst, mkT, mkL, frzL, iE, seqO, iR1, iR2, rg1, rg2, gAdd, gMul, gSub, gFDiv, gMod, gPow, gShl, gShr, gAnd, gOr, gXor, gLt, gLe, gGt, gGe, gAddI, gMulI, gU, gIx, gLen, gInt, gAbs, gList, gTuple, iop, tt2, orG, viewD, asL, asT, fApp, appO, isMl, fExt, extO, fSl, pNo, pSo, gSl, L2.atI, L2.ixN, gd, gEq_int, gNe_int, gEq_str, gNe_str, gNe_mlI, gEq_mlI, gNe_tupI, gEq_tupI, hs, optV, List.replicate]
  | none =>
    intro hs
    obtain ⟨y', e⟩ := hf.2 hq
    rw [e] at hs
    simp [specOf, outs, sSeq_ev, sSet, sRet, sRetN, sIf, sDrop, sRaise, sNext, sBrk, sCnt, sSetItem, sAug, augO, setItemO, setO_val, retO_val, bind_ok, bind_exc, bind_stk, bindS_ok, bindS_exc, bindS_stk, ret_some, look_val, look_brw, fC_ev, fV, bin, una, chain, tBo, tTr, tNotV, tAndV, tOrV, fAnd, fOr, fNot, fIf, boO_ev, trO, tru, aNil_ev, aCons, cT_ev, callB, looks, g1, frz1_dat, frz1_ml, bN_ev, fTup, fLst, mkT, mkL, frzL, iE, seqO, iR1, iR2, rg1, rg2, gAdd, gMul, gSub, gFDiv, gMod, gPow, gShl, gShr, gAnd, gOr, gXor, gLt, gLe, gGt, gGe, gAddI, gMulI, gU, gIx, gLen, gInt, gAbs, gList, gTuple, iop, tt2, orG, viewD, asL, asT, fApp, appO, isMl, fExt, extO, fSl, pNo, pSo, gSl, L2.atI, L2.ixN, gd, gEq_int, gNe_int, gEq_str, gNe_str, gNe_mlI, gEq_mlI, gNe_tupI, gEq_tupI, hs, optV, List.replicate]
abbrev RU (c : Int) (T F : List Int) (y z : Option Vl) : Rho := [some (.dat (.int c)), some (tI T), some (tI F), none, y, z]
theorem compU (c : Int) (T F : List Int) : ∀ (xs : List Int) (ρ : Rho), wipeR ρ [4, 5] = RU c T F none none →
    ∃ ρ', compL2 [4, 5] [5] (bN 4) cT (iE (fV 2)) (bN 5) cT (bin gEq (bin gAnd (fV 4) (una (gU PySem.Builtin.bitNot) (fV 5))) (fC (.int 0))) (xs.map .int) ρ = .ok ((xs.flatMap fun x => F.map fun y => inB x y).map .bool) ρ' ∧ wipeR ρ' [4, 5] = RU c T F none none
  | [], ρ, h => ⟨ρ, rfl, h⟩
  | x :: xs, ρ, h => by
    obtain ⟨ρ1, e1, h1⟩ := compL_pure (vs := [5]) (b := bN 5) (c := cT) (e := bin gEq (bin gAnd (fV 4) (una (gU PySem.Builtin.bitNot) (fV 5))) (fC (.int 0))) (ι := PyData.int) (p := fun _ => true) (g := fun y => .bool (inB x y)) (ρw := RU c T F (some (vI x)) none) F (RU c T F (some (vI x)) none) rfl (fun y _ => by
      refine ⟨RU c T F (some (vI x)) (some (vI y)), rfl, rfl, rfl, fun _ => ⟨vB (inB x y), ?_, rfl⟩⟩
      by_cases h2 : PySem.Builtin.bitAnd x (PySem.Builtin.bitNot y) = 0 <;> simp [specOf, outs, sSeq_ev, sSet, sRet, sRetN, sIf, sDrop, sRaise, sNext, sBrk, sCnt, sSetItem, sAug, augO, setItemO, setO_val, retO_val, bind_ok, bind_exc, bind_stk, bindS_ok, bindS_exc, bindS_stk, ret_some, look_val, look_brw, fC_ev, fV, bin, una, chain, tBo, tTr, tNotV, tAndV, tOrV, fAnd, fOr, fNot, fIf, boO_ev, trO, tru, aNil_ev, aCons, cT_ev, callB, looks, g1, frz1_dat, frz1_ml, bN_ev, fTup, fLst, mkT, mkL, frzL, iE, seqO, iR1, iR2, rg1, rg2, gAdd, gMul, gSub, gFDiv, gMod, gPow, gShl, gShr, gAnd, gOr, gXor, gLt, gLe, gGt, gGe, gAddI, gMulI, gU, gIx, gLen, gInt, gAbs, gList, gTuple, iop, tt2, orG, viewD, asL, asT, fApp, appO, isMl, fExt, extO, fSl, pNo, pSo, gSl, L2.atI, L2.ixN, gd, gEq_int, gNe_int, gEq_str, gNe_str, gNe_mlI, gEq_mlI, gNe_tupI, gEq_tupI, inB, h2])
    have h2 : wipeR ρ1 [4, 5] = RU c T F none none := by
      show (wipeR ρ1 [5]).set 4 none = _
      rw [h1]
      rfl
    obtain ⟨ρ', e2, h3⟩ := compU c T F xs ρ1 h2
    refine ⟨ρ', ?_, h3⟩
    have e3 : iE (fV 2) (RU c T F (some (vI x)) none) = .ok (F.map .int) (RU c T F (some (vI x)) none) := by simp [specOf, outs, sSeq_ev, sSet, sRet, sRetN, sIf, sDrop, sRaise, sNext, sBrk, sCnt, sSetItem, sAug, augO, setItemO, setO_val, retO_val, bind_ok, bind_exc, bind_stk, bindS_ok, bindS_exc, bindS_stk, ret_some, look_val, look_brw, fC_ev, fV, bin, una, chain, tBo, tTr, tNotV, tAndV, tOrV, fAnd, fOr, fNot, fIf, boO_ev, trO, tru, aNil_ev, aCons, cT_ev, callB, looks, g1, frz1_dat, frz1_ml, bN_ev, fTup, fLst, mkT, mkL, frzL, iE, seqO, iR1, iR2, rg1, rg2, gAdd, gMul, gSub, gFDiv, gMod, gPow, gShl, gShr, gAnd, gOr, gXor, gLt, gLe, gGt, gGe, gAddI, gMulI, gU, gIx, gLen, gInt, gAbs, gList, gTuple, iop, tt2, orG, viewD, asL, asT, fApp, appO, isMl, fExt, extO, fSl, pNo, pSo, gSl, L2.atI, L2.ixN, gd, gEq_int, gNe_int, gEq_str, gNe_str, gNe_mlI, gEq_mlI, gNe_tupI, gEq_tupI]
    rw [List.filter_eq_self.mpr fun _ _ => rfl] at e1
    rw [List.map_cons]
    unfold compL2
    rw [h]
    show (match (some (RU c T F (some (vI x)) none) : Option Rho) with
      | none => Out.stk
      | some ρ1 => _) = _
    have e1' : compL [5] (bN 5) cT (bin gEq (bin gAnd (fV 4) (una (gU PySem.Builtin.bitNot) (fV 5))) (fC (.int 0))) (F.map .int) (List.set (RU c T F none none) 4 (some (Vl.dat (.int x)))) = _ := e1
    simp only [cT_ev, e3, e1', e2]
    rw [List.flatMap_cons, List.map_append, List.map_map]
    rfl
theorem flat_len {F xs : List Int} {f : Int → Int → Bool} : (xs.flatMap fun x => F.map fun y => f x y).length = xs.length * F.length := by
  induction xs with
  | nil => simp
  | cons x xs ih => rw [List.flatMap_cons, List.length_append, ih, List.length_map, List.length_cons, Nat.succ_mul, Nat.add_comm]
theorem flat_any {F xs : List Int} {f : Int → Int → Bool} : (xs.flatMap fun x => F.map fun y => f x y).any id = xs.any fun x => F.any fun y => f x y := by
  induction xs with
  | nil => rfl
  | cons x xs ih =>
    rw [List.flatMap_cons, List.any_append, ih, List.any_cons, List.any_map]
    rfl
theorem undecided_ev (c : Int) (T F : List Int) (hc : okC c) (hT : T.length ≤ 300) (hF : F.length ≤ 300) (bT : okBorder c T) (bF : okBorder c F) :
    S_undecided [.dat (.int c), tI T, tI F] = if (T.any fun x => F.any fun y => inB x y) then .exc 1 [none, none, none] else match openOf c.toNat T F with
      | some z => .ok (vI z) [none, none, none]
      | none => .exc 3 [none, none, none] := by
  have e1 : fCall [false, false] S_check_border (aCons (fV 0) (aCons (fV 1) aNil)) (RU c T F none none) = .ok (.val (.dat .none)) (RU c T F none none) := fCall2 (w := .dat (.int c)) (w2 := tI T) rfl rfl rfl rfl ((check_border_ev c T (by omega)).1 ⟨hc, bT⟩) rfl
  have e2 : fCall [false, false] S_check_border (aCons (fV 0) (aCons (fV 2) aNil)) (RU c T F none none) = .ok (.val (.dat .none)) (RU c T F none none) := fCall2 (w := .dat (.int c)) (w2 := tI F) rfl rfl rfl rfl ((check_border_ev c F (by omega)).1 ⟨hc, bF⟩) rfl
  obtain ⟨ρ', e3, h3⟩ := compU c T F T (RU c T F none none) rfl
  have hlen : T.length * F.length ≤ 100000 := Nat.le_trans (Nat.mul_le_mul hT hF) (by decide)
  have e4 : fComp2 [4, 5] [5] (iE (fV 1)) (bN 4) cT (iE (fV 2)) (bN 5) cT (bin gEq (bin gAnd (fV 4) (una (gU PySem.Builtin.bitNot) (fV 5))) (fC (.int 0))) (RU c T F none none) = .ok (.val (.ml ((T.flatMap fun x => F.map fun y => inB x y).map .bool))) (RU c T F none none) := by
    have hi : iE (fV 1) (RU c T F none none) = .ok (T.map .int) (RU c T F none none) := by simp [specOf, outs, sSeq_ev, sSet, sRet, sRetN, sIf, sDrop, sRaise, sNext, sBrk, sCnt, sSetItem, sAug, augO, setItemO, setO_val, retO_val, bind_ok, bind_exc, bind_stk, bindS_ok, bindS_exc, bindS_stk, ret_some, look_val, look_brw, fC_ev, fV, bin, una, chain, tBo, tTr, tNotV, tAndV, tOrV, fAnd, fOr, fNot, fIf, boO_ev, trO, tru, aNil_ev, aCons, cT_ev, callB, looks, g1, frz1_dat, frz1_ml, bN_ev, fTup, fLst, mkT, mkL, frzL, iE, seqO, iR1, iR2, rg1, rg2, gAdd, gMul, gSub, gFDiv, gMod, gPow, gShl, gShr, gAnd, gOr, gXor, gLt, gLe, gGt, gGe, gAddI, gMulI, gU, gIx, gLen, gInt, gAbs, gList, gTuple, iop, tt2, orG, viewD, asL, asT, fApp, appO, isMl, fExt, extO, fSl, pNo, pSo, gSl, L2.atI, L2.ixN, gd, gEq_int, gNe_int, gEq_str, gNe_str, gNe_mlI, gEq_mlI, gNe_tupI, gEq_tupI]
    unfold fComp2
    rw [hi]
    simp only [bind_ok]
    rw [e3]
    show (if ((T.flatMap fun x => F.map fun y => inB x y).map PyData.bool).length ≤ 100000 then Out.ok (Opd.val (Vl.ml ((T.flatMap fun x => F.map fun y => inB x y).map .bool))) (restR (RU c T F none none) ρ' [4, 5]) else Out.stk) = _
    rw [List.length_map, flat_len, if_pos hlen, restR_same h3]
  have e5 : fCall [false, false, false] S_first_open (aCons (fV 0) (aCons (fV 1) (aCons (fV 2) aNil))) (RU c T F none none) = .ok (.val (optV (openOf c.toNat T F))) (RU c T F none none) := by
    simp [fCall, aCons, aNil, fV, bind_ok, ioC, argW, look, viewD, first_open_ev c T F hc hT hF, noBor, setIO]
  unfold S_undecided F_undecided
  revert e1 e2 e4 e5
  generalize fComp2 _ _ _ _ _ _ _ _ _ = F1
  generalize fCall [false, false, false] S_first_open _ = F2
  generalize fCall [false, false] S_check_border (aCons (fV 0) (aCons (fV 1) aNil)) = F3
  generalize fCall [false, false] S_check_border (aCons (fV 0) (aCons (fV 2) aNil)) = F4
  intro e1 e2 e4 e5
  cases hA : (T.any fun x => F.any fun y => inB x y) with
  | true => simp [specOf, outs, sSeq_ev, sSet, sRet, sRetN, sIf, sDrop, sRaise, sNext, sBrk, sCnt, sSetItem, sAug, augO, setItemO, setO_val, retO_val, bind_ok, bind_exc, bind_stk, bindS_ok, bindS_exc, bindS_stk, ret_some, look_val, look_brw, fC_ev, fV, bin, una, chain, tBo, tTr, tNotV, tAndV, tOrV, fAnd, fOr, fNot, fIf, boO_ev, trO, tru, aNil_ev, aCons, cT_ev, callB, looks, g1, frz1_dat, frz1_ml, bN_ev, fTup, fLst, mkT, mkL, frzL, iE, seqO, iR1, iR2, rg1, rg2, gAdd, gMul, gSub, gFDiv, gMod, gPow, gShl, gShr, gAnd, gOr, gXor, gLt, gLe, gGt, gGe, gAddI, gMulI, gU, gIx, gLen, gInt, gAbs, gList, gTuple, iop, tt2, orG, viewD, asL, asT, fApp, appO, isMl, fExt, extO, fSl, pNo, pSo, gSl, L2.atI, L2.ixN, gd, gEq_int, gNe_int, gEq_str, gNe_str, gNe_mlI, gEq_mlI, gNe_tupI, gEq_tupI, e1, e2, e4, gAny_ml, flat_any, hA, List.replicate]
  | false =>
    cases hq : openOf c.toNat T F with
    | some z =>
      rw [hq] at e5
      simp [specOf, outs, sSeq_ev, sSet, sRet, sRetN, sIf, sDrop, sRaise, sNext, sBrk, sCnt, sSetItem, sAug, augO, setItemO, setO_val, retO_val, bind_ok, bind_exc, bind_stk, bindS_ok, bindS_exc, bindS_stk, ret_some, look_val, look_brw, fC_ev, fV, bin, una, chain, tBo, tTr, tNotV, tAndV, tOrV, fAnd, fOr, fNot, fIf, boO_ev, trO, tru, aNil_ev, aCons, cT_ev, callB, looks, g1, frz1_dat, frz1_ml, bN_ev, fTup, fLst, mkT, mkL, frzL, iE, seqO, iR1, iR2, rg1, rg2, gAdd, gMul, gSub, gFDiv, gMod, gPow, gShl, gShr, gAnd, gOr, gXor, gLt, gLe, gGt, gGe, gAddI, gMulI, gU, gIx, gLen, gInt, gAbs, gList, gTuple, iop, tt2, orG, viewD, asL, asT, fApp, appO, isMl, fExt, extO, fSl, pNo, pSo, gSl, L2.atI, L2.ixN, gd, gEq_int, gNe_int, gEq_str, gNe_str, gNe_mlI, gEq_mlI, gNe_tupI, gEq_tupI, e1, e2, e4, e5, gAny_ml, flat_any, hA, optV, gIsN, List.replicate]
    | none =>
      rw [hq] at e5
      simp [specOf, outs, sSeq_ev, sSet, sRet, sRetN, sIf, sDrop, sRaise, sNext, sBrk, sCnt, sSetItem, sAug, augO, setItemO, setO_val, retO_val, bind_ok, bind_exc, bind_stk, bindS_ok, bindS_exc, bindS_stk, ret_some, look_val, look_brw, fC_ev, fV, bin, una, chain, tBo, tTr, tNotV, tAndV, tOrV, fAnd, fOr, fNot, fIf, boO_ev, trO, tru, aNil_ev, aCons, cT_ev, callB, looks, g1, frz1_dat, frz1_ml, bN_ev, fTup, fLst, mkT, mkL, frzL, iE, seqO, iR1, iR2, rg1, rg2, gAdd, gMul, gSub, gFDiv, gMod, gPow, gShl, gShr, gAnd, gOr, gXor, gLt, gLe, gGt, gGe, gAddI, gMulI, gU, gIx, gLen, gInt, gAbs, gList, gTuple, iop, tt2, orG, viewD, asL, asT, fApp, appO, isMl, fExt, extO, fSl, pNo, pSo, gSl, L2.atI, L2.ixN, gd, gEq_int, gNe_int, gEq_str, gNe_str, gNe_mlI, gEq_mlI, gNe_tupI, gEq_tupI, e1, e2, e4, e5, gAny_ml, flat_any, hA, optV, gIsN, List.replicate]
theorem is_whole_ev (c : Int) (T F : List Int) (hc : okC c) (hT : T.length ≤ 300) (hF : F.length ≤ 300) (bT : okBorder c T) (bF : okBorder c F) :
    S_is_whole [.dat (.int c), tI T, tI F] = .ok (vB (decide (falsesOf c.toNat T = F))) [none, none, none] := by
  have e1 : fCall [false, false] S_check_border (aCons (fV 0) (aCons (fV 1) aNil)) [some (.dat (.int c)), some (tI T), some (tI F)] = .ok (.val (.dat .none)) [some (.dat (.int c)), some (tI T), some (tI F)] := fCall2 (w := .dat (.int c)) (w2 := tI T) rfl rfl rfl rfl ((check_border_ev c T (by omega)).1 ⟨hc, bT⟩) rfl
  have e2 : fCall [false, false] S_check_border (aCons (fV 0) (aCons (fV 2) aNil)) [some (.dat (.int c)), some (tI T), some (tI F)] = .ok (.val (.dat .none)) [some (.dat (.int c)), some (tI T), some (tI F)] := fCall2 (w := .dat (.int c)) (w2 := tI F) rfl rfl rfl rfl ((check_border_ev c F (by omega)).1 ⟨hc, bF⟩) rfl
  have e3 : fCall [false, false] S_falses_of (aCons (fV 0) (aCons (fV 1) aNil)) [some (.dat (.int c)), some (tI T), some (tI F)] = .ok (.val (tI (falsesOf c.toNat T))) [some (.dat (.int c)), some (tI T), some (tI F)] := fCall2 (w := .dat (.int c)) (w2 := tI T) rfl rfl rfl rfl (falses_of_ev c T hc bT.1.2) rfl
  unfold S_is_whole F_is_whole
  revert e1 e2 e3
  generalize fCall [false, false] S_falses_of _ = F2
  generalize fCall [false, false] S_check_border (aCons (fV 0) (aCons (fV 1) aNil)) = F3
  generalize fCall [false, false] S_check_border (aCons (fV 0) (aCons (fV 2) aNil)) = F4
  intro e1 e2 e3
  simp [specOf, outs, sSeq_ev, sSet, sRet, sRetN, sIf, sDrop, sRaise, sNext, sBrk, sCnt, sSetItem, sAug, augO, setItemO, setO_val, retO_val, bind_ok, bind_exc, bind_stk, bindS_ok, bindS_exc, bindS_stk, ret_some, look_val, look_brw, fC_ev, fV, bin, una, chain, tBo, tTr, tNotV, tAndV, tOrV, fAnd, fOr, fNot, fIf, boO_ev, trO, tru, aNil_ev, aCons, cT_ev, callB, looks, g1, frz1_dat, frz1_ml, bN_ev, fTup, fLst, mkT, mkL, frzL, iE, seqO, iR1, iR2, rg1, rg2, gAdd, gMul, gSub, gFDiv, gMod, gPow, gShl, gShr, gAnd, gOr, gXor, gLt, gLe, gGt, gGe, gAddI, gMulI, gU, gIx, gLen, gInt, gAbs, gList, gTuple, iop, tt2, orG, viewD, asL, asT, fApp, appO, isMl, fExt, extO, fSl, pNo, pSo, gSl, L2.atI, L2.ixN, gd, gEq_int, gNe_int, gEq_str, gNe_str, gNe_mlI, gEq_mlI, gNe_tupI, gEq_tupI, e1, e2, e3]
end K08
end
section
set_option Elab.async false
set_option linter.all false
set_option maxRecDepth 100000
set_option maxHeartbeats 4000000
namespace K08
open Mi Fm
open PySem (PyData)
theorem lleast_ev {d : PyData} {ns : List Int} (hd : d = .tuple (ns.map .int) ∨ d = .list (ns.map .int)) (hl : ns.length < 4000) : S__law_least [.dat d] = .ok (tI (leastOf (sortSet ns))) [none] := least_ev hd hl
theorem any_inG (rows : List Int) (hl : rows.length ≤ 100000) (x0 : Option Vl) (one : Int) (x3 : Option Vl) :
    callB (g1 gAny) (aCons (fComp [3] (iE (fV 1)) (bN 3) cT (fAnd (bin gNe (fV 3) (fV 2)) (bin gEq (bin gAnd (fV 2) (una (gU PySem.Builtin.bitNot) (fV 3))) (fC (.int 0))))) aNil) [x0, some (.dat (.list (rows.map .int))), some (vI one), x3] =
      .ok (.val (vB (rows.any fun other => decide (other ≠ one) && inB one other))) [x0, some (.dat (.list (rows.map .int))), some (vI one), x3] := by
  have hc := fComp_map (vs := [3]) (fi := iE (fV 1)) (b := bN 3) (e := fAnd (bin gNe (fV 3) (fV 2)) (bin gEq (bin gAnd (fV 2) (una (gU PySem.Builtin.bitNot) (fV 3))) (fC (.int 0)))) (ι := PyData.int) (g := fun other => .bool (decide (other ≠ one) && inB one other)) (ρ := [x0, some (.dat (.list (rows.map .int))), some (vI one), x3]) (ρ1 := [x0, some (.dat (.list (rows.map .int))), some (vI one), x3]) rows (by simp [specOf, outs, sSeq_ev, sSet, sRet, sRetN, sIf, sDrop, sRaise, sNext, sBrk, sCnt, sSetItem, sAug, augO, setItemO, setO_val, retO_val, bind_ok, bind_exc, bind_stk, bindS_ok, bindS_exc, bindS_stk, ret_some, look_val, look_brw, fC_ev, fV, bin, una, chain, tBo, tTr, tNotV, tAndV, tOrV, fAnd, fOr, fNot, fIf, boO_ev, trO, tru, aNil_ev, aCons, cT_ev, callB, looks, g1, frz1_dat, frz1_ml, bN_ev, fTup, fLst, mkT, mkL, frzL, iE, seqO, iR1, iR2, rg1, rg2, gAdd, gMul, gSub, gFDiv, gMod, gPow, gShl, gShr, gAnd, gOr, gXor, gLt, gLe, gGt, gGe, gAddI, gMulI, gU, gIx, gLen, gInt, gAbs, gList, gTuple, iop, tt2, orG, viewD, asL, asT, fApp, appO, isMl, fExt, extO, fSl, pNo, pSo, gSl, L2.atI, L2.ixN, gd, gEq_int, gNe_int, gEq_str, gNe_str, gNe_mlI, gEq_mlI, gNe_tupI, gEq_tupI]) hl (fun other _ => by
    refine ⟨[x0, some (.dat (.list (rows.map .int))), some (vI one), some (vI other)], vB (decide (other ≠ one) && inB one other), rfl, rfl, ?_, rfl⟩
    by_cases h : other = one
    · simp [specOf, outs, sSeq_ev, sSet, sRet, sRetN, sIf, sDrop, sRaise, sNext, sBrk, sCnt, sSetItem, sAug, augO, setItemO, setO_val, retO_val, bind_ok, bind_exc, bind_stk, bindS_ok, bindS_exc, bindS_stk, ret_some, look_val, look_brw, fC_ev, fV, bin, una, chain, tBo, tTr, tNotV, tAndV, tOrV, fAnd, fOr, fNot, fIf, boO_ev, trO, tru, aNil_ev, aCons, cT_ev, callB, looks, g1, frz1_dat, frz1_ml, bN_ev, fTup, fLst, mkT, mkL, frzL, iE, seqO, iR1, iR2, rg1, rg2, gAdd, gMul, gSub, gFDiv, gMod, gPow, gShl, gShr, gAnd, gOr, gXor, gLt, gLe, gGt, gGe, gAddI, gMulI, gU, gIx, gLen, gInt, gAbs, gList, gTuple, iop, tt2, orG, viewD, asL, asT, fApp, appO, isMl, fExt, extO, fSl, pNo, pSo, gSl, L2.atI, L2.ixN, gd, gEq_int, gNe_int, gEq_str, gNe_str, gNe_mlI, gEq_mlI, gNe_tupI, gEq_tupI, h]
    · by_cases h2 : PySem.Builtin.bitAnd one (PySem.Builtin.bitNot other) = 0 <;> simp [specOf, outs, sSeq_ev, sSet, sRet, sRetN, sIf, sDrop, sRaise, sNext, sBrk, sCnt, sSetItem, sAug, augO, setItemO, setO_val, retO_val, bind_ok, bind_exc, bind_stk, bindS_ok, bindS_exc, bindS_stk, ret_some, look_val, look_brw, fC_ev, fV, bin, una, chain, tBo, tTr, tNotV, tAndV, tOrV, fAnd, fOr, fNot, fIf, boO_ev, trO, tru, aNil_ev, aCons, cT_ev, callB, looks, g1, frz1_dat, frz1_ml, bN_ev, fTup, fLst, mkT, mkL, frzL, iE, seqO, iR1, iR2, rg1, rg2, gAdd, gMul, gSub, gFDiv, gMod, gPow, gShl, gShr, gAnd, gOr, gXor, gLt, gLe, gGt, gGe, gAddI, gMulI, gU, gIx, gLen, gInt, gAbs, gList, gTuple, iop, tt2, orG, viewD, asL, asT, fApp, appO, isMl, fExt, extO, fSl, pNo, pSo, gSl, L2.atI, L2.ixN, gd, gEq_int, gNe_int, gEq_str, gNe_str, gNe_mlI, gEq_mlI, gNe_tupI, gEq_tupI, h, inB, h2])
  unfold callB aCons
  rw [hc]
  simp [specOf, outs, sSeq_ev, sSet, sRet, sRetN, sIf, sDrop, sRaise, sNext, sBrk, sCnt, sSetItem, sAug, augO, setItemO, setO_val, retO_val, bind_ok, bind_exc, bind_stk, bindS_ok, bindS_exc, bindS_stk, ret_some, look_val, look_brw, fC_ev, fV, bin, una, chain, tBo, tTr, tNotV, tAndV, tOrV, fAnd, fOr, fNot, fIf, boO_ev, trO, tru, aNil_ev, aCons, cT_ev, callB, looks, g1, frz1_dat, frz1_ml, bN_ev, fTup, fLst, mkT, mkL, frzL, iE, seqO, iR1, iR2, rg1, rg2, gAdd, gMul, gSub, gFDiv, gMod, gPow, gShl, gShr, gAnd, gOr, gXor, gLt, gLe, gGt, gGe, gAddI, gMulI, gU, gIx, gLen, gInt, gAbs, gList, gTuple, iop, tt2, orG, viewD, asL, asT, fApp, appO, isMl, fExt, extO, fSl, pNo, pSo, gSl, L2.atI, L2.ixN, gd, gEq_int, gNe_int, gEq_str, gNe_str, gNe_mlI, gEq_mlI, gNe_tupI, gEq_tupI, gAny_map]
theorem great_ev {d : PyData} {ns : List Int} (hd : d = .tuple (ns.map .int) ∨ d = .list (ns.map .int)) (hl : ns.length < 4000) : S__law_greatest [.dat d] = .ok (tI (greatOf (sortSet ns))) [none] := by
  have hset : gSet (.dat d) = some (.st ns) := gSet_ints (by rcases hd with rfl | rfl <;> rfl) hl
  have hlen := sortSet_len ns
  have hc := fComp_pure (vs := [2]) (fi := iE (fV 1)) (b := bN 2) (c := tNotV (tTr (callB (g1 gAny) (aCons (fComp [3] (iE (fV 1)) (bN 3) cT (fAnd (bin gNe (fV 3) (fV 2)) (bin gEq (bin gAnd (fV 2) (una (gU PySem.Builtin.bitNot) (fV 3))) (fC (.int 0))))) aNil)))) (e := fV 2)
    (ι := PyData.int) (p := fun one => !(sortSet ns).any fun other => decide (other ≠ one) && inB one other) (g := PyData.int) (ρ := [some (.dat d), some (.ml ((sortSet ns).map .int)), none, none]) (ρ1 := [some (.dat d), some (.dat (.list ((sortSet ns).map .int))), none, none]) (sortSet ns) (by simp [specOf, outs, sSeq_ev, sSet, sRet, sRetN, sIf, sDrop, sRaise, sNext, sBrk, sCnt, sSetItem, sAug, augO, setItemO, setO_val, retO_val, bind_ok, bind_exc, bind_stk, bindS_ok, bindS_exc, bindS_stk, ret_some, look_val, look_brw, fC_ev, fV, bin, una, chain, tBo, tTr, tNotV, tAndV, tOrV, fAnd, fOr, fNot, fIf, boO_ev, trO, tru, aNil_ev, aCons, cT_ev, callB, looks, g1, frz1_dat, frz1_ml, bN_ev, fTup, fLst, mkT, mkL, frzL, iE, seqO, iR1, iR2, rg1, rg2, gAdd, gMul, gSub, gFDiv, gMod, gPow, gShl, gShr, gAnd, gOr, gXor, gLt, gLe, gGt, gGe, gAddI, gMulI, gU, gIx, gLen, gInt, gAbs, gList, gTuple, iop, tt2, orG, viewD, asL, asT, fApp, appO, isMl, fExt, extO, fSl, pNo, pSo, gSl, L2.atI, L2.ixN, gd, gEq_int, gNe_int, gEq_str, gNe_str, gNe_mlI, gEq_mlI, gNe_tupI, gEq_tupI, frz1, upR, look]) (by omega) (fun one _ => by
    refine ⟨[some (.dat d), some (.dat (.list ((sortSet ns).map .int))), some (vI one), none], rfl, rfl, ?_, fun _ => ⟨vI one, by simp [specOf, outs, sSeq_ev, sSet, sRet, sRetN, sIf, sDrop, sRaise, sNext, sBrk, sCnt, sSetItem, sAug, augO, setItemO, setO_val, retO_val, bind_ok, bind_exc, bind_stk, bindS_ok, bindS_exc, bindS_stk, ret_some, look_val, look_brw, fC_ev, fV, bin, una, chain, tBo, tTr, tNotV, tAndV, tOrV, fAnd, fOr, fNot, fIf, boO_ev, trO, tru, aNil_ev, aCons, cT_ev, callB, looks, g1, frz1_dat, frz1_ml, bN_ev, fTup, fLst, mkT, mkL, frzL, iE, seqO, iR1, iR2, rg1, rg2, gAdd, gMul, gSub, gFDiv, gMod, gPow, gShl, gShr, gAnd, gOr, gXor, gLt, gLe, gGt, gGe, gAddI, gMulI, gU, gIx, gLen, gInt, gAbs, gList, gTuple, iop, tt2, orG, viewD, asL, asT, fApp, appO, isMl, fExt, extO, fSl, pNo, pSo, gSl, L2.atI, L2.ixN, gd, gEq_int, gNe_int, gEq_str, gNe_str, gNe_mlI, gEq_mlI, gNe_tupI, gEq_tupI], rfl⟩⟩
    have := any_inG (sortSet ns) (by omega) (some (.dat d)) one none
    unfold tNotV tTr
    rw [this]
    simp [specOf, outs, sSeq_ev, sSet, sRet, sRetN, sIf, sDrop, sRaise, sNext, sBrk, sCnt, sSetItem, sAug, augO, setItemO, setO_val, retO_val, bind_ok, bind_exc, bind_stk, bindS_ok, bindS_exc, bindS_stk, ret_some, look_val, look_brw, fC_ev, fV, bin, una, chain, tBo, tTr, tNotV, tAndV, tOrV, fAnd, fOr, fNot, fIf, boO_ev, trO, tru, aNil_ev, aCons, cT_ev, callB, looks, g1, frz1_dat, frz1_ml, bN_ev, fTup, fLst, mkT, mkL, frzL, iE, seqO, iR1, iR2, rg1, rg2, gAdd, gMul, gSub, gFDiv, gMod, gPow, gShl, gShr, gAnd, gOr, gXor, gLt, gLe, gGt, gGe, gAddI, gMulI, gU, gIx, gLen, gInt, gAbs, gList, gTuple, iop, tt2, orG, viewD, asL, asT, fApp, appO, isMl, fExt, extO, fSl, pNo, pSo, gSl, L2.atI, L2.ixN, gd, gEq_int, gNe_int, gEq_str, gNe_str, gNe_mlI, gEq_mlI, gNe_tupI, gEq_tupI])
  unfold S__law_greatest F__law_greatest
  revert hc
  generalize fComp [2] (iE (fV 1)) (bN 2) _ (fV 2) = Fc
  intro hc
  simp [specOf, outs, sSeq_ev, sSet, sRet, sRetN, sIf, sDrop, sRaise, sNext, sBrk, sCnt, sSetItem, sAug, augO, setItemO, setO_val, retO_val, bind_ok, bind_exc, bind_stk, bindS_ok, bindS_exc, bindS_stk, ret_some, look_val, look_brw, fC_ev, fV, bin, una, chain, tBo, tTr, tNotV, tAndV, tOrV, fAnd, fOr, fNot, fIf, boO_ev, trO, tru, aNil_ev, aCons, cT_ev, callB, looks, g1, frz1_dat, frz1_ml, bN_ev, fTup, fLst, mkT, mkL, frzL, iE, seqO, iR1, iR2, rg1, rg2, gAdd, gMul, gSub, gFDiv, gMod, gPow, gShl, gShr, gAnd, gOr, gXor, gLt, gLe, gGt, gGe, gAddI, gMulI, gU, gIx, gLen, gInt, gAbs, gList, gTuple, iop, tt2, orG, viewD, asL, asT, fApp, appO, isMl, fExt, extO, fSl, pNo, pSo, gSl, L2.atI, L2.ixN, gd, gEq_int, gNe_int, gEq_str, gNe_str, gNe_mlI, gEq_mlI, gNe_tupI, gEq_tupI, hset, sortSet_ev, hc, greatOf, List.replicate]
theorem ltrue_ev (T : List Int) (one : Int) (hl : T.length ≤ 100000) : S__law_true [tI T, vI one] = .ok (vB (isT T one)) [none, none] := by
  have e3 := any_sub (ρ := [some (tI T), some (vI one), none]) (v := 2) (a := 0) (o := 1) (T := T) (one := one) hl rfl (fun j => rfl) (by simp)
  unfold S__law_true F__law_true
  revert e3
  generalize callB (g1 gAny) _ = F1
  intro e3
  simp [specOf, outs, sSeq_ev, sSet, sRet, sRetN, sIf, sDrop, sRaise, sNext, sBrk, sCnt, sSetItem, sAug, augO, setItemO, setO_val, retO_val, bind_ok, bind_exc, bind_stk, bindS_ok, bindS_exc, bindS_stk, ret_some, look_val, look_brw, fC_ev, fV, bin, una, chain, tBo, tTr, tNotV, tAndV, tOrV, fAnd, fOr, fNot, fIf, boO_ev, trO, tru, aNil_ev, aCons, cT_ev, callB, looks, g1, frz1_dat, frz1_ml, bN_ev, fTup, fLst, mkT, mkL, frzL, iE, seqO, iR1, iR2, rg1, rg2, gAdd, gMul, gSub, gFDiv, gMod, gPow, gShl, gShr, gAnd, gOr, gXor, gLt, gLe, gGt, gGe, gAddI, gMulI, gU, gIx, gLen, gInt, gAbs, gList, gTuple, iop, tt2, orG, viewD, asL, asT, fApp, appO, isMl, fExt, extO, fSl, pNo, pSo, gSl, L2.atI, L2.ixN, gd, gEq_int, gNe_int, gEq_str, gNe_str, gNe_mlI, gEq_mlI, gNe_tupI, gEq_tupI, e3, List.replicate]
theorem all_len {n : Nat} (hn : n ≤ 8) : (allOf n).length ≤ 256 := by
  unfold allOf
  simp
  exact Nat.le_trans (Nat.pow_le_pow_right (by decide) hn) (by decide)
theorem lfalses_ev (c : Int) (T : List Int) (hc : okC c) (hl : T.length ≤ 1000) : S__law_falses [.dat (.int c), tI T] = .ok (tI (falsesOf c.toNat T)) [none, none] := by
  have hal := all_len (n8 hc)
  have e1 := fComp_pure (vs := [2]) (fi := iR1 (aCons (bin gShl (fC (.int 1)) (fV 0)) aNil)) (b := bN 2) (c := tNotV (tTr (fCall [false, false] S__law_true (aCons (fV 1) (aCons (fV 2) aNil))))) (e := fV 2) (ι := PyData.int) (p := fun one => !isT T one) (g := PyData.int)
    (ρ := [some (.dat (.int c)), some (tI T), none]) (ρ1 := [some (.dat (.int c)), some (tI T), none]) (allOf c.toNat) (rng_all hc rfl) (by omega) (fun one _ => by
      refine ⟨[some (.dat (.int c)), some (tI T), some (vI one)], rfl, rfl, ?_, fun _ => ⟨vI one, rfl, rfl⟩⟩
      have := fCall2 (spec := S__law_true) (f := fV 1) (f2 := fV 2) (ρ := [some (.dat (.int c)), some (tI T), some (vI one)]) (w := tI T) (w2 := vI one) rfl rfl rfl rfl (ltrue_ev T one (by omega)) rfl
      unfold tNotV tTr
      rw [this]
      simp [specOf, outs, sSeq_ev, sSet, sRet, sRetN, sIf, sDrop, sRaise, sNext, sBrk, sCnt, sSetItem, sAug, augO, setItemO, setO_val, retO_val, bind_ok, bind_exc, bind_stk, bindS_ok, bindS_exc, bindS_stk, ret_some, look_val, look_brw, fC_ev, fV, bin, una, chain, tBo, tTr, tNotV, tAndV, tOrV, fAnd, fOr, fNot, fIf, boO_ev, trO, tru, aNil_ev, aCons, cT_ev, callB, looks, g1, frz1_dat, frz1_ml, bN_ev, fTup, fLst, mkT, mkL, frzL, iE, seqO, iR1, iR2, rg1, rg2, gAdd, gMul, gSub, gFDiv, gMod, gPow, gShl, gShr, gAnd, gOr, gXor, gLt, gLe, gGt, gGe, gAddI, gMulI, gU, gIx, gLen, gInt, gAbs, gList, gTuple, iop, tt2, orG, viewD, asL, asT, fApp, appO, isMl, fExt, extO, fSl, pNo, pSo, gSl, L2.atI, L2.ixN, gd, gEq_int, gNe_int, gEq_str, gNe_str, gNe_mlI, gEq_mlI, gNe_tupI, gEq_tupI])
  have hlen : ((allOf c.toNat).filter fun one => !isT T one).length ≤ 256 := Nat.le_trans (List.length_filter_le _ _) hal
  have e2 := fCall1 (spec := S__law_greatest) e1 rfl (great_ev (.inr rfl) (by omega)) rfl
  have e3 : sortSet ((allOf c.toNat).filter fun one => !isT T one) = (allOf c.toNat).filter fun one => !isT T one := (asc_iff.mpr ((asc_all c.toNat).sublist List.filter_sublist)).symm
  rw [e3] at e2
  unfold S__law_falses F__law_falses
  revert e2
  generalize fCall [false] S__law_greatest _ = F1
  intro e2
  simp [specOf, outs, sSeq_ev, sSet, sRet, sRetN, sIf, sDrop, sRaise, sNext, sBrk, sCnt, sSetItem, sAug, augO, setItemO, setO_val, retO_val, bind_ok, bind_exc, bind_stk, bindS_ok, bindS_exc, bindS_stk, ret_some, look_val, look_brw, fC_ev, fV, bin, una, chain, tBo, tTr, tNotV, tAndV, tOrV, fAnd, fOr, fNot, fIf, boO_ev, trO, tru, aNil_ev, aCons, cT_ev, callB, looks, g1, frz1_dat, frz1_ml, bN_ev, fTup, fLst, mkT, mkL, frzL, iE, seqO, iR1, iR2, rg1, rg2, gAdd, gMul, gSub, gFDiv, gMod, gPow, gShl, gShr, gAnd, gOr, gXor, gLt, gLe, gGt, gGe, gAddI, gMulI, gU, gIx, gLen, gInt, gAbs, gList, gTuple, iop, tt2, orG, viewD, asL, asT, fApp, appO, isMl, fExt, extO, fSl, pNo, pSo, gSl, L2.atI, L2.ixN, gd, gEq_int, gNe_int, gEq_str, gNe_str, gNe_mlI, gEq_mlI, gNe_tupI, gEq_tupI, e2, falsesOf, List.replicate]
theorem lcross_ev (c : Int) (T : List Int) (hc : okC c) (hl : T.length ≤ 1000) : S__law_crossing [.dat (.int c), tI T] = .ok (tI (crossOf c.toNat T)) [none, none] := by
  have hal := all_len (n8 hc)
  have e1 := fComp_pure (vs := [2]) (fi := iR1 (aCons (bin gShl (fC (.int 1)) (fV 0)) aNil)) (b := bN 2) (c := tTr (callB (g1 gAll) (aCons (fComp [3] (iE (fV 1)) (bN 3) cT (bin gNe (bin gAnd (fV 2) (fV 3)) (fC (.int 0)))) aNil))) (e := fV 2) (ι := PyData.int) (p := fun one => T.all fun other => decide (PySem.Builtin.bitAnd one other ≠ 0)) (g := PyData.int)
    (ρ := [some (.dat (.int c)), some (tI T), none, none]) (ρ1 := [some (.dat (.int c)), some (tI T), none, none]) (allOf c.toNat) (rng_all hc rfl) (by omega) (fun one _ => by
      refine ⟨[some (.dat (.int c)), some (tI T), some (vI one), none], rfl, rfl, ?_, fun _ => ⟨vI one, rfl, rfl⟩⟩
      have h := fComp_map (vs := [3]) (fi := iE (fV 1)) (b := bN 3) (e := bin gNe (bin gAnd (fV 2) (fV 3)) (fC (.int 0))) (ι := PyData.int) (g := fun other => .bool (decide (PySem.Builtin.bitAnd one other ≠ 0))) (ρ := [some (.dat (.int c)), some (tI T), some (vI one), none]) (ρ1 := [some (.dat (.int c)), some (tI T), some (vI one), none]) T (by simp [specOf, outs, sSeq_ev, sSet, sRet, sRetN, sIf, sDrop, sRaise, sNext, sBrk, sCnt, sSetItem, sAug, augO, setItemO, setO_val, retO_val, bind_ok, bind_exc, bind_stk, bindS_ok, bindS_exc, bindS_stk, ret_some, look_val, look_brw, fC_ev, fV, bin, una, chain, tBo, tTr, tNotV, tAndV, tOrV, fAnd, fOr, fNot, fIf, boO_ev, trO, tru, aNil_ev, aCons, cT_ev, callB, looks, g1, frz1_dat, frz1_ml, bN_ev, fTup, fLst, mkT, mkL, frzL, iE, seqO, iR1, iR2, rg1, rg2, gAdd, gMul, gSub, gFDiv, gMod, gPow, gShl, gShr, gAnd, gOr, gXor, gLt, gLe, gGt, gGe, gAddI, gMulI, gU, gIx, gLen, gInt, gAbs, gList, gTuple, iop, tt2, orG, viewD, asL, asT, fApp, appO, isMl, fExt, extO, fSl, pNo, pSo, gSl, L2.atI, L2.ixN, gd, gEq_int, gNe_int, gEq_str, gNe_str, gNe_mlI, gEq_mlI, gNe_tupI, gEq_tupI]) (by omega) (fun other _ => by
        refine ⟨[some (.dat (.int c)), some (tI T), some (vI one), some (vI other)], vB (decide (PySem.Builtin.bitAnd one other ≠ 0)), rfl, rfl, ?_, rfl⟩
        simp [specOf, outs, sSeq_ev, sSet, sRet, sRetN, sIf, sDrop, sRaise, sNext, sBrk, sCnt, sSetItem, sAug, augO, setItemO, setO_val, retO_val, bind_ok, bind_exc, bind_stk, bindS_ok, bindS_exc, bindS_stk, ret_some, look_val, look_brw, fC_ev, fV, bin, una, chain, tBo, tTr, tNotV, tAndV, tOrV, fAnd, fOr, fNot, fIf, boO_ev, trO, tru, aNil_ev, aCons, cT_ev, callB, looks, g1, frz1_dat, frz1_ml, bN_ev, fTup, fLst, mkT, mkL, frzL, iE, seqO, iR1, iR2, rg1, rg2, gAdd, gMul, gSub, gFDiv, gMod, gPow, gShl, gShr, gAnd, gOr, gXor, gLt, gLe, gGt, gGe, gAddI, gMulI, gU, gIx, gLen, gInt, gAbs, gList, gTuple, iop, tt2, orG, viewD, asL, asT, fApp, appO, isMl, fExt, extO, fSl, pNo, pSo, gSl, L2.atI, L2.ixN, gd, gEq_int, gNe_int, gEq_str, gNe_str, gNe_mlI, gEq_mlI, gNe_tupI, gEq_tupI])
      unfold tTr callB aCons
      rw [h]
      simp [specOf, outs, sSeq_ev, sSet, sRet, sRetN, sIf, sDrop, sRaise, sNext, sBrk, sCnt, sSetItem, sAug, augO, setItemO, setO_val, retO_val, bind_ok, bind_exc, bind_stk, bindS_ok, bindS_exc, bindS_stk, ret_some, look_val, look_brw, fC_ev, fV, bin, una, chain, tBo, tTr, tNotV, tAndV, tOrV, fAnd, fOr, fNot, fIf, boO_ev, trO, tru, aNil_ev, aCons, cT_ev, callB, looks, g1, frz1_dat, frz1_ml, bN_ev, fTup, fLst, mkT, mkL, frzL, iE, seqO, iR1, iR2, rg1, rg2, gAdd, gMul, gSub, gFDiv, gMod, gPow, gShl, gShr, gAnd, gOr, gXor, gLt, gLe, gGt, gGe, gAddI, gMulI, gU, gIx, gLen, gInt, gAbs, gList, gTuple, iop, tt2, orG, viewD, asL, asT, fApp, appO, isMl, fExt, extO, fSl, pNo, pSo, gSl, L2.atI, L2.ixN, gd, gEq_int, gNe_int, gEq_str, gNe_str, gNe_mlI, gEq_mlI, gNe_tupI, gEq_tupI, gAll_map])
  have hlen : ((allOf c.toNat).filter fun one => T.all fun other => decide (PySem.Builtin.bitAnd one other ≠ 0)).length ≤ 256 := Nat.le_trans (List.length_filter_le _ _) hal
  have e2 := fCall1 (spec := S__law_least) e1 rfl (lleast_ev (.inr rfl) (by omega)) rfl
  have e3 : sortSet ((allOf c.toNat).filter fun one => T.all fun other => decide (PySem.Builtin.bitAnd one other ≠ 0)) = trs c.toNat T := (asc_iff.mpr ((asc_all c.toNat).sublist List.filter_sublist)).symm
  rw [e3] at e2
  unfold S__law_crossing F__law_crossing
  revert e2
  generalize fCall [false] S__law_least _ = F1
  intro e2
  simp [specOf, outs, sSeq_ev, sSet, sRet, sRetN, sIf, sDrop, sRaise, sNext, sBrk, sCnt, sSetItem, sAug, augO, setItemO, setO_val, retO_val, bind_ok, bind_exc, bind_stk, bindS_ok, bindS_exc, bindS_stk, ret_some, look_val, look_brw, fC_ev, fV, bin, una, chain, tBo, tTr, tNotV, tAndV, tOrV, fAnd, fOr, fNot, fIf, boO_ev, trO, tru, aNil_ev, aCons, cT_ev, callB, looks, g1, frz1_dat, frz1_ml, bN_ev, fTup, fLst, mkT, mkL, frzL, iE, seqO, iR1, iR2, rg1, rg2, gAdd, gMul, gSub, gFDiv, gMod, gPow, gShl, gShr, gAnd, gOr, gXor, gLt, gLe, gGt, gGe, gAddI, gMulI, gU, gIx, gLen, gInt, gAbs, gList, gTuple, iop, tt2, orG, viewD, asL, asT, fApp, appO, isMl, fExt, extO, fSl, pNo, pSo, gSl, L2.atI, L2.ixN, gd, gEq_int, gNe_int, gEq_str, gNe_str, gNe_mlI, gEq_mlI, gNe_tupI, gEq_tupI, e2, crossOf, List.replicate]
end K08
end
section
set_option Elab.async false
set_option linter.all false
set_option maxRecDepth 100000
set_option maxHeartbeats 4000000
namespace K08
open Mi Fm
open PySem (PyData)
theorem fCall3 {spec : CSpec} {f f2 f3 : FE} {ρ : Rho} {w w2 w3 w' : Vl} {d d2 d3 : PyData} {o : List (Option Vl)} (hf : f ρ = .ok (.val w) ρ) (hw : viewD w = some d) (hf2 : f2 ρ = .ok (.val w2) ρ) (hw2 : viewD w2 = some d2) (hf3 : f3 ρ = .ok (.val w3) ρ) (hw3 : viewD w3 = some d3) (hs : spec [.dat d, .dat d2, .dat d3] = .ok w' o) (ho : o.length = 3) : fCall [false, false, false] spec (aCons f (aCons f2 (aCons f3 aNil))) ρ = .ok (.val w') ρ := by
  obtain ⟨x, y, z, rfl⟩ : ∃ x y z, o = [x, y, z] := by
    match o, ho with
    | [x, y, z], _ => exact ⟨x, y, z, rfl⟩
  simp [fCall, aCons, aNil, hf, hf2, hf3, bind_ok, ioC, argW, look, hw, hw2, hw3, hs, noBor, setIO]
theorem fCall3x {spec : CSpec} {f f2 f3 : FE} {ρ : Rho} {w w2 w3 : Vl} {d d2 d3 : PyData} {o : List (Option Vl)} {c : Nat} (hf : f ρ = .ok (.val w) ρ) (hw : viewD w = some d) (hf2 : f2 ρ = .ok (.val w2) ρ) (hw2 : viewD w2 = some d2) (hf3 : f3 ρ = .ok (.val w3) ρ) (hw3 : viewD w3 = some d3) (hs : spec [.dat d, .dat d2, .dat d3] = .exc c o) (ho : o.length = 3) : fCall [false, false, false] spec (aCons f (aCons f2 (aCons f3 aNil))) ρ = .exc c ρ := by
  obtain ⟨x, y, z, rfl⟩ : ∃ x y z, o = [x, y, z] := by
    match o, ho with
    | [x, y, z], _ => exact ⟨x, y, z, rfl⟩
  simp [fCall, aCons, aNil, hf, hf2, hf3, bind_ok, ioC, argW, look, hw, hw2, hw3, hs, noBor, setIO]
theorem pick_ev {io : List Bool} {ss : List CSpec} {s : CSpec} {fe : FE} {fa : FA} {ρ : Rho} {k : Int} (he : fe ρ = .ok (.val (vI k)) ρ) (ha : L2.atI ss k = some s) : fPick io ss fe fa ρ = fCall io s fa ρ := by
  unfold fPick
  rw [he, bind_ok]
  unfold pickO
  rw [look_val]
  show (match L2.atI ss k with
    | some s => fCall io s fa ρ
    | none => .stk) = _
  rw [ha]
theorem told_lo {k : Int} {s : CSpec} (hk : k < 3) (ha : L2.atI [S_crossing, S_greatest_falses, S_least_trues] k = some s) (c : Int) (one two : PyData) :
    (∀ d, s [.dat (.int c), .dat one] = .ok (.dat d) [none, none] → S__law_told [vI k, vI c, .dat one, .dat two] = .ok (.dat (.tuple [.str "told", d])) [none, none, none, none]) ∧
    (∀ e t, s [.dat (.int c), .dat one] = .exc e [none, none] → errR e = some t → S__law_told [vI k, vI c, .dat one, .dat two] = .ok (.dat (.str t)) [none, none, none, none]) := by
  have e1 := pick_ev (io := [false, false]) (fe := fV 0) (fa := aCons (fV 1) (aCons (fV 2) aNil)) (ρ := [some (vI k), some (vI c), some (.dat one), some (.dat two), none]) rfl ha
  constructor
  · intro d hs
    have e2 := e1.trans (fCall2 (w := vI c) (w2 := .dat one) rfl rfl rfl rfl hs rfl)
    unfold S__law_told F__law_told
    revert e2
    generalize fPick _ [S_crossing, S_greatest_falses, S_least_trues] _ _ = F1
    intro e2
    simp [specOf, outs, sSeq_ev, sSet, sRet, sRetN, sIf, sDrop, sRaise, sNext, sBrk, sCnt, sSetItem, sAug, augO, setItemO, setO_val, retO_val, bind_ok, bind_exc, bind_stk, bindS_ok, bindS_exc, bindS_stk, ret_some, look_val, look_brw, fC_ev, fV, bin, una, chain, tBo, tTr, tNotV, tAndV, tOrV, fAnd, fOr, fNot, fIf, boO_ev, trO, tru, aNil_ev, aCons, cT_ev, callB, looks, g1, frz1_dat, frz1_ml, bN_ev, fTup, fLst, mkT, mkL, frzL, iE, seqO, iR1, iR2, rg1, rg2, gAdd, gMul, gSub, gFDiv, gMod, gPow, gShl, gShr, gAnd, gOr, gXor, gLt, gLe, gGt, gGe, gAddI, gMulI, gU, gIx, gLen, gInt, gAbs, gList, gTuple, iop, tt2, orG, viewD, asL, asT, fApp, appO, isMl, fExt, extO, fSl, pNo, pSo, gSl, L2.atI, L2.ixN, gd, gEq_int, gNe_int, gEq_str, gNe_str, gNe_mlI, gEq_mlI, gNe_tupI, gEq_tupI, sTry, e2, hk]
  · intro e t hs ht
    have e2 := e1.trans (fCall2x (w := vI c) (w2 := .dat one) rfl rfl rfl rfl hs rfl)
    unfold S__law_told F__law_told
    revert e2
    generalize fPick _ [S_crossing, S_greatest_falses, S_least_trues] _ _ = F1
    intro e2
    simp [specOf, outs, sSeq_ev, sSet, sRet, sRetN, sIf, sDrop, sRaise, sNext, sBrk, sCnt, sSetItem, sAug, augO, setItemO, setO_val, retO_val, bind_ok, bind_exc, bind_stk, bindS_ok, bindS_exc, bindS_stk, ret_some, look_val, look_brw, fC_ev, fV, bin, una, chain, tBo, tTr, tNotV, tAndV, tOrV, fAnd, fOr, fNot, fIf, boO_ev, trO, tru, aNil_ev, aCons, cT_ev, callB, looks, g1, frz1_dat, frz1_ml, bN_ev, fTup, fLst, mkT, mkL, frzL, iE, seqO, iR1, iR2, rg1, rg2, gAdd, gMul, gSub, gFDiv, gMod, gPow, gShl, gShr, gAnd, gOr, gXor, gLt, gLe, gGt, gGe, gAddI, gMulI, gU, gIx, gLen, gInt, gAbs, gList, gTuple, iop, tt2, orG, viewD, asL, asT, fApp, appO, isMl, fExt, extO, fSl, pNo, pSo, gSl, L2.atI, L2.ixN, gd, gEq_int, gNe_int, gEq_str, gNe_str, gNe_mlI, gEq_mlI, gNe_tupI, gEq_tupI, sTry, e2, hk, ht]
theorem told_hi {k : Int} {s : CSpec} (hk : ¬ k < 3) (ha : L2.atI [S_is_true, S_is_whole, S_undecided] (k - 3) = some s) (c : Int) (one two : PyData) :
    (∀ d, s [.dat (.int c), .dat one, .dat two] = .ok (.dat d) [none, none, none] → S__law_told [vI k, vI c, .dat one, .dat two] = .ok (.dat (.tuple [.str "told", d])) [none, none, none, none]) ∧
    (∀ e t, s [.dat (.int c), .dat one, .dat two] = .exc e [none, none, none] → errR e = some t → S__law_told [vI k, vI c, .dat one, .dat two] = .ok (.dat (.str t)) [none, none, none, none]) := by
  have e1 := pick_ev (io := [false, false, false]) (fe := bin gSub (fV 0) (fC (.int 3))) (fa := aCons (fV 1) (aCons (fV 2) (aCons (fV 3) aNil))) (ρ := [some (vI k), some (vI c), some (.dat one), some (.dat two), none]) (k := k - 3) (by simp [specOf, outs, sSeq_ev, sSet, sRet, sRetN, sIf, sDrop, sRaise, sNext, sBrk, sCnt, sSetItem, sAug, augO, setItemO, setO_val, retO_val, bind_ok, bind_exc, bind_stk, bindS_ok, bindS_exc, bindS_stk, ret_some, look_val, look_brw, fC_ev, fV, bin, una, chain, tBo, tTr, tNotV, tAndV, tOrV, fAnd, fOr, fNot, fIf, boO_ev, trO, tru, aNil_ev, aCons, cT_ev, callB, looks, g1, frz1_dat, frz1_ml, bN_ev, fTup, fLst, mkT, mkL, frzL, iE, seqO, iR1, iR2, rg1, rg2, gAdd, gMul, gSub, gFDiv, gMod, gPow, gShl, gShr, gAnd, gOr, gXor, gLt, gLe, gGt, gGe, gAddI, gMulI, gU, gIx, gLen, gInt, gAbs, gList, gTuple, iop, tt2, orG, viewD, asL, asT, fApp, appO, isMl, fExt, extO, fSl, pNo, pSo, gSl, L2.atI, L2.ixN, gd, gEq_int, gNe_int, gEq_str, gNe_str, gNe_mlI, gEq_mlI, gNe_tupI, gEq_tupI]) ha
  constructor
  · intro d hs
    have e2 := e1.trans (fCall3 (w := vI c) (w2 := .dat one) (w3 := .dat two) rfl rfl rfl rfl rfl rfl hs rfl)
    unfold S__law_told F__law_told
    revert e2
    generalize fPick _ [S_is_true, S_is_whole, S_undecided] _ _ = F1
    generalize fPick _ [S_crossing, S_greatest_falses, S_least_trues] _ _ = F2
    intro e2
    simp [specOf, outs, sSeq_ev, sSet, sRet, sRetN, sIf, sDrop, sRaise, sNext, sBrk, sCnt, sSetItem, sAug, augO, setItemO, setO_val, retO_val, bind_ok, bind_exc, bind_stk, bindS_ok, bindS_exc, bindS_stk, ret_some, look_val, look_brw, fC_ev, fV, bin, una, chain, tBo, tTr, tNotV, tAndV, tOrV, fAnd, fOr, fNot, fIf, boO_ev, trO, tru, aNil_ev, aCons, cT_ev, callB, looks, g1, frz1_dat, frz1_ml, bN_ev, fTup, fLst, mkT, mkL, frzL, iE, seqO, iR1, iR2, rg1, rg2, gAdd, gMul, gSub, gFDiv, gMod, gPow, gShl, gShr, gAnd, gOr, gXor, gLt, gLe, gGt, gGe, gAddI, gMulI, gU, gIx, gLen, gInt, gAbs, gList, gTuple, iop, tt2, orG, viewD, asL, asT, fApp, appO, isMl, fExt, extO, fSl, pNo, pSo, gSl, L2.atI, L2.ixN, gd, gEq_int, gNe_int, gEq_str, gNe_str, gNe_mlI, gEq_mlI, gNe_tupI, gEq_tupI, sTry, e2, hk]
  · intro e t hs ht
    have e2 := e1.trans (fCall3x (w := vI c) (w2 := .dat one) (w3 := .dat two) rfl rfl rfl rfl rfl rfl hs rfl)
    unfold S__law_told F__law_told
    revert e2
    generalize fPick _ [S_is_true, S_is_whole, S_undecided] _ _ = F1
    generalize fPick _ [S_crossing, S_greatest_falses, S_least_trues] _ _ = F2
    intro e2
    simp [specOf, outs, sSeq_ev, sSet, sRet, sRetN, sIf, sDrop, sRaise, sNext, sBrk, sCnt, sSetItem, sAug, augO, setItemO, setO_val, retO_val, bind_ok, bind_exc, bind_stk, bindS_ok, bindS_exc, bindS_stk, ret_some, look_val, look_brw, fC_ev, fV, bin, una, chain, tBo, tTr, tNotV, tAndV, tOrV, fAnd, fOr, fNot, fIf, boO_ev, trO, tru, aNil_ev, aCons, cT_ev, callB, looks, g1, frz1_dat, frz1_ml, bN_ev, fTup, fLst, mkT, mkL, frzL, iE, seqO, iR1, iR2, rg1, rg2, gAdd, gMul, gSub, gFDiv, gMod, gPow, gShl, gShr, gAnd, gOr, gXor, gLt, gLe, gGt, gGe, gAddI, gMulI, gU, gIx, gLen, gInt, gAbs, gList, gTuple, iop, tt2, orG, viewD, asL, asT, fApp, appO, isMl, fExt, extO, fSl, pNo, pSo, gSl, L2.atI, L2.ixN, gd, gEq_int, gNe_int, gEq_str, gNe_str, gNe_mlI, gEq_mlI, gNe_tupI, gEq_tupI, sTry, e2, hk, ht]
/-! ### draws -/
abbrev St (nums : List Int) (c : Int) : Vl := .ml [.list (nums.map .int), .int c]
theorem next_call {nums : List Int} (hL : 0 < nums.length) (hL2 : nums.length < 10000) {f : FE} {rest : Rho} {c c' m : Int} (hf : f (some (St nums c) :: rest) = .ok (.val (vI m)) (some (St nums c') :: rest)) (hc : 0 ≤ c') (hc2 : c' < 1000000) (hm : 0 < m) :
    ∃ r, fCall [true, false] S__law_next (aCons (fV 0) (aCons f aNil)) (some (St nums c) :: rest) = .ok (.val (vI r)) (some (St nums (c' + 1)) :: rest) ∧ 0 ≤ r ∧ r < m := by
  obtain ⟨r, e, h0, h1⟩ := next_ev nums c' m hL hL2 hc hc2 hm
  refine ⟨r, ?_, h0, h1⟩
  have ev : fV 0 (some (St nums c) :: rest) = .ok (.brw 0) (some (St nums c) :: rest) := rfl
  have ea : aCons (fV 0) (aCons f aNil) (some (St nums c) :: rest) = .ok [.brw 0, .val (vI m)] (some (St nums c') :: rest) := by
    simp [aCons, aNil, ev, hf, bind_ok]
  unfold fCall
  rw [ea, bind_ok]
  have ew : argW (some (St nums c') :: rest) [true, false] [.brw 0, .val (vI m)] = some [St nums c', vI m] := rfl
  have ei : ioC [true, false] [.brw 0, .val (vI m)] = true := by rfl
  rw [if_pos ei, ew]
  simp only [e]
  have en : noBor [true, false] [.brw 0, .val (vI m)] = true := by rfl
  rw [en]
  rfl
theorem u_or {n : Nat} {x y : Int} (hx : U n x) (hy : U n y) : U n (PySem.Builtin.bitOr x y) := by
  have e1 : PySem.Builtin.bitOr x y = PySem.Builtin.bitAnd (whole n) (PySem.Builtin.bitOr x y) := bt_ext fun i => by
    rw [bt_and, bt_whole, bt_or]
    constructor
    · intro q
      refine ⟨?_, q⟩
      rcases q with q | q
      · exact Classical.byContradiction fun z => bt_high n i x hx (by omega) q
      · exact Classical.byContradiction fun z => bt_high n i y hy (by omega) q
    · exact fun q => q.2
  refine u_of_high n _ ?_ fun i hi q => ?_
  · rw [e1]; exact and_nonneg (u_whole n).1
  · rw [bt_or] at q
    exact q.elim (bt_high n i x hx hi) (bt_high n i y hy hi)
theorem u_zero (n : Nat) : U n 0 := ⟨Int.le_refl _, Int.pow_pos (by decide)⟩
end K08
end
section
set_option Elab.async false
set_option linter.all false
set_option maxRecDepth 100000
set_option maxHeartbeats 4000000
namespace K08
open Mi Fm
open PySem (PyData)
theorem ints_of {P : Int → Prop} : ∀ {ds : List PyData}, (∀ d ∈ ds, ∃ x, d = .int x ∧ P x) → ∃ ns : List Int, ds = ns.map .int ∧ ∀ x ∈ ns, P x
  | [], _ => ⟨[], rfl, fun _ h => by simp at h⟩
  | d :: ds, h => by
    obtain ⟨x, rfl, hx⟩ := h d (by simp)
    obtain ⟨ns, rfl, hn⟩ := ints_of (ds := ds) fun d hd => h d (List.mem_cons_of_mem _ hd)
    refine ⟨x :: ns, rfl, fun y hy => ?_⟩
    rcases List.mem_cons.mp hy with rfl | hy
    · exact hx
    · exact hn y hy
theorem fCall1' {spec : CSpec} {f : FE} {ρ ρ' : Rho} {w w' : Vl} {d : PyData} {o : List (Option Vl)} (hf : f ρ = .ok (.val w) ρ') (hw : viewD w = some d) (hs : spec [.dat d] = .ok w' o) (ho : o.length = 1) : fCall [false] spec (aCons f aNil) ρ = .ok (.val w') ρ' := by
  obtain ⟨x, rfl⟩ : ∃ x, o = [x] := by
    match o, ho with
    | [x], _ => exact ⟨x, rfl⟩
  simp [fCall, aCons, aNil, hf, bind_ok, ioC, argW, look, hw, hs, noBor, setIO]
theorem okB_nil (k : Int) : okBorder k [] := ⟨⟨List.Pairwise.nil, fun x h => by simp at h⟩, fun x h => by simp at h⟩
theorem okB_zero (k : Int) : okBorder k [0] := ⟨⟨by simp, fun x h => by
    obtain rfl : x = 0 := by simpa using h
    exact u_zero _⟩, fun x h y hy _ => by
    obtain rfl : x = 0 := by simpa using h
    simpa using hy⟩
theorem okB_least {k : Int} {ns : List Int} (h : ∀ x ∈ ns, U k.toNat x) : okBorder k (leastOf (sortSet ns)) :=
  ⟨⟨asc_least asc_sortSet, fun x hx => h x (mem_sortSet.mp (mem_least.mp hx).1)⟩, anti_least⟩
theorem okB_great {k : Int} {ns : List Int} (h : ∀ x ∈ ns, U k.toNat x) : okBorder k (greatOf (sortSet ns)) :=
  ⟨⟨asc_great asc_sortSet, fun x hx => h x (mem_sortSet.mp (mem_great.mp hx).1)⟩, anti_great⟩
theorem sh1 {nums : List Int} {c k : Int} {r : Rho} (hk : okC k) (h1 : fV 1 (some (St nums c) :: r) = .ok (.val (vI k)) (some (St nums c) :: r)) : bin gShl (fC (.int 1)) (fV 1) (some (St nums c) :: r) = .ok (.val (vI (2 ^ k.toNat))) (some (St nums c) :: r) := by
  have pw := pow1 hk
  simp [bin, bind_ok, h1, fC_ev, look_val, gShl, iop, gd, pw, ret_some]
theorem border_ev {nums : List Int} (hL : 0 < nums.length) (hL2 : nums.length < 10000) (c k : Int) (hc : 0 ≤ c) (hc2 : c < 900000) (hk : okC k) :
    ∃ (T : List Int) (c' : Int), S__law_border [St nums c, vI k] = .ok (tI T) [some (St nums c'), none] ∧ c ≤ c' ∧ c' ≤ c + 20 ∧ okBorder k T ∧ T.length ≤ 10 := by
  obtain ⟨r1, e1, a1, b1⟩ := next_call hL hL2 (f := fC (.int 6)) (rest := [some (vI k), none, none]) (c := c) (c' := c) (m := 6) rfl hc (by omega) (by decide)
  by_cases hz : r1 = 0
  · subst hz
    obtain ⟨r2, e2, a2, b2⟩ := next_call hL hL2 (f := fC (.int 2)) (rest := [some (vI k), some (vI 0), none]) (c := c + 1) (c' := c + 1) (m := 2) rfl (by omega) (by omega) (by decide)
    have : r2 = 0 ∨ r2 = 1 := by omega
    rcases this with rfl | rfl
    · refine ⟨[], c + 1 + 1, ?_, by omega, by omega, okB_nil k, by simp⟩
      unfold S__law_border F__law_border
      simp [specOf, outs, sSeq_ev, sSet, sRet, sRetN, sIf, sDrop, sRaise, sNext, sBrk, sCnt, sSetItem, sAug, augO, setItemO, setO_val, retO_val, bind_ok, bind_exc, bind_stk, bindS_ok, bindS_exc, bindS_stk, ret_some, look_val, look_brw, fC_ev, fV, bin, una, chain, tBo, tTr, tNotV, tAndV, tOrV, fAnd, fOr, fNot, fIf, boO_ev, trO, tru, aNil_ev, aCons, cT_ev, callB, looks, g1, frz1_dat, frz1_ml, bN_ev, fTup, fLst, mkT, mkL, frzL, iE, seqO, iR1, iR2, rg1, rg2, gAdd, gMul, gSub, gFDiv, gMod, gPow, gShl, gShr, gAnd, gOr, gXor, gLt, gLe, gGt, gGe, gAddI, gMulI, gU, gIx, gLen, gInt, gAbs, gList, gTuple, iop, tt2, orG, viewD, asL, asT, fApp, appO, isMl, fExt, extO, fSl, pNo, pSo, gSl, L2.atI, L2.ixN, gd, gEq_int, gNe_int, gEq_str, gNe_str, gNe_mlI, gEq_mlI, gNe_tupI, gEq_tupI, e1, e2]
    · refine ⟨[0], c + 1 + 1, ?_, by omega, by omega, okB_zero k, by simp⟩
      unfold S__law_border F__law_border
      simp [specOf, outs, sSeq_ev, sSet, sRet, sRetN, sIf, sDrop, sRaise, sNext, sBrk, sCnt, sSetItem, sAug, augO, setItemO, setO_val, retO_val, bind_ok, bind_exc, bind_stk, bindS_ok, bindS_exc, bindS_stk, ret_some, look_val, look_brw, fC_ev, fV, bin, una, chain, tBo, tTr, tNotV, tAndV, tOrV, fAnd, fOr, fNot, fIf, boO_ev, trO, tru, aNil_ev, aCons, cT_ev, callB, looks, g1, frz1_dat, frz1_ml, bN_ev, fTup, fLst, mkT, mkL, frzL, iE, seqO, iR1, iR2, rg1, rg2, gAdd, gMul, gSub, gFDiv, gMod, gPow, gShl, gShr, gAnd, gOr, gXor, gLt, gLe, gGt, gGe, gAddI, gMulI, gU, gIx, gLen, gInt, gAbs, gList, gTuple, iop, tt2, orG, viewD, asL, asT, fApp, appO, isMl, fExt, extO, fSl, pNo, pSo, gSl, L2.atI, L2.ixN, gd, gEq_int, gNe_int, gEq_str, gNe_str, gNe_mlI, gEq_mlI, gNe_tupI, gEq_tupI, e1, e2]
  · obtain ⟨r3, e3, a3, b3⟩ := next_call hL hL2 (f := fC (.int 5)) (rest := [some (vI k), some (vI r1), none]) (c := c + 1) (c' := c + 1) (m := 5) rfl (by omega) (by omega) (by decide)
    have hi : iR1 (aCons (bin gAdd (fC (.int 1)) (fCall [true, false] S__law_next (aCons (fV 0) (aCons (fC (.int 5)) aNil)))) aNil) [some (St nums (c + 1)), some (vI k), some (vI r1), none] = .ok (rangeD 0 (1 + r3)) [some (St nums (c + 1 + 1)), some (vI k), some (vI r1), none] := by
      have ea : aCons (bin gAdd (fC (.int 1)) (fCall [true, false] S__law_next (aCons (fV 0) (aCons (fC (.int 5)) aNil)))) aNil [some (St nums (c + 1)), some (vI k), some (vI r1), none] = .ok [.val (vI (1 + r3))] [some (St nums (c + 1 + 1)), some (vI k), some (vI r1), none] := by
        revert e3
        generalize fCall [true, false] S__law_next _ = F1
        intro e3
        simp [specOf, outs, sSeq_ev, sSet, sRet, sRetN, sIf, sDrop, sRaise, sNext, sBrk, sCnt, sSetItem, sAug, augO, setItemO, setO_val, retO_val, bind_ok, bind_exc, bind_stk, bindS_ok, bindS_exc, bindS_stk, ret_some, look_val, look_brw, fC_ev, fV, bin, una, chain, tBo, tTr, tNotV, tAndV, tOrV, fAnd, fOr, fNot, fIf, boO_ev, trO, tru, aNil_ev, aCons, cT_ev, callB, looks, g1, frz1_dat, frz1_ml, bN_ev, fTup, fLst, mkT, mkL, frzL, iE, seqO, iR1, iR2, rg1, rg2, gAdd, gMul, gSub, gFDiv, gMod, gPow, gShl, gShr, gAnd, gOr, gXor, gLt, gLe, gGt, gGe, gAddI, gMulI, gU, gIx, gLen, gInt, gAbs, gList, gTuple, iop, tt2, orG, viewD, asL, asT, fApp, appO, isMl, fExt, extO, fSl, pNo, pSo, gSl, L2.atI, L2.ixN, gd, gEq_int, gNe_int, gEq_str, gNe_str, gNe_mlI, gEq_mlI, gNe_tupI, gEq_tupI, e3]
      unfold iR1
      rw [ea, bind_ok]
      exact rg1_ev (by omega) (by omega)
    obtain ⟨ds', ρ', e4, e5, e6, c4, y4, rfl, hc4⟩ := compL_inv (vs := [3]) (b := bN 3) (c := cT) (e := bin gOr (fCall [true, false] S__law_next (aCons (fV 0) (aCons (bin gShl (fC (.int 1)) (fV 1)) aNil))) (bin gMul (fCall [true, false] S__law_next (aCons (fV 0) (aCons (bin gShl (fC (.int 1)) (fV 1)) aNil))) (callB (g1 gInt) (aCons (bin gGt (fV 2) (fC (.int 3))) aNil))))
      (fun j ρ => ∃ (c' : Int) (y : Option Vl), ρ = [some (St nums c'), some (vI k), some (vI r1), y] ∧ c' = c + 2 + 2 * j) (fun d => ∃ x, d = .int x ∧ U k.toNat x) (ds := rangeD 0 (1 + r3)) (ρ := [some (St nums (c + 1 + 1)), some (vI k), some (vI r1), none]) ⟨_, none, rfl, by omega⟩ (by
        rintro j d ρ hd ⟨c', y, rfl, hc'⟩
        obtain ⟨rfl, hj⟩ := range_at hd
        have p2 : (0 : Int) < 2 ^ k.toNat := Int.pow_pos (by decide)
        obtain ⟨x1, q1, g1', g2'⟩ := next_call hL hL2 (f := bin gShl (fC (.int 1)) (fV 1)) (rest := [some (vI k), some (vI r1), some (vI (0 + (j : Int)))]) (c := c') (c' := c') (m := 2 ^ k.toNat) (sh1 hk rfl) (by omega) (by omega) p2
        obtain ⟨x2, q2, g3, g4⟩ := next_call hL hL2 (f := bin gShl (fC (.int 1)) (fV 1)) (rest := [some (vI k), some (vI r1), some (vI (0 + (j : Int)))]) (c := c' + 1) (c' := c' + 1) (m := 2 ^ k.toNat) (sh1 hk rfl) (by omega) (by omega) p2
        revert q1 q2
        generalize fCall [true, false] S__law_next _ = F1
        intro q1 q2
        have m0 : L2.CMul x2 0 := .inr ⟨by decide, by decide⟩
        have m1 : L2.CMul x2 1 := .inr ⟨by decide, by decide⟩
        by_cases h3 : 3 < r1
        · refine ⟨[some (St nums c'), some (vI k), some (vI r1), some (vI (0 + (j : Int)))], [some (St nums c'), some (vI k), some (vI r1), some (vI (0 + (j : Int)))], .val (vI (PySem.Builtin.bitOr x1 x2)), [some (St nums (c' + 1 + 1)), some (vI k), some (vI r1), some (vI (0 + (j : Int)))], .int (PySem.Builtin.bitOr x1 x2), _, rfl, rfl, ?_, rfl, ⟨_, rfl, u_or ⟨g1', g2'⟩ ⟨g3, g4⟩⟩, _, some (vI (0 + (j : Int))), rfl, by omega⟩
          rw [Int.zero_add] at q1 q2 ⊢
          simp [specOf, outs, sSeq_ev, sSet, sRet, sRetN, sIf, sDrop, sRaise, sNext, sBrk, sCnt, sSetItem, sAug, augO, setItemO, setO_val, retO_val, bind_ok, bind_exc, bind_stk, bindS_ok, bindS_exc, bindS_stk, ret_some, look_val, look_brw, fC_ev, fV, bin, una, chain, tBo, tTr, tNotV, tAndV, tOrV, fAnd, fOr, fNot, fIf, boO_ev, trO, tru, aNil_ev, aCons, cT_ev, callB, looks, g1, frz1_dat, frz1_ml, bN_ev, fTup, fLst, mkT, mkL, frzL, iE, seqO, iR1, iR2, rg1, rg2, gAdd, gMul, gSub, gFDiv, gMod, gPow, gShl, gShr, gAnd, gOr, gXor, gLt, gLe, gGt, gGe, gAddI, gMulI, gU, gIx, gLen, gInt, gAbs, gList, gTuple, iop, tt2, orG, viewD, asL, asT, fApp, appO, isMl, fExt, extO, fSl, pNo, pSo, gSl, L2.atI, L2.ixN, gd, gEq_int, gNe_int, gEq_str, gNe_str, gNe_mlI, gEq_mlI, gNe_tupI, gEq_tupI, q1, q2, h3, m1, gInt]
        · refine ⟨[some (St nums c'), some (vI k), some (vI r1), some (vI (0 + (j : Int)))], [some (St nums c'), some (vI k), some (vI r1), some (vI (0 + (j : Int)))], .val (vI (PySem.Builtin.bitOr x1 0)), [some (St nums (c' + 1 + 1)), some (vI k), some (vI r1), some (vI (0 + (j : Int)))], .int (PySem.Builtin.bitOr x1 0), _, rfl, rfl, ?_, rfl, ⟨_, rfl, u_or ⟨g1', g2'⟩ (u_zero _)⟩, _, some (vI (0 + (j : Int))), rfl, by omega⟩
          rw [Int.zero_add] at q1 q2 ⊢
          simp [specOf, outs, sSeq_ev, sSet, sRet, sRetN, sIf, sDrop, sRaise, sNext, sBrk, sCnt, sSetItem, sAug, augO, setItemO, setO_val, retO_val, bind_ok, bind_exc, bind_stk, bindS_ok, bindS_exc, bindS_stk, ret_some, look_val, look_brw, fC_ev, fV, bin, una, chain, tBo, tTr, tNotV, tAndV, tOrV, fAnd, fOr, fNot, fIf, boO_ev, trO, tru, aNil_ev, aCons, cT_ev, callB, looks, g1, frz1_dat, frz1_ml, bN_ev, fTup, fLst, mkT, mkL, frzL, iE, seqO, iR1, iR2, rg1, rg2, gAdd, gMul, gSub, gFDiv, gMod, gPow, gShl, gShr, gAnd, gOr, gXor, gLt, gLe, gGt, gGe, gAddI, gMulI, gU, gIx, gLen, gInt, gAbs, gList, gTuple, iop, tt2, orG, viewD, asL, asT, fApp, appO, isMl, fExt, extO, fSl, pNo, pSo, gSl, L2.atI, L2.ixN, gd, gEq_int, gNe_int, gEq_str, gNe_str, gNe_mlI, gEq_mlI, gNe_tupI, gEq_tupI, q1, q2, h3, m0, gInt])
    obtain ⟨ns, rfl, hU⟩ := ints_of e6
    rw [range_len] at e5 hc4
    rw [List.length_map] at e5
    have e7 := fComp_ev (vs := [3]) (b := bN 3) (c := cT) hi (by rw [range_len]; omega) e4
    have e8 := fCall1' (spec := S__law_least) e7 rfl (lleast_ev (ns := ns) (.inr rfl) (by omega)) rfl
    have e9 : restR [some (St nums (c + 1 + 1)), some (vI k), some (vI r1), none] [some (St nums c4), some (vI k), some (vI r1), y4] [3] = [some (St nums c4), some (vI k), some (vI r1), none] := rfl
    rw [e9] at e8
    refine ⟨leastOf (sortSet ns), c4, ?_, by omega, by omega, okB_least hU, ?_⟩
    · unfold S__law_border F__law_border
      revert e8
      generalize fCall [false] S__law_least _ = F1
      intro e8
      simp [specOf, outs, sSeq_ev, sSet, sRet, sRetN, sIf, sDrop, sRaise, sNext, sBrk, sCnt, sSetItem, sAug, augO, setItemO, setO_val, retO_val, bind_ok, bind_exc, bind_stk, bindS_ok, bindS_exc, bindS_stk, ret_some, look_val, look_brw, fC_ev, fV, bin, una, chain, tBo, tTr, tNotV, tAndV, tOrV, fAnd, fOr, fNot, fIf, boO_ev, trO, tru, aNil_ev, aCons, cT_ev, callB, looks, g1, frz1_dat, frz1_ml, bN_ev, fTup, fLst, mkT, mkL, frzL, iE, seqO, iR1, iR2, rg1, rg2, gAdd, gMul, gSub, gFDiv, gMod, gPow, gShl, gShr, gAnd, gOr, gXor, gLt, gLe, gGt, gGe, gAddI, gMulI, gU, gIx, gLen, gInt, gAbs, gList, gTuple, iop, tt2, orG, viewD, asL, asT, fApp, appO, isMl, fExt, extO, fSl, pNo, pSo, gSl, L2.atI, L2.ixN, gd, gEq_int, gNe_int, gEq_str, gNe_str, gNe_mlI, gEq_mlI, gNe_tupI, gEq_tupI, e1, hz, e8]
    · have h1 : (leastOf (sortSet ns)).length ≤ (sortSet ns).length := List.length_filter_le _ _
      have h2 := sortSet_len ns
      omega
end K08
end
section
set_option Elab.async false
set_option linter.all false
set_option maxRecDepth 100000
set_option maxHeartbeats 4000000
namespace K08
open Mi Fm PySem
open PySem (PyData)
noncomputable abbrev A1 : FS := (sSet 1 (bin gAdd (fC (.int 1)) (fCall [true, false] S__law_next (aCons (fV 0) (aCons (bin gIx (fLst (aCons (fC (.int 4)) (aCons (fC (.int 7)) (aCons (fC (.int 8)) aNil)))) (fCall [true, false] S__law_next (aCons (fV 0) (aCons (fC (.int 3)) aNil)))) aNil)))))
noncomputable abbrev A2 : FS := (sSet 2 (fCall [true, false] S__law_border (aCons (fV 0) (aCons (fV 1) aNil))))
noncomputable abbrev A3 : FS := (sSet 3 (fCall [false, false] S__law_falses (aCons (fV 1) (aCons (fV 2) aNil))))
noncomputable abbrev A4 : FS := (sSet 4 (callB (g1 gRepr) (aCons (fTup (aCons (fV 2) (aCons (fV 3) aNil))) aNil)))
noncomputable abbrev A5 : FS := (sSet 5 (bin gSub (bin gShl (fC (.int 1)) (fV 1)) (fC (.int 1))))
noncomputable abbrev A6 : FS := (sSet 6 (callB (g1 gTuple) (aCons (callB (orC (g1 gSortS) (g1 gSorted)) (aCons (callB (g1 gSet) (aCons (fComp [8] (iR1 (aCons (fCall [true, false] S__law_next (aCons (fV 0) (aCons (fC (.int 5)) aNil))) aNil)) (bN 8) cT (fCall [true, false] S__law_next (aCons (fV 0) (aCons (bin gShl (fC (.int 1)) (fV 1)) aNil)))) aNil)) aNil)) aNil)))
noncomputable abbrev A7 : FS := (sSet 7 (fLst (aCons (fTup (aCons (fC (.str "told")) (aCons (fCall [false, false] S__law_crossing (aCons (fV 1) (aCons (fV 6) aNil))) aNil))) (aCons (fTup (aCons (fC (.str "told")) (aCons (fV 3) aNil))) (aCons (fTup (aCons (fC (.str "told")) (aCons (fV 2) aNil))) aNil)))))
noncomputable abbrev A8 : FS := (sIf (tNotV (tTr (fCall [false, false] S__law_same (aCons (fLst (aCons (fCall [false, false, false, false] S__law_told (aCons (fC (.int 0)) (aCons (fV 1) (aCons (fV 6) (aCons (fC (.int 0)) aNil))))) (aCons (fCall [false, false, false, false] S__law_told (aCons (fC (.int 1)) (aCons (fV 1) (aCons (fV 2) (aCons (fC (.int 0)) aNil))))) (aCons (fCall [false, false, false, false] S__law_told (aCons (fC (.int 2)) (aCons (fV 1) (aCons (fV 3) (aCons (fC (.int 0)) aNil))))) aNil)))) (aCons (fV 7) aNil))))) (sRet (fC (.bool false))) sNext)
noncomputable abbrev A9 : FS := (sIf (tBo (bin gNe (fCall [false, false] S__law_crossing (aCons (fV 1) (aCons (fV 2) aNil))) (callB (g1 gTuple) (aCons (callB (orC (g1 gSortS) (g1 gSorted)) (aCons (fComp [9] (iE (fV 3)) (bN 9) cT (bin gAnd (fV 5) (una (gU Builtin.bitNot) (fV 9)))) aNil)) aNil)))) (sRet (fC (.bool false))) sNext)
noncomputable abbrev A10 : FS := (sFor (iR1 (aCons (fC (.int 3)) aNil)) (bN 8) (sSeq (sSet 9 (fCall [true, false] S__law_next (aCons (fV 0) (aCons (bin gShl (fC (.int 1)) (fV 1)) aNil)))) (sIf (tNotV (tTr (fCall [false, false] S__law_same (aCons (fCall [false, false, false, false] S__law_told (aCons (fC (.int 3)) (aCons (fV 1) (aCons (fV 2) (aCons (fV 9) aNil))))) (aCons (fTup (aCons (fC (.str "told")) (aCons (fCall [false, false] S__law_true (aCons (fV 2) (aCons (fV 9) aNil))) aNil))) aNil))))) (sRet (fC (.bool false))) sNext)))
noncomputable abbrev A11 : FS := (sSet 10 (bin gIx (fLst (aCons (fV 3) (aCons (fSl (fV 3) (pSo (fC (.int 1))) pNo) (aCons (fCall [false] S__law_greatest (aCons (fComp [8] (iR1 (aCons (fC (.int 3)) aNil)) (bN 8) cT (fCall [true, false] S__law_next (aCons (fV 0) (aCons (bin gShl (fC (.int 1)) (fV 1)) aNil)))) aNil)) aNil)))) (fCall [true, false] S__law_next (aCons (fV 0) (aCons (fC (.int 3)) aNil)))))
noncomputable abbrev A12 : FS := (sSet 11 (bin gIx (fLst (aCons (fV 2) (aCons (fSl (fV 2) (pSo (fC (.int 1))) pNo) (aCons (fSl (fV 2) pNo (pSo (fC (.int 1)))) aNil)))) (fCall [true, false] S__law_next (aCons (fV 0) (aCons (fC (.int 3)) aNil)))))
noncomputable abbrev A13 : FS := (sSet 12 (fC (.str "refused")))
noncomputable abbrev A14 : FS := (sIf (tNotV (tTr (callB (g1 gAny) (aCons (fComp [16] (iE (fV 11)) (bN 16) cT (callB (g1 gAny) (aCons (fComp [17] (iE (fV 10)) (bN 17) cT (bin gEq (bin gAnd (fV 16) (una (gU Builtin.bitNot) (fV 17))) (fC (.int 0)))) aNil))) aNil)))) (sSeq (sSet 13 (fComp [9] (iR1 (aCons (bin gShl (fC (.int 1)) (fV 1)) aNil)) (bN 9) (tAndV (tNotV (tTr (fCall [false, false] S__law_true (aCons (fV 11) (aCons (fV 9) aNil))))) (tNotV (tTr (callB (g1 gAny) (aCons (fComp [17] (iE (fV 10)) (bN 17) cT (bin gEq (bin gAnd (fV 9) (una (gU Builtin.bitNot) (fV 17))) (fC (.int 0)))) aNil))))) (fV 9))) (sSeq (sSet 12 (fTup (aCons (fC (.str "told")) (aCons (bin gIx (bin gAdd (fV 13) (fLst (aCons (fC (.int 0)) aNil))) (fC (.int 0))) aNil)))) (sIf (tBo (bin gEq (callB (g1 gLen) (aCons (fV 13) aNil)) (fC (.int 0)))) (sSet 12 (fC (.str "missing"))) sNext))) sNext)
noncomputable abbrev A15 : FS := (sIf (tNotV (tTr (fCall [false, false] S__law_same (aCons (fLst (aCons (fCall [false, false, false, false] S__law_told (aCons (fC (.int 5)) (aCons (fV 1) (aCons (fV 11) (aCons (fV 10) aNil))))) (aCons (fCall [false, false, false, false] S__law_told (aCons (fC (.int 4)) (aCons (fV 1) (aCons (fV 11) (aCons (fV 10) aNil))))) aNil))) (aCons (fLst (aCons (fV 12) (aCons (fTup (aCons (fC (.str "told")) (aCons (bin gEq (fCall [false, false] S__law_falses (aCons (fV 1) (aCons (fV 11) aNil))) (fV 10)) aNil))) aNil))) aNil))))) (sRet (fC (.bool false))) sNext)
noncomputable abbrev A16 : FS := (sSet 14 (bin gAdd (fLst (aCons (fTup (aCons (bin gAdd (fV 5) (fC (.int 1))) aNil)) (aCons (fTup (aCons (una (gU fun i => -i) (fC (.int 1))) aNil)) (aCons (fTup (aCons (fC (.int 0)) (aCons (fC (.int 0)) aNil))) (aCons (fTup (aCons (fC (.int 1)) (aCons (fC (.int 0)) aNil))) aNil))))) (fLst (aCons (fTup (aCons (fC (.int 0)) (aCons (fC (.int 1)) aNil))) aNil))))
noncomputable abbrev A17 : FS := (sSet 15 (bin gAdd (bin gAdd (bin gAdd (bin gAdd (fComp [9] (iE (fSl (fV 14) pNo (pSo (fC (.int 4))))) (bN 9) cT (fCall [false, false, false, false] S__law_told (aCons (fC (.int 0)) (aCons (fV 1) (aCons (fV 9) (aCons (fC (.int 0)) aNil)))))) (fComp [9] (iE (fV 14)) (bN 9) cT (fCall [false, false, false, false] S__law_told (aCons (fC (.int 1)) (aCons (fV 1) (aCons (fV 9) (aCons (fC (.int 0)) aNil))))))) (fComp [9] (iE (fV 14)) (bN 9) cT (fCall [false, false, false, false] S__law_told (aCons (fC (.int 2)) (aCons (fV 1) (aCons (fV 9) (aCons (fC (.int 0)) aNil))))))) (fComp [9] (iE (fV 14)) (bN 9) cT (fCall [false, false, false, false] S__law_told (aCons (fC (.int 3)) (aCons (fV 1) (aCons (fV 9) (aCons (fC (.int 0)) aNil))))))) (fComp [9] (iE (fV 14)) (bN 9) cT (fCall [false, false, false, false] S__law_told (aCons (fC (.int 4)) (aCons (fV 1) (aCons (fV 2) (aCons (fV 9) aNil))))))))
noncomputable abbrev A18 : FS := (sSet 15 (bin gAdd (fV 15) (fLst (aCons (fCall [false, false, false, false] S__law_told (aCons (fC (.int 5)) (aCons (fV 1) (aCons (bin gIx (fV 14) (fC (.int 4))) (aCons (fTup aNil) aNil))))) (aCons (fCall [false, false, false, false] S__law_told (aCons (fC (.int 3)) (aCons (fV 1) (aCons (fV 2) (aCons (bin gAdd (fV 5) (fC (.int 1))) aNil))))) (aCons (fCall [false, false, false, false] S__law_told (aCons (fC (.int 5)) (aCons (fV 1) (aCons (fTup aNil) (aCons (bin gIx (fV 14) (fC (.int 4))) aNil))))) aNil))))))
noncomputable abbrev A19 : FS := (sRet (fAnd (bin gEq (fV 15) (bin gMul (fLst (aCons (fC (.str "refused")) aNil)) (fC (.int 27)))) (bin gEq (callB (g1 gRepr) (aCons (fTup (aCons (fV 2) (aCons (fV 3) aNil))) aNil)) (fV 4))))
theorem F__law_fits_eq : F__law_fits = sSeq A1 (sSeq A2 (sSeq A3 (sSeq A4 (sSeq A5 (sSeq A6 (sSeq A7 (sSeq A8 (sSeq A9 (sSeq A10 (sSeq A11 (sSeq A12 (sSeq A13 (sSeq A14 (sSeq A15 (sSeq A16 (sSeq A17 (sSeq A18 A19))))))))))))))))) := rfl

theorem st_call {nums : List Int} {spec : CSpec} {f : FE} {rest : Rho} {c c' c'' m : Int} {w : Vl} (hf : f (some (St nums c) :: rest) = .ok (.val (vI m)) (some (St nums c') :: rest)) (e : spec [St nums c', vI m] = .ok w [some (St nums c''), none]) :
    fCall [true, false] spec (aCons (fV 0) (aCons f aNil)) (some (St nums c) :: rest) = .ok (.val w) (some (St nums c'') :: rest) := by
  have ev : fV 0 (some (St nums c) :: rest) = .ok (.brw 0) (some (St nums c) :: rest) := rfl
  have ea : aCons (fV 0) (aCons f aNil) (some (St nums c) :: rest) = .ok [.brw 0, .val (vI m)] (some (St nums c') :: rest) := by
    simp [aCons, aNil, ev, hf, bind_ok]
  unfold fCall
  rw [ea, bind_ok]
  have ew : argW (some (St nums c') :: rest) [true, false] [.brw 0, .val (vI m)] = some [St nums c', vI m] := rfl
  have ei : ioC [true, false] [.brw 0, .val (vI m)] = true := by rfl
  rw [if_pos ei, ew]
  simp only [e]
  have en : noBor [true, false] [.brw 0, .val (vI m)] = true := by rfl
  rw [en]
  rfl
section
variable {nums : List Int} (hL : 0 < nums.length) (hL2 : nums.length < 10000)
include hL hL2
theorem f1 (c : Int) (hc : 0 ≤ c) (hc2 : c < 800000) : ∃ k, A1 [some (St nums c), none, none, none, none, none, none, none, none, none, none, none, none, none, none, none, none, none] = .nx [some (St nums (c + 1 + 1)), some (vI k), none, none, none, none, none, none, none, none, none, none, none, none, none, none, none, none] ∧ okC k := by
  obtain ⟨r1, e1, a1, b1⟩ := next_call hL hL2 (f := fC (.int 3)) (rest := [none, none, none, none, none, none, none, none, none, none, none, none, none, none, none, none, none]) (c := c) (c' := c) (m := 3) rfl hc (by omega) (by decide)
  obtain ⟨m, em, hm⟩ : ∃ m : Int, bin gIx (fLst (aCons (fC (.int 4)) (aCons (fC (.int 7)) (aCons (fC (.int 8)) aNil)))) (fCall [true, false] S__law_next (aCons (fV 0) (aCons (fC (.int 3)) aNil))) [some (St nums c), none, none, none, none, none, none, none, none, none, none, none, none, none, none, none, none, none] = .ok (.val (vI m)) [some (St nums (c + 1)), none, none, none, none, none, none, none, none, none, none, none, none, none, none, none, none, none] ∧ 4 ≤ m ∧ m ≤ 8 := by
    have : r1 = 0 ∨ r1 = 1 ∨ r1 = 2 := by omega
    rcases this with rfl | rfl | rfl
    · exact ⟨4, by simp [specOf, outs, sSeq_ev, sSet, sRet, sRetN, sIf, sDrop, sRaise, sNext, sBrk, sCnt, sSetItem, sAug, augO, setItemO, setO_val, retO_val, bind_ok, bind_exc, bind_stk, bindS_ok, bindS_exc, bindS_stk, ret_some, look_val, look_brw, fC_ev, fV, bin, una, chain, tBo, tTr, tNotV, tAndV, tOrV, fAnd, fOr, fNot, fIf, boO_ev, trO, tru, aNil_ev, aCons, cT_ev, callB, looks, g1, frz1_dat, frz1_ml, bN_ev, fTup, fLst, mkT, mkL, frzL, iE, seqO, iR1, iR2, rg1, rg2, gAdd, gMul, gSub, gFDiv, gMod, gPow, gShl, gShr, gAnd, gOr, gXor, gLt, gLe, gGt, gGe, gAddI, gMulI, gU, gIx, gLen, gInt, gAbs, gList, gTuple, iop, tt2, orG, viewD, asL, asT, fApp, appO, isMl, fExt, extO, fSl, pNo, pSo, gSl, L2.atI, L2.ixN, gd, gEq_int, gNe_int, gEq_str, gNe_str, gNe_mlI, gEq_mlI, gNe_tupI, gEq_tupI, e1], by decide, by decide⟩
    · exact ⟨7, by simp [specOf, outs, sSeq_ev, sSet, sRet, sRetN, sIf, sDrop, sRaise, sNext, sBrk, sCnt, sSetItem, sAug, augO, setItemO, setO_val, retO_val, bind_ok, bind_exc, bind_stk, bindS_ok, bindS_exc, bindS_stk, ret_some, look_val, look_brw, fC_ev, fV, bin, una, chain, tBo, tTr, tNotV, tAndV, tOrV, fAnd, fOr, fNot, fIf, boO_ev, trO, tru, aNil_ev, aCons, cT_ev, callB, looks, g1, frz1_dat, frz1_ml, bN_ev, fTup, fLst, mkT, mkL, frzL, iE, seqO, iR1, iR2, rg1, rg2, gAdd, gMul, gSub, gFDiv, gMod, gPow, gShl, gShr, gAnd, gOr, gXor, gLt, gLe, gGt, gGe, gAddI, gMulI, gU, gIx, gLen, gInt, gAbs, gList, gTuple, iop, tt2, orG, viewD, asL, asT, fApp, appO, isMl, fExt, extO, fSl, pNo, pSo, gSl, L2.atI, L2.ixN, gd, gEq_int, gNe_int, gEq_str, gNe_str, gNe_mlI, gEq_mlI, gNe_tupI, gEq_tupI, e1], by decide, by decide⟩
    · exact ⟨8, by simp [specOf, outs, sSeq_ev, sSet, sRet, sRetN, sIf, sDrop, sRaise, sNext, sBrk, sCnt, sSetItem, sAug, augO, setItemO, setO_val, retO_val, bind_ok, bind_exc, bind_stk, bindS_ok, bindS_exc, bindS_stk, ret_some, look_val, look_brw, fC_ev, fV, bin, una, chain, tBo, tTr, tNotV, tAndV, tOrV, fAnd, fOr, fNot, fIf, boO_ev, trO, tru, aNil_ev, aCons, cT_ev, callB, looks, g1, frz1_dat, frz1_ml, bN_ev, fTup, fLst, mkT, mkL, frzL, iE, seqO, iR1, iR2, rg1, rg2, gAdd, gMul, gSub, gFDiv, gMod, gPow, gShl, gShr, gAnd, gOr, gXor, gLt, gLe, gGt, gGe, gAddI, gMulI, gU, gIx, gLen, gInt, gAbs, gList, gTuple, iop, tt2, orG, viewD, asL, asT, fApp, appO, isMl, fExt, extO, fSl, pNo, pSo, gSl, L2.atI, L2.ixN, gd, gEq_int, gNe_int, gEq_str, gNe_str, gNe_mlI, gEq_mlI, gNe_tupI, gEq_tupI, e1], by decide, by decide⟩
  obtain ⟨r2, e2, a2, b2⟩ := next_call hL hL2 (rest := [none, none, none, none, none, none, none, none, none, none, none, none, none, none, none, none, none]) em (by omega) (by omega) (by omega)
  refine ⟨1 + r2, ?_, by omega, by omega⟩
  unfold A1
  revert e2
  generalize fCall [true, false] S__law_next _ = F1
  intro e2
  simp [specOf, outs, sSeq_ev, sSet, sRet, sRetN, sIf, sDrop, sRaise, sNext, sBrk, sCnt, sSetItem, sAug, augO, setItemO, setO_val, retO_val, bind_ok, bind_exc, bind_stk, bindS_ok, bindS_exc, bindS_stk, ret_some, look_val, look_brw, fC_ev, fV, bin, una, chain, tBo, tTr, tNotV, tAndV, tOrV, fAnd, fOr, fNot, fIf, boO_ev, trO, tru, aNil_ev, aCons, cT_ev, callB, looks, g1, frz1_dat, frz1_ml, bN_ev, fTup, fLst, mkT, mkL, frzL, iE, seqO, iR1, iR2, rg1, rg2, gAdd, gMul, gSub, gFDiv, gMod, gPow, gShl, gShr, gAnd, gOr, gXor, gLt, gLe, gGt, gGe, gAddI, gMulI, gU, gIx, gLen, gInt, gAbs, gList, gTuple, iop, tt2, orG, viewD, asL, asT, fApp, appO, isMl, fExt, extO, fSl, pNo, pSo, gSl, L2.atI, L2.ixN, gd, gEq_int, gNe_int, gEq_str, gNe_str, gNe_mlI, gEq_mlI, gNe_tupI, gEq_tupI, e2]
theorem f2 (c k : Int) (hc : 0 ≤ c) (hc2 : c < 800000) (hk : okC k) : ∃ (T : List Int) (c' : Int), A2 [some (St nums c), some (vI k), none, none, none, none, none, none, none, none, none, none, none, none, none, none, none, none] = .nx [some (St nums c'), some (vI k), some (tI T), none, none, none, none, none, none, none, none, none, none, none, none, none, none, none] ∧ c ≤ c' ∧ c' ≤ c + 20 ∧ okBorder k T ∧ T.length ≤ 10 := by
  obtain ⟨T, c', e, h1, h2, h3, h4⟩ := border_ev hL hL2 c k hc (by omega) hk
  refine ⟨T, c', ?_, h1, h2, h3, h4⟩
  have e2 := st_call (f := fV 1) (rest := [some (vI k), none, none, none, none, none, none, none, none, none, none, none, none, none, none, none, none]) (c := c) rfl e
  unfold A2
  revert e2
  generalize fCall [true, false] S__law_border _ = F1
  intro e2
  simp [specOf, outs, sSeq_ev, sSet, sRet, sRetN, sIf, sDrop, sRaise, sNext, sBrk, sCnt, sSetItem, sAug, augO, setItemO, setO_val, retO_val, bind_ok, bind_exc, bind_stk, bindS_ok, bindS_exc, bindS_stk, ret_some, look_val, look_brw, fC_ev, fV, bin, una, chain, tBo, tTr, tNotV, tAndV, tOrV, fAnd, fOr, fNot, fIf, boO_ev, trO, tru, aNil_ev, aCons, cT_ev, callB, looks, g1, frz1_dat, frz1_ml, bN_ev, fTup, fLst, mkT, mkL, frzL, iE, seqO, iR1, iR2, rg1, rg2, gAdd, gMul, gSub, gFDiv, gMod, gPow, gShl, gShr, gAnd, gOr, gXor, gLt, gLe, gGt, gGe, gAddI, gMulI, gU, gIx, gLen, gInt, gAbs, gList, gTuple, iop, tt2, orG, viewD, asL, asT, fApp, appO, isMl, fExt, extO, fSl, pNo, pSo, gSl, L2.atI, L2.ixN, gd, gEq_int, gNe_int, gEq_str, gNe_str, gNe_mlI, gEq_mlI, gNe_tupI, gEq_tupI, e2]
omit hL hL2 in
theorem f3 (x0 : Option Vl) (k : Int) (T : List Int) (hk : okC k) (hT : T.length ≤ 10) : A3 [x0, some (vI k), some (tI T), none, none, none, none, none, none, none, none, none, none, none, none, none, none, none] = .nx [x0, some (vI k), some (tI T), some (tI (falsesOf k.toNat T)), none, none, none, none, none, none, none, none, none, none, none, none, none, none] := by
  have e2 := fCall2 (spec := S__law_falses) (f := fV 1) (f2 := fV 2) (ρ := [x0, some (vI k), some (tI T), none, none, none, none, none, none, none, none, none, none, none, none, none, none, none]) (w := vI k) (w2 := tI T) rfl rfl rfl rfl (lfalses_ev k T hk (by omega)) rfl
  unfold A3
  revert e2
  generalize fCall [false, false] S__law_falses _ = F1
  intro e2
  simp [specOf, outs, sSeq_ev, sSet, sRet, sRetN, sIf, sDrop, sRaise, sNext, sBrk, sCnt, sSetItem, sAug, augO, setItemO, setO_val, retO_val, bind_ok, bind_exc, bind_stk, bindS_ok, bindS_exc, bindS_stk, ret_some, look_val, look_brw, fC_ev, fV, bin, una, chain, tBo, tTr, tNotV, tAndV, tOrV, fAnd, fOr, fNot, fIf, boO_ev, trO, tru, aNil_ev, aCons, cT_ev, callB, looks, g1, frz1_dat, frz1_ml, bN_ev, fTup, fLst, mkT, mkL, frzL, iE, seqO, iR1, iR2, rg1, rg2, gAdd, gMul, gSub, gFDiv, gMod, gPow, gShl, gShr, gAnd, gOr, gXor, gLt, gLe, gGt, gGe, gAddI, gMulI, gU, gIx, gLen, gInt, gAbs, gList, gTuple, iop, tt2, orG, viewD, asL, asT, fApp, appO, isMl, fExt, extO, fSl, pNo, pSo, gSl, L2.atI, L2.ixN, gd, gEq_int, gNe_int, gEq_str, gNe_str, gNe_mlI, gEq_mlI, gNe_tupI, gEq_tupI, e2]
omit hL hL2 in
theorem sm_set {n : Nat} (hn : n ≤ 8) {T : List Int} (hU : ∀ x ∈ T, U n x) : Sm 1 (T.length * 42) (.tuple (T.map .int)) := sm_tup (sm_ints fun x hx => by
  have h := hU x hx
  have := pow_small hn
  have := h.1
  have := h.2
  omega)
omit hL hL2 in
theorem falses_len {n : Nat} (hn : n ≤ 8) (T : List Int) : (falsesOf n T).length ≤ 256 := by
  unfold falsesOf greatOf
  exact Nat.le_trans (List.length_filter_le _ _) (Nat.le_trans (List.length_filter_le _ _) (all_len hn))
abbrev keptD (T F : List Int) : PyData := .tuple [.tuple (T.map .int), .tuple (F.map .int)]
omit hL hL2 in
theorem rok_kept {n : Nat} (hn : n ≤ 8) {T F : List Int} (hT : ∀ x ∈ T, U n x) (hF : ∀ x ∈ F, U n x) (h1 : T.length ≤ 300) (h2 : F.length ≤ 300) : Rok (keptD T F) :=
  Sm.rok (k := 2) (N := (300 * 42) + 1 + ((300 * 42) + 1 + 0)) (sm_tup (sm_cons ((sm_set hn hT).mono (Nat.le_refl _) (by omega)) (sm_cons ((sm_set hn hF).mono (Nat.le_refl _) (by omega)) sm_nil))) (by decide) (by decide)
omit hL hL2 in
theorem f4 (x0 x1 : Option Vl) (T F : List Int) (hR : Rok (keptD T F)) : A4 [x0, x1, some (tI T), some (tI F), none, none, none, none, none, none, none, none, none, none, none, none, none, none] = .nx [x0, x1, some (tI T), some (tI F), some (.dat (.str (keptD T F).shown)), none, none, none, none, none, none, none, none, none, none, none, none, none] := by
  have hr : gRepr (.dat (keptD T F)) = some (.dat (.str (keptD T F).shown)) := gd_pos ⟨hR, rfl⟩
  unfold keptD at hr ⊢
  unfold A4
  simp [specOf, outs, sSeq_ev, sSet, sRet, sRetN, sIf, sDrop, sRaise, sNext, sBrk, sCnt, sSetItem, sAug, augO, setItemO, setO_val, retO_val, bind_ok, bind_exc, bind_stk, bindS_ok, bindS_exc, bindS_stk, ret_some, look_val, look_brw, fC_ev, fV, bin, una, chain, tBo, tTr, tNotV, tAndV, tOrV, fAnd, fOr, fNot, fIf, boO_ev, trO, tru, aNil_ev, aCons, cT_ev, callB, looks, g1, frz1_dat, frz1_ml, bN_ev, fTup, fLst, mkT, mkL, frzL, iE, seqO, iR1, iR2, rg1, rg2, gAdd, gMul, gSub, gFDiv, gMod, gPow, gShl, gShr, gAnd, gOr, gXor, gLt, gLe, gGt, gGe, gAddI, gMulI, gU, gIx, gLen, gInt, gAbs, gList, gTuple, iop, tt2, orG, viewD, asL, asT, fApp, appO, isMl, fExt, extO, fSl, pNo, pSo, gSl, L2.atI, L2.ixN, gd, gEq_int, gNe_int, gEq_str, gNe_str, gNe_mlI, gEq_mlI, gNe_tupI, gEq_tupI, hr]
omit hL hL2 in
theorem f5 (x0 x2 x3 x4 : Option Vl) (k : Int) (hk : okC k) : A5 [x0, some (vI k), x2, x3, x4, none, none, none, none, none, none, none, none, none, none, none, none, none] = .nx [x0, some (vI k), x2, x3, x4, some (vI (whole k.toNat)), none, none, none, none, none, none, none, none, none, none, none, none] := by
  have pw := pow1 hk
  unfold A5 whole
  simp [specOf, outs, sSeq_ev, sSet, sRet, sRetN, sIf, sDrop, sRaise, sNext, sBrk, sCnt, sSetItem, sAug, augO, setItemO, setO_val, retO_val, bind_ok, bind_exc, bind_stk, bindS_ok, bindS_exc, bindS_stk, ret_some, look_val, look_brw, fC_ev, fV, bin, una, chain, tBo, tTr, tNotV, tAndV, tOrV, fAnd, fOr, fNot, fIf, boO_ev, trO, tru, aNil_ev, aCons, cT_ev, callB, looks, g1, frz1_dat, frz1_ml, bN_ev, fTup, fLst, mkT, mkL, frzL, iE, seqO, iR1, iR2, rg1, rg2, gAdd, gMul, gSub, gFDiv, gMod, gPow, gShl, gShr, gAnd, gOr, gXor, gLt, gLe, gGt, gGe, gAddI, gMulI, gU, gIx, gLen, gInt, gAbs, gList, gTuple, iop, tt2, orG, viewD, asL, asT, fApp, appO, isMl, fExt, extO, fSl, pNo, pSo, gSl, L2.atI, L2.ixN, gd, gEq_int, gNe_int, gEq_str, gNe_str, gNe_mlI, gEq_mlI, gNe_tupI, gEq_tupI, pw]
end
end K08
end
section
set_option Elab.async false
set_option linter.all false
set_option maxRecDepth 100000
set_option maxHeartbeats 4000000
namespace K08
open Mi Fm PySem
open PySem (PyData)
section
variable {nums : List Int} (hL : 0 < nums.length) (hL2 : nums.length < 10000)
include hL hL2
theorem draws_ev (c k m : Int) (hc : 0 ≤ c) (hc2 : c < 800000) (hk : okC k) (hm : 0 ≤ m) (hm2 : m ≤ 10) {fi : FI} {y8 : Option Vl} {ρ0 rest : Rho} (hi : fi ρ0 = .ok (rangeD 0 m) (some (St nums c) :: some (vI k) :: rest)) (hr : rest.set 6 y8 = rest) :
    ∃ (ns : List Int) (c' : Int), fComp [8] fi (bN 8) cT (fCall [true, false] S__law_next (aCons (fV 0) (aCons (bin gShl (fC (.int 1)) (fV 1)) aNil))) ρ0 = .ok (.val (.ml (ns.map .int))) (some (St nums c') :: some (vI k) :: rest) ∧ c ≤ c' ∧ c' ≤ c + 10 ∧ ns.length ≤ 10 ∧ ∀ x ∈ ns, U k.toNat x := by
  obtain ⟨ds', ρ', e4, e5, e6, c4, y4, rfl, hc4⟩ := compL_inv (vs := [8]) (b := bN 8) (c := cT) (e := fCall [true, false] S__law_next (aCons (fV 0) (aCons (bin gShl (fC (.int 1)) (fV 1)) aNil)))
      (fun j ρ => ∃ (c' : Int) (y : Option Vl), ρ = some (St nums c') :: some (vI k) :: rest.set 6 y ∧ c' = c + j) (fun d => ∃ x, d = .int x ∧ U k.toNat x) (ds := rangeD 0 m) (ρ := some (St nums c) :: some (vI k) :: rest) ⟨_, y8, by rw [hr], by omega⟩ (by
        rintro j d ρ hd ⟨c', y, rfl, hc'⟩
        obtain ⟨rfl, hj⟩ := range_at hd
        obtain ⟨x1, q1, g1', g2'⟩ := next_call hL hL2 (f := bin gShl (fC (.int 1)) (fV 1)) (rest := some (vI k) :: rest.set 6 (some (vI (0 + (j : Int))))) (c := c') (c' := c') (m := 2 ^ k.toNat) (sh1 hk rfl) (by omega) (by omega) (Int.pow_pos (by decide))
        refine ⟨some (St nums c') :: some (vI k) :: rest.set 6 (some (vI (0 + (j : Int)))), _, .val (vI x1), some (St nums (c' + 1)) :: some (vI k) :: rest.set 6 (some (vI (0 + (j : Int)))), .int x1, _, ?_, rfl, q1, rfl, ⟨_, rfl, ⟨g1', g2'⟩⟩, _, _, rfl, by omega⟩
        show some (some (St nums c') :: some (vI k) :: ((rest.set 6 y).set 6 none).set 6 (some (vI (0 + (j : Int))))) = _
        rw [List.set_set, List.set_set])
  obtain ⟨ns, rfl, hU⟩ := ints_of e6
  rw [range_len] at e5 hc4
  rw [List.length_map] at e5
  have e7 := fComp_ev (vs := [8]) (b := bN 8) (c := cT) hi (by rw [range_len]; omega) e4
  refine ⟨ns, c4, ?_, by omega, by omega, by omega, hU⟩
  rw [e7]
  have : restR (some (St nums c) :: some (vI k) :: rest) (some (St nums c4) :: some (vI k) :: rest.set 6 y4) [8] = some (St nums c4) :: some (vI k) :: (rest.set 6 y4).set 6 (rest[6]?).join := rfl
  rw [this, List.set_set]
  have h6 : rest.set 6 (rest[6]?).join = rest := by
    by_cases h : 6 < rest.length
    · have e : rest[6]? = some y8 := by rw [← hr, List.getElem?_set_self h]
      rw [e]
      exact hr
    · exact List.set_eq_of_length_le (by omega)
  rw [h6]
theorem f6 (c k : Int) (hc : 0 ≤ c) (hc2 : c < 700000) (hk : okC k) (x2 x3 x4 x5 : Option Vl) : ∃ (S : List Int) (c' : Int), A6 [some (St nums c), some (vI k), x2, x3, x4, x5, none, none, none, none, none, none, none, none, none, none, none, none] = .nx [some (St nums c'), some (vI k), x2, x3, x4, x5, some (tI S), none, none, none, none, none, none, none, none, none, none, none] ∧ c ≤ c' ∧ c' ≤ c + 20 ∧ okSets k S ∧ S.length ≤ 10 := by
  obtain ⟨r3, e3, a3, b3⟩ := next_call hL hL2 (f := fC (.int 5)) (rest := [some (vI k), x2, x3, x4, x5, none, none, none, none, none, none, none, none, none, none, none, none]) (c := c) (c' := c) (m := 5) rfl hc (by omega) (by decide)
  have hi : iR1 (aCons (fCall [true, false] S__law_next (aCons (fV 0) (aCons (fC (.int 5)) aNil))) aNil) [some (St nums c), some (vI k), x2, x3, x4, x5, none, none, none, none, none, none, none, none, none, none, none, none] = .ok (rangeD 0 r3) [some (St nums (c + 1)), some (vI k), x2, x3, x4, x5, none, none, none, none, none, none, none, none, none, none, none, none] := by
    have ea : aCons (fCall [true, false] S__law_next (aCons (fV 0) (aCons (fC (.int 5)) aNil))) aNil [some (St nums c), some (vI k), x2, x3, x4, x5, none, none, none, none, none, none, none, none, none, none, none, none] = .ok [.val (vI r3)] [some (St nums (c + 1)), some (vI k), x2, x3, x4, x5, none, none, none, none, none, none, none, none, none, none, none, none] := by
      revert e3
      generalize fCall [true, false] S__law_next _ = F1
      intro e3
      simp [specOf, outs, sSeq_ev, sSet, sRet, sRetN, sIf, sDrop, sRaise, sNext, sBrk, sCnt, sSetItem, sAug, augO, setItemO, setO_val, retO_val, bind_ok, bind_exc, bind_stk, bindS_ok, bindS_exc, bindS_stk, ret_some, look_val, look_brw, fC_ev, fV, bin, una, chain, tBo, tTr, tNotV, tAndV, tOrV, fAnd, fOr, fNot, fIf, boO_ev, trO, tru, aNil_ev, aCons, cT_ev, callB, looks, g1, frz1_dat, frz1_ml, bN_ev, fTup, fLst, mkT, mkL, frzL, iE, seqO, iR1, iR2, rg1, rg2, gAdd, gMul, gSub, gFDiv, gMod, gPow, gShl, gShr, gAnd, gOr, gXor, gLt, gLe, gGt, gGe, gAddI, gMulI, gU, gIx, gLen, gInt, gAbs, gList, gTuple, iop, tt2, orG, viewD, asL, asT, fApp, appO, isMl, fExt, extO, fSl, pNo, pSo, gSl, L2.atI, L2.ixN, gd, gEq_int, gNe_int, gEq_str, gNe_str, gNe_mlI, gEq_mlI, gNe_tupI, gEq_tupI, e3]
    unfold iR1
    rw [ea, bind_ok]
    exact rg1_ev (by omega) (by omega)
  obtain ⟨ns, c', e4, h1, h2, h3, hU⟩ := draws_ev hL hL2 (c + 1) k r3 (by omega) (by omega) hk a3 (by omega) (y8 := none) hi rfl
  have hset : gSet (.ml (ns.map .int)) = some (.st ns) := gSet_ints rfl (by omega)
  refine ⟨sortSet ns, c', ?_, by omega, by omega, ⟨asc_sortSet, fun x hx => hU x (mem_sortSet.mp hx)⟩, Nat.le_trans (sortSet_len ns) h3⟩
  unfold A6
  revert e4
  generalize fComp [8] _ (bN 8) cT _ = F1
  intro e4
  simp [specOf, outs, sSeq_ev, sSet, sRet, sRetN, sIf, sDrop, sRaise, sNext, sBrk, sCnt, sSetItem, sAug, augO, setItemO, setO_val, retO_val, bind_ok, bind_exc, bind_stk, bindS_ok, bindS_exc, bindS_stk, ret_some, look_val, look_brw, fC_ev, fV, bin, una, chain, tBo, tTr, tNotV, tAndV, tOrV, fAnd, fOr, fNot, fIf, boO_ev, trO, tru, aNil_ev, aCons, cT_ev, callB, looks, g1, frz1_dat, frz1_ml, bN_ev, fTup, fLst, mkT, mkL, frzL, iE, seqO, iR1, iR2, rg1, rg2, gAdd, gMul, gSub, gFDiv, gMod, gPow, gShl, gShr, gAnd, gOr, gXor, gLt, gLe, gGt, gGe, gAddI, gMulI, gU, gIx, gLen, gInt, gAbs, gList, gTuple, iop, tt2, orG, viewD, asL, asT, fApp, appO, isMl, fExt, extO, fSl, pNo, pSo, gSl, L2.atI, L2.ixN, gd, gEq_int, gNe_int, gEq_str, gNe_str, gNe_mlI, gEq_mlI, gNe_tupI, gEq_tupI, e4, hset, sortSet_ev]
omit hL hL2 in
theorem f7 (x0 x4 x5 : Option Vl) (k : Int) (T F S : List Int) (hk : okC k) (hS : S.length ≤ 10) : A7 [x0, some (vI k), some (tI T), some (tI F), x4, x5, some (tI S), none, none, none, none, none, none, none, none, none, none, none] = .nx [x0, some (vI k), some (tI T), some (tI F), x4, x5, some (tI S), some (.ml [.tuple [.str "told", .tuple ((crossOf k.toNat S).map .int)], .tuple [.str "told", .tuple (F.map .int)], .tuple [.str "told", .tuple (T.map .int)]]), none, none, none, none, none, none, none, none, none, none] := by
  have e2 := fCall2 (spec := S__law_crossing) (f := fV 1) (f2 := fV 6) (ρ := [x0, some (vI k), some (tI T), some (tI F), x4, x5, some (tI S), none, none, none, none, none, none, none, none, none, none, none]) (w := vI k) (w2 := tI S) rfl rfl rfl rfl (lcross_ev k S hk (by omega)) rfl
  unfold A7
  revert e2
  generalize fCall [false, false] S__law_crossing _ = F1
  intro e2
  simp [specOf, outs, sSeq_ev, sSet, sRet, sRetN, sIf, sDrop, sRaise, sNext, sBrk, sCnt, sSetItem, sAug, augO, setItemO, setO_val, retO_val, bind_ok, bind_exc, bind_stk, bindS_ok, bindS_exc, bindS_stk, ret_some, look_val, look_brw, fC_ev, fV, bin, una, chain, tBo, tTr, tNotV, tAndV, tOrV, fAnd, fOr, fNot, fIf, boO_ev, trO, tru, aNil_ev, aCons, cT_ev, callB, looks, g1, frz1_dat, frz1_ml, bN_ev, fTup, fLst, mkT, mkL, frzL, iE, seqO, iR1, iR2, rg1, rg2, gAdd, gMul, gSub, gFDiv, gMod, gPow, gShl, gShr, gAnd, gOr, gXor, gLt, gLe, gGt, gGe, gAddI, gMulI, gU, gIx, gLen, gInt, gAbs, gList, gTuple, iop, tt2, orG, viewD, asL, asT, fApp, appO, isMl, fExt, extO, fSl, pNo, pSo, gSl, L2.atI, L2.ixN, gd, gEq_int, gNe_int, gEq_str, gNe_str, gNe_mlI, gEq_mlI, gNe_tupI, gEq_tupI, e2]
omit hL hL2 in
theorem fCall4 {spec : CSpec} {f f2 f3 f4 : FE} {ρ : Rho} {w w2 w3 w4 w' : Vl} {d d2 d3 d4 : PyData} {o : List (Option Vl)} (hf : f ρ = .ok (.val w) ρ) (hw : viewD w = some d) (hf2 : f2 ρ = .ok (.val w2) ρ) (hw2 : viewD w2 = some d2) (hf3 : f3 ρ = .ok (.val w3) ρ) (hw3 : viewD w3 = some d3) (hf4 : f4 ρ = .ok (.val w4) ρ) (hw4 : viewD w4 = some d4) (hs : spec [.dat d, .dat d2, .dat d3, .dat d4] = .ok w' o) (ho : o.length = 4) : fCall [false, false, false, false] spec (aCons f (aCons f2 (aCons f3 (aCons f4 aNil)))) ρ = .ok (.val w') ρ := by
  obtain ⟨x, y, z, u, rfl⟩ : ∃ x y z u, o = [x, y, z, u] := by
    match o, ho with
    | [x, y, z, u], _ => exact ⟨x, y, z, u, rfl⟩
  simp [fCall, aCons, aNil, hf, hf2, hf3, hf4, bind_ok, ioC, argW, look, hw, hw2, hw3, hw4, hs, noBor, setIO]
end
end K08
end
section
set_option Elab.async false
set_option linter.all false
set_option maxRecDepth 100000
set_option maxHeartbeats 4000000
namespace K08
open Mi Fm PySem
open PySem (PyData)
abbrev tld (d : PyData) : PyData := .tuple [.str "told", d]
theorem t0 {k : Int} {S : List Int} (hk : okC k) (hS : okSets k S) (hl : S.length < 4000) (two : PyData) : S__law_told [vI 0, vI k, tI S, .dat two] = .ok (.dat (tld (.tuple ((crossOf k.toNat S).map .int)))) [none, none, none, none] :=
  (told_lo (k := 0) (by decide) rfl k _ two).1 _ ((crossing_ev k S hl).1 ⟨hk, hS⟩)
theorem t0x {k : Int} {S : List Int} (h : ¬ (okC k ∧ okSets k S)) (hl : S.length < 4000) (two : PyData) : S__law_told [vI 0, vI k, tI S, .dat two] = .ok (.dat (.str "refused")) [none, none, none, none] :=
  (told_lo (k := 0) (by decide) rfl k _ two).2 _ _ ((crossing_ev k S hl).2 h) rfl
theorem t1 {k : Int} {S : List Int} (hk : okC k) (hS : okBorder k S) (hl : S.length < 4000) (two : PyData) : S__law_told [vI 1, vI k, tI S, .dat two] = .ok (.dat (tld (.tuple ((falsesOf k.toNat S).map .int)))) [none, none, none, none] :=
  (told_lo (k := 1) (by decide) rfl k _ two).1 _ ((greatest_falses_ev k S hl).1 ⟨hk, hS⟩)
theorem t1x {k : Int} {S : List Int} (h : ¬ (okC k ∧ okBorder k S)) (hl : S.length < 4000) (two : PyData) : S__law_told [vI 1, vI k, tI S, .dat two] = .ok (.dat (.str "refused")) [none, none, none, none] :=
  (told_lo (k := 1) (by decide) rfl k _ two).2 _ _ ((greatest_falses_ev k S hl).2 h) rfl
theorem t2 {k : Int} {S : List Int} (hk : okC k) (hS : okBorder k S) (hl : S.length < 4000) (two : PyData) : S__law_told [vI 2, vI k, tI S, .dat two] = .ok (.dat (tld (.tuple ((crossOf k.toNat (S.map (co k.toNat))).map .int)))) [none, none, none, none] :=
  (told_lo (k := 2) (by decide) rfl k _ two).1 _ ((least_trues_ev k S hl).1 ⟨hk, hS⟩)
theorem t2x {k : Int} {S : List Int} (h : ¬ (okC k ∧ okBorder k S)) (hl : S.length < 4000) (two : PyData) : S__law_told [vI 2, vI k, tI S, .dat two] = .ok (.dat (.str "refused")) [none, none, none, none] :=
  (told_lo (k := 2) (by decide) rfl k _ two).2 _ _ ((least_trues_ev k S hl).2 h) rfl
theorem t3 {k one : Int} {S : List Int} (hk : okC k) (hS : okBorder k S) (ho : okSets k [one]) (hl : S.length < 4000) : S__law_told [vI 3, vI k, tI S, vI one] = .ok (.dat (tld (.bool (isT S one)))) [none, none, none, none] :=
  (told_hi (k := 3) (by decide) rfl k _ _).1 _ ((is_true_ev k S one hl).1 ⟨⟨hk, hS⟩, ho⟩)
theorem t3x {k one : Int} {S : List Int} (h : ¬ ((okC k ∧ okBorder k S) ∧ okSets k [one])) (hl : S.length < 4000) : S__law_told [vI 3, vI k, tI S, vI one] = .ok (.dat (.str "refused")) [none, none, none, none] :=
  (told_hi (k := 3) (by decide) rfl k _ _).2 _ _ ((is_true_ev k S one hl).2 h) rfl
theorem t4 {k : Int} {T F : List Int} (hk : okC k) (hT : T.length ≤ 300) (hF : F.length ≤ 300) (bT : okBorder k T) (bF : okBorder k F) : S__law_told [vI 4, vI k, tI T, tI F] = .ok (.dat (tld (.bool (decide (falsesOf k.toNat T = F))))) [none, none, none, none] :=
  (told_hi (k := 4) (by decide) rfl k _ _).1 _ (is_whole_ev k T F hk hT hF bT bF)
theorem same_call {f f2 : FE} {ρ : Rho} {o1 o2 : Opd} {w1 w2 : Vl} {d : PyData} (hf : f ρ = .ok o1 ρ) (h1 : look ρ o1 = some w1) (v1 : viewD w1 = some d) (hf2 : f2 ρ = .ok o2 ρ) (h2 : look ρ o2 = some w2) (v2 : viewD w2 = some d) (hR : Rok (.list [d])) :
    fCall [false, false] S__law_same (aCons f (aCons f2 aNil)) ρ = .ok (.val (vB true)) ρ := by
  have e := same_ev hR
  simp [fCall, aCons, aNil, hf, hf2, bind_ok, ioC, argW, h1, h2, v1, v2, e, clean, cleanO, noL, setIO]
theorem sm_tld {k N : Nat} {d : PyData} (h : Sm k N d) : Sm (k + 1) (4 + 1 + (N + 1 + 0)) (tld d) := sm_tup (sm_cons ((sm_str (by decide +kernel) (n := 4) (by decide +kernel)).mono (Nat.zero_le _) (Nat.le_refl _)) (sm_cons h sm_nil))
theorem cross_co {n : Nat} {T : List Int} (hA : Asc T) (hU : ∀ x ∈ T, U n x) (ha : Anti T) : crossOf n ((falsesOf n T).map (co n)) = T := by
  have : crossOf n ((falsesOf n T).map (co n)) = crossOf n (crossOf n T) := by
    unfold crossOf
    rw [trs_congr (F' := leastOf (trs n T)) fun x => ?_]
    show _ ↔ x ∈ crossOf n T
    rw [List.mem_map]
    constructor
    · rintro ⟨y, hy, rfl⟩
      exact ((mem_falses hU).mp hy).2
    · intro hx
      exact ⟨co n x, (mem_falses hU).mpr ⟨u_co n x, by rw [co_co (u_cross x hx)]; exact hx⟩, co_co (u_cross x hx)⟩
  rw [this, cross_cross hA hU ha]
theorem sort_co2 {n : Nat} {T : List Int} (hU : ∀ x ∈ T, U n x) : sortI ((falsesOf n T).map (co n)) = crossOf n T := by
  have nd : ((falsesOf n T).map (co n)).Nodup := by
    have h : (falsesOf n T).Pairwise (fun a b => U n a ∧ U n b ∧ a < b) := by
      have h1 : (falsesOf n T).Pairwise (· < ·) := asc_falses
      refine List.Pairwise.imp_of_mem (fun {a b} ha hb h => ⟨u_falses a ha, u_falses b hb, h⟩) h1
    refine List.pairwise_map.mpr (h.imp fun {a b} ⟨ha, hb, h⟩ q => ?_)
    have := congrArg (co n) q
    rw [co_co ha, co_co hb] at this
    omega
  refine asc_eq (asc_sortI nd) asc_cross fun x => ?_
  rw [(perm_sortI _).mem_iff, List.mem_map]
  constructor
  · rintro ⟨y, hy, rfl⟩
    exact ((mem_falses hU).mp hy).2
  · intro hx
    exact ⟨co n x, (mem_falses hU).mpr ⟨u_co n x, by rw [co_co (u_cross x hx)]; exact hx⟩, co_co (u_cross x hx)⟩
abbrev dues (C F T : List Int) : PyData := .list [tld (.tuple (C.map .int)), tld (.tuple (F.map .int)), tld (.tuple (T.map .int))]
theorem rok_dues {n : Nat} (hn : n ≤ 8) {C F T : List Int} (hC : ∀ x ∈ C, U n x) (hF : ∀ x ∈ F, U n x) (hT : ∀ x ∈ T, U n x) (h0 : C.length ≤ 300) (h1 : F.length ≤ 300) (h2 : T.length ≤ 300) : Rok (.list [dues C F T]) := by
  have s : ∀ {X : List Int}, (∀ x ∈ X, U n x) → X.length ≤ 300 → Sm 2 13000 (tld (.tuple (X.map .int))) := fun hX hl => (sm_tld (sm_set hn hX)).mono (Nat.le_refl _) (by omega)
  exact Sm.rok (k := 4) (N := (13000 + 1 + (13000 + 1 + (13000 + 1 + 0))) + 1 + 0) (sm_lst (sm_cons (sm_lst (sm_cons (s hC h0) (sm_cons (s hF h1) (sm_cons (s hT h2) sm_nil)))) sm_nil)) (by decide) (by decide)
theorem f8 (x0 x4 x5 : Option Vl) (k : Int) (T S : List Int) (hk : okC k) (bT : okBorder k T) (hT : T.length ≤ 10) (oS : okSets k S) (hS : S.length ≤ 10) :
    A8 [x0, some (vI k), some (tI T), some (tI (falsesOf k.toNat T)), x4, x5, some (tI S), some (.ml [tld (.tuple ((crossOf k.toNat S).map .int)), tld (.tuple ((falsesOf k.toNat T).map .int)), tld (.tuple (T.map .int))]), none, none, none, none, none, none, none, none, none, none] =
      .nx [x0, some (vI k), some (tI T), some (tI (falsesOf k.toNat T)), x4, x5, some (tI S), some (.ml [tld (.tuple ((crossOf k.toNat S).map .int)), tld (.tuple ((falsesOf k.toNat T).map .int)), tld (.tuple (T.map .int))]), none, none, none, none, none, none, none, none, none, none] := by
  generalize hρ : ([x0, some (vI k), some (tI T), some (tI (falsesOf k.toNat T)), x4, x5, some (tI S), some (.ml [tld (.tuple ((crossOf k.toNat S).map .int)), tld (.tuple ((falsesOf k.toNat T).map .int)), tld (.tuple (T.map .int))]), none, none, none, none, none, none, none, none, none, none] : Rho) = ρ
  have v1 : fV 1 ρ = .ok (.val (vI k)) ρ := by rw [← hρ]; rfl
  have v2 : fV 2 ρ = .ok (.val (tI T)) ρ := by rw [← hρ]; rfl
  have v3 : fV 3 ρ = .ok (.val (tI (falsesOf k.toNat T))) ρ := by rw [← hρ]; rfl
  have v6 : fV 6 ρ = .ok (.val (tI S)) ρ := by rw [← hρ]; rfl
  have v7 : fV 7 ρ = .ok (.brw 7) ρ := by rw [← hρ]; rfl
  have l7 : look ρ (.brw 7) = some (.ml [tld (.tuple ((crossOf k.toNat S).map .int)), tld (.tuple ((falsesOf k.toNat T).map .int)), tld (.tuple (T.map .int))]) := by rw [← hρ]; rfl
  have hfl := falses_len (n8 hk) T
  have hcl := cross_len (n := k.toNat) S
  have h256 : (2 : Nat) ^ k.toNat ≤ 256 := Nat.le_trans (Nat.pow_le_pow_right (by decide) (n8 hk)) (by decide)
  have bF : okBorder k (falsesOf k.toNat T) := ⟨⟨asc_falses, u_falses⟩, anti_falses⟩
  have e0 := fCall4 (spec := S__law_told) (f := fC (.int 0)) (f4 := fC (.int 0)) (w := vI 0) (w4 := vI 0) rfl rfl v1 rfl v6 rfl rfl rfl (t0 hk oS (by omega) _) rfl
  have e1 := fCall4 (spec := S__law_told) (f := fC (.int 1)) (f4 := fC (.int 0)) (w := vI 1) (w4 := vI 0) rfl rfl v1 rfl v2 rfl rfl rfl (t1 hk bT (by omega) _) rfl
  have e2 := fCall4 (spec := S__law_told) (f := fC (.int 2)) (f4 := fC (.int 0)) (w := vI 2) (w4 := vI 0) rfl rfl v1 rfl v3 rfl rfl rfl (t2 hk bF (by omega) _) rfl
  rw [cross_co bT.1.1 bT.1.2 bT.2] at e2
  have el : fLst (aCons (fCall [false, false, false, false] S__law_told (aCons (fC (.int 0)) (aCons (fV 1) (aCons (fV 6) (aCons (fC (.int 0)) aNil))))) (aCons (fCall [false, false, false, false] S__law_told (aCons (fC (.int 1)) (aCons (fV 1) (aCons (fV 2) (aCons (fC (.int 0)) aNil))))) (aCons (fCall [false, false, false, false] S__law_told (aCons (fC (.int 2)) (aCons (fV 1) (aCons (fV 3) (aCons (fC (.int 0)) aNil))))) aNil))) ρ = .ok (.val (.ml [tld (.tuple ((crossOf k.toNat S).map .int)), tld (.tuple ((falsesOf k.toNat T).map .int)), tld (.tuple (T.map .int))])) ρ := by
    revert e0 e1 e2
    generalize fCall [false, false, false, false] S__law_told (aCons (fC (.int 0)) _) = F0
    generalize fCall [false, false, false, false] S__law_told (aCons (fC (.int 1)) _) = F1
    generalize fCall [false, false, false, false] S__law_told (aCons (fC (.int 2)) _) = F2
    intro e0 e1 e2
    simp [fLst, aCons, aNil, bind_ok, e0, e1, e2, mkL, frzL, frz1, viewD]
  have es := same_call el rfl rfl v7 l7 rfl (rok_dues (n8 hk) u_cross u_falses bT.1.2 (by omega) (by omega) (by omega))
  unfold A8
  revert es
  generalize fCall [false, false] S__law_same _ = F1
  intro es
  simp [specOf, outs, sSeq_ev, sSet, sRet, sRetN, sIf, sDrop, sRaise, sNext, sBrk, sCnt, sSetItem, sAug, augO, setItemO, setO_val, retO_val, bind_ok, bind_exc, bind_stk, bindS_ok, bindS_exc, bindS_stk, ret_some, look_val, look_brw, fC_ev, fV, bin, una, chain, tBo, tTr, tNotV, tAndV, tOrV, fAnd, fOr, fNot, fIf, boO_ev, trO, tru, aNil_ev, aCons, cT_ev, callB, looks, g1, frz1_dat, frz1_ml, bN_ev, fTup, fLst, mkT, mkL, frzL, iE, seqO, iR1, iR2, rg1, rg2, gAdd, gMul, gSub, gFDiv, gMod, gPow, gShl, gShr, gAnd, gOr, gXor, gLt, gLe, gGt, gGe, gAddI, gMulI, gU, gIx, gLen, gInt, gAbs, gList, gTuple, iop, tt2, orG, viewD, asL, asT, fApp, appO, isMl, fExt, extO, fSl, pNo, pSo, gSl, L2.atI, L2.ixN, gd, gEq_int, gNe_int, gEq_str, gNe_str, gNe_mlI, gEq_mlI, gNe_tupI, gEq_tupI, es]
end K08
end
section
set_option Elab.async false
set_option linter.all false
set_option maxRecDepth 100000
set_option maxHeartbeats 4000000
namespace K08
open Mi Fm PySem
open PySem (PyData)
theorem f9 (x0 x4 x6 x7 : Option Vl) (k : Int) (T : List Int) (hk : okC k) (bT : okBorder k T) (hT : T.length ≤ 10) :
    A9 [x0, some (vI k), some (tI T), some (tI (falsesOf k.toNat T)), x4, some (vI (whole k.toNat)), x6, x7, none, none, none, none, none, none, none, none, none, none] = .nx [x0, some (vI k), some (tI T), some (tI (falsesOf k.toNat T)), x4, some (vI (whole k.toNat)), x6, x7, none, none, none, none, none, none, none, none, none, none] := by
  generalize hρ : ([x0, some (vI k), some (tI T), some (tI (falsesOf k.toNat T)), x4, some (vI (whole k.toNat)), x6, x7, none, none, none, none, none, none, none, none, none, none] : Rho) = ρ
  have hfl := falses_len (n8 hk) T
  have v1 : fV 1 ρ = .ok (.val (vI k)) ρ := by rw [← hρ]; rfl
  have v2 : fV 2 ρ = .ok (.val (tI T)) ρ := by rw [← hρ]; rfl
  have v3 : fV 3 ρ = .ok (.val (tI (falsesOf k.toNat T))) ρ := by rw [← hρ]; rfl
  have v5 : ∀ j, fV 5 (ρ.set 9 (some (vI j))) = .ok (.val (vI (whole k.toNat))) (ρ.set 9 (some (vI j))) := by rw [← hρ]; exact fun j => rfl
  have h9 : 9 < ρ.length := by rw [← hρ]; simp
  have e1 := fCall2 (spec := S__law_crossing) (f := fV 1) (f2 := fV 2) (ρ := ρ) (w := vI k) (w2 := tI T) v1 rfl v2 rfl (lcross_ev k T hk (by omega)) rfl
  have e2 := fComp_map (vs := [9]) (fi := iE (fV 3)) (b := bN 9) (e := bin gAnd (fV 5) (una (gU PySem.Builtin.bitNot) (fV 9))) (ι := PyData.int) (g := fun t => .int (co k.toNat t)) (ρ := ρ) (ρ1 := ρ) (falsesOf k.toNat T) (by unfold iE; rw [v3]; simp [bind_ok, seqO, frz1_dat]) (by omega) (fun t _ => by
    refine ⟨ρ.set 9 (some (vI t)), vI (co k.toNat t), by rw [bN_ev, wipe1, List.set_set], by rw [wipe1, wipe1, List.set_set], ?_, rfl⟩
    have h1 := fV_set (d := .int t) h9
    simp [bin, una, bind_ok, h1, v5, look_val, gU, iop, gAnd, tt2, gd, fC_ev, ret_some, co])
  have e3 : ((falsesOf k.toNat T).map fun t => PyData.int (co k.toNat t)) = ((falsesOf k.toNat T).map (co k.toNat)).map .int := by rw [List.map_map]; rfl
  rw [e3] at e2
  unfold A9
  revert e1 e2
  generalize fCall [false, false] S__law_crossing _ = F1
  generalize fComp [9] _ (bN 9) cT _ = F2
  intro e1 e2
  simp [specOf, outs, sSeq_ev, sSet, sRet, sRetN, sIf, sDrop, sRaise, sNext, sBrk, sCnt, sSetItem, sAug, augO, setItemO, setO_val, retO_val, bind_ok, bind_exc, bind_stk, bindS_ok, bindS_exc, bindS_stk, ret_some, look_val, look_brw, fC_ev, fV, bin, una, chain, tBo, tTr, tNotV, tAndV, tOrV, fAnd, fOr, fNot, fIf, boO_ev, trO, tru, aNil_ev, aCons, cT_ev, callB, looks, g1, frz1_dat, frz1_ml, bN_ev, fTup, fLst, mkT, mkL, frzL, iE, seqO, iR1, iR2, rg1, rg2, gAdd, gMul, gSub, gFDiv, gMod, gPow, gShl, gShr, gAnd, gOr, gXor, gLt, gLe, gGt, gGe, gAddI, gMulI, gU, gIx, gLen, gInt, gAbs, gList, gTuple, iop, tt2, orG, viewD, asL, asT, fApp, appO, isMl, fExt, extO, fSl, pNo, pSo, gSl, L2.atI, L2.ixN, gd, gEq_int, gNe_int, gEq_str, gNe_str, gNe_mlI, gEq_mlI, gNe_tupI, gEq_tupI, e1, e2, sorted_ml, sort_co2 bT.1.2, -List.map_map]
section
variable {nums : List Int} (hL : 0 < nums.length) (hL2 : nums.length < 10000)
include hL hL2
theorem turn10 (c k one : Int) (T : List Int) (hk : okC k) (bT : okBorder k T) (hT : T.length ≤ 10) (hu : U k.toNat one) {ρ : Rho} (v1 : fV 1 ρ = .ok (.val (vI k)) ρ) (v2 : fV 2 ρ = .ok (.val (tI T)) ρ) (v9 : fV 9 ρ = .ok (.val (vI one)) ρ) :
    sIf (tNotV (tTr (fCall [false, false] S__law_same (aCons (fCall [false, false, false, false] S__law_told (aCons (fC (.int 3)) (aCons (fV 1) (aCons (fV 2) (aCons (fV 9) aNil))))) (aCons (fTup (aCons (fC (.str "told")) (aCons (fCall [false, false] S__law_true (aCons (fV 2) (aCons (fV 9) aNil))) aNil))) aNil))))) (sRet (fC (.bool false))) sNext ρ = .nx ρ := by
  have os : okSets k [one] := ⟨by simp, fun x hx => by
    obtain rfl : x = one := by simpa using hx
    exact hu⟩
  have e1 := fCall4 (spec := S__law_told) (f := fC (.int 3)) (w := vI 3) rfl rfl v1 rfl v2 rfl v9 rfl (t3 hk bT os (by omega)) rfl
  have e2 := fCall2 (spec := S__law_true) v2 rfl v9 rfl (ltrue_ev T one (by omega)) rfl
  have e3 : fTup (aCons (fC (.str "told")) (aCons (fCall [false, false] S__law_true (aCons (fV 2) (aCons (fV 9) aNil))) aNil)) ρ = .ok (.val (.dat (tld (.bool (isT T one))))) ρ := by
    revert e2
    generalize fCall [false, false] S__law_true _ = F1
    intro e2
    simp [specOf, outs, sSeq_ev, sSet, sRet, sRetN, sIf, sDrop, sRaise, sNext, sBrk, sCnt, sSetItem, sAug, augO, setItemO, setO_val, retO_val, bind_ok, bind_exc, bind_stk, bindS_ok, bindS_exc, bindS_stk, ret_some, look_val, look_brw, fC_ev, fV, bin, una, chain, tBo, tTr, tNotV, tAndV, tOrV, fAnd, fOr, fNot, fIf, boO_ev, trO, tru, aNil_ev, aCons, cT_ev, callB, looks, g1, frz1_dat, frz1_ml, bN_ev, fTup, fLst, mkT, mkL, frzL, iE, seqO, iR1, iR2, rg1, rg2, gAdd, gMul, gSub, gFDiv, gMod, gPow, gShl, gShr, gAnd, gOr, gXor, gLt, gLe, gGt, gGe, gAddI, gMulI, gU, gIx, gLen, gInt, gAbs, gList, gTuple, iop, tt2, orG, viewD, asL, asT, fApp, appO, isMl, fExt, extO, fSl, pNo, pSo, gSl, L2.atI, L2.ixN, gd, gEq_int, gNe_int, gEq_str, gNe_str, gNe_mlI, gEq_mlI, gNe_tupI, gEq_tupI, e2]
  have es := same_call e1 rfl rfl e3 rfl rfl (Sm.rok (k := 2) (N := 4 + 1 + (0 + 1 + 0) + 1 + 0) (sm_lst (sm_cons (sm_tld sm_bool) sm_nil)) (by decide) (by decide))
  revert es
  generalize fCall [false, false] S__law_same _ = F1
  intro es
  simp [specOf, outs, sSeq_ev, sSet, sRet, sRetN, sIf, sDrop, sRaise, sNext, sBrk, sCnt, sSetItem, sAug, augO, setItemO, setO_val, retO_val, bind_ok, bind_exc, bind_stk, bindS_ok, bindS_exc, bindS_stk, ret_some, look_val, look_brw, fC_ev, fV, bin, una, chain, tBo, tTr, tNotV, tAndV, tOrV, fAnd, fOr, fNot, fIf, boO_ev, trO, tru, aNil_ev, aCons, cT_ev, callB, looks, g1, frz1_dat, frz1_ml, bN_ev, fTup, fLst, mkT, mkL, frzL, iE, seqO, iR1, iR2, rg1, rg2, gAdd, gMul, gSub, gFDiv, gMod, gPow, gShl, gShr, gAnd, gOr, gXor, gLt, gLe, gGt, gGe, gAddI, gMulI, gU, gIx, gLen, gInt, gAbs, gList, gTuple, iop, tt2, orG, viewD, asL, asT, fApp, appO, isMl, fExt, extO, fSl, pNo, pSo, gSl, L2.atI, L2.ixN, gd, gEq_int, gNe_int, gEq_str, gNe_str, gNe_mlI, gEq_mlI, gNe_tupI, gEq_tupI, es]
theorem f10 (c k : Int) (hc : 0 ≤ c) (hc2 : c < 700000) (T : List Int) (hk : okC k) (bT : okBorder k T) (hT : T.length ≤ 10) (x3 x4 x5 x6 x7 : Option Vl) :
    ∃ c' y8 y9, A10 [some (St nums c), some (vI k), some (tI T), x3, x4, x5, x6, x7, none, none, none, none, none, none, none, none, none, none] = .nx [some (St nums c'), some (vI k), some (tI T), x3, x4, x5, x6, x7, y8, y9, none, none, none, none, none, none, none, none] ∧ c ≤ c' ∧ c' ≤ c + 3 := by
  obtain ⟨ρ', e1, c', y8, y9, rfl, h1⟩ := forL_all (b := bN 8) (body := sSeq (sSet 9 (fCall [true, false] S__law_next (aCons (fV 0) (aCons (bin gShl (fC (.int 1)) (fV 1)) aNil)))) (sIf (tNotV (tTr (fCall [false, false] S__law_same (aCons (fCall [false, false, false, false] S__law_told (aCons (fC (.int 3)) (aCons (fV 1) (aCons (fV 2) (aCons (fV 9) aNil))))) (aCons (fTup (aCons (fC (.str "told")) (aCons (fCall [false, false] S__law_true (aCons (fV 2) (aCons (fV 9) aNil))) aNil))) aNil))))) (sRet (fC (.bool false))) sNext))
    (ds := rangeD 0 3) (ρ := [some (St nums c), some (vI k), some (tI T), x3, x4, x5, x6, x7, none, none, none, none, none, none, none, none, none, none])
    (fun j ρ => ∃ c' y8 y9, ρ = [some (St nums c'), some (vI k), some (tI T), x3, x4, x5, x6, x7, y8, y9, none, none, none, none, none, none, none, none] ∧ c' = c + (j : Nat)) ⟨c, none, none, rfl, by simp⟩ (by
      rintro j d ρ hd ⟨c', y8, y9, rfl, hc'⟩
      obtain ⟨rfl, hj⟩ := range_at hd
      obtain ⟨x1, q1, g1', g2'⟩ := next_call hL hL2 (f := bin gShl (fC (.int 1)) (fV 1)) (rest := [some (vI k), some (tI T), x3, x4, x5, x6, x7, some (vI (0 + (j : Int))), y9, none, none, none, none, none, none, none, none]) (c := c') (c' := c') (m := 2 ^ k.toNat) (sh1 hk rfl) (by omega) (by omega) (Int.pow_pos (by decide))
      have q2 := turn10 hL hL2 c k x1 T hk bT hT ⟨g1', g2'⟩ (ρ := [some (St nums (c' + 1)), some (vI k), some (tI T), x3, x4, x5, x6, x7, some (vI (0 + (j : Int))), some (vI x1), none, none, none, none, none, none, none, none]) rfl rfl rfl
      refine ⟨_, _, rfl, .inl ?_, c' + 1, some (vI (0 + (j : Int))), some (vI x1), rfl, by omega⟩
      revert q1 q2
      generalize fCall [true, false] S__law_next _ = F1
      generalize sIf _ (sRet (fC (.bool false))) sNext = F2
      intro q1 q2
      rw [sSeq_ev]
      have : sSet 9 F1 [some (St nums c'), some (vI k), some (tI T), x3, x4, x5, x6, x7, some (vI (0 + (j : Int))), y9, none, none, none, none, none, none, none, none] = .nx [some (St nums (c' + 1)), some (vI k), some (tI T), x3, x4, x5, x6, x7, some (vI (0 + (j : Int))), some (vI x1), none, none, none, none, none, none, none, none] := by
        unfold sSet
        rw [q1]
        rfl
      show (match sSet 9 F1 [some (St nums c'), some (vI k), some (tI T), x3, x4, x5, x6, x7, some (vI (0 + (j : Int))), y9, none, none, none, none, none, none, none, none] with
        | .nx ρ1 => F2 ρ1
        | r => r) = _
      rw [this]
      exact q2)
  rw [range_len] at h1
  refine ⟨c', y8, y9, (sFor_ev (rng1 (by decide) (by decide))).trans e1, by omega, by omega⟩
end
end K08
end
section
set_option Elab.async false
set_option linter.all false
set_option maxRecDepth 100000
set_option maxHeartbeats 4000000
namespace K08
open Mi Fm PySem
open PySem (PyData)
theorem cut_drop (ns : List Int) : cutD (ns.map PyData.int) (some 1) none = (ns.drop 1).map .int := by
  cases ns with
  | nil => rfl
  | cons x xs =>
    have h : HT.sIx (xs.length + 1) 0 (some 1) = 1 := by unfold HT.sIx; simp
    unfold cutD
    simp [h, HT.sIx_none]
    exact List.take_of_length_le (by simp)
theorem cut_take (ns : List Int) : cutD (ns.map PyData.int) none (some 1) = (ns.take 1).map .int := by
  cases ns with
  | nil => rfl
  | cons x xs =>
    have h : HT.sIx (xs.length + 1) (xs.length + 1) (some 1) = 1 := by unfold HT.sIx; simp
    unfold cutD
    simp [h, HT.sIx_none]
theorem okB_sub {k : Int} {l l' : List Int} (h : okBorder k l) (s : l'.Sublist l) : okBorder k l' :=
  ⟨⟨h.1.1.sublist s, fun x hx => h.1.2 x (s.subset hx)⟩, fun x hx y hy => h.2 x (s.subset hx) y (s.subset hy)⟩
section
variable {nums : List Int} (hL : 0 < nums.length) (hL2 : nums.length < 10000)
include hL hL2
theorem f11 (c k : Int) (hc : 0 ≤ c) (hc2 : c < 700000) (F : List Int) (hk : okC k) (bF : okBorder k F) (hF : F.length ≤ 256) (x2 x4 x5 x6 x7 y8 y9 : Option Vl) :
    ∃ (O : List Int) (c' : Int), A11 [some (St nums c), some (vI k), x2, some (tI F), x4, x5, x6, x7, y8, y9, none, none, none, none, none, none, none, none] = .nx [some (St nums c'), some (vI k), x2, some (tI F), x4, x5, x6, x7, y8, y9, some (tI O), none, none, none, none, none, none, none] ∧ c ≤ c' ∧ c' ≤ c + 12 ∧ okBorder k O ∧ O.length ≤ 256 := by
  obtain ⟨ns, c', e4, h1, h2, h3, hU⟩ := draws_ev hL hL2 c k 3 hc (by omega) hk (by decide) (by decide) (fi := iR1 (aCons (fC (.int 3)) aNil)) (y8 := y8) (ρ0 := [some (St nums c), some (vI k), x2, some (tI F), x4, x5, x6, x7, y8, y9, none, none, none, none, none, none, none, none]) (rest := [x2, some (tI F), x4, x5, x6, x7, y8, y9, none, none, none, none, none, none, none, none]) (rng1 (by decide) (by decide)) rfl
  have e5 := fCall1' (spec := S__law_greatest) e4 rfl (great_ev (ns := ns) (.inr rfl) (by omega)) rfl
  obtain ⟨r, e6, a, b⟩ := next_call hL hL2 (f := fC (.int 3)) (rest := [some (vI k), x2, some (tI F), x4, x5, x6, x7, y8, y9, none, none, none, none, none, none, none, none]) (c := c') (c' := c') (m := 3) rfl (by omega) (by omega) (by decide)
  have hcut := cut_drop F
  have hg : (greatOf (sortSet ns)).length ≤ 256 := Nat.le_trans (List.length_filter_le _ _) (Nat.le_trans (sortSet_len ns) (by omega))
  unfold A11
  revert e5 e6
  generalize fCall [false] S__law_greatest _ = F1
  generalize fCall [true, false] S__law_next _ = F2
  intro e5 e6
  have : r = 0 ∨ r = 1 ∨ r = 2 := by omega
  rcases this with rfl | rfl | rfl
  · refine ⟨F, c' + 1, ?_, by omega, by omega, bF, hF⟩
    simp [specOf, outs, sSeq_ev, sSet, sRet, sRetN, sIf, sDrop, sRaise, sNext, sBrk, sCnt, sSetItem, sAug, augO, setItemO, setO_val, retO_val, bind_ok, bind_exc, bind_stk, bindS_ok, bindS_exc, bindS_stk, ret_some, look_val, look_brw, fC_ev, fV, bin, una, chain, tBo, tTr, tNotV, tAndV, tOrV, fAnd, fOr, fNot, fIf, boO_ev, trO, tru, aNil_ev, aCons, cT_ev, callB, looks, g1, frz1_dat, frz1_ml, bN_ev, fTup, fLst, mkT, mkL, frzL, iE, seqO, iR1, iR2, rg1, rg2, gAdd, gMul, gSub, gFDiv, gMod, gPow, gShl, gShr, gAnd, gOr, gXor, gLt, gLe, gGt, gGe, gAddI, gMulI, gU, gIx, gLen, gInt, gAbs, gList, gTuple, iop, tt2, orG, viewD, asL, asT, fApp, appO, isMl, fExt, extO, fSl, pNo, pSo, gSl, L2.atI, L2.ixN, gd, gEq_int, gNe_int, gEq_str, gNe_str, gNe_mlI, gEq_mlI, gNe_tupI, gEq_tupI, e5, e6, hcut, -List.map_drop]
  · refine ⟨F.drop 1, c' + 1, ?_, by omega, by omega, okB_sub bF (List.drop_sublist _ _), by rw [List.length_drop]; omega⟩
    simp [specOf, outs, sSeq_ev, sSet, sRet, sRetN, sIf, sDrop, sRaise, sNext, sBrk, sCnt, sSetItem, sAug, augO, setItemO, setO_val, retO_val, bind_ok, bind_exc, bind_stk, bindS_ok, bindS_exc, bindS_stk, ret_some, look_val, look_brw, fC_ev, fV, bin, una, chain, tBo, tTr, tNotV, tAndV, tOrV, fAnd, fOr, fNot, fIf, boO_ev, trO, tru, aNil_ev, aCons, cT_ev, callB, looks, g1, frz1_dat, frz1_ml, bN_ev, fTup, fLst, mkT, mkL, frzL, iE, seqO, iR1, iR2, rg1, rg2, gAdd, gMul, gSub, gFDiv, gMod, gPow, gShl, gShr, gAnd, gOr, gXor, gLt, gLe, gGt, gGe, gAddI, gMulI, gU, gIx, gLen, gInt, gAbs, gList, gTuple, iop, tt2, orG, viewD, asL, asT, fApp, appO, isMl, fExt, extO, fSl, pNo, pSo, gSl, L2.atI, L2.ixN, gd, gEq_int, gNe_int, gEq_str, gNe_str, gNe_mlI, gEq_mlI, gNe_tupI, gEq_tupI, e5, e6, hcut, -List.map_drop]
  · refine ⟨greatOf (sortSet ns), c' + 1, ?_, by omega, by omega, okB_great hU, hg⟩
    simp [specOf, outs, sSeq_ev, sSet, sRet, sRetN, sIf, sDrop, sRaise, sNext, sBrk, sCnt, sSetItem, sAug, augO, setItemO, setO_val, retO_val, bind_ok, bind_exc, bind_stk, bindS_ok, bindS_exc, bindS_stk, ret_some, look_val, look_brw, fC_ev, fV, bin, una, chain, tBo, tTr, tNotV, tAndV, tOrV, fAnd, fOr, fNot, fIf, boO_ev, trO, tru, aNil_ev, aCons, cT_ev, callB, looks, g1, frz1_dat, frz1_ml, bN_ev, fTup, fLst, mkT, mkL, frzL, iE, seqO, iR1, iR2, rg1, rg2, gAdd, gMul, gSub, gFDiv, gMod, gPow, gShl, gShr, gAnd, gOr, gXor, gLt, gLe, gGt, gGe, gAddI, gMulI, gU, gIx, gLen, gInt, gAbs, gList, gTuple, iop, tt2, orG, viewD, asL, asT, fApp, appO, isMl, fExt, extO, fSl, pNo, pSo, gSl, L2.atI, L2.ixN, gd, gEq_int, gNe_int, gEq_str, gNe_str, gNe_mlI, gEq_mlI, gNe_tupI, gEq_tupI, e5, e6, hcut, -List.map_drop]
theorem f12 (c : Int) (hc : 0 ≤ c) (hc2 : c < 700000) {k : Int} (T : List Int) (bT : okBorder k T) (hT : T.length ≤ 10) (x1 x3 x4 x5 x6 x7 y8 y9 y10 : Option Vl) :
    ∃ (O : List Int) (c' : Int), A12 [some (St nums c), x1, some (tI T), x3, x4, x5, x6, x7, y8, y9, y10, none, none, none, none, none, none, none] = .nx [some (St nums c'), x1, some (tI T), x3, x4, x5, x6, x7, y8, y9, y10, some (tI O), none, none, none, none, none, none] ∧ c ≤ c' ∧ c' ≤ c + 1 ∧ okBorder k O ∧ O.length ≤ 10 := by
  obtain ⟨r, e6, a, b⟩ := next_call hL hL2 (f := fC (.int 3)) (rest := [x1, some (tI T), x3, x4, x5, x6, x7, y8, y9, y10, none, none, none, none, none, none, none]) (c := c) (c' := c) (m := 3) rfl (by omega) (by omega) (by decide)
  have hcut := cut_drop T
  have hcut2 := cut_take T
  unfold A12
  revert e6
  generalize fCall [true, false] S__law_next _ = F2
  intro e6
  have : r = 0 ∨ r = 1 ∨ r = 2 := by omega
  rcases this with rfl | rfl | rfl
  · refine ⟨T, c + 1, ?_, by omega, by omega, bT, hT⟩
    simp [specOf, outs, sSeq_ev, sSet, sRet, sRetN, sIf, sDrop, sRaise, sNext, sBrk, sCnt, sSetItem, sAug, augO, setItemO, setO_val, retO_val, bind_ok, bind_exc, bind_stk, bindS_ok, bindS_exc, bindS_stk, ret_some, look_val, look_brw, fC_ev, fV, bin, una, chain, tBo, tTr, tNotV, tAndV, tOrV, fAnd, fOr, fNot, fIf, boO_ev, trO, tru, aNil_ev, aCons, cT_ev, callB, looks, g1, frz1_dat, frz1_ml, bN_ev, fTup, fLst, mkT, mkL, frzL, iE, seqO, iR1, iR2, rg1, rg2, gAdd, gMul, gSub, gFDiv, gMod, gPow, gShl, gShr, gAnd, gOr, gXor, gLt, gLe, gGt, gGe, gAddI, gMulI, gU, gIx, gLen, gInt, gAbs, gList, gTuple, iop, tt2, orG, viewD, asL, asT, fApp, appO, isMl, fExt, extO, fSl, pNo, pSo, gSl, L2.atI, L2.ixN, gd, gEq_int, gNe_int, gEq_str, gNe_str, gNe_mlI, gEq_mlI, gNe_tupI, gEq_tupI, e6, hcut, hcut2, -List.map_drop, -List.map_take]
  · refine ⟨T.drop 1, c + 1, ?_, by omega, by omega, okB_sub bT (List.drop_sublist _ _), by rw [List.length_drop]; omega⟩
    simp [specOf, outs, sSeq_ev, sSet, sRet, sRetN, sIf, sDrop, sRaise, sNext, sBrk, sCnt, sSetItem, sAug, augO, setItemO, setO_val, retO_val, bind_ok, bind_exc, bind_stk, bindS_ok, bindS_exc, bindS_stk, ret_some, look_val, look_brw, fC_ev, fV, bin, una, chain, tBo, tTr, tNotV, tAndV, tOrV, fAnd, fOr, fNot, fIf, boO_ev, trO, tru, aNil_ev, aCons, cT_ev, callB, looks, g1, frz1_dat, frz1_ml, bN_ev, fTup, fLst, mkT, mkL, frzL, iE, seqO, iR1, iR2, rg1, rg2, gAdd, gMul, gSub, gFDiv, gMod, gPow, gShl, gShr, gAnd, gOr, gXor, gLt, gLe, gGt, gGe, gAddI, gMulI, gU, gIx, gLen, gInt, gAbs, gList, gTuple, iop, tt2, orG, viewD, asL, asT, fApp, appO, isMl, fExt, extO, fSl, pNo, pSo, gSl, L2.atI, L2.ixN, gd, gEq_int, gNe_int, gEq_str, gNe_str, gNe_mlI, gEq_mlI, gNe_tupI, gEq_tupI, e6, hcut, hcut2, -List.map_drop, -List.map_take]
  · refine ⟨T.take 1, c + 1, ?_, by omega, by omega, okB_sub bT (List.take_sublist _ _), by rw [List.length_take]; omega⟩
    simp [specOf, outs, sSeq_ev, sSet, sRet, sRetN, sIf, sDrop, sRaise, sNext, sBrk, sCnt, sSetItem, sAug, augO, setItemO, setO_val, retO_val, bind_ok, bind_exc, bind_stk, bindS_ok, bindS_exc, bindS_stk, ret_some, look_val, look_brw, fC_ev, fV, bin, una, chain, tBo, tTr, tNotV, tAndV, tOrV, fAnd, fOr, fNot, fIf, boO_ev, trO, tru, aNil_ev, aCons, cT_ev, callB, looks, g1, frz1_dat, frz1_ml, bN_ev, fTup, fLst, mkT, mkL, frzL, iE, seqO, iR1, iR2, rg1, rg2, gAdd, gMul, gSub, gFDiv, gMod, gPow, gShl, gShr, gAnd, gOr, gXor, gLt, gLe, gGt, gGe, gAddI, gMulI, gU, gIx, gLen, gInt, gAbs, gList, gTuple, iop, tt2, orG, viewD, asL, asT, fApp, appO, isMl, fExt, extO, fSl, pNo, pSo, gSl, L2.atI, L2.ixN, gd, gEq_int, gNe_int, gEq_str, gNe_str, gNe_mlI, gEq_mlI, gNe_tupI, gEq_tupI, e6, hcut, hcut2, -List.map_drop, -List.map_take]
end
end K08
end
section
set_option Elab.async false
set_option linter.all false
set_option maxRecDepth 100000
set_option maxHeartbeats 4000000
namespace K08
open Mi Fm PySem
open PySem (PyData)
abbrev inAny (T F : List Int) : Bool := T.any fun x => F.any fun y => inB x y
def dueD (n : Nat) (T F : List Int) : PyData := if inAny T F then .str "refused" else match openOf n T F with
  | some z => tld (.int z)
  | none => .str "missing"
theorem f14 (x0 x2 x3 x4 x5 x6 x7 y8 y9 : Option Vl) (k : Int) (hk : okC k) (F T : List Int) (hF : F.length ≤ 256) (hT : T.length ≤ 10) :
    ∃ x13, A14 [x0, some (vI k), x2, x3, x4, x5, x6, x7, y8, y9, some (tI F), some (tI T), some (.dat (.str "refused")), none, none, none, none, none] = .nx [x0, some (vI k), x2, x3, x4, x5, x6, x7, y8, y9, some (tI F), some (tI T), some (.dat (dueD k.toNat T F)), x13, none, none, none, none] := by
  have hal := all_len (n8 hk)
  have e1 := fComp_map (vs := [16]) (fi := iE (fV 11)) (b := bN 16) (e := callB (g1 gAny) (aCons (fComp [17] (iE (fV 10)) (bN 17) cT (bin gEq (bin gAnd (fV 16) (una (gU Builtin.bitNot) (fV 17))) (fC (.int 0)))) aNil)) (ι := PyData.int) (g := fun x => .bool (F.any fun y => inB x y)) (ρ := [x0, some (vI k), x2, x3, x4, x5, x6, x7, y8, y9, some (tI F), some (tI T), some (.dat (.str "refused")), none, none, none, none, none]) (ρ1 := [x0, some (vI k), x2, x3, x4, x5, x6, x7, y8, y9, some (tI F), some (tI T), some (.dat (.str "refused")), none, none, none, none, none]) T (by simp [specOf, outs, sSeq_ev, sSet, sRet, sRetN, sIf, sDrop, sRaise, sNext, sBrk, sCnt, sSetItem, sAug, augO, setItemO, setO_val, retO_val, bind_ok, bind_exc, bind_stk, bindS_ok, bindS_exc, bindS_stk, ret_some, look_val, look_brw, fC_ev, fV, bin, una, chain, tBo, tTr, tNotV, tAndV, tOrV, fAnd, fOr, fNot, fIf, boO_ev, trO, tru, aNil_ev, aCons, cT_ev, callB, looks, g1, frz1_dat, frz1_ml, bN_ev, fTup, fLst, mkT, mkL, frzL, iE, seqO, iR1, iR2, rg1, rg2, gAdd, gMul, gSub, gFDiv, gMod, gPow, gShl, gShr, gAnd, gOr, gXor, gLt, gLe, gGt, gGe, gAddI, gMulI, gU, gIx, gLen, gInt, gAbs, gList, gTuple, iop, tt2, orG, viewD, asL, asT, fApp, appO, isMl, fExt, extO, fSl, pNo, pSo, gSl, L2.atI, L2.ixN, gd, gEq_int, gNe_int, gEq_str, gNe_str, gNe_mlI, gEq_mlI, gNe_tupI, gEq_tupI]) (by omega) (fun x _ => by
    refine ⟨[x0, some (vI k), x2, x3, x4, x5, x6, x7, y8, y9, some (tI F), some (tI T), some (.dat (.str "refused")), none, none, none, some (vI x), none], vB (F.any fun y => inB x y), rfl, rfl, ?_, rfl⟩
    exact any_sup (v := 17) (a := 10) (o := 16) (T := F) (one := x) (by omega) rfl (fun j => rfl) (by simp))
  have e2 := fComp_pure (vs := [9]) (fi := iR1 (aCons (bin gShl (fC (.int 1)) (fV 1)) aNil)) (b := bN 9) (c := tAndV (tNotV (tTr (fCall [false, false] S__law_true (aCons (fV 11) (aCons (fV 9) aNil))))) (tNotV (tTr (callB (g1 gAny) (aCons (fComp [17] (iE (fV 10)) (bN 17) cT (bin gEq (bin gAnd (fV 9) (una (gU Builtin.bitNot) (fV 17))) (fC (.int 0)))) aNil))))) (e := fV 9) (ι := PyData.int) (p := openP T F) (g := PyData.int)
    (ρ := [x0, some (vI k), x2, x3, x4, x5, x6, x7, y8, y9, some (tI F), some (tI T), some (.dat (.str "refused")), none, none, none, none, none]) (ρ1 := [x0, some (vI k), x2, x3, x4, x5, x6, x7, y8, y9, some (tI F), some (tI T), some (.dat (.str "refused")), none, none, none, none, none]) (allOf k.toNat) (rng_all hk rfl) (by omega) (fun one _ => by
      refine ⟨[x0, some (vI k), x2, x3, x4, x5, x6, x7, y8, some (vI one), some (tI F), some (tI T), some (.dat (.str "refused")), none, none, none, none, none], rfl, rfl, ?_, fun _ => ⟨vI one, rfl, rfl⟩⟩
      have a1 := fCall2 (spec := S__law_true) (f := fV 11) (f2 := fV 9) (ρ := [x0, some (vI k), x2, x3, x4, x5, x6, x7, y8, some (vI one), some (tI F), some (tI T), some (.dat (.str "refused")), none, none, none, none, none]) (w := tI T) (w2 := vI one) rfl rfl rfl rfl (ltrue_ev T one (by omega)) rfl
      have a2 := any_sup (ρ := [x0, some (vI k), x2, x3, x4, x5, x6, x7, y8, some (vI one), some (tI F), some (tI T), some (.dat (.str "refused")), none, none, none, none, none]) (v := 17) (a := 10) (o := 9) (T := F) (one := one) (by omega) rfl (fun j => rfl) (by simp)
      revert a1 a2
      generalize callB (g1 gAny) _ = F1
      generalize fCall [false, false] S__law_true _ = F2
      intro a1 a2
      unfold openP
      cases h1 : isT T one <;> cases h2 : (F.any fun f => inB one f) <;> simp [specOf, outs, sSeq_ev, sSet, sRet, sRetN, sIf, sDrop, sRaise, sNext, sBrk, sCnt, sSetItem, sAug, augO, setItemO, setO_val, retO_val, bind_ok, bind_exc, bind_stk, bindS_ok, bindS_exc, bindS_stk, ret_some, look_val, look_brw, fC_ev, fV, bin, una, chain, tBo, tTr, tNotV, tAndV, tOrV, fAnd, fOr, fNot, fIf, boO_ev, trO, tru, aNil_ev, aCons, cT_ev, callB, looks, g1, frz1_dat, frz1_ml, bN_ev, fTup, fLst, mkT, mkL, frzL, iE, seqO, iR1, iR2, rg1, rg2, gAdd, gMul, gSub, gFDiv, gMod, gPow, gShl, gShr, gAnd, gOr, gXor, gLt, gLe, gGt, gGe, gAddI, gMulI, gU, gIx, gLen, gInt, gAbs, gList, gTuple, iop, tt2, orG, viewD, asL, asT, fApp, appO, isMl, fExt, extO, fSl, pNo, pSo, gSl, L2.atI, L2.ixN, gd, gEq_int, gNe_int, gEq_str, gNe_str, gNe_mlI, gEq_mlI, gNe_tupI, gEq_tupI, a1, a2, h1, h2])
  have eh : ((allOf k.toNat).filter (openP T F)).head? = openOf k.toNat T F := List.head?_filter ..
  have hlen : ((allOf k.toNat).filter (openP T F)).length ≤ 256 := Nat.le_trans (List.length_filter_le _ _) hal
  revert e2 eh hlen
  generalize (allOf k.toNat).filter (openP T F) = left
  intro e2 eh hlen
  unfold A14
  revert e1 e2
  generalize fComp [16] _ _ _ _ = F1
  generalize fComp [9] _ _ _ _ = F2
  intro e1 e2
  unfold dueD
  cases hA : inAny T F with
  | true => exact ⟨none, by simp [specOf, outs, sSeq_ev, sSet, sRet, sRetN, sIf, sDrop, sRaise, sNext, sBrk, sCnt, sSetItem, sAug, augO, setItemO, setO_val, retO_val, bind_ok, bind_exc, bind_stk, bindS_ok, bindS_exc, bindS_stk, ret_some, look_val, look_brw, fC_ev, fV, bin, una, chain, tBo, tTr, tNotV, tAndV, tOrV, fAnd, fOr, fNot, fIf, boO_ev, trO, tru, aNil_ev, aCons, cT_ev, callB, looks, g1, frz1_dat, frz1_ml, bN_ev, fTup, fLst, mkT, mkL, frzL, iE, seqO, iR1, iR2, rg1, rg2, gAdd, gMul, gSub, gFDiv, gMod, gPow, gShl, gShr, gAnd, gOr, gXor, gLt, gLe, gGt, gGe, gAddI, gMulI, gU, gIx, gLen, gInt, gAbs, gList, gTuple, iop, tt2, orG, viewD, asL, asT, fApp, appO, isMl, fExt, extO, fSl, pNo, pSo, gSl, L2.atI, L2.ixN, gd, gEq_int, gNe_int, gEq_str, gNe_str, gNe_mlI, gEq_mlI, gNe_tupI, gEq_tupI, e1, gAny_map, hA]⟩
  | false =>
    have s0 : 1000 ≤ sizeLine := by decide
    have s1 : 1 ≤ sizeLine := by omega
    refine ⟨some (.ml (left.map .int)), ?_⟩
    cases left with
    | nil =>
      have : openOf k.toNat T F = none := eh.symm
      rw [this]
      simp [specOf, outs, sSeq_ev, sSet, sRet, sRetN, sIf, sDrop, sRaise, sNext, sBrk, sCnt, sSetItem, sAug, augO, setItemO, setO_val, retO_val, bind_ok, bind_exc, bind_stk, bindS_ok, bindS_exc, bindS_stk, ret_some, look_val, look_brw, fC_ev, fV, bin, una, chain, tBo, tTr, tNotV, tAndV, tOrV, fAnd, fOr, fNot, fIf, boO_ev, trO, tru, aNil_ev, aCons, cT_ev, callB, looks, g1, frz1_dat, frz1_ml, bN_ev, fTup, fLst, mkT, mkL, frzL, iE, seqO, iR1, iR2, rg1, rg2, gAdd, gMul, gSub, gFDiv, gMod, gPow, gShl, gShr, gAnd, gOr, gXor, gLt, gLe, gGt, gGe, gAddI, gMulI, gU, gIx, gLen, gInt, gAbs, gList, gTuple, iop, tt2, orG, viewD, asL, asT, fApp, appO, isMl, fExt, extO, fSl, pNo, pSo, gSl, L2.atI, L2.ixN, gd, gEq_int, gNe_int, gEq_str, gNe_str, gNe_mlI, gEq_mlI, gNe_tupI, gEq_tupI, e1, e2, gAny_map, hA, gCatL, s1]
    | cons z zs =>
      have : openOf k.toNat T F = some z := eh.symm
      have h3 : ¬ (zs.length : Int) + 1 = 0 := by omega
      rw [this]
      have s3 : zs.length + 1 + 1 ≤ sizeLine := by simp at hlen; omega
      simp [specOf, outs, sSeq_ev, sSet, sRet, sRetN, sIf, sDrop, sRaise, sNext, sBrk, sCnt, sSetItem, sAug, augO, setItemO, setO_val, retO_val, bind_ok, bind_exc, bind_stk, bindS_ok, bindS_exc, bindS_stk, ret_some, look_val, look_brw, fC_ev, fV, bin, una, chain, tBo, tTr, tNotV, tAndV, tOrV, fAnd, fOr, fNot, fIf, boO_ev, trO, tru, aNil_ev, aCons, cT_ev, callB, looks, g1, frz1_dat, frz1_ml, bN_ev, fTup, fLst, mkT, mkL, frzL, iE, seqO, iR1, iR2, rg1, rg2, gAdd, gMul, gSub, gFDiv, gMod, gPow, gShl, gShr, gAnd, gOr, gXor, gLt, gLe, gGt, gGe, gAddI, gMulI, gU, gIx, gLen, gInt, gAbs, gList, gTuple, iop, tt2, orG, viewD, asL, asT, fApp, appO, isMl, fExt, extO, fSl, pNo, pSo, gSl, L2.atI, L2.ixN, gd, gEq_int, gNe_int, gEq_str, gNe_str, gNe_mlI, gEq_mlI, gNe_tupI, gEq_tupI, e1, e2, gAny_map, hA, gCatL, h3, s3]
end K08
end
section
set_option Elab.async false
set_option linter.all false
set_option maxRecDepth 100000
set_option maxHeartbeats 4000000
namespace K08
open Mi Fm PySem
open PySem (PyData)
theorem t5 {k : Int} {T F : List Int} (hk : okC k) (hT : T.length ≤ 300) (hF : F.length ≤ 300) (bT : okBorder k T) (bF : okBorder k F) : S__law_told [vI 5, vI k, tI T, tI F] = .ok (.dat (dueD k.toNat T F)) [none, none, none, none] := by
  have e := undecided_ev k T F hk hT hF bT bF
  have q := told_hi (k := 5) (by decide) rfl k (.tuple (T.map .int)) (.tuple (F.map .int))
  unfold dueD inAny
  cases hA : (T.any fun x => F.any fun y => inB x y) with
  | true =>
    rw [hA] at e
    exact q.2 _ _ e rfl
  | false =>
    rw [hA] at e
    cases ho : openOf k.toNat T F with
    | some z =>
      rw [ho] at e
      exact q.1 _ e
    | none =>
      rw [ho] at e
      exact q.2 _ _ e rfl
theorem sm_due {n : Nat} (hn : n ≤ 8) (T F : List Int) : Sm 1 100 (dueD n T F) := by
  unfold dueD
  split
  · exact (sm_str (by decide +kernel) (n := 100) (by decide +kernel)).mono (by decide) (by decide)
  · split
    · rename_i z hz
      have hu : U n z := mem_all.mp (List.mem_of_find?_eq_some hz)
      have h1 := pow_small hn
      have h2 := hu.1
      have h3 := hu.2
      exact (sm_tld (sm_int (by omega))).mono (by decide) (by decide)
    · exact (sm_str (by decide +kernel) (n := 100) (by decide +kernel)).mono (by decide) (by decide)
theorem f15 {ρ : Rho} {k : Int} {T F : List Int} (hk : okC k) (hT : T.length ≤ 10) (hF : F.length ≤ 256) (bT : okBorder k T) (bF : okBorder k F)
    (v1 : fV 1 ρ = .ok (.val (vI k)) ρ) (v10 : fV 10 ρ = .ok (.val (tI F)) ρ) (v11 : fV 11 ρ = .ok (.val (tI T)) ρ) (v12 : fV 12 ρ = .ok (.val (.dat (dueD k.toNat T F))) ρ) : A15 ρ = .nx ρ := by
  have e5 := fCall4 (spec := S__law_told) (f := fC (.int 5)) (w := vI 5) rfl rfl v1 rfl v11 rfl v10 rfl (t5 hk (by omega) (by omega) bT bF) rfl
  have e4 := fCall4 (spec := S__law_told) (f := fC (.int 4)) (w := vI 4) rfl rfl v1 rfl v11 rfl v10 rfl (t4 hk (by omega) (by omega) bT bF) rfl
  have ef := fCall2 (spec := S__law_falses) v1 rfl v11 rfl (lfalses_ev k T hk (by omega)) rfl
  have el : fLst (aCons (fCall [false, false, false, false] S__law_told (aCons (fC (.int 5)) (aCons (fV 1) (aCons (fV 11) (aCons (fV 10) aNil))))) (aCons (fCall [false, false, false, false] S__law_told (aCons (fC (.int 4)) (aCons (fV 1) (aCons (fV 11) (aCons (fV 10) aNil))))) aNil)) ρ = .ok (.val (.ml [dueD k.toNat T F, tld (.bool (decide (falsesOf k.toNat T = F)))])) ρ := by
    revert e5 e4
    generalize fCall [false, false, false, false] S__law_told (aCons (fC (.int 5)) _) = F0
    generalize fCall [false, false, false, false] S__law_told (aCons (fC (.int 4)) _) = F1
    intro e5 e4
    simp [fLst, aCons, aNil, bind_ok, e5, e4, mkL, frzL, frz1, viewD]
  have er : fLst (aCons (fV 12) (aCons (fTup (aCons (fC (.str "told")) (aCons (bin gEq (fCall [false, false] S__law_falses (aCons (fV 1) (aCons (fV 11) aNil))) (fV 10)) aNil))) aNil)) ρ = .ok (.val (.ml [dueD k.toNat T F, tld (.bool (decide (falsesOf k.toNat T = F)))])) ρ := by
    revert ef
    generalize fCall [false, false] S__law_falses _ = F1
    intro ef
    simp [fLst, fTup, mkT, bin, fC_ev, look_val, ret_some, gEq_tupI, aCons, aNil, bind_ok, ef, v10, v12, mkL, frzL, frz1, viewD]
  have es := same_call el rfl rfl er rfl rfl (Sm.rok (k := 3) (N := (100 + 1 + (4 + 1 + (0 + 1 + 0) + 1 + 0)) + 1 + 0) (sm_lst (sm_cons (sm_lst (sm_cons (sm_due (n8 hk) T F) (sm_cons ((sm_tld sm_bool).mono (by decide) (Nat.le_refl _)) sm_nil))) sm_nil)) (by decide) (by decide))
  unfold A15
  revert es
  generalize fCall [false, false] S__law_same _ = F1
  intro es
  simp [specOf, outs, sSeq_ev, sSet, sRet, sRetN, sIf, sDrop, sRaise, sNext, sBrk, sCnt, sSetItem, sAug, augO, setItemO, setO_val, retO_val, bind_ok, bind_exc, bind_stk, bindS_ok, bindS_exc, bindS_stk, ret_some, look_val, look_brw, fC_ev, fV, bin, una, chain, tBo, tTr, tNotV, tAndV, tOrV, fAnd, fOr, fNot, fIf, boO_ev, trO, tru, aNil_ev, aCons, cT_ev, callB, looks, g1, frz1_dat, frz1_ml, bN_ev, fTup, fLst, mkT, mkL, frzL, iE, seqO, iR1, iR2, rg1, rg2, gAdd, gMul, gSub, gFDiv, gMod, gPow, gShl, gShr, gAnd, gOr, gXor, gLt, gLe, gGt, gGe, gAddI, gMulI, gU, gIx, gLen, gInt, gAbs, gList, gTuple, iop, tt2, orG, viewD, asL, asT, fApp, appO, isMl, fExt, extO, fSl, pNo, pSo, gSl, L2.atI, L2.ixN, gd, gEq_int, gNe_int, gEq_str, gNe_str, gNe_mlI, gEq_mlI, gNe_tupI, gEq_tupI, es]
abbrev badD (n : Nat) : List PyData := [.tuple [.int (2 ^ n)], .tuple [.int (-1)], .tuple [.int 0, .int 0], .tuple [.int 1, .int 0], .tuple [.int 0, .int 1]]
theorem f16 (x0 x1 x2 x3 x4 x6 x7 y8 y9 y10 y11 y12 x13 : Option Vl) (n : Nat) : A16 [x0, x1, x2, x3, x4, some (vI (whole n)), x6, x7, y8, y9, y10, y11, y12, x13, none, none, none, none] = .nx [x0, x1, x2, x3, x4, some (vI (whole n)), x6, x7, y8, y9, y10, y11, y12, x13, some (.ml (badD n)), none, none, none] := by
  have s0 : 1000 ≤ sizeLine := by decide
  have s5 : 5 ≤ sizeLine := by omega
  have hw : whole n + 1 = 2 ^ n := by unfold whole; omega
  unfold A16
  simp [specOf, outs, sSeq_ev, sSet, sRet, sRetN, sIf, sDrop, sRaise, sNext, sBrk, sCnt, sSetItem, sAug, augO, setItemO, setO_val, retO_val, bind_ok, bind_exc, bind_stk, bindS_ok, bindS_exc, bindS_stk, ret_some, look_val, look_brw, fC_ev, fV, bin, una, chain, tBo, tTr, tNotV, tAndV, tOrV, fAnd, fOr, fNot, fIf, boO_ev, trO, tru, aNil_ev, aCons, cT_ev, callB, looks, g1, frz1_dat, frz1_ml, bN_ev, fTup, fLst, mkT, mkL, frzL, iE, seqO, iR1, iR2, rg1, rg2, gAdd, gMul, gSub, gFDiv, gMod, gPow, gShl, gShr, gAnd, gOr, gXor, gLt, gLe, gGt, gGe, gAddI, gMulI, gU, gIx, gLen, gInt, gAbs, gList, gTuple, iop, tt2, orG, viewD, asL, asT, fApp, appO, isMl, fExt, extO, fSl, pNo, pSo, gSl, L2.atI, L2.ixN, gd, gEq_int, gNe_int, gEq_str, gNe_str, gNe_mlI, gEq_mlI, gNe_tupI, gEq_tupI, hw, gCatL, s5]
end K08
end
section
set_option Elab.async false
set_option linter.all false
set_option maxRecDepth 100000
set_option maxHeartbeats 4000000
namespace K08
open Mi Fm PySem
open PySem (PyData)
theorem is_whole_x (c : Int) (T F : List Int) (hT : T.length < 4000) (hF : F.length < 4000) (h : ¬ ((okC c ∧ okBorder c T) ∧ (okC c ∧ okBorder c F))) : S_is_whole [.dat (.int c), tI T, tI F] = .exc 1 [none, none, none] := by
  by_cases h1 : okC c ∧ okBorder c T
  · have e1 : fCall [false, false] S_check_border (aCons (fV 0) (aCons (fV 1) aNil)) [some (.dat (.int c)), some (tI T), some (tI F)] = .ok (.val (.dat .none)) [some (.dat (.int c)), some (tI T), some (tI F)] := fCall2 (w := .dat (.int c)) (w2 := tI T) rfl rfl rfl rfl ((check_border_ev c T hT).1 h1) rfl
    have e2 : fCall [false, false] S_check_border (aCons (fV 0) (aCons (fV 2) aNil)) [some (.dat (.int c)), some (tI T), some (tI F)] = .exc 1 [some (.dat (.int c)), some (tI T), some (tI F)] := fCall2x (w := .dat (.int c)) (w2 := tI F) rfl rfl rfl rfl ((check_border_ev c F hF).2 fun q => h ⟨h1, q⟩) rfl
    unfold S_is_whole F_is_whole
    simp [specOf, outs, sSeq_ev, sSet, sRet, sRetN, sIf, sDrop, sRaise, sNext, sBrk, sCnt, sSetItem, sAug, augO, setItemO, setO_val, retO_val, bind_ok, bind_exc, bind_stk, bindS_ok, bindS_exc, bindS_stk, ret_some, look_val, look_brw, fC_ev, fV, bin, una, chain, tBo, tTr, tNotV, tAndV, tOrV, fAnd, fOr, fNot, fIf, boO_ev, trO, tru, aNil_ev, aCons, cT_ev, callB, looks, g1, frz1_dat, frz1_ml, bN_ev, fTup, fLst, mkT, mkL, frzL, iE, seqO, iR1, iR2, rg1, rg2, gAdd, gMul, gSub, gFDiv, gMod, gPow, gShl, gShr, gAnd, gOr, gXor, gLt, gLe, gGt, gGe, gAddI, gMulI, gU, gIx, gLen, gInt, gAbs, gList, gTuple, iop, tt2, orG, viewD, asL, asT, fApp, appO, isMl, fExt, extO, fSl, pNo, pSo, gSl, L2.atI, L2.ixN, gd, gEq_int, gNe_int, gEq_str, gNe_str, gNe_mlI, gEq_mlI, gNe_tupI, gEq_tupI, e1, e2]
  · have e1 : fCall [false, false] S_check_border (aCons (fV 0) (aCons (fV 1) aNil)) [some (.dat (.int c)), some (tI T), some (tI F)] = .exc 1 [some (.dat (.int c)), some (tI T), some (tI F)] := fCall2x (w := .dat (.int c)) (w2 := tI T) rfl rfl rfl rfl ((check_border_ev c T hT).2 h1) rfl
    unfold S_is_whole F_is_whole
    simp [specOf, outs, sSeq_ev, sSet, sRet, sRetN, sIf, sDrop, sRaise, sNext, sBrk, sCnt, sSetItem, sAug, augO, setItemO, setO_val, retO_val, bind_ok, bind_exc, bind_stk, bindS_ok, bindS_exc, bindS_stk, ret_some, look_val, look_brw, fC_ev, fV, bin, una, chain, tBo, tTr, tNotV, tAndV, tOrV, fAnd, fOr, fNot, fIf, boO_ev, trO, tru, aNil_ev, aCons, cT_ev, callB, looks, g1, frz1_dat, frz1_ml, bN_ev, fTup, fLst, mkT, mkL, frzL, iE, seqO, iR1, iR2, rg1, rg2, gAdd, gMul, gSub, gFDiv, gMod, gPow, gShl, gShr, gAnd, gOr, gXor, gLt, gLe, gGt, gGe, gAddI, gMulI, gU, gIx, gLen, gInt, gAbs, gList, gTuple, iop, tt2, orG, viewD, asL, asT, fApp, appO, isMl, fExt, extO, fSl, pNo, pSo, gSl, L2.atI, L2.ixN, gd, gEq_int, gNe_int, gEq_str, gNe_str, gNe_mlI, gEq_mlI, gNe_tupI, gEq_tupI, e1]
theorem undecided_x (c : Int) (T F : List Int) (hT : T.length < 4000) (hF : F.length < 4000) (h : ¬ ((okC c ∧ okBorder c T) ∧ (okC c ∧ okBorder c F))) : S_undecided [.dat (.int c), tI T, tI F] = .exc 1 [none, none, none] := by
  by_cases h1 : okC c ∧ okBorder c T
  · have e1 : fCall [false, false] S_check_border (aCons (fV 0) (aCons (fV 1) aNil)) (RU c T F none none) = .ok (.val (.dat .none)) (RU c T F none none) := fCall2 (w := .dat (.int c)) (w2 := tI T) rfl rfl rfl rfl ((check_border_ev c T hT).1 h1) rfl
    have e2 : fCall [false, false] S_check_border (aCons (fV 0) (aCons (fV 2) aNil)) (RU c T F none none) = .exc 1 (RU c T F none none) := fCall2x (w := .dat (.int c)) (w2 := tI F) rfl rfl rfl rfl ((check_border_ev c F hF).2 fun q => h ⟨h1, q⟩) rfl
    unfold S_undecided F_undecided
    simp [specOf, outs, sSeq_ev, sSet, sRet, sRetN, sIf, sDrop, sRaise, sNext, sBrk, sCnt, sSetItem, sAug, augO, setItemO, setO_val, retO_val, bind_ok, bind_exc, bind_stk, bindS_ok, bindS_exc, bindS_stk, ret_some, look_val, look_brw, fC_ev, fV, bin, una, chain, tBo, tTr, tNotV, tAndV, tOrV, fAnd, fOr, fNot, fIf, boO_ev, trO, tru, aNil_ev, aCons, cT_ev, callB, looks, g1, frz1_dat, frz1_ml, bN_ev, fTup, fLst, mkT, mkL, frzL, iE, seqO, iR1, iR2, rg1, rg2, gAdd, gMul, gSub, gFDiv, gMod, gPow, gShl, gShr, gAnd, gOr, gXor, gLt, gLe, gGt, gGe, gAddI, gMulI, gU, gIx, gLen, gInt, gAbs, gList, gTuple, iop, tt2, orG, viewD, asL, asT, fApp, appO, isMl, fExt, extO, fSl, pNo, pSo, gSl, L2.atI, L2.ixN, gd, gEq_int, gNe_int, gEq_str, gNe_str, gNe_mlI, gEq_mlI, gNe_tupI, gEq_tupI, e1, e2, List.replicate]
  · have e1 : fCall [false, false] S_check_border (aCons (fV 0) (aCons (fV 1) aNil)) (RU c T F none none) = .exc 1 (RU c T F none none) := fCall2x (w := .dat (.int c)) (w2 := tI T) rfl rfl rfl rfl ((check_border_ev c T hT).2 h1) rfl
    unfold S_undecided F_undecided
    simp [specOf, outs, sSeq_ev, sSet, sRet, sRetN, sIf, sDrop, sRaise, sNext, sBrk, sCnt, sSetItem, sAug, augO, setItemO, setO_val, retO_val, bind_ok, bind_exc, bind_stk, bindS_ok, bindS_exc, bindS_stk, ret_some, look_val, look_brw, fC_ev, fV, bin, una, chain, tBo, tTr, tNotV, tAndV, tOrV, fAnd, fOr, fNot, fIf, boO_ev, trO, tru, aNil_ev, aCons, cT_ev, callB, looks, g1, frz1_dat, frz1_ml, bN_ev, fTup, fLst, mkT, mkL, frzL, iE, seqO, iR1, iR2, rg1, rg2, gAdd, gMul, gSub, gFDiv, gMod, gPow, gShl, gShr, gAnd, gOr, gXor, gLt, gLe, gGt, gGe, gAddI, gMulI, gU, gIx, gLen, gInt, gAbs, gList, gTuple, iop, tt2, orG, viewD, asL, asT, fApp, appO, isMl, fExt, extO, fSl, pNo, pSo, gSl, L2.atI, L2.ixN, gd, gEq_int, gNe_int, gEq_str, gNe_str, gNe_mlI, gEq_mlI, gNe_tupI, gEq_tupI, e1, List.replicate]
theorem t4x {k : Int} {T F : List Int} (hT : T.length < 4000) (hF : F.length < 4000) (h : ¬ ((okC k ∧ okBorder k T) ∧ (okC k ∧ okBorder k F))) : S__law_told [vI 4, vI k, tI T, tI F] = .ok (.dat (.str "refused")) [none, none, none, none] :=
  (told_hi (k := 4) (by decide) rfl k _ _).2 _ _ (is_whole_x k T F hT hF h) rfl
theorem t5x {k : Int} {T F : List Int} (hT : T.length < 4000) (hF : F.length < 4000) (h : ¬ ((okC k ∧ okBorder k T) ∧ (okC k ∧ okBorder k F))) : S__law_told [vI 5, vI k, tI T, tI F] = .ok (.dat (.str "refused")) [none, none, none, none] :=
  (told_hi (k := 5) (by decide) rfl k _ _).2 _ _ (undecided_x k T F hT hF h) rfl
def badL (n : Nat) : List (List Int) := [[2 ^ n], [-1], [0, 0], [1, 0], [0, 1]]
theorem badD_eq (n : Nat) : badD n = (badL n).map fun l => .tuple (l.map .int) := rfl
theorem bad4 {k : Int} : ∀ l ∈ (badL k.toNat).take 4, ¬ okSets k l := by
  intro l hl h
  have hu := h.2
  have ha := h.1
  simp [badL] at hl
  rcases hl with rfl | rfl | rfl | rfl
  · have := (hu (2 ^ k.toNat) (by simp)).2
    omega
  · have := (hu (-1) (by simp)).1
    omega
  · simp at ha
  · simp at ha
theorem bad01 {k : Int} : ¬ okBorder k [0, 1] := fun h => by
  have := h.2 1 (by simp) 0 (by simp) fun i hi => (bt_eq_zero.mp rfl i hi).elim
  omega
theorem bad5 {k : Int} : ∀ l ∈ badL k.toNat, ¬ okBorder k l := by
  intro l hl h
  have : l ∈ (badL k.toNat).take 4 ∨ l = [0, 1] := by
    simp [badL] at hl ⊢
    rcases hl with h | h | h | h | h <;> simp [h]
  rcases this with h2 | rfl
  · exact bad4 l h2 h.1
  · exact bad01 h
theorem bad_len {n : Nat} : ∀ l ∈ badL n, l.length < 4000 := by
  intro l hl
  simp [badL] at hl
  rcases hl with rfl | rfl | rfl | rfl | rfl <;> simp
abbrev rfd : PyData := .str "refused"
theorem bad_comp {fi : FI} {e : FE} {ρ0 ρ : Rho} {xs : List (List Int)} (hi : fi ρ0 = .ok (xs.map fun l => .tuple (l.map .int)) ρ) (hl : xs.length ≤ 100000)
    (h : ∀ l ∈ xs, e (ρ.set 9 (some (tI l))) = .ok (.val (.dat rfd)) (ρ.set 9 (some (tI l)))) : fComp [9] fi (bN 9) cT e ρ0 = .ok (.val (.ml (List.replicate xs.length rfd))) ρ := by
  have hc := fComp_map (vs := [9]) (fi := fi) (b := bN 9) (e := e) (ι := fun l : List Int => PyData.tuple (l.map .int)) (g := fun _ => rfd) (ρ := ρ0) (ρ1 := ρ) xs hi hl (fun l hm => by
    refine ⟨ρ.set 9 (some (tI l)), .dat rfd, by rw [bN_ev, wipe1, List.set_set], by rw [wipe1, wipe1, List.set_set], h l hm, rfl⟩)
  rw [hc, List.map_const']
end K08
end
section
set_option Elab.async false
set_option linter.all false
set_option maxRecDepth 100000
set_option maxHeartbeats 4000000
namespace K08
open Mi Fm PySem
open PySem (PyData)
abbrev rep (a : Nat) : Vl := .ml (List.replicate a rfd)
theorem gAdd_rep {a b : Nat} (h : a + b ≤ 1000) : gAdd (rep a) (rep b) = some (rep (a + b)) := by
  have s0 : 1000 ≤ sizeLine := by decide
  have s1 : a + b ≤ sizeLine := by omega
  have e : gCatL (rep a) (rep b) = some (rep (a + b)) := by
    unfold gCatL
    simp [asL, gd, s1]
  unfold gAdd orG
  rw [show gAddI (rep a) (rep b) = none from rfl, e]
theorem bin_rep {a b : Nat} {f g : FE} {ρ ρ1 ρ2 : Rho} (h : a + b ≤ 1000) (hf : f ρ = .ok (.val (rep a)) ρ1) (hg : g ρ1 = .ok (.val (rep b)) ρ2) : bin gAdd f g ρ = .ok (.val (rep (a + b))) ρ2 := by
  simp [bin, bind_ok, hf, hg, look_val, gAdd_rep h, ret_some]
theorem f17 (x0 x3 x4 x5 x6 x7 y8 y9 y10 y11 y12 x13 : Option Vl) (k : Int) (T : List Int) (hT : T.length ≤ 10) (bd : List PyData) (hb : bd = (badL k.toNat).map fun l => .tuple (l.map .int)) (hb4 : cutD bd none (some 4) = ((badL k.toNat).take 4).map fun l => .tuple (l.map .int)) :
    A17 [x0, some (vI k), some (tI T), x3, x4, x5, x6, x7, y8, y9, y10, y11, y12, x13, some (.ml bd), none, none, none] = .nx [x0, some (vI k), some (tI T), x3, x4, x5, x6, x7, y8, y9, y10, y11, y12, x13, some (.dat (.list bd)), some (rep 24), none, none] := by
  have i0 : iE (fSl (fV 14) pNo (pSo (fC (.int 4)))) [x0, some (vI k), some (tI T), x3, x4, x5, x6, x7, y8, y9, y10, y11, y12, x13, some (.ml bd), none, none, none] = .ok (((badL k.toNat).take 4).map fun l => .tuple (l.map .int)) [x0, some (vI k), some (tI T), x3, x4, x5, x6, x7, y8, y9, y10, y11, y12, x13, some (.ml bd), none, none, none] := by
    rw [← hb4]
    simp [specOf, outs, sSeq_ev, sSet, sRet, sRetN, sIf, sDrop, sRaise, sNext, sBrk, sCnt, sSetItem, sAug, augO, setItemO, setO_val, retO_val, bind_ok, bind_exc, bind_stk, bindS_ok, bindS_exc, bindS_stk, ret_some, look_val, look_brw, fC_ev, fV, bin, una, chain, tBo, tTr, tNotV, tAndV, tOrV, fAnd, fOr, fNot, fIf, boO_ev, trO, tru, aNil_ev, aCons, cT_ev, callB, looks, g1, frz1_dat, frz1_ml, bN_ev, fTup, fLst, mkT, mkL, frzL, iE, seqO, iR1, iR2, rg1, rg2, gAdd, gMul, gSub, gFDiv, gMod, gPow, gShl, gShr, gAnd, gOr, gXor, gLt, gLe, gGt, gGe, gAddI, gMulI, gU, gIx, gLen, gInt, gAbs, gList, gTuple, iop, tt2, orG, viewD, asL, asT, fApp, appO, isMl, fExt, extO, fSl, pNo, pSo, gSl, L2.atI, L2.ixN, gd, gEq_int, gNe_int, gEq_str, gNe_str, gNe_mlI, gEq_mlI, gNe_tupI, gEq_tupI]
  have i1 : iE (fV 14) [x0, some (vI k), some (tI T), x3, x4, x5, x6, x7, y8, y9, y10, y11, y12, x13, some (.ml bd), none, none, none] = .ok ((badL k.toNat).map fun l => .tuple (l.map .int)) [x0, some (vI k), some (tI T), x3, x4, x5, x6, x7, y8, y9, y10, y11, y12, x13, some (.dat (.list bd)), none, none, none] := by
    rw [← hb]
    simp [specOf, outs, sSeq_ev, sSet, sRet, sRetN, sIf, sDrop, sRaise, sNext, sBrk, sCnt, sSetItem, sAug, augO, setItemO, setO_val, retO_val, bind_ok, bind_exc, bind_stk, bindS_ok, bindS_exc, bindS_stk, ret_some, look_val, look_brw, fC_ev, fV, bin, una, chain, tBo, tTr, tNotV, tAndV, tOrV, fAnd, fOr, fNot, fIf, boO_ev, trO, tru, aNil_ev, aCons, cT_ev, callB, looks, g1, frz1_dat, frz1_ml, bN_ev, fTup, fLst, mkT, mkL, frzL, iE, seqO, iR1, iR2, rg1, rg2, gAdd, gMul, gSub, gFDiv, gMod, gPow, gShl, gShr, gAnd, gOr, gXor, gLt, gLe, gGt, gGe, gAddI, gMulI, gU, gIx, gLen, gInt, gAbs, gList, gTuple, iop, tt2, orG, viewD, asL, asT, fApp, appO, isMl, fExt, extO, fSl, pNo, pSo, gSl, L2.atI, L2.ixN, gd, gEq_int, gNe_int, gEq_str, gNe_str, gNe_mlI, gEq_mlI, gNe_tupI, gEq_tupI, frz1, upR, look]
  have i2 : iE (fV 14) [x0, some (vI k), some (tI T), x3, x4, x5, x6, x7, y8, y9, y10, y11, y12, x13, some (.dat (.list bd)), none, none, none] = .ok ((badL k.toNat).map fun l => .tuple (l.map .int)) [x0, some (vI k), some (tI T), x3, x4, x5, x6, x7, y8, y9, y10, y11, y12, x13, some (.dat (.list bd)), none, none, none] := by
    rw [← hb]
    simp [specOf, outs, sSeq_ev, sSet, sRet, sRetN, sIf, sDrop, sRaise, sNext, sBrk, sCnt, sSetItem, sAug, augO, setItemO, setO_val, retO_val, bind_ok, bind_exc, bind_stk, bindS_ok, bindS_exc, bindS_stk, ret_some, look_val, look_brw, fC_ev, fV, bin, una, chain, tBo, tTr, tNotV, tAndV, tOrV, fAnd, fOr, fNot, fIf, boO_ev, trO, tru, aNil_ev, aCons, cT_ev, callB, looks, g1, frz1_dat, frz1_ml, bN_ev, fTup, fLst, mkT, mkL, frzL, iE, seqO, iR1, iR2, rg1, rg2, gAdd, gMul, gSub, gFDiv, gMod, gPow, gShl, gShr, gAnd, gOr, gXor, gLt, gLe, gGt, gGe, gAddI, gMulI, gU, gIx, gLen, gInt, gAbs, gList, gTuple, iop, tt2, orG, viewD, asL, asT, fApp, appO, isMl, fExt, extO, fSl, pNo, pSo, gSl, L2.atI, L2.ixN, gd, gEq_int, gNe_int, gEq_str, gNe_str, gNe_mlI, gEq_mlI, gNe_tupI, gEq_tupI]
  have c0 := bad_comp (e := fCall [false, false, false, false] S__law_told (aCons (fC (.int 0)) (aCons (fV 1) (aCons (fV 9) (aCons (fC (.int 0)) aNil))))) i0 (by simp [badL]) (fun l hl => fCall4 (f := fC (.int 0)) (f4 := fC (.int 0)) (w := vI 0) (w2 := vI k) (w3 := tI l) (w4 := vI 0) rfl rfl rfl rfl rfl rfl rfl rfl (t0x (fun q => bad4 l hl q.2) (bad_len l (List.mem_of_mem_take hl)) _) rfl)
  have c1 := bad_comp (e := fCall [false, false, false, false] S__law_told (aCons (fC (.int 1)) (aCons (fV 1) (aCons (fV 9) (aCons (fC (.int 0)) aNil))))) i1 (by simp [badL]) (fun l hl => fCall4 (f := fC (.int 1)) (f4 := fC (.int 0)) (w := vI 1) (w2 := vI k) (w3 := tI l) (w4 := vI 0) rfl rfl rfl rfl rfl rfl rfl rfl (t1x (fun q => bad5 l hl q.2) (bad_len l hl) _) rfl)
  have c2 := bad_comp (e := fCall [false, false, false, false] S__law_told (aCons (fC (.int 2)) (aCons (fV 1) (aCons (fV 9) (aCons (fC (.int 0)) aNil))))) i2 (by simp [badL]) (fun l hl => fCall4 (f := fC (.int 2)) (f4 := fC (.int 0)) (w := vI 2) (w2 := vI k) (w3 := tI l) (w4 := vI 0) rfl rfl rfl rfl rfl rfl rfl rfl (t2x (fun q => bad5 l hl q.2) (bad_len l hl) _) rfl)
  have c3 := bad_comp (e := fCall [false, false, false, false] S__law_told (aCons (fC (.int 3)) (aCons (fV 1) (aCons (fV 9) (aCons (fC (.int 0)) aNil))))) i2 (by simp [badL]) (fun l hl => fCall4 (f := fC (.int 3)) (f4 := fC (.int 0)) (w := vI 3) (w2 := vI k) (w3 := tI l) (w4 := vI 0) rfl rfl rfl rfl rfl rfl rfl rfl (t3x (fun q => bad5 l hl q.1.2) (bad_len l hl)) rfl)
  have c4 := bad_comp (e := fCall [false, false, false, false] S__law_told (aCons (fC (.int 4)) (aCons (fV 1) (aCons (fV 2) (aCons (fV 9) aNil))))) i2 (by simp [badL]) (fun l hl => fCall4 (f := fC (.int 4)) (w := vI 4) (w2 := vI k) (w3 := tI T) (w4 := tI l) rfl rfl rfl rfl rfl rfl rfl rfl (t4x (by omega) (bad_len l hl) (fun q => bad5 l hl q.2.2)) rfl)
  have e := bin_rep (by simp [badL]) (bin_rep (by simp [badL]) (bin_rep (by simp [badL]) (bin_rep (by simp [badL]) c0 c1) c2) c3) c4
  unfold A17 sSet
  rw [e]
  rfl
end K08
end
section
set_option Elab.async false
set_option linter.all false
set_option maxRecDepth 100000
set_option maxHeartbeats 4000000
namespace K08
open Mi Fm PySem
open PySem (PyData)
theorem gEq_rep27 : gEq (rep 27) (rep 27) = some (vB true) := by
  rw [gEq_of (d := .list (List.replicate 27 rfd)) (e := .list (List.replicate 27 rfd)) rfl rfl (by show (PyData.canLay0 _ && decide (PyData.depth _ ≤ 64)) = true; decide +kernel) (by show (PyData.canLay0 _ && decide (PyData.depth _ ≤ 64)) = true; decide +kernel)]
  have : PyData.eqv (.list (List.replicate 27 rfd)) (.list (List.replicate 27 rfd)) = true := by decide +kernel
  rw [this]
theorem gMul_rep27 : gMul (.ml [rfd]) (vI 27) = some (rep 27) := by
  have e : gRepL (.ml [rfd]) (vI 27) = some (rep 27) := gd_pos ⟨by decide, by decide, by decide⟩
  unfold gMul orG
  rw [show gMulI (.ml [rfd]) (vI 27) = none from rfl, e]
theorem f18 (x0 x3 x4 x6 x7 y8 y9 y10 y11 y12 x13 : Option Vl) (k : Int) (T : List Int) (hT : T.length ≤ 10) (bd : List PyData) (hb : bd = (badL k.toNat).map fun l => .tuple (l.map .int)) :
    A18 [x0, some (vI k), some (tI T), x3, x4, some (vI (whole k.toNat)), x6, x7, y8, y9, y10, y11, y12, x13, some (.dat (.list bd)), some (rep 24), none, none] = .nx [x0, some (vI k), some (tI T), x3, x4, some (vI (whole k.toNat)), x6, x7, y8, y9, y10, y11, y12, x13, some (.dat (.list bd)), some (rep 27), none, none] := by
  generalize hρ : ([x0, some (vI k), some (tI T), x3, x4, some (vI (whole k.toNat)), x6, x7, y8, y9, y10, y11, y12, x13, some (.dat (.list bd)), some (rep 24), none, none] : Rho) = ρ
  have v1 : fV 1 ρ = .ok (.val (vI k)) ρ := by rw [← hρ]; rfl
  have v2 : fV 2 ρ = .ok (.val (tI T)) ρ := by rw [← hρ]; rfl
  have v5 : fV 5 ρ = .ok (.val (vI (whole k.toNat))) ρ := by rw [← hρ]; rfl
  have v14 : fV 14 ρ = .ok (.val (.dat (.list bd))) ρ := by rw [← hρ]; rfl
  have v15 : fV 15 ρ = .ok (.brw 15) ρ := by rw [← hρ]; rfl
  have l15 : look ρ (.brw 15) = some (rep 24) := by rw [← hρ]; rfl
  have eix : gIx (.dat (.list bd)) (vI 4) = some (tI [0, 1]) := by rw [hb]; rfl
  have w4 : bin gIx (fV 14) (fC (.int 4)) ρ = .ok (.val (tI [0, 1])) ρ := by simp [bin, bind_ok, v14, fC_ev, look_val, eix, ret_some]
  have w0 : fTup aNil ρ = .ok (.val (tI [])) ρ := by simp [specOf, outs, sSeq_ev, sSet, sRet, sRetN, sIf, sDrop, sRaise, sNext, sBrk, sCnt, sSetItem, sAug, augO, setItemO, setO_val, retO_val, bind_ok, bind_exc, bind_stk, bindS_ok, bindS_exc, bindS_stk, ret_some, look_val, look_brw, fC_ev, fV, bin, una, chain, tBo, tTr, tNotV, tAndV, tOrV, fAnd, fOr, fNot, fIf, boO_ev, trO, tru, aNil_ev, aCons, cT_ev, callB, looks, g1, frz1_dat, frz1_ml, bN_ev, fTup, fLst, mkT, mkL, frzL, iE, seqO, iR1, iR2, rg1, rg2, gAdd, gMul, gSub, gFDiv, gMod, gPow, gShl, gShr, gAnd, gOr, gXor, gLt, gLe, gGt, gGe, gAddI, gMulI, gU, gIx, gLen, gInt, gAbs, gList, gTuple, iop, tt2, orG, viewD, asL, asT, fApp, appO, isMl, fExt, extO, fSl, pNo, pSo, gSl, L2.atI, L2.ixN, gd, gEq_int, gNe_int, gEq_str, gNe_str, gNe_mlI, gEq_mlI, gNe_tupI, gEq_tupI]
  have w5 : bin gAdd (fV 5) (fC (.int 1)) ρ = .ok (.val (vI (whole k.toNat + 1))) ρ := by
    simp [bin, bind_ok, v5, fC_ev, look_val, gAdd, orG, gAddI, iop, tt2, gd, ret_some]
  have hu : ¬ okSets k [whole k.toNat + 1] := fun q => by
    have := (q.2 (whole k.toNat + 1) (by simp)).2
    unfold whole at this
    omega
  have c0 := fCall4 (spec := S__law_told) (f := fC (.int 5)) (w := vI 5) rfl rfl v1 rfl w4 rfl w0 rfl (t5x (by simp) (by simp) fun q => bad01 q.1.2) rfl
  have c1 := fCall4 (spec := S__law_told) (f := fC (.int 3)) (w := vI 3) rfl rfl v1 rfl v2 rfl w5 rfl (t3x (fun q => hu q.2) (by omega)) rfl
  have c2 := fCall4 (spec := S__law_told) (f := fC (.int 5)) (w := vI 5) rfl rfl v1 rfl w0 rfl w4 rfl (t5x (by simp) (by simp) fun q => bad01 q.2.2) rfl
  have g := gAdd_rep (a := 24) (b := 3) (by decide)
  unfold A18
  revert c0 c1 c2
  generalize fCall [false, false, false, false] S__law_told (aCons (fC (.int 5)) (aCons (fV 1) (aCons (fTup aNil) _))) = F2
  generalize fCall [false, false, false, false] S__law_told (aCons (fC (.int 5)) _) = F0
  generalize fCall [false, false, false, false] S__law_told (aCons (fC (.int 3)) _) = F1
  intro c0 c1 c2
  have el : fLst (aCons F0 (aCons F1 (aCons F2 aNil))) ρ = .ok (.val (rep 3)) ρ := by
    simp [fLst, aCons, aNil, bind_ok, c0, c1, c2, mkL, frzL, frz1, viewD, List.replicate]
  have eb : bin gAdd (fV 15) (fLst (aCons F0 (aCons F1 (aCons F2 aNil)))) ρ = .ok (.val (rep 27)) ρ := by
    simp only [bin, bind_ok, v15, el, l15, look_val, Option.bind_some, g, ret_some]
  unfold sSet
  rw [eb, ← hρ]
  rfl
theorem f19 (x0 x1 x5 x6 x7 y8 y9 y10 y11 y12 x13 x14 : Option Vl) (T F : List Int) (hR : Rok (keptD T F)) :
    A19 [x0, x1, some (tI T), some (tI F), some (.dat (.str (keptD T F).shown)), x5, x6, x7, y8, y9, y10, y11, y12, x13, x14, some (rep 27), none, none] = .ret (vB true) [x0, x1, some (tI T), some (tI F), some (.dat (.str (keptD T F).shown)), x5, x6, x7, y8, y9, y10, y11, y12, x13, x14, some (rep 27), none, none] := by
  generalize hρ : ([x0, x1, some (tI T), some (tI F), some (.dat (.str (keptD T F).shown)), x5, x6, x7, y8, y9, y10, y11, y12, x13, x14, some (rep 27), none, none] : Rho) = ρ
  have hr : gRepr (.dat (keptD T F)) = some (.dat (.str (keptD T F).shown)) := gd_pos ⟨hR, rfl⟩
  have v2 : fV 2 ρ = .ok (.val (tI T)) ρ := by rw [← hρ]; rfl
  have v3 : fV 3 ρ = .ok (.val (tI F)) ρ := by rw [← hρ]; rfl
  have v4 : fV 4 ρ = .ok (.val (.dat (.str (keptD T F).shown))) ρ := by rw [← hρ]; rfl
  have v15 : fV 15 ρ = .ok (.brw 15) ρ := by rw [← hρ]; rfl
  have l15 : look ρ (.brw 15) = some (rep 27) := by rw [← hρ]; rfl
  have em : bin gMul (fLst (aCons (fC (.str "refused")) aNil)) (fC (.int 27)) ρ = .ok (.val (rep 27)) ρ := by
    have : fLst (aCons (fC (.str "refused")) aNil) ρ = .ok (.val (.ml [rfd])) ρ := by simp [specOf, outs, sSeq_ev, sSet, sRet, sRetN, sIf, sDrop, sRaise, sNext, sBrk, sCnt, sSetItem, sAug, augO, setItemO, setO_val, retO_val, bind_ok, bind_exc, bind_stk, bindS_ok, bindS_exc, bindS_stk, ret_some, look_val, look_brw, fC_ev, fV, bin, una, chain, tBo, tTr, tNotV, tAndV, tOrV, fAnd, fOr, fNot, fIf, boO_ev, trO, tru, aNil_ev, aCons, cT_ev, callB, looks, g1, frz1_dat, frz1_ml, bN_ev, fTup, fLst, mkT, mkL, frzL, iE, seqO, iR1, iR2, rg1, rg2, gAdd, gMul, gSub, gFDiv, gMod, gPow, gShl, gShr, gAnd, gOr, gXor, gLt, gLe, gGt, gGe, gAddI, gMulI, gU, gIx, gLen, gInt, gAbs, gList, gTuple, iop, tt2, orG, viewD, asL, asT, fApp, appO, isMl, fExt, extO, fSl, pNo, pSo, gSl, L2.atI, L2.ixN, gd, gEq_int, gNe_int, gEq_str, gNe_str, gNe_mlI, gEq_mlI, gNe_tupI, gEq_tupI]
    simp only [bin, bind_ok, this, fC_ev, look_val, Option.bind_some, gMul_rep27, ret_some]
  have e1 : bin gEq (fV 15) (bin gMul (fLst (aCons (fC (.str "refused")) aNil)) (fC (.int 27))) ρ = .ok (.val (vB true)) ρ := by
    unfold bin at em ⊢
    simp only [bind_ok, v15, em, l15, look_val, Option.bind_some, gEq_rep27, ret_some]
  have et : fTup (aCons (fV 2) (aCons (fV 3) aNil)) ρ = .ok (.val (.dat (keptD T F))) ρ := by
    simp [fTup, mkT, aCons, aNil, bind_ok, v2, v3, frzL, frz1, viewD]
  have e2 : bin gEq (callB (g1 gRepr) (aCons (fTup (aCons (fV 2) (aCons (fV 3) aNil))) aNil)) (fV 4) ρ = .ok (.val (vB true)) ρ := by
    revert et
    generalize fTup _ = F1
    intro et
    simp [bin, callB, aCons, aNil, bind_ok, et, looks, look_val, g1, hr, ret_some, v4, gEq_str]
  unfold A19
  revert e1 e2
  generalize bin gEq (fV 15) _ = F1
  generalize bin gEq _ (fV 4) = F2
  intro e1 e2
  simp [specOf, outs, sSeq_ev, sSet, sRet, sRetN, sIf, sDrop, sRaise, sNext, sBrk, sCnt, sSetItem, sAug, augO, setItemO, setO_val, retO_val, bind_ok, bind_exc, bind_stk, bindS_ok, bindS_exc, bindS_stk, ret_some, look_val, look_brw, fC_ev, fV, bin, una, chain, tBo, tTr, tNotV, tAndV, tOrV, fAnd, fOr, fNot, fIf, boO_ev, trO, tru, aNil_ev, aCons, cT_ev, callB, looks, g1, frz1_dat, frz1_ml, bN_ev, fTup, fLst, mkT, mkL, frzL, iE, seqO, iR1, iR2, rg1, rg2, gAdd, gMul, gSub, gFDiv, gMod, gPow, gShl, gShr, gAnd, gOr, gXor, gLt, gLe, gGt, gGe, gAddI, gMulI, gU, gIx, gLen, gInt, gAbs, gList, gTuple, iop, tt2, orG, viewD, asL, asT, fApp, appO, isMl, fExt, extO, fSl, pNo, pSo, gSl, L2.atI, L2.ixN, gd, gEq_int, gNe_int, gEq_str, gNe_str, gNe_mlI, gEq_mlI, gNe_tupI, gEq_tupI, e1, e2]
end K08
end
section
set_option Elab.async false
set_option linter.all false
set_option maxRecDepth 100000
set_option maxHeartbeats 4000000
namespace K08
open Mi Fm PySem
open PySem (PyData)
theorem seq_nx {f g : FS} {ρ ρ1 : Rho} (h : f ρ = .nx ρ1) : sSeq f g ρ = g ρ1 := by
  rw [sSeq_ev, h]
theorem f13 (x0 x1 x2 x3 x4 x5 x6 x7 y8 y9 y10 y11 : Option Vl) : A13 [x0, x1, x2, x3, x4, x5, x6, x7, y8, y9, y10, y11, none, none, none, none, none, none] = .nx [x0, x1, x2, x3, x4, x5, x6, x7, y8, y9, y10, y11, some (.dat (.str "refused")), none, none, none, none, none] := rfl
theorem fits_ev {nums : List Int} (hL : 0 < nums.length) (hL2 : nums.length < 10000) (c : Int) (hc : 0 ≤ c) (hc2 : c < 600000) :
    ∃ c', S__law_fits [St nums c] = .ok (vB true) [some (St nums c')] ∧ c ≤ c' ∧ c' ≤ c + 100 := by
  obtain ⟨k, a1, hk⟩ := f1 hL hL2 c hc (by omega)
  obtain ⟨T, c2, a2, b2, d2, bT, lT⟩ := f2 hL hL2 (c + 1 + 1) k (by omega) (by omega) hk
  have a3 := f3 (some (St nums c2)) k T hk lT
  have lF := falses_len (n8 hk) T
  have bF : okBorder k (falsesOf k.toNat T) := ⟨⟨asc_falses, u_falses⟩, anti_falses⟩
  have hR := rok_kept (n8 hk) bT.1.2 bF.1.2 (by omega) (by omega)
  have a4 := f4 (some (St nums c2)) (some (vI k)) T (falsesOf k.toNat T) hR
  have a5 := f5 (some (St nums c2)) (some (tI T)) (some (tI (falsesOf k.toNat T))) (some (.dat (.str (keptD T (falsesOf k.toNat T)).shown))) k hk
  obtain ⟨S, c6, a6, b6, d6, oS, lS⟩ := f6 hL hL2 c2 k (by omega) (by omega) hk (some (tI T)) (some (tI (falsesOf k.toNat T))) (some (.dat (.str (keptD T (falsesOf k.toNat T)).shown))) (some (vI (whole k.toNat)))
  have a7 := f7 (some (St nums c6)) (some (.dat (.str (keptD T (falsesOf k.toNat T)).shown))) (some (vI (whole k.toNat))) k T (falsesOf k.toNat T) S hk lS
  have a8 := f8 (some (St nums c6)) (some (.dat (.str (keptD T (falsesOf k.toNat T)).shown))) (some (vI (whole k.toNat))) k T S hk bT lT oS lS
  have a9 := f9 (some (St nums c6)) (some (.dat (.str (keptD T (falsesOf k.toNat T)).shown))) (some (tI S)) (some (.ml [tld (.tuple ((crossOf k.toNat S).map .int)), tld (.tuple ((falsesOf k.toNat T).map .int)), tld (.tuple (T.map .int))])) k T hk bT lT
  obtain ⟨c10, y8, y9, a10, b10, d10⟩ := f10 hL hL2 c6 k (by omega) (by omega) T hk bT lT (some (tI (falsesOf k.toNat T))) (some (.dat (.str (keptD T (falsesOf k.toNat T)).shown))) (some (vI (whole k.toNat))) (some (tI S)) (some (.ml [tld (.tuple ((crossOf k.toNat S).map .int)), tld (.tuple ((falsesOf k.toNat T).map .int)), tld (.tuple (T.map .int))]))
  obtain ⟨O, c11, a11, b11, d11, bO, lO⟩ := f11 hL hL2 c10 k (by omega) (by omega) (falsesOf k.toNat T) hk bF lF (some (tI T)) (some (.dat (.str (keptD T (falsesOf k.toNat T)).shown))) (some (vI (whole k.toNat))) (some (tI S)) (some (.ml [tld (.tuple ((crossOf k.toNat S).map .int)), tld (.tuple ((falsesOf k.toNat T).map .int)), tld (.tuple (T.map .int))])) y8 y9
  obtain ⟨M, c12, a12, b12, d12, bM, lM⟩ := f12 hL hL2 c11 (by omega) (by omega) T bT lT (some (vI k)) (some (tI (falsesOf k.toNat T))) (some (.dat (.str (keptD T (falsesOf k.toNat T)).shown))) (some (vI (whole k.toNat))) (some (tI S)) (some (.ml [tld (.tuple ((crossOf k.toNat S).map .int)), tld (.tuple ((falsesOf k.toNat T).map .int)), tld (.tuple (T.map .int))])) y8 y9 (some (tI O))
  obtain ⟨x13, a14⟩ := f14 (some (St nums c12)) (some (tI T)) (some (tI (falsesOf k.toNat T))) (some (.dat (.str (keptD T (falsesOf k.toNat T)).shown))) (some (vI (whole k.toNat))) (some (tI S)) (some (.ml [tld (.tuple ((crossOf k.toNat S).map .int)), tld (.tuple ((falsesOf k.toNat T).map .int)), tld (.tuple (T.map .int))])) y8 y9 k hk O M lO lM
  refine ⟨c12, ?_, by omega, by omega⟩
  unfold S__law_fits specOf
  rw [F__law_fits_eq]
  show (match (sSeq A1 _ : FS) [some (St nums c), none, none, none, none, none, none, none, none, none, none, none, none, none, none, none, none, none] with
    | .nx ρ => COut.ok (.dat .none) (outs [true] ρ)
    | .ret w ρ => .ok w (outs [true] ρ)
    | .exc c ρ => .exc c (outs [true] ρ)
    | _ => .stk) = _
  rw [seq_nx a1, seq_nx a2, seq_nx a3, seq_nx a4, seq_nx a5, seq_nx a6, seq_nx a7, seq_nx a8, seq_nx a9, seq_nx a10, seq_nx a11, seq_nx a12]
  rw [seq_nx (f13 _ _ _ _ _ _ _ _ _ _ _ _), seq_nx a14]
  rw [seq_nx (f15 hk lM lO bM bO rfl rfl rfl rfl)]
  rw [seq_nx (f16 _ _ _ _ _ _ _ _ _ _ _ _ _ k.toNat)]
  rw [seq_nx (f17 _ _ _ _ _ _ _ _ _ _ _ _ k T lT (badD k.toNat) rfl rfl)]
  rw [seq_nx (f18 _ _ _ _ _ _ _ _ _ _ _ k T lT (badD k.toNat) rfl)]
  rw [f19 _ _ _ _ _ _ _ _ _ _ _ _ T (falsesOf k.toNat T) hR]
  rfl
end K08
end
section
set_option Elab.async false
set_option linter.all false
set_option maxRecDepth 100000
set_option maxHeartbeats 4000000
namespace K08
open Mi Fm PySem
open PySem (PyData)
theorem gEq_rep5 : gEq (rep 5) (rep 5) = some (vB true) := by
  rw [gEq_of (d := .list (List.replicate 5 rfd)) (e := .list (List.replicate 5 rfd)) rfl rfl (by show (PyData.canLay0 _ && decide (PyData.depth _ ≤ 64)) = true; decide +kernel) (by show (PyData.canLay0 _ && decide (PyData.depth _ ≤ 64)) = true; decide +kernel)]
  have : PyData.eqv (.list (List.replicate 5 rfd)) (.list (List.replicate 5 rfd)) = true := by decide +kernel
  rw [this]
theorem gMul_rep5 : gMul (.ml [rfd]) (vI 5) = some (rep 5) := by
  have e : gRepL (.ml [rfd]) (vI 5) = some (rep 5) := gd_pos ⟨by decide, by decide, by decide⟩
  unfold gMul orG
  rw [show gMulI (.ml [rfd]) (vI 5) = none from rfl, e]
theorem fits_call {nums : List Int} (hL : 0 < nums.length) (hL2 : nums.length < 10000) (c : Int) (hc : 0 ≤ c) (hc2 : c < 600000) (x0 x2 x3 x4 x5 : Option Vl) :
    ∃ c', fCall [true] S__law_fits (aCons (fV 1) aNil) [x0, some (St nums c), x2, x3, x4, x5] = .ok (.val (vB true)) [x0, some (St nums c'), x2, x3, x4, x5] ∧ c ≤ c' ∧ c' ≤ c + 100 := by
  obtain ⟨c', e, h1, h2⟩ := fits_ev hL hL2 c hc hc2
  refine ⟨c', ?_, h1, h2⟩
  have ea : aCons (fV 1) aNil [x0, some (St nums c), x2, x3, x4, x5] = .ok [.brw 1] [x0, some (St nums c), x2, x3, x4, x5] := rfl
  unfold fCall
  rw [ea, bind_ok]
  have ew : argW [x0, some (St nums c), x2, x3, x4, x5] [true] [.brw 1] = some [St nums c] := rfl
  have ei : ioC [true] [.brw 1] = true := by rfl
  rw [if_pos ei, ew]
  simp only [e]
  have en : noBor [true] [.brw 1] = true := by rfl
  rw [en]
  rfl
abbrev kcs : List (Int × Int) := [(0, 9), (1, 0), (2, -1), (4, 9), (5, 9)]
theorem law_true (ns : List Int) (hn : ns.length ≤ 63) : ∃ o, S_law [.dat (.list (ns.map .int))] = .ok (vB true) o := by
  obtain ⟨nums, es, hL, hL2, _⟩ := stream_ev ns hn
  have e1 : fCall [false] S__law_stream (aCons (fV 0) aNil) [some (.dat (.list (ns.map .int))), none, none, none, none, none] = .ok (.val (.ml (nums.map .int))) [some (.dat (.list (ns.map .int))), none, none, none, none, none] := fCall1 (w := .dat (.list (ns.map .int))) rfl rfl es rfl
  obtain ⟨ρ', e2, c', y2, rfl, _⟩ := forL_all (b := bN 2) (body := sIf (tNotV (tTr (fCall [true] S__law_fits (aCons (fV 1) aNil)))) (sRet (fC (.bool false))) sNext) (ds := rangeD 0 4) (ρ := [some (.dat (.list (ns.map .int))), some (St nums 0), none, none, none, none])
    (fun j ρ => ∃ (c' : Int) (y2 : Option Vl), ρ = [some (.dat (.list (ns.map .int))), some (St nums c'), y2, none, none, none] ∧ 0 ≤ c' ∧ c' ≤ 100 * (j : Nat)) ⟨0, none, rfl, by omega, by omega⟩ (by
      rintro j d ρ hd ⟨c', y2, rfl, h1, h2⟩
      obtain ⟨rfl, hj⟩ := range_at hd
      obtain ⟨c2, e, h3, h4⟩ := fits_call hL hL2 c' h1 (by omega) (some (.dat (.list (ns.map .int)))) (some (vI (0 + (j : Int)))) none none none
      refine ⟨_, [some (.dat (.list (ns.map .int))), some (St nums c2), some (vI (0 + (j : Int))), none, none, none], rfl, .inl ?_, c2, some (vI (0 + (j : Int))), rfl, by omega, by omega⟩
      rw [Int.zero_add] at e ⊢
      revert e
      generalize fCall [true] S__law_fits _ = F1
      intro e
      simp [specOf, outs, sSeq_ev, sSet, sRet, sRetN, sIf, sDrop, sRaise, sNext, sBrk, sCnt, sSetItem, sAug, augO, setItemO, setO_val, retO_val, bind_ok, bind_exc, bind_stk, bindS_ok, bindS_exc, bindS_stk, ret_some, look_val, look_brw, fC_ev, fV, bin, una, chain, tBo, tTr, tNotV, tAndV, tOrV, fAnd, fOr, fNot, fIf, boO_ev, trO, tru, aNil_ev, aCons, cT_ev, callB, looks, g1, frz1_dat, frz1_ml, bN_ev, fTup, fLst, mkT, mkL, frzL, iE, seqO, iR1, iR2, rg1, rg2, gAdd, gMul, gSub, gFDiv, gMod, gPow, gShl, gShr, gAnd, gOr, gXor, gLt, gLe, gGt, gGe, gAddI, gMulI, gU, gIx, gLen, gInt, gAbs, gList, gTuple, iop, tt2, orG, viewD, asL, asT, fApp, appO, isMl, fExt, extO, fSl, pNo, pSo, gSl, L2.atI, L2.ixN, gd, gEq_int, gNe_int, gEq_str, gNe_str, gNe_mlI, gEq_mlI, gNe_tupI, gEq_tupI, e])
  have e3 := (sFor_ev (body := sIf (tNotV (tTr (fCall [true] S__law_fits (aCons (fV 1) aNil)))) (sRet (fC (.bool false))) sNext) (b := bN 2) (rng1 (n := 4) (ρ := [some (.dat (.list (ns.map .int))), some (St nums 0), none, none, none, none]) (by decide) (by decide))).trans e2
  have nk : ∀ {k : Int}, k = 9 ∨ k = 0 ∨ k = -1 → ¬ okC k := fun h q => by
    have := q.1
    have := q.2
    omega
  have e4 := fComp_map (vs := [4, 5]) (fi := iE (fLst (aCons (fTup (aCons (fC (.int 0)) (aCons (fC (.int 9)) aNil))) (aCons (fTup (aCons (fC (.int 1)) (aCons (fC (.int 0)) aNil))) (aCons (fTup (aCons (fC (.int 2)) (aCons (una (gU fun i => -i) (fC (.int 1))) aNil))) (aCons (fTup (aCons (fC (.int 4)) (aCons (fC (.int 9)) aNil))) (aCons (fTup (aCons (fC (.int 5)) (aCons (fC (.int 9)) aNil))) aNil)))))))
    (b := bT [4, 5]) (e := fCall [false, false, false, false] S__law_told (aCons (fV 4) (aCons (fV 5) (aCons (fTup aNil) (aCons (fTup aNil) aNil))))) (ι := fun p : Int × Int => PyData.tuple [.int p.1, .int p.2]) (g := fun _ => rfd)
    (ρ := [some (.dat (.list (ns.map .int))), some (St nums c'), y2, none, none, none]) (ρ1 := [some (.dat (.list (ns.map .int))), some (St nums c'), y2, none, none, none]) kcs (by simp [specOf, outs, sSeq_ev, sSet, sRet, sRetN, sIf, sDrop, sRaise, sNext, sBrk, sCnt, sSetItem, sAug, augO, setItemO, setO_val, retO_val, bind_ok, bind_exc, bind_stk, bindS_ok, bindS_exc, bindS_stk, ret_some, look_val, look_brw, fC_ev, fV, bin, una, chain, tBo, tTr, tNotV, tAndV, tOrV, fAnd, fOr, fNot, fIf, boO_ev, trO, tru, aNil_ev, aCons, cT_ev, callB, looks, g1, frz1_dat, frz1_ml, bN_ev, fTup, fLst, mkT, mkL, frzL, iE, seqO, iR1, iR2, rg1, rg2, gAdd, gMul, gSub, gFDiv, gMod, gPow, gShl, gShr, gAnd, gOr, gXor, gLt, gLe, gGt, gGe, gAddI, gMulI, gU, gIx, gLen, gInt, gAbs, gList, gTuple, iop, tt2, orG, viewD, asL, asT, fApp, appO, isMl, fExt, extO, fSl, pNo, pSo, gSl, L2.atI, L2.ixN, gd, gEq_int, gNe_int, gEq_str, gNe_str, gNe_mlI, gEq_mlI, gNe_tupI, gEq_tupI]) (by simp) (fun p hp => by
      refine ⟨[some (.dat (.list (ns.map .int))), some (St nums c'), y2, none, some (vI p.1), some (vI p.2)], .dat rfd, rfl, rfl, ?_, rfl⟩
      have w0 : fTup aNil [some (.dat (.list (ns.map .int))), some (St nums c'), y2, none, some (vI p.1), some (vI p.2)] = .ok (.val (tI [])) [some (.dat (.list (ns.map .int))), some (St nums c'), y2, none, some (vI p.1), some (vI p.2)] := by simp [specOf, outs, sSeq_ev, sSet, sRet, sRetN, sIf, sDrop, sRaise, sNext, sBrk, sCnt, sSetItem, sAug, augO, setItemO, setO_val, retO_val, bind_ok, bind_exc, bind_stk, bindS_ok, bindS_exc, bindS_stk, ret_some, look_val, look_brw, fC_ev, fV, bin, una, chain, tBo, tTr, tNotV, tAndV, tOrV, fAnd, fOr, fNot, fIf, boO_ev, trO, tru, aNil_ev, aCons, cT_ev, callB, looks, g1, frz1_dat, frz1_ml, bN_ev, fTup, fLst, mkT, mkL, frzL, iE, seqO, iR1, iR2, rg1, rg2, gAdd, gMul, gSub, gFDiv, gMod, gPow, gShl, gShr, gAnd, gOr, gXor, gLt, gLe, gGt, gGe, gAddI, gMulI, gU, gIx, gLen, gInt, gAbs, gList, gTuple, iop, tt2, orG, viewD, asL, asT, fApp, appO, isMl, fExt, extO, fSl, pNo, pSo, gSl, L2.atI, L2.ixN, gd, gEq_int, gNe_int, gEq_str, gNe_str, gNe_mlI, gEq_mlI, gNe_tupI, gEq_tupI]
      refine fCall4 (w := vI p.1) (w2 := vI p.2) (o := [none, none, none, none]) rfl rfl rfl rfl w0 rfl w0 rfl ?_ rfl
      simp only [List.mem_cons, List.not_mem_nil, or_false] at hp
      rcases hp with rfl | rfl | rfl | rfl | rfl
      · exact t0x (fun q => nk (.inl rfl) q.1) (by simp) _
      · exact t1x (fun q => nk (.inr (.inl rfl)) q.1) (by simp) _
      · exact t2x (fun q => nk (.inr (.inr rfl)) q.1) (by simp) _
      · exact t4x (by simp) (by simp) (fun q => nk (.inl rfl) q.1.1)
      · exact t5x (by simp) (by simp) (fun q => nk (.inl rfl) q.1.1))
  have e4' : (kcs.map fun _ => rfd) = List.replicate 5 rfd := rfl
  rw [e4'] at e4
  have e5 : bin gEq (fV 3) (bin gMul (fLst (aCons (fC (.str "refused")) aNil)) (fC (.int 5))) [some (.dat (.list (ns.map .int))), some (St nums c'), y2, some (rep 5), none, none] = .ok (.val (vB true)) [some (.dat (.list (ns.map .int))), some (St nums c'), y2, some (rep 5), none, none] := by
    generalize hρ : ([some (.dat (.list (ns.map .int))), some (St nums c'), y2, some (rep 5), none, none] : Rho) = ρ
    have v15 : fV 3 ρ = .ok (.brw 3) ρ := by rw [← hρ]; rfl
    have l15 : look ρ (.brw 3) = some (rep 5) := by rw [← hρ]; rfl
    have em : bin gMul (fLst (aCons (fC (.str "refused")) aNil)) (fC (.int 5)) ρ = .ok (.val (rep 5)) ρ := by
      have : fLst (aCons (fC (.str "refused")) aNil) ρ = .ok (.val (.ml [rfd])) ρ := by simp [specOf, outs, sSeq_ev, sSet, sRet, sRetN, sIf, sDrop, sRaise, sNext, sBrk, sCnt, sSetItem, sAug, augO, setItemO, setO_val, retO_val, bind_ok, bind_exc, bind_stk, bindS_ok, bindS_exc, bindS_stk, ret_some, look_val, look_brw, fC_ev, fV, bin, una, chain, tBo, tTr, tNotV, tAndV, tOrV, fAnd, fOr, fNot, fIf, boO_ev, trO, tru, aNil_ev, aCons, cT_ev, callB, looks, g1, frz1_dat, frz1_ml, bN_ev, fTup, fLst, mkT, mkL, frzL, iE, seqO, iR1, iR2, rg1, rg2, gAdd, gMul, gSub, gFDiv, gMod, gPow, gShl, gShr, gAnd, gOr, gXor, gLt, gLe, gGt, gGe, gAddI, gMulI, gU, gIx, gLen, gInt, gAbs, gList, gTuple, iop, tt2, orG, viewD, asL, asT, fApp, appO, isMl, fExt, extO, fSl, pNo, pSo, gSl, L2.atI, L2.ixN, gd, gEq_int, gNe_int, gEq_str, gNe_str, gNe_mlI, gEq_mlI, gNe_tupI, gEq_tupI]
      simp only [bin, bind_ok, this, fC_ev, look_val, Option.bind_some, gMul_rep5, ret_some]
    unfold bin at em ⊢
    simp only [bind_ok, v15, em, l15, look_val, Option.bind_some, gEq_rep5, ret_some]
  refine ⟨[none], ?_⟩
  unfold S_law F_law
  revert e1 e3 e4 e5
  generalize fCall [false] S__law_stream _ = F1
  generalize sFor _ (bN 2) _ = F2
  generalize fComp [4, 5] _ _ _ _ = F3
  generalize bin gEq (fV 3) _ = F4
  intro e1 e3 e4 e5
  have hs : sSet 3 F3 [some (.dat (.list (ns.map .int))), some (St nums c'), y2, none, none, none] = .nx [some (.dat (.list (ns.map .int))), some (St nums c'), y2, some (rep 5), none, none] := by
    unfold sSet
    rw [e4]
    rfl
  generalize rep 5 = r5 at hs e5
  revert hs
  generalize sSet 3 F3 = F5
  intro hs
  simp [specOf, outs, sSeq_ev, sSet, sRet, sRetN, sIf, sDrop, sRaise, sNext, sBrk, sCnt, sSetItem, sAug, augO, setItemO, setO_val, retO_val, bind_ok, bind_exc, bind_stk, bindS_ok, bindS_exc, bindS_stk, ret_some, look_val, look_brw, fC_ev, fV, bin, una, chain, tBo, tTr, tNotV, tAndV, tOrV, fAnd, fOr, fNot, fIf, boO_ev, trO, tru, aNil_ev, aCons, cT_ev, callB, looks, g1, frz1_dat, frz1_ml, bN_ev, fTup, fLst, mkT, mkL, frzL, iE, seqO, iR1, iR2, rg1, rg2, gAdd, gMul, gSub, gFDiv, gMod, gPow, gShl, gShr, gAnd, gOr, gXor, gLt, gLe, gGt, gGe, gAddI, gMulI, gU, gIx, gLen, gInt, gAbs, gList, gTuple, iop, tt2, orG, viewD, asL, asT, fApp, appO, isMl, fExt, extO, fSl, pNo, pSo, gSl, L2.atI, L2.ixN, gd, gEq_int, gNe_int, gEq_str, gNe_str, gNe_mlI, gEq_mlI, gNe_tupI, gEq_tupI, e1, e3, hs, e5, List.replicate]
end K08
end
section
set_option Elab.async false
set_option linter.all false
set_option maxRecDepth 100000
set_option maxHeartbeats 4000000
namespace K08
open PySem PySem.Spec PyProof.Rows L2 Mi
theorem all_mk {l : PySem.W.OpenLaw} {w : World} {K : PySem.W.Frag} {h : Heap} {mg : Str → Option Value} {fa : Addr} (X : K.In h) (N : h.Ns mainGlobals mg) (hfa : mg "law" = some (.ref fa))
    {C0 C1 C2 C3 C4 C5 : Addr} {f0 : Addr} {od0 an0 : Option Addr} {sl0 : Array (Option Value)} {oc0 kV0 dc0 pm0 cd0 ct0 : Value} {f1 : Addr} {od1 an1 : Option Addr} {sl1 : Array (Option Value)} {oc1 kV1 dc1 pm1 cd1 ct1 : Value} {f2 : Addr} {od2 an2 : Option Addr} {sl2 : Array (Option Value)} {oc2 kV2 dc2 pm2 cd2 ct2 : Value} {f3 : Addr} {od3 an3 : Option Addr} {sl3 : Array (Option Value)} {oc3 kV3 dc3 pm3 cd3 ct3 : Value} {f4 : Addr} {od4 an4 : Option Addr} {sl4 : Array (Option Value)} {oc4 kV4 dc4 pm4 cd4 ct4 : Value} {f5 : Addr} {od5 an5 : Option Addr} {sl5 : Array (Option Value)} {oc5 kV5 dc5 pm5 cd5 ct5 : Value} {f6 : Addr} {od6 an6 : Option Addr} {sl6 : Array (Option Value)} {oc6 kV6 dc6 pm6 cd6 ct6 : Value} {f7 : Addr} {od7 an7 : Option Addr} {sl7 : Array (Option Value)} {oc7 kV7 dc7 pm7 cd7 ct7 : Value} {f8 : Addr} {od8 an8 : Option Addr} {sl8 : Array (Option Value)} {oc8 kV8 dc8 pm8 cd8 ct8 : Value} {f9 : Addr} {od9 an9 : Option Addr} {sl9 : Array (Option Value)} {oc9 kV9 dc9 pm9 cd9 ct9 : Value} {f10 : Addr} {od10 an10 : Option Addr} {sl10 : Array (Option Value)} {oc10 kV10 dc10 pm10 cd10 ct10 : Value} {f11 : Addr} {od11 an11 : Option Addr} {sl11 : Array (Option Value)} {oc11 kV11 dc11 pm11 cd11 ct11 : Value} {f12 : Addr} {od12 an12 : Option Addr} {sl12 : Array (Option Value)} {oc12 kV12 dc12 pm12 cd12 ct12 : Value} {f13 : Addr} {od13 an13 : Option Addr} {sl13 : Array (Option Value)} {oc13 kV13 dc13 pm13 cd13 ct13 : Value} {f14 : Addr} {od14 an14 : Option Addr} {sl14 : Array (Option Value)} {oc14 kV14 dc14 pm14 cd14 ct14 : Value} {f15 : Addr} {od15 an15 : Option Addr} {sl15 : Array (Option Value)} {oc15 kV15 dc15 pm15 cd15 ct15 : Value} {f16 : Addr} {od16 an16 : Option Addr} {sl16 : Array (Option Value)} {oc16 kV16 dc16 pm16 cd16 ct16 : Value} {f17 : Addr} {od17 an17 : Option Addr} {sl17 : Array (Option Value)} {oc17 kV17 dc17 pm17 cd17 ct17 : Value} {f18 : Addr} {od18 an18 : Option Addr} {sl18 : Array (Option Value)} {oc18 kV18 dc18 pm18 cd18 ct18 : Value} {f19 : Addr} {od19 an19 : Option Addr} {sl19 : Array (Option Value)} {oc19 kV19 dc19 pm19 cd19 ct19 : Value} {f20 : Addr} {od20 an20 : Option Addr} {sl20 : Array (Option Value)} {oc20 kV20 dc20 pm20 cd20 ct20 : Value} {f21 : Addr} {od21 an21 : Option Addr} {sl21 : Array (Option Value)} {oc21 kV21 dc21 pm21 cd21 ct21 : Value} {f22 : Addr} {od22 an22 : Option Addr} {sl22 : Array (Option Value)} {oc22 kV22 dc22 pm22 cd22 ct22 : Value} {f23 : Addr} {od23 an23 : Option Addr} {sl23 : Array (Option Value)} {oc23 kV23 dc23 pm23 cd23 ct23 : Value} {f24 : Addr} {od24 an24 : Option Addr} {sl24 : Array (Option Value)} {oc24 kV24 dc24 pm24 cd24 ct24 : Value} {f25 : Addr} {od25 an25 : Option Addr} {sl25 : Array (Option Value)} {oc25 kV25 dc25 pm25 cd25 ct25 : Value} {f26 : Addr} {od26 an26 : Option Addr} {sl26 : Array (Option Value)} {oc26 kV26 dc26 pm26 cd26 ct26 : Value}
    (a0 : PySem.W.nsIn K mainGlobals "check_count" = some (some (.ref f0))) (l0 : K.lookup f0 = some ⟨oc0, od0, .func (PySem.W.fnOf "check_count" "check_count" (defArgs s_check_count) (defBody s_check_count) (defScope s_check_count) .none kV0 dc0 pm0 an0 cd0 ct0), sl0⟩) (c0 : PySem.W.codeIn K cd0 "check_count" = true) (k0 : PySem.W.keepIn K (.ref f0) = true)
    (a1 : PySem.W.nsIn K mainGlobals "check_sets" = some (some (.ref f1))) (l1 : K.lookup f1 = some ⟨oc1, od1, .func (PySem.W.fnOf "check_sets" "check_sets" (defArgs s_check_sets) (defBody s_check_sets) (defScope s_check_sets) .none kV1 dc1 pm1 an1 cd1 ct1), sl1⟩) (c1 : PySem.W.codeIn K cd1 "check_sets" = true) (k1 : PySem.W.keepIn K (.ref f1) = true)
    (a2 : PySem.W.nsIn K mainGlobals "things_in" = some (some (.ref f2))) (l2 : K.lookup f2 = some ⟨oc2, od2, .func (PySem.W.fnOf "things_in" "things_in" (defArgs s_things_in) (defBody s_things_in) (defScope s_things_in) .none kV2 dc2 pm2 an2 cd2 ct2), sl2⟩) (c2 : PySem.W.codeIn K cd2 "things_in" = true) (k2 : PySem.W.keepIn K (.ref f2) = true)
    (a3 : PySem.W.nsIn K mainGlobals "least_of" = some (some (.ref f3))) (l3 : K.lookup f3 = some ⟨oc3, od3, .func (PySem.W.fnOf "least_of" "least_of" (defArgs s_least_of) (defBody s_least_of) (defScope s_least_of) .none kV3 dc3 pm3 an3 cd3 ct3), sl3⟩) (c3 : PySem.W.codeIn K cd3 "least_of" = true) (k3 : PySem.W.keepIn K (.ref f3) = true)
    (a4 : PySem.W.nsIn K mainGlobals "check_border" = some (some (.ref f4))) (l4 : K.lookup f4 = some ⟨oc4, od4, .func (PySem.W.fnOf "check_border" "check_border" (defArgs s_check_border) (defBody s_check_border) (defScope s_check_border) .none kV4 dc4 pm4 an4 cd4 ct4), sl4⟩) (c4 : PySem.W.codeIn K cd4 "check_border" = true) (k4 : PySem.W.keepIn K (.ref f4) = true)
    (a5 : PySem.W.nsIn K mainGlobals "crossing_of" = some (some (.ref f5))) (l5 : K.lookup f5 = some ⟨oc5, od5, .func (PySem.W.fnOf "crossing_of" "crossing_of" (defArgs s_crossing_of) (defBody s_crossing_of) (defScope s_crossing_of) .none kV5 dc5 pm5 an5 cd5 ct5), sl5⟩) (c5 : PySem.W.codeIn K cd5 "crossing_of" = true) (k5 : PySem.W.keepIn K (.ref f5) = true)
    (a6 : PySem.W.nsIn K mainGlobals "crossing" = some (some (.ref f6))) (l6 : K.lookup f6 = some ⟨oc6, od6, .func (PySem.W.fnOf "crossing" "crossing" (defArgs s_crossing) (defBody s_crossing) (defScope s_crossing) .none kV6 dc6 pm6 an6 cd6 ct6), sl6⟩) (c6 : PySem.W.codeIn K cd6 "crossing" = true) (k6 : PySem.W.keepIn K (.ref f6) = true)
    (a7 : PySem.W.nsIn K mainGlobals "falses_of" = some (some (.ref f7))) (l7 : K.lookup f7 = some ⟨oc7, od7, .func (PySem.W.fnOf "falses_of" "falses_of" (defArgs s_falses_of) (defBody s_falses_of) (defScope s_falses_of) .none kV7 dc7 pm7 an7 cd7 ct7), sl7⟩) (c7 : PySem.W.codeIn K cd7 "falses_of" = true) (k7 : PySem.W.keepIn K (.ref f7) = true)
    (a8 : PySem.W.nsIn K mainGlobals "greatest_falses" = some (some (.ref f8))) (l8 : K.lookup f8 = some ⟨oc8, od8, .func (PySem.W.fnOf "greatest_falses" "greatest_falses" (defArgs s_greatest_falses) (defBody s_greatest_falses) (defScope s_greatest_falses) .none kV8 dc8 pm8 an8 cd8 ct8), sl8⟩) (c8 : PySem.W.codeIn K cd8 "greatest_falses" = true) (k8 : PySem.W.keepIn K (.ref f8) = true)
    (a9 : PySem.W.nsIn K mainGlobals "least_trues" = some (some (.ref f9))) (l9 : K.lookup f9 = some ⟨oc9, od9, .func (PySem.W.fnOf "least_trues" "least_trues" (defArgs s_least_trues) (defBody s_least_trues) (defScope s_least_trues) .none kV9 dc9 pm9 an9 cd9 ct9), sl9⟩) (c9 : PySem.W.codeIn K cd9 "least_trues" = true) (k9 : PySem.W.keepIn K (.ref f9) = true)
    (a10 : PySem.W.nsIn K mainGlobals "is_true" = some (some (.ref f10))) (l10 : K.lookup f10 = some ⟨oc10, od10, .func (PySem.W.fnOf "is_true" "is_true" (defArgs s_is_true) (defBody s_is_true) (defScope s_is_true) .none kV10 dc10 pm10 an10 cd10 ct10), sl10⟩) (c10 : PySem.W.codeIn K cd10 "is_true" = true) (k10 : PySem.W.keepIn K (.ref f10) = true)
    (a11 : PySem.W.nsIn K mainGlobals "first_open" = some (some (.ref f11))) (l11 : K.lookup f11 = some ⟨oc11, od11, .func (PySem.W.fnOf "first_open" "first_open" (defArgs s_first_open) (defBody s_first_open) (defScope s_first_open) .none kV11 dc11 pm11 an11 cd11 ct11), sl11⟩) (c11 : PySem.W.codeIn K cd11 "first_open" = true) (k11 : PySem.W.keepIn K (.ref f11) = true)
    (a12 : PySem.W.nsIn K mainGlobals "undecided" = some (some (.ref f12))) (l12 : K.lookup f12 = some ⟨oc12, od12, .func (PySem.W.fnOf "undecided" "undecided" (defArgs s_undecided) (defBody s_undecided) (defScope s_undecided) .none kV12 dc12 pm12 an12 cd12 ct12), sl12⟩) (c12 : PySem.W.codeIn K cd12 "undecided" = true) (k12 : PySem.W.keepIn K (.ref f12) = true)
    (a13 : PySem.W.nsIn K mainGlobals "is_whole" = some (some (.ref f13))) (l13 : K.lookup f13 = some ⟨oc13, od13, .func (PySem.W.fnOf "is_whole" "is_whole" (defArgs s_is_whole) (defBody s_is_whole) (defScope s_is_whole) .none kV13 dc13 pm13 an13 cd13 ct13), sl13⟩) (c13 : PySem.W.codeIn K cd13 "is_whole" = true) (k13 : PySem.W.keepIn K (.ref f13) = true)
    (a14 : PySem.W.nsIn K mainGlobals "_law_same" = some (some (.ref f14))) (l14 : K.lookup f14 = some ⟨oc14, od14, .func (PySem.W.fnOf "_law_same" "_law_same" (defArgs s__law_same) (defBody s__law_same) (defScope s__law_same) .none kV14 dc14 pm14 an14 cd14 ct14), sl14⟩) (c14 : PySem.W.codeIn K cd14 "_law_same" = true) (k14 : PySem.W.keepIn K (.ref f14) = true)
    (a15 : PySem.W.nsIn K mainGlobals "_law_stream" = some (some (.ref f15))) (l15 : K.lookup f15 = some ⟨oc15, od15, .func (PySem.W.fnOf "_law_stream" "_law_stream" (defArgs s__law_stream) (defBody s__law_stream) (defScope s__law_stream) .none kV15 dc15 pm15 an15 cd15 ct15), sl15⟩) (c15 : PySem.W.codeIn K cd15 "_law_stream" = true) (k15 : PySem.W.keepIn K (.ref f15) = true)
    (a16 : PySem.W.nsIn K mainGlobals "_law_next" = some (some (.ref f16))) (l16 : K.lookup f16 = some ⟨oc16, od16, .func (PySem.W.fnOf "_law_next" "_law_next" (defArgs s__law_next) (defBody s__law_next) (defScope s__law_next) .none kV16 dc16 pm16 an16 cd16 ct16), sl16⟩) (c16 : PySem.W.codeIn K cd16 "_law_next" = true) (k16 : PySem.W.keepIn K (.ref f16) = true)
    (a17 : PySem.W.nsIn K mainGlobals "_law_error" = some (some (.ref f17))) (l17 : K.lookup f17 = some ⟨oc17, od17, .func (PySem.W.fnOf "_law_error" "_law_error" (defArgs s__law_error) (defBody s__law_error) (defScope s__law_error) .none kV17 dc17 pm17 an17 cd17 ct17), sl17⟩) (c17 : PySem.W.codeIn K cd17 "_law_error" = true) (k17 : PySem.W.keepIn K (.ref f17) = true)
    (a18 : PySem.W.nsIn K mainGlobals "_law_least" = some (some (.ref f18))) (l18 : K.lookup f18 = some ⟨oc18, od18, .func (PySem.W.fnOf "_law_least" "_law_least" (defArgs s__law_least) (defBody s__law_least) (defScope s__law_least) .none kV18 dc18 pm18 an18 cd18 ct18), sl18⟩) (c18 : PySem.W.codeIn K cd18 "_law_least" = true) (k18 : PySem.W.keepIn K (.ref f18) = true)
    (a19 : PySem.W.nsIn K mainGlobals "_law_greatest" = some (some (.ref f19))) (l19 : K.lookup f19 = some ⟨oc19, od19, .func (PySem.W.fnOf "_law_greatest" "_law_greatest" (defArgs s__law_greatest) (defBody s__law_greatest) (defScope s__law_greatest) .none kV19 dc19 pm19 an19 cd19 ct19), sl19⟩) (c19 : PySem.W.codeIn K cd19 "_law_greatest" = true) (k19 : PySem.W.keepIn K (.ref f19) = true)
    (a20 : PySem.W.nsIn K mainGlobals "_law_true" = some (some (.ref f20))) (l20 : K.lookup f20 = some ⟨oc20, od20, .func (PySem.W.fnOf "_law_true" "_law_true" (defArgs s__law_true) (defBody s__law_true) (defScope s__law_true) .none kV20 dc20 pm20 an20 cd20 ct20), sl20⟩) (c20 : PySem.W.codeIn K cd20 "_law_true" = true) (k20 : PySem.W.keepIn K (.ref f20) = true)
    (a21 : PySem.W.nsIn K mainGlobals "_law_border" = some (some (.ref f21))) (l21 : K.lookup f21 = some ⟨oc21, od21, .func (PySem.W.fnOf "_law_border" "_law_border" (defArgs s__law_border) (defBody s__law_border) (defScope s__law_border) .none kV21 dc21 pm21 an21 cd21 ct21), sl21⟩) (c21 : PySem.W.codeIn K cd21 "_law_border" = true) (k21 : PySem.W.keepIn K (.ref f21) = true)
    (a22 : PySem.W.nsIn K mainGlobals "_law_falses" = some (some (.ref f22))) (l22 : K.lookup f22 = some ⟨oc22, od22, .func (PySem.W.fnOf "_law_falses" "_law_falses" (defArgs s__law_falses) (defBody s__law_falses) (defScope s__law_falses) .none kV22 dc22 pm22 an22 cd22 ct22), sl22⟩) (c22 : PySem.W.codeIn K cd22 "_law_falses" = true) (k22 : PySem.W.keepIn K (.ref f22) = true)
    (a23 : PySem.W.nsIn K mainGlobals "_law_crossing" = some (some (.ref f23))) (l23 : K.lookup f23 = some ⟨oc23, od23, .func (PySem.W.fnOf "_law_crossing" "_law_crossing" (defArgs s__law_crossing) (defBody s__law_crossing) (defScope s__law_crossing) .none kV23 dc23 pm23 an23 cd23 ct23), sl23⟩) (c23 : PySem.W.codeIn K cd23 "_law_crossing" = true) (k23 : PySem.W.keepIn K (.ref f23) = true)
    (a24 : PySem.W.nsIn K mainGlobals "_law_told" = some (some (.ref f24))) (l24 : K.lookup f24 = some ⟨oc24, od24, .func (PySem.W.fnOf "_law_told" "_law_told" (defArgs s__law_told) (defBody s__law_told) (defScope s__law_told) .none kV24 dc24 pm24 an24 cd24 ct24), sl24⟩) (c24 : PySem.W.codeIn K cd24 "_law_told" = true) (k24 : PySem.W.keepIn K (.ref f24) = true)
    (a25 : PySem.W.nsIn K mainGlobals "_law_fits" = some (some (.ref f25))) (l25 : K.lookup f25 = some ⟨oc25, od25, .func (PySem.W.fnOf "_law_fits" "_law_fits" (defArgs s__law_fits) (defBody s__law_fits) (defScope s__law_fits) .none kV25 dc25 pm25 an25 cd25 ct25), sl25⟩) (c25 : PySem.W.codeIn K cd25 "_law_fits" = true) (k25 : PySem.W.keepIn K (.ref f25) = true)
    (a26 : PySem.W.nsIn K mainGlobals "law" = some (some (.ref f26))) (l26 : K.lookup f26 = some ⟨oc26, od26, .func (PySem.W.fnOf "law" "law" (defArgs s_law) (defBody s_law) (defScope s_law) .none kV26 dc26 pm26 an26 cd26 ct26), sl26⟩) (c26 : PySem.W.codeIn K cd26 "law" = true) (k26 : PySem.W.keepIn K (.ref f26) = true)
    (xa0 : PySem.W.nsIn K mainGlobals "MaieuticError" = some (some (.ref C0))) (xe0 : PySem.W.excIn K C0 bmV "ValueError.__new__" = true) (xk0 : PySem.W.keepIn K (.ref C0) = true) (xb0 : PySem.W.subIn K (.ref C0) (.type "BaseException") = some true) (xt0 : PySem.W.typeIn K (.ref C0) = some (.type "type"))
    (xa1 : PySem.W.nsIn K mainGlobals "NotAllowed" = some (some (.ref C1))) (xe1 : PySem.W.excIn K C1 bmV "ValueError.__new__" = true) (xk1 : PySem.W.keepIn K (.ref C1) = true) (xb1 : PySem.W.subIn K (.ref C1) (.type "BaseException") = some true) (xt1 : PySem.W.typeIn K (.ref C1) = some (.type "type"))
    (xa2 : PySem.W.nsIn K mainGlobals "BadForm" = some (some (.ref C2))) (xe2 : PySem.W.excIn K C2 bmV "ValueError.__new__" = true) (xk2 : PySem.W.keepIn K (.ref C2) = true) (xb2 : PySem.W.subIn K (.ref C2) (.type "BaseException") = some true) (xt2 : PySem.W.typeIn K (.ref C2) = some (.type "type"))
    (xa3 : PySem.W.nsIn K mainGlobals "Missing" = some (some (.ref C3))) (xe3 : PySem.W.excIn K C3 bmV "ValueError.__new__" = true) (xk3 : PySem.W.keepIn K (.ref C3) = true) (xb3 : PySem.W.subIn K (.ref C3) (.type "BaseException") = some true) (xt3 : PySem.W.typeIn K (.ref C3) = some (.type "type"))
    (xa4 : PySem.W.nsIn K mainGlobals "Alike" = some (some (.ref C4))) (xe4 : PySem.W.excIn K C4 bmV "ValueError.__new__" = true) (xk4 : PySem.W.keepIn K (.ref C4) = true) (xb4 : PySem.W.subIn K (.ref C4) (.type "BaseException") = some true) (xt4 : PySem.W.typeIn K (.ref C4) = some (.type "type"))
    (xa5 : PySem.W.nsIn K mainGlobals "Wrong" = some (some (.ref C5))) (xe5 : PySem.W.excIn K C5 bmV "ValueError.__new__" = true) (xk5 : PySem.W.keepIn K (.ref C5) = true) (xb5 : PySem.W.subIn K (.ref C5) (.type "BaseException") = some true) (xt5 : PySem.W.typeIn K (.ref C5) = some (.type "type"))
    (yg1 : PySem.W.findIn K (.ref C1) "__getattribute__" = some (some (.builtin "BaseException.__getattribute__"))) (yh1 : PySem.W.findIn K (.ref C1) "__getattr__" = some none) (yd1 : PySem.W.hasDictIn K C1 = true) (ya1 : PySem.W.findIn K (.ref C1) "__class__" = some (some (.builtin "object.__class__"))) (ym1 : PySem.W.mroIn K C1 (.type "object") = some true) (yx1 : PySem.W.subIn K (.ref C1) (.ref C0) = some true)
    (yg2 : PySem.W.findIn K (.ref C2) "__getattribute__" = some (some (.builtin "BaseException.__getattribute__"))) (yh2 : PySem.W.findIn K (.ref C2) "__getattr__" = some none) (yd2 : PySem.W.hasDictIn K C2 = true) (ya2 : PySem.W.findIn K (.ref C2) "__class__" = some (some (.builtin "object.__class__"))) (ym2 : PySem.W.mroIn K C2 (.type "object") = some true) (yx2 : PySem.W.subIn K (.ref C2) (.ref C0) = some true)
    (yg3 : PySem.W.findIn K (.ref C3) "__getattribute__" = some (some (.builtin "BaseException.__getattribute__"))) (yh3 : PySem.W.findIn K (.ref C3) "__getattr__" = some none) (yd3 : PySem.W.hasDictIn K C3 = true) (ya3 : PySem.W.findIn K (.ref C3) "__class__" = some (some (.builtin "object.__class__"))) (ym3 : PySem.W.mroIn K C3 (.type "object") = some true) (yx3 : PySem.W.subIn K (.ref C3) (.ref C0) = some true)
    (yg4 : PySem.W.findIn K (.ref C4) "__getattribute__" = some (some (.builtin "BaseException.__getattribute__"))) (yh4 : PySem.W.findIn K (.ref C4) "__getattr__" = some none) (yd4 : PySem.W.hasDictIn K C4 = true) (ya4 : PySem.W.findIn K (.ref C4) "__class__" = some (some (.builtin "object.__class__"))) (ym4 : PySem.W.mroIn K C4 (.type "object") = some true) (yx4 : PySem.W.subIn K (.ref C4) (.ref C0) = some true)
    (yg5 : PySem.W.findIn K (.ref C5) "__getattribute__" = some (some (.builtin "BaseException.__getattribute__"))) (yh5 : PySem.W.findIn K (.ref C5) "__getattr__" = some none) (yd5 : PySem.W.hasDictIn K C5 = true) (ya5 : PySem.W.findIn K (.ref C5) "__class__" = some (some (.builtin "object.__class__"))) (ym5 : PySem.W.mroIn K C5 (.type "object") = some true) (yx5 : PySem.W.subIn K (.ref C5) (.ref C0) = some true)
    (yn : PySem.W.specialIn K (.builtin "object.__class__") "__get__" = some (some (.builtin "getset_descriptor.__get__"))) (yt : PySem.W.takesIn K (.builtin "object.__class__") = some true) (yd0 : PySem.W.hasDictIn K C0 = true) (nz : [C1, C2, C3, C4, C5].Nodup)
    (z12 : PySem.W.subIn K (.ref C1) (.ref C2) = some false)
    (z13 : PySem.W.subIn K (.ref C1) (.ref C3) = some false)
    (z14 : PySem.W.subIn K (.ref C1) (.ref C4) = some false)
    (z15 : PySem.W.subIn K (.ref C1) (.ref C5) = some false)
    (z21 : PySem.W.subIn K (.ref C2) (.ref C1) = some false)
    (z23 : PySem.W.subIn K (.ref C2) (.ref C3) = some false)
    (z24 : PySem.W.subIn K (.ref C2) (.ref C4) = some false)
    (z25 : PySem.W.subIn K (.ref C2) (.ref C5) = some false)
    (z31 : PySem.W.subIn K (.ref C3) (.ref C1) = some false)
    (z32 : PySem.W.subIn K (.ref C3) (.ref C2) = some false)
    (z34 : PySem.W.subIn K (.ref C3) (.ref C4) = some false)
    (z35 : PySem.W.subIn K (.ref C3) (.ref C5) = some false)
    (z41 : PySem.W.subIn K (.ref C4) (.ref C1) = some false)
    (z42 : PySem.W.subIn K (.ref C4) (.ref C2) = some false)
    (z43 : PySem.W.subIn K (.ref C4) (.ref C3) = some false)
    (z45 : PySem.W.subIn K (.ref C4) (.ref C5) = some false)
    (z51 : PySem.W.subIn K (.ref C5) (.ref C1) = some false)
    (z52 : PySem.W.subIn K (.ref C5) (.ref C2) = some false)
    (z53 : PySem.W.subIn K (.ref C5) (.ref C3) = some false)
    (z54 : PySem.W.subIn K (.ref C5) (.ref C4) = some false)
    (b_list : PySem.W.nsIn K mainGlobals "list" = some none)
    (b_sorted : PySem.W.nsIn K mainGlobals "sorted" = some none)
    (b_set : PySem.W.nsIn K mainGlobals "set" = some none)
    (b_all : PySem.W.nsIn K mainGlobals "all" = some none)
    (b_any : PySem.W.nsIn K mainGlobals "any" = some none)
    (b_tuple : PySem.W.nsIn K mainGlobals "tuple" = some none)
    (b_len : PySem.W.nsIn K mainGlobals "len" = some none)
    (b_abs : PySem.W.nsIn K mainGlobals "abs" = some none)
    (b_int : PySem.W.nsIn K mainGlobals "int" = some none)
    (b_range : PySem.W.nsIn K mainGlobals "range" = some none)
    (b_repr : PySem.W.nsIn K mainGlobals "repr" = some none)
    (b_sum : PySem.W.nsIn K mainGlobals "sum" = some none)
    (b_isinstance : PySem.W.nsIn K mainGlobals "isinstance" = some none)
    {tk_MAX_THINGS : Tok} (g_MAX_THINGS : PySem.W.nsIn K mainGlobals "MAX_THINGS" = some (some (.int 8 tk_MAX_THINGS)))
    : ∃ fd : FuncData, (∀ (s : Shared) (v : Value), BindsTo s fd ⟨[v], []⟩ [("script", v)]) ∧ ∀ base : Heap, K.In base → base.Ns mainGlobals mg → FnG l.prog w K mg base 40 fa fd ["script"] (spV ⟨K, w, eaOf C0 C1 C2 C3 C4 C5, fun _ => 0⟩ [false] S_law) := by
  have e := hfa.symm.trans (PySem.W.mg_of X N a26)
  cases e
  have B : NoG mg blts := nog_in X N (nog_cons b_list (nog_cons b_sorted (nog_cons b_set (nog_cons b_all (nog_cons b_any (nog_cons b_tuple (nog_cons b_len (nog_cons b_abs (nog_cons b_int (nog_cons b_range (nog_cons b_repr (nog_cons b_sum (nog_cons b_isinstance nog_nil)))))))))))))
  have x_MaieuticError : Exc1 K mg "MaieuticError" C0 := exc_in X N xa0 xe0 xk0 xb0 xt0
  have x_NotAllowed : Exc1 K mg "NotAllowed" C1 := exc_in X N xa1 xe1 xk1 xb1 xt1
  have x_BadForm : Exc1 K mg "BadForm" C2 := exc_in X N xa2 xe2 xk2 xb2 xt2
  have x_Missing : Exc1 K mg "Missing" C3 := exc_in X N xa3 xe3 xk3 xb3 xt3
  have x_Alike : Exc1 K mg "Alike" C4 := exc_in X N xa4 xe4 xk4 xb4 xt4
  have x_Wrong : Exc1 K mg "Wrong" C5 := exc_in X N xa5 xe5 xk5 xb5 xt5
  have T_MAX_THINGS : ∃ t, mg "MAX_THINGS" = some (Value.int 8 t) := ⟨_, PySem.W.mg_of X N g_MAX_THINGS⟩
  have XC : ∀ c, 0 < c → c < 6 → ExcC K (eaOf C0 C1 C2 C3 C4 C5 c) := fun c h1 h2 => by
    have : c = 1 ∨ c = 2 ∨ c = 3 ∨ c = 4 ∨ c = 5 := by omega
    rcases this with rfl | rfl | rfl | rfl | rfl
    · exact ⟨yg1, yh1, xb1, yd1, ya1, yn, yt, ym1⟩
    · exact ⟨yg2, yh2, xb2, yd2, ya2, yn, yt, ym2⟩
    · exact ⟨yg3, yh3, xb3, yd3, ya3, yn, yt, ym3⟩
    · exact ⟨yg4, yh4, xb4, yd4, ya4, yn, yt, ym4⟩
    · exact ⟨yg5, yh5, xb5, yd5, ya5, yn, yt, ym5⟩
  have kit : ∀ i j, i < 6 → j < 6 → 0 < i → 0 < j → PySem.W.kitOne K (.ref (eaOf C0 C1 C2 C3 C4 C5 i)) (.ref (eaOf C0 C1 C2 C3 C4 C5 j)) = some (decide (i = j)) := fun i j h1 h2 h3 h4 => by
    have hi : i = 1 ∨ i = 2 ∨ i = 3 ∨ i = 4 ∨ i = 5 := by omega
    have hj : j = 1 ∨ j = 2 ∨ j = 3 ∨ j = 4 ∨ j = 5 := by omega
    rcases hi with rfl | rfl | rfl | rfl | rfl <;> rcases hj with rfl | rfl | rfl | rfl | rfl
    · exact kit_same
    · exact kit_no (nd_ne nz 0 1 rfl rfl (by decide)) yd2 xt2 z12
    · exact kit_no (nd_ne nz 0 2 rfl rfl (by decide)) yd3 xt3 z13
    · exact kit_no (nd_ne nz 0 3 rfl rfl (by decide)) yd4 xt4 z14
    · exact kit_no (nd_ne nz 0 4 rfl rfl (by decide)) yd5 xt5 z15
    · exact kit_no (nd_ne nz 1 0 rfl rfl (by decide)) yd1 xt1 z21
    · exact kit_same
    · exact kit_no (nd_ne nz 1 2 rfl rfl (by decide)) yd3 xt3 z23
    · exact kit_no (nd_ne nz 1 3 rfl rfl (by decide)) yd4 xt4 z24
    · exact kit_no (nd_ne nz 1 4 rfl rfl (by decide)) yd5 xt5 z25
    · exact kit_no (nd_ne nz 2 0 rfl rfl (by decide)) yd1 xt1 z31
    · exact kit_no (nd_ne nz 2 1 rfl rfl (by decide)) yd2 xt2 z32
    · exact kit_same
    · exact kit_no (nd_ne nz 2 3 rfl rfl (by decide)) yd4 xt4 z34
    · exact kit_no (nd_ne nz 2 4 rfl rfl (by decide)) yd5 xt5 z35
    · exact kit_no (nd_ne nz 3 0 rfl rfl (by decide)) yd1 xt1 z41
    · exact kit_no (nd_ne nz 3 1 rfl rfl (by decide)) yd2 xt2 z42
    · exact kit_no (nd_ne nz 3 2 rfl rfl (by decide)) yd3 xt3 z43
    · exact kit_same
    · exact kit_no (nd_ne nz 3 4 rfl rfl (by decide)) yd5 xt5 z45
    · exact kit_no (nd_ne nz 4 0 rfl rfl (by decide)) yd1 xt1 z51
    · exact kit_no (nd_ne nz 4 1 rfl rfl (by decide)) yd2 xt2 z52
    · exact kit_no (nd_ne nz 4 2 rfl rfl (by decide)) yd3 xt3 z53
    · exact kit_no (nd_ne nz 4 3 rfl rfl (by decide)) yd4 xt4 z54
    · exact kit_same
  have er_sub : ∀ c t, errR c = some t → PySem.W.exmOne K (.ref (eaOf C0 C1 C2 C3 C4 C5 c)) (.ref (eaOf C0 C1 C2 C3 C4 C5 0)) = some true := fun c t hr => by
    have hc := errR_lt hr
    have : c = 1 ∨ c = 2 ∨ c = 3 ∨ c = 4 ∨ c = 5 := by omega
    rcases this with rfl | rfl | rfl | rfl | rfl
    · exact PySem.W.exm_ref xb0 yd0 xt0 yx1
    · exact PySem.W.exm_ref xb0 yd0 xt0 yx2
    · exact PySem.W.exm_ref xb0 yd0 xt0 yx3
    · exact PySem.W.exm_ref xb0 yd0 xt0 yx4
    · exact PySem.W.exm_ref xb0 yd0 xt0 yx5
  have d_check_count : Def ⟨K, w, eaOf C0 C1 C2 C3 C4 C5, fun _ => 0⟩ mg "check_count" s_check_count ["count"] := def_in X N a0 l0 c0 k0 fun _ _ _ _ _ _ us hl => match us, hl with | [_], _ => rfl
  have d_check_sets : Def ⟨K, w, eaOf C0 C1 C2 C3 C4 C5, fun _ => 0⟩ mg "check_sets" s_check_sets ["count", "sets"] := def_in X N a1 l1 c1 k1 fun _ _ _ _ _ _ us hl => match us, hl with | [_, _], _ => rfl
  have d_things_in : Def ⟨K, w, eaOf C0 C1 C2 C3 C4 C5, fun _ => 0⟩ mg "things_in" s_things_in ["one"] := def_in X N a2 l2 c2 k2 fun _ _ _ _ _ _ us hl => match us, hl with | [_], _ => rfl
  have d_least_of : Def ⟨K, w, eaOf C0 C1 C2 C3 C4 C5, fun _ => 0⟩ mg "least_of" s_least_of ["sets"] := def_in X N a3 l3 c3 k3 fun _ _ _ _ _ _ us hl => match us, hl with | [_], _ => rfl
  have d_check_border : Def ⟨K, w, eaOf C0 C1 C2 C3 C4 C5, fun _ => 0⟩ mg "check_border" s_check_border ["count", "sets"] := def_in X N a4 l4 c4 k4 fun _ _ _ _ _ _ us hl => match us, hl with | [_, _], _ => rfl
  have d_crossing_of : Def ⟨K, w, eaOf C0 C1 C2 C3 C4 C5, fun _ => 0⟩ mg "crossing_of" s_crossing_of ["sets"] := def_in X N a5 l5 c5 k5 fun _ _ _ _ _ _ us hl => match us, hl with | [_], _ => rfl
  have d_crossing : Def ⟨K, w, eaOf C0 C1 C2 C3 C4 C5, fun _ => 0⟩ mg "crossing" s_crossing ["count", "sets"] := def_in X N a6 l6 c6 k6 fun _ _ _ _ _ _ us hl => match us, hl with | [_, _], _ => rfl
  have d_falses_of : Def ⟨K, w, eaOf C0 C1 C2 C3 C4 C5, fun _ => 0⟩ mg "falses_of" s_falses_of ["count", "trues"] := def_in X N a7 l7 c7 k7 fun _ _ _ _ _ _ us hl => match us, hl with | [_, _], _ => rfl
  have d_greatest_falses : Def ⟨K, w, eaOf C0 C1 C2 C3 C4 C5, fun _ => 0⟩ mg "greatest_falses" s_greatest_falses ["count", "trues"] := def_in X N a8 l8 c8 k8 fun _ _ _ _ _ _ us hl => match us, hl with | [_, _], _ => rfl
  have d_least_trues : Def ⟨K, w, eaOf C0 C1 C2 C3 C4 C5, fun _ => 0⟩ mg "least_trues" s_least_trues ["count", "falses"] := def_in X N a9 l9 c9 k9 fun _ _ _ _ _ _ us hl => match us, hl with | [_, _], _ => rfl
  have d_is_true : Def ⟨K, w, eaOf C0 C1 C2 C3 C4 C5, fun _ => 0⟩ mg "is_true" s_is_true ["count", "trues", "one"] := def_in X N a10 l10 c10 k10 fun _ _ _ _ _ _ us hl => match us, hl with | [_, _, _], _ => rfl
  have d_first_open : Def ⟨K, w, eaOf C0 C1 C2 C3 C4 C5, fun _ => 0⟩ mg "first_open" s_first_open ["count", "trues", "falses"] := def_in X N a11 l11 c11 k11 fun _ _ _ _ _ _ us hl => match us, hl with | [_, _, _], _ => rfl
  have d_undecided : Def ⟨K, w, eaOf C0 C1 C2 C3 C4 C5, fun _ => 0⟩ mg "undecided" s_undecided ["count", "trues", "falses"] := def_in X N a12 l12 c12 k12 fun _ _ _ _ _ _ us hl => match us, hl with | [_, _, _], _ => rfl
  have d_is_whole : Def ⟨K, w, eaOf C0 C1 C2 C3 C4 C5, fun _ => 0⟩ mg "is_whole" s_is_whole ["count", "trues", "falses"] := def_in X N a13 l13 c13 k13 fun _ _ _ _ _ _ us hl => match us, hl with | [_, _, _], _ => rfl
  have d__law_same : Def ⟨K, w, eaOf C0 C1 C2 C3 C4 C5, fun _ => 0⟩ mg "_law_same" s__law_same ["told", "due"] := def_in X N a14 l14 c14 k14 fun _ _ _ _ _ _ us hl => match us, hl with | [_, _], _ => rfl
  have d__law_stream : Def ⟨K, w, eaOf C0 C1 C2 C3 C4 C5, fun _ => 0⟩ mg "_law_stream" s__law_stream ["script"] := def_in X N a15 l15 c15 k15 fun _ _ _ _ _ _ us hl => match us, hl with | [_], _ => rfl
  have d__law_next : Def ⟨K, w, eaOf C0 C1 C2 C3 C4 C5, fun _ => 0⟩ mg "_law_next" s__law_next ["state", "many"] := def_in X N a16 l16 c16 k16 fun _ _ _ _ _ _ us hl => match us, hl with | [_, _], _ => rfl
  have d__law_error : Def ⟨K, w, eaOf C0 C1 C2 C3 C4 C5, fun _ => 0⟩ mg "_law_error" s__law_error ["e"] := def_in X N a17 l17 c17 k17 fun _ _ _ _ _ _ us hl => match us, hl with | [_], _ => rfl
  have d__law_least : Def ⟨K, w, eaOf C0 C1 C2 C3 C4 C5, fun _ => 0⟩ mg "_law_least" s__law_least ["sets"] := def_in X N a18 l18 c18 k18 fun _ _ _ _ _ _ us hl => match us, hl with | [_], _ => rfl
  have d__law_greatest : Def ⟨K, w, eaOf C0 C1 C2 C3 C4 C5, fun _ => 0⟩ mg "_law_greatest" s__law_greatest ["sets"] := def_in X N a19 l19 c19 k19 fun _ _ _ _ _ _ us hl => match us, hl with | [_], _ => rfl
  have d__law_true : Def ⟨K, w, eaOf C0 C1 C2 C3 C4 C5, fun _ => 0⟩ mg "_law_true" s__law_true ["trues", "one"] := def_in X N a20 l20 c20 k20 fun _ _ _ _ _ _ us hl => match us, hl with | [_, _], _ => rfl
  have d__law_border : Def ⟨K, w, eaOf C0 C1 C2 C3 C4 C5, fun _ => 0⟩ mg "_law_border" s__law_border ["state", "count"] := def_in X N a21 l21 c21 k21 fun _ _ _ _ _ _ us hl => match us, hl with | [_, _], _ => rfl
  have d__law_falses : Def ⟨K, w, eaOf C0 C1 C2 C3 C4 C5, fun _ => 0⟩ mg "_law_falses" s__law_falses ["count", "trues"] := def_in X N a22 l22 c22 k22 fun _ _ _ _ _ _ us hl => match us, hl with | [_, _], _ => rfl
  have d__law_crossing : Def ⟨K, w, eaOf C0 C1 C2 C3 C4 C5, fun _ => 0⟩ mg "_law_crossing" s__law_crossing ["count", "sets"] := def_in X N a23 l23 c23 k23 fun _ _ _ _ _ _ us hl => match us, hl with | [_, _], _ => rfl
  have d__law_told : Def ⟨K, w, eaOf C0 C1 C2 C3 C4 C5, fun _ => 0⟩ mg "_law_told" s__law_told ["kind", "count", "one", "two"] := def_in X N a24 l24 c24 k24 fun _ _ _ _ _ _ us hl => match us, hl with | [_, _, _, _], _ => rfl
  have d__law_fits : Def ⟨K, w, eaOf C0 C1 C2 C3 C4 C5, fun _ => 0⟩ mg "_law_fits" s__law_fits ["state"] := def_in X N a25 l25 c25 k25 fun _ _ _ _ _ _ us hl => match us, hl with | [_], _ => rfl
  refine ⟨PySem.W.fnOf "law" "law" (defArgs s_law) (defBody s_law) (defScope s_law) .none kV26 dc26 pm26 an26 cd26 ct26, fun s v => .of_eq rfl, fun base _ _ => ?_⟩
  have c_check_count := (k_check_count (P := l.prog) (base := base) d_check_count x_NotAllowed T_MAX_THINGS).imp e_check_count
  have c_check_sets := (k_check_sets (P := l.prog) (base := base) d_check_sets B c_check_count x_NotAllowed).imp e_check_sets
  have c_things_in := (k_things_in (P := l.prog) (base := base) d_things_in ).imp e_things_in
  have c_least_of := (k_least_of (P := l.prog) (base := base) d_least_of B).imp e_least_of
  have c_check_border := (k_check_border (P := l.prog) (base := base) d_check_border B c_least_of c_check_sets x_NotAllowed).imp e_check_border
  have c_crossing_of := (k_crossing_of (P := l.prog) (base := base) d_crossing_of c_least_of c_things_in).imp e_crossing_of
  have c_crossing := (k_crossing (P := l.prog) (base := base) d_crossing c_crossing_of c_check_sets).imp e_crossing
  have c_falses_of := (k_falses_of (P := l.prog) (base := base) d_falses_of B c_crossing_of).imp e_falses_of
  have c_greatest_falses := (k_greatest_falses (P := l.prog) (base := base) d_greatest_falses c_falses_of c_check_border).imp e_greatest_falses
  have c_least_trues := (k_least_trues (P := l.prog) (base := base) d_least_trues c_crossing_of c_check_border).imp e_least_trues
  have c_is_true := (k_is_true (P := l.prog) (base := base) d_is_true B c_check_sets c_check_border).imp e_is_true
  have c_first_open := (k_first_open (P := l.prog) (base := base) d_first_open B).imp e_first_open
  have c_undecided := (k_undecided (P := l.prog) (base := base) d_undecided B c_first_open c_check_border x_Missing x_NotAllowed).imp e_undecided
  have c_is_whole := (k_is_whole (P := l.prog) (base := base) d_is_whole B c_falses_of c_check_border).imp e_is_whole
  have c__law_same := (k__law_same (P := l.prog) (base := base) d__law_same B).imp e__law_same
  have c__law_stream := (k__law_stream (P := l.prog) (base := base) d__law_stream B).imp e__law_stream
  have c__law_next := (k__law_next (P := l.prog) (base := base) d__law_next B).imp e__law_next
  have er__law_error := k__law_error (P := l.prog) (base := base) d__law_error B x_NotAllowed x_BadForm x_Missing x_Alike x_Wrong XC kit
  have c__law_least := (k__law_least (P := l.prog) (base := base) d__law_least B).imp e__law_least
  have c__law_greatest := (k__law_greatest (P := l.prog) (base := base) d__law_greatest B).imp e__law_greatest
  have c__law_true := (k__law_true (P := l.prog) (base := base) d__law_true B).imp e__law_true
  have c__law_border := (k__law_border (P := l.prog) (base := base) d__law_border B c__law_least c__law_next).imp e__law_border
  have c__law_falses := (k__law_falses (P := l.prog) (base := base) d__law_falses B c__law_greatest c__law_true).imp e__law_falses
  have c__law_crossing := (k__law_crossing (P := l.prog) (base := base) d__law_crossing B c__law_least).imp e__law_crossing
  have c__law_told := (k__law_told (P := l.prog) (base := base) d__law_told c_is_true c_is_whole c_undecided c_crossing c_greatest_falses c_least_trues x_MaieuticError er__law_error er_sub).imp e__law_told
  have c__law_fits := (k__law_fits (P := l.prog) (base := base) d__law_fits B c__law_told c__law_same c__law_falses c__law_true c__law_next c__law_greatest c__law_crossing c__law_border).imp e__law_fits
  exact (spec_imp (k_law (P := l.prog) (base := base) (G := ⟨K, w, eaOf C0 C1 C2 C3 C4 C5, fun _ => 0⟩) (fun_mk l26 c26 k26) B c__law_told c__law_fits c__law_stream T_MAX_THINGS) e_law).mono (by decide)
end K08

open PySem PySem.W PyProof.Rows in
set_option maxRecDepth 100000 in
set_option maxHeartbeats 0 in
theorem PySem.Challenge.cw_askcraft_k08_whole_borders_holds : PySem.Challenge.rw_askcraft_k08_whole_borders.Holds := by
  w_on; o_law; k_head; (case hw => w_witness2)
  k_fill
  refine Mi.walk_G (l := PySem.Challenge.rw_askcraft_k08_whole_borders) (k := 40) (x := "script") (S := K08.S_law) (ea := fun _ => Mi.eaOf 24 37 49 61 73 85) (cl := fun _ _ => 0) rfl rfl ⟨rfl, by decide, by decide⟩ (fun w h Y => PySem.W.kIn_of Y) ?F K08.law_true
  case F =>
    intro w mg fa h KX G hmg
    refine' K08.all_mk KX G hmg ?a0 ?l0 ?c0 ?k0 ?a1 ?l1 ?c1 ?k1 ?a2 ?l2 ?c2 ?k2 ?a3 ?l3 ?c3 ?k3 ?a4 ?l4 ?c4 ?k4 ?a5 ?l5 ?c5 ?k5 ?a6 ?l6 ?c6 ?k6 ?a7 ?l7 ?c7 ?k7 ?a8 ?l8 ?c8 ?k8 ?a9 ?l9 ?c9 ?k9 ?a10 ?l10 ?c10 ?k10 ?a11 ?l11 ?c11 ?k11 ?a12 ?l12 ?c12 ?k12 ?a13 ?l13 ?c13 ?k13 ?a14 ?l14 ?c14 ?k14 ?a15 ?l15 ?c15 ?k15 ?a16 ?l16 ?c16 ?k16 ?a17 ?l17 ?c17 ?k17 ?a18 ?l18 ?c18 ?k18 ?a19 ?l19 ?c19 ?k19 ?a20 ?l20 ?c20 ?k20 ?a21 ?l21 ?c21 ?k21 ?a22 ?l22 ?c22 ?k22 ?a23 ?l23 ?c23 ?k23 ?a24 ?l24 ?c24 ?k24 ?a25 ?l25 ?c25 ?k25 ?a26 ?l26 ?c26 ?k26 ?xa0 ?xe0 ?xk0 ?xb0 ?xt0 ?xa1 ?xe1 ?xk1 ?xb1 ?xt1 ?xa2 ?xe2 ?xk2 ?xb2 ?xt2 ?xa3 ?xe3 ?xk3 ?xb3 ?xt3 ?xa4 ?xe4 ?xk4 ?xb4 ?xt4 ?xa5 ?xe5 ?xk5 ?xb5 ?xt5 ?yg1 ?yh1 ?yd1 ?ya1 ?ym1 ?yx1 ?yg2 ?yh2 ?yd2 ?ya2 ?ym2 ?yx2 ?yg3 ?yh3 ?yd3 ?ya3 ?ym3 ?yx3 ?yg4 ?yh4 ?yd4 ?ya4 ?ym4 ?yx4 ?yg5 ?yh5 ?yd5 ?ya5 ?ym5 ?yx5 ?yn ?yt ?yd0 ?nz ?z12 ?z13 ?z14 ?z15 ?z21 ?z23 ?z24 ?z25 ?z31 ?z32 ?z34 ?z35 ?z41 ?z42 ?z43 ?z45 ?z51 ?z52 ?z53 ?z54 ?b_list ?b_sorted ?b_set ?b_all ?b_any ?b_tuple ?b_len ?b_abs ?b_int ?b_range ?b_repr ?b_sum ?b_isinstance ?g_MAX_THINGS
    (case a0 => k_is)
    (case l0 => k_is)
    (case c0 => k_is)
    (case k0 => k_is)
    (case a1 => k_is)
    (case l1 => k_is)
    (case c1 => k_is)
    (case k1 => k_is)
    (case a2 => k_is)
    (case l2 => k_is)
    (case c2 => k_is)
    (case k2 => k_is)
    (case a3 => k_is)
    (case l3 => k_is)
    (case c3 => k_is)
    (case k3 => k_is)
    (case a4 => k_is)
    (case l4 => k_is)
    (case c4 => k_is)
    (case k4 => k_is)
    (case a5 => k_is)
    (case l5 => k_is)
    (case c5 => k_is)
    (case k5 => k_is)
    (case a6 => k_is)
    (case l6 => k_is)
    (case c6 => k_is)
    (case k6 => k_is)
    (case a7 => k_is)
    (case l7 => k_is)
    (case c7 => k_is)
    (case k7 => k_is)
    (case a8 => k_is)
    (case l8 => k_is)
    (case c8 => k_is)
    (case k8 => k_is)
    (case a9 => k_is)
    (case l9 => k_is)
    (case c9 => k_is)
    (case k9 => k_is)
    (case a10 => k_is)
    (case l10 => k_is)
    (case c10 => k_is)
    (case k10 => k_is)
    (case a11 => k_is)
    (case l11 => k_is)
    (case c11 => k_is)
    (case k11 => k_is)
    (case a12 => k_is)
    (case l12 => k_is)
    (case c12 => k_is)
    (case k12 => k_is)
    (case a13 => k_is)
    (case l13 => k_is)
    (case c13 => k_is)
    (case k13 => k_is)
    (case a14 => k_is)
    (case l14 => k_is)
    (case c14 => k_is)
    (case k14 => k_is)
    (case a15 => k_is)
    (case l15 => k_is)
    (case c15 => k_is)
    (case k15 => k_is)
    (case a16 => k_is)
    (case l16 => k_is)
    (case c16 => k_is)
    (case k16 => k_is)
    (case a17 => k_is)
    (case l17 => k_is)
    (case c17 => k_is)
    (case k17 => k_is)
    (case a18 => k_is)
    (case l18 => k_is)
    (case c18 => k_is)
    (case k18 => k_is)
    (case a19 => k_is)
    (case l19 => k_is)
    (case c19 => k_is)
    (case k19 => k_is)
    (case a20 => k_is)
    (case l20 => k_is)
    (case c20 => k_is)
    (case k20 => k_is)
    (case a21 => k_is)
    (case l21 => k_is)
    (case c21 => k_is)
    (case k21 => k_is)
    (case a22 => k_is)
    (case l22 => k_is)
    (case c22 => k_is)
    (case k22 => k_is)
    (case a23 => k_is)
    (case l23 => k_is)
    (case c23 => k_is)
    (case k23 => k_is)
    (case a24 => k_is)
    (case l24 => k_is)
    (case c24 => k_is)
    (case k24 => k_is)
    (case a25 => k_is)
    (case l25 => k_is)
    (case c25 => k_is)
    (case k25 => k_is)
    (case a26 => k_is)
    (case l26 => k_is)
    (case c26 => k_is)
    (case k26 => k_is)
    (case xa0 => k_is)
    (case xe0 => k_exc)
    (case xk0 => k_is)
    (case xb0 => k_is)
    (case xt0 => k_is)
    (case xa1 => k_is)
    (case xe1 => k_exc)
    (case xk1 => k_is)
    (case xb1 => k_is)
    (case xt1 => k_is)
    (case xa2 => k_is)
    (case xe2 => k_exc)
    (case xk2 => k_is)
    (case xb2 => k_is)
    (case xt2 => k_is)
    (case xa3 => k_is)
    (case xe3 => k_exc)
    (case xk3 => k_is)
    (case xb3 => k_is)
    (case xt3 => k_is)
    (case xa4 => k_is)
    (case xe4 => k_exc)
    (case xk4 => k_is)
    (case xb4 => k_is)
    (case xt4 => k_is)
    (case xa5 => k_is)
    (case xe5 => k_exc)
    (case xk5 => k_is)
    (case xb5 => k_is)
    (case xt5 => k_is)
    (case yg1 => k_is)
    (case yh1 => k_is)
    (case yd1 => k_is)
    (case ya1 => k_is)
    (case ym1 => k_is)
    (case yx1 => k_is)
    (case yg2 => k_is)
    (case yh2 => k_is)
    (case yd2 => k_is)
    (case ya2 => k_is)
    (case ym2 => k_is)
    (case yx2 => k_is)
    (case yg3 => k_is)
    (case yh3 => k_is)
    (case yd3 => k_is)
    (case ya3 => k_is)
    (case ym3 => k_is)
    (case yx3 => k_is)
    (case yg4 => k_is)
    (case yh4 => k_is)
    (case yd4 => k_is)
    (case ya4 => k_is)
    (case ym4 => k_is)
    (case yx4 => k_is)
    (case yg5 => k_is)
    (case yh5 => k_is)
    (case yd5 => k_is)
    (case ya5 => k_is)
    (case ym5 => k_is)
    (case yx5 => k_is)
    (case yn => k_is)
    (case yt => k_is)
    (case yd0 => k_is)
    (case nz => decide)
    (case z12 => k_is)
    (case z13 => k_is)
    (case z14 => k_is)
    (case z15 => k_is)
    (case z21 => k_is)
    (case z23 => k_is)
    (case z24 => k_is)
    (case z25 => k_is)
    (case z31 => k_is)
    (case z32 => k_is)
    (case z34 => k_is)
    (case z35 => k_is)
    (case z41 => k_is)
    (case z42 => k_is)
    (case z43 => k_is)
    (case z45 => k_is)
    (case z51 => k_is)
    (case z52 => k_is)
    (case z53 => k_is)
    (case z54 => k_is)
    (case b_list => k_is)
    (case b_sorted => k_is)
    (case b_set => k_is)
    (case b_all => k_is)
    (case b_any => k_is)
    (case b_tuple => k_is)
    (case b_len => k_is)
    (case b_abs => k_is)
    (case b_int => k_is)
    (case b_range => k_is)
    (case b_repr => k_is)
    (case b_sum => k_is)
    (case b_isinstance => k_is)
    (case g_MAX_THINGS => k_is)
#print axioms PySem.Challenge.cw_askcraft_k08_whole_borders_holds
end
