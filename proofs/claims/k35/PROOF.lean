import PyProof.Rows.All
import Wide.All
import OpenK.AllK
import Wide.FinOn
import HandS.ForMost
import HandS.ForExc
import HandS.Strs
import HandS.Flow
import HandS.TupAny
import HandS.TupMul
import HandS.Deep
import KE.SortData
import KE.DataMinMax
import PyProof.ReprLen
import PyProof.ReprText
import HandS.Exc
import HandS.RaiseMore
import HandS.ExcCtx
import HandS.Conv
import HandS.SortKw
import HandS.SetFor
import HandS.HotCalls
import HandS.Ends
import HandS.WordsExc
import HandS.Hot
import HandS.Comp
import HandS.ExcIs
import PyProof.Rows.FactsN_isinstance
import PyProof.P3Eq
import KE.GoesMore
import KE.GoesNew
import KE.GoesEnum
import HandS.Zip
import HandS.IsInst
import HandS.Star
import HandS.Style
import KE.KRevSl
import PySem.Challenge.RW_askcraft_k35_whole_spans
section
set_option Elab.async false
set_option linter.all false
set_option maxRecDepth 100000
/-! Ev1: values, environments, what the heap holds of them -/
namespace Mi
open PySem L2

/-- what a slot or a temporary holds, apart from the heap -/
inductive Vl where
  /-- frozen data -/
  | dat (d : PyData)
  /-- an owned list of frozen items; an owned list of owned lists -/
  | ml (ds : List PyData)
  | mml (dss : List (List PyData))
  /-- an owned instance of the class number c; its fields are frozen -/
  | ob (c : Nat) (fs : List (Str × PyData))
  /-- a set of ints: those of ns -/
  | st (ns : List Int)

/-- an operand: a value, or the slot that holds it -/
inductive Opd where
  | val (w : Vl)
  | brw (i : Nat)

abbrev Rho := List (Option Vl)

inductive Out (α : Type) where
  | ok (a : α) (ρ : Rho)
  | exc (c : Nat) (ρ : Rho)
  | stk

abbrev FE := Rho → Out Opd
abbrev Ad := Addr → Prop

/-- where the law's own classes stand -/
structure Glb where
  K : PySem.W.Frag
  w : World
  ea : Nat → Addr
  cl : Nat → Addr

/-! ### frozen data over a part of the heap -/
theorem sqT_mono {K : PySem.W.Frag} {H H' : Hp} {a : Addr} {xs : List V} (e : Same H H') (h : SqT K H a xs) : SqT K H' a xs := by
  rcases h with (h | ⟨o, h⟩) | h
  · exact .inl (.inl (e _ _ h))
  · exact .inl (.inr ⟨o, e _ _ h⟩)
  · exact .inr h
mutual
theorem dp_mono {K : PySem.W.Frag} {H H' : Hp} (e : Same H H') : ∀ (d : PyData) (v : V), Dp K H v d → Dp K H' v d
  | .none, _, h => by cases h; exact .non
  | .bool _, _, h => by cases h; exact .bl _
  | .int _, _, h => by cases h; exact .int _
  | .str _, _, h => by cases h; exact .str _
  | .list ds, _, h => by
    cases h with
    | lst hs ha => exact .lst (e.seq hs) (dpa_mono e ds _ ha)
  | .tuple ds, _, h => by
    cases h with
    | tup hs ha => exact .tup (sqT_mono e hs) (dpa_mono e ds _ ha)
  | .dict _, _, h => by cases h
theorem dpa_mono {K : PySem.W.Frag} {H H' : Hp} (e : Same H H') : ∀ (ds : List PyData) (vs : List V), DpAll K H vs ds → DpAll K H' vs ds
  | [], _, h => by cases h; exact .nil
  | d :: ds, _, h => by
    cases h with
    | cons h1 h2 => exact .cons (dp_mono e d _ h1) (dpa_mono e ds _ h2)
end
theorem dpa_len {K : PySem.W.Frag} {H : Hp} : ∀ (ds : List PyData) (vs : List V), DpAll K H vs ds → vs.length = ds.length
  | [], _, h => by cases h; rfl
  | d :: ds, _, h => by
    cases h with
    | cons h1 h2 => simp [dpa_len ds _ h2]
theorem dpa_get {K : PySem.W.Frag} {H : Hp} : ∀ (ds : List PyData) (vs : List V), DpAll K H vs ds → ∀ (i : Nat) (d : PyData), ds[i]? = some d → ∃ v, vs[i]? = some v ∧ Dp K H v d
  | [], _, h, i, d, e => by simp at e
  | x :: ds, _, h, 0, d, e => by
    cases h with
    | cons h1 h2 => simp at e; subst e; exact ⟨_, rfl, h1⟩
  | x :: ds, _, h, i + 1, d, e => by
    cases h with
    | cons h1 h2 =>
      obtain ⟨v, e1, e2⟩ := dpa_get ds _ h2 i d (by simpa using e)
      exact ⟨v, by simpa using e1, e2⟩
theorem dpa_get' {K : PySem.W.Frag} {H : Hp} : ∀ (ds : List PyData) (vs : List V), DpAll K H vs ds → ∀ (i : Nat) (v : V), vs[i]? = some v → ∃ d, ds[i]? = some d ∧ Dp K H v d
  | [], _, h, i, d, e => by cases h; simp at e
  | x :: ds, _, h, 0, d, e => by
    cases h with
    | cons h1 h2 => simp at e; subst e; exact ⟨_, rfl, h1⟩
  | x :: ds, _, h, i + 1, d, e => by
    cases h with
    | cons h1 h2 =>
      obtain ⟨v, e1, e2⟩ := dpa_get' ds _ h2 i d (by simpa using e)
      exact ⟨v, by simpa using e1, e2⟩
theorem dpa_app {K : PySem.W.Frag} {H : Hp} : ∀ {ds es : List PyData} {vs us : List V}, DpAll K H vs ds → DpAll K H us es → DpAll K H (vs ++ us) (ds ++ es)
  | [], _, _, _, h, g => by cases h; exact g
  | d :: ds, _, _, _, h, g => by
    cases h with
    | cons h1 h2 => exact .cons h1 (dpa_app h2 g)
theorem dpa_set {K : PySem.W.Frag} {H : Hp} {d : PyData} {v : V} (hd : Dp K H v d) : ∀ {ds : List PyData} {vs : List V} (i : Nat), DpAll K H vs ds → DpAll K H (vs.set i v) (ds.set i d)
  | [], _, _, h => by cases h; exact .nil
  | x :: ds, _, 0, h => by
    cases h with
    | cons h1 h2 => exact .cons hd h2
  | x :: ds, _, i + 1, h => by
    cases h with
    | cons h1 h2 => exact .cons h1 (dpa_set hd i h2)
theorem dpa_take {K : PySem.W.Frag} {H : Hp} : ∀ {ds : List PyData} {vs : List V} (i : Nat), DpAll K H vs ds → DpAll K H (vs.take i) (ds.take i)
  | _, _, 0, h => by simpa using DpAll.nil
  | [], _, i + 1, h => by cases h; simpa using DpAll.nil
  | x :: ds, _, i + 1, h => by
    cases h with
    | cons h1 h2 => exact .cons h1 (dpa_take i h2)
theorem dpa_drop {K : PySem.W.Frag} {H : Hp} : ∀ {ds : List PyData} {vs : List V} (i : Nat), DpAll K H vs ds → DpAll K H (vs.drop i) (ds.drop i)
  | _, _, 0, h => by simpa using h
  | [], _, i + 1, h => by cases h; simpa using DpAll.nil
  | x :: ds, _, i + 1, h => by
    cases h with
    | cons h1 h2 => exact dpa_drop i h2
theorem dpa_rev {K : PySem.W.Frag} {H : Hp} : ∀ {ds : List PyData} {vs : List V}, DpAll K H vs ds → DpAll K H vs.reverse ds.reverse
  | [], _, h => by cases h; exact .nil
  | x :: ds, _, h => by
    cases h with
    | cons h1 h2 => simpa using dpa_app (dpa_rev h2) (.cons h1 .nil)

/-! ### owned things -/
def Rows (G : Glb) (P H : Hp) (S : Ad) : List Addr → List (List PyData) → Prop
  | [], [] => True
  | b :: as, ds :: dss => S b ∧ b ∉ as ∧ (∃ ys, H b = some (.lst ys) ∧ DpAll G.K P ys ds) ∧ Rows G P H S as dss
  | _, _ => False
def Flds (G : Glb) (P : Hp) : List (Str × V) → List (Str × PyData) → Prop
  | [], [] => True
  | (f, v) :: r, (g, d) :: t => f = g ∧ Dp G.K P v d ∧ Flds G P r t
  | _, _ => False
def Ow (G : Glb) (P H : Hp) (S : Ad) (v : V) : Vl → Prop
  | .dat d => Dp G.K P v d
  | .ml ds => ∃ a xs, v = .ref a ∧ S a ∧ H a = some (.lst xs) ∧ DpAll G.K P xs ds
  | .mml dss => ∃ a as, v = .ref a ∧ S a ∧ a ∉ as ∧ H a = some (.lst (as.map V.ref)) ∧ Rows G P H S as dss
  | .ob c fs => ∃ a dx fv, v = .ref a ∧ S a ∧ H a = some (.ins (G.cl c) dx fv) ∧ Flds G P fv fs
  | .st ns => ∃ a m n, v = .ref a ∧ S a ∧ H a = some (SetO G.w a m n) ∧ ∀ k, m k = true ↔ k ∈ ns
section
variable {G : Glb} {P P' H H' : Hp} {S S' : Ad} {v : V} {w : Vl}
theorem Rows.mono (e : Same P P') (k : ∀ b o, S b → H b = some o → H' b = some o) (s : ∀ b, S b → S' b) : ∀ {as : List Addr} {dss : List (List PyData)}, Rows G P H S as dss → Rows G P' H' S' as dss
  | [], [], _ => trivial
  | b :: as, ds :: dss, ⟨h1, h0, ⟨ys, h2, h3⟩, h4⟩ => ⟨s b h1, h0, ⟨ys, k b _ h1 h2, dpa_mono e _ _ h3⟩, Rows.mono e k s h4⟩
  | [], _ :: _, h => h.elim
  | _ :: _, [], h => h.elim
theorem Flds.mono (e : Same P P') : ∀ {fv : List (Str × V)} {fs : List (Str × PyData)}, Flds G P fv fs → Flds G P' fv fs
  | [], [], _ => trivial
  | (f, v) :: r, (g, d) :: t, ⟨h1, h2, h3⟩ => ⟨h1, dp_mono e _ _ h2, Flds.mono e h3⟩
  | [], _ :: _, h => h.elim
  | _ :: _, [], h => h.elim
theorem Ow.mono (h : Ow G P H S v w) (e : Same P P') (k : ∀ b o, S b → H b = some o → H' b = some o) (s : ∀ b, S b → S' b) : Ow G P' H' S' v w := by
  cases w with
  | dat d => exact dp_mono e _ _ h
  | ml ds => obtain ⟨a, xs, h1, h2, h3, h4⟩ := h; exact ⟨a, xs, h1, s a h2, k a _ h2 h3, dpa_mono e _ _ h4⟩
  | mml dss => obtain ⟨a, as, h1, h2, h3, h4, h5⟩ := h; exact ⟨a, as, h1, s a h2, h3, k a _ h2 h4, h5.mono e k s⟩
  | ob c fs => obtain ⟨a, dx, fv, h1, h2, h3, h4⟩ := h; exact ⟨a, dx, fv, h1, s a h2, k a _ h2 h3, h4.mono e⟩
  | st ns => obtain ⟨a, m, n, h1, h2, h3, h4⟩ := h; exact ⟨a, m, n, h1, s a h2, k a _ h2 h3, h4⟩
end

/-! ### the environment -/
/-- what may be owned: no tuple, nothing locked -/
def ownK : HO → Bool
  | .lst _ => true
  | .ins _ _ _ => true
  | .ext _ => true
  | .dK _ => true
  | .dT _ => true
  | _ => false
structure Now (G : Glb) (P H : Hp) (σ : L2.St) (ρ : Rho) (F : Nat → Ad) : Prop where
  ex : Same P H
  dj : ∀ i j a, F i a → F j a → i = j
  np : ∀ i a, F i a → P a = none
  al : ∀ i a, F i a → H a ≠ none
  rd : ∀ i w, ρ[i]? = some (some w) → ∃ v, σ[i]? = some (some v) ∧ Ow G P H (F i) v w
  kd : ∀ i b o, F i b → H b = some o → ownK o = true

/-- what a step leaves: all but the environment's own things is as it was -/
structure Stp (P H : Hp) (F : Nat → Ad) (P' H' : Hp) (F' : Nat → Ad) : Prop where
  ex : Same P P'
  fr : ∀ b o, H b = some o → (∀ i, ¬ F i b) → H' b = some o
  sub : ∀ i b, F' i b → (∃ j, F j b) ∨ H b = none
  pn : ∀ b, P' b ≠ none → P b ≠ none ∨ (∃ j, F j b) ∨ H b = none
  al : ∀ b, H b ≠ none → H' b ≠ none

/-- a temporary: its own things are nobody else's -/
structure Tmp (G : Glb) (P H : Hp) (F : Nat → Ad) (S : Ad) (v : V) (w : Vl) : Prop where
  ow : Ow G P H S v w
  np : ∀ b, S b → P b = none
  al : ∀ b, S b → H b ≠ none
  dj : ∀ b, S b → ∀ i, ¬ F i b
  kd : ∀ b o, S b → H b = some o → ownK o = true

theorem Stp.refl {P H : Hp} {F : Nat → Ad} : Stp P H F P H F := ⟨Same.refl P, fun _ _ h _ => h, fun i b h => .inl ⟨i, h⟩, fun _ h => .inl h, fun _ h => h⟩
section
variable {G : Glb} {P H P1 H1 P2 H2 : Hp} {F F1 F2 : Nat → Ad} {σ : L2.St} {ρ : Rho} {S : Ad} {v : V} {w : Vl}
/-- what was nobody's stays -/
theorem Stp.out (s : Stp P H F P1 H1 F1) {b : Addr} (h : H b ≠ none) (hf : ∀ i, ¬ F i b) : ∀ i, ¬ F1 i b := fun i hi => by
  rcases s.sub i b hi with ⟨j, hj⟩ | z
  · exact hf j hj
  · exact h z
theorem Stp.trans (s : Stp P H F P1 H1 F1) (t : Stp P1 H1 F1 P2 H2 F2) : Stp P H F P2 H2 F2 := by
  have back : ∀ b, H1 b = none → H b = none := fun b z => Classical.byContradiction fun q => s.al b q z
  refine ⟨s.ex.trans t.ex, fun b o h hf => t.fr b o (s.fr b o h hf) (s.out (by rw [h]; exact fun z => nomatch z) hf), fun i b h => ?_, fun b h => ?_, fun b h => t.al b (s.al b h)⟩
  · rcases t.sub i b h with ⟨j, hj⟩ | z
    · exact s.sub j b hj
    · exact .inr (back b z)
  · rcases t.pn b h with z | ⟨j, hj⟩ | z
    · exact s.pn b z
    · rcases s.sub j b hj with y | y
      · exact .inr (.inl y)
      · exact .inr (.inr y)
    · exact .inr (.inr (back b z))
theorem Tmp.step (h : Tmp G P H F S v w) (s : Stp P H F P1 H1 F1) : Tmp G P1 H1 F1 S v w := by
  refine ⟨h.ow.mono s.ex (fun b o hb e => s.fr b o e (h.dj b hb)) fun _ z => z, fun b hb => ?_, fun b hb => s.al b (h.al b hb), fun b hb => s.out (h.al b hb) (h.dj b hb), fun b o hb e => ?_⟩
  · refine Classical.byContradiction fun q => ?_
    rcases s.pn b q with z | ⟨j, hj⟩ | z
    · exact z (h.np b hb)
    · exact h.dj b hb j hj
    · exact h.al b hb z
  · obtain ⟨u, hu⟩ := Option.ne_none_iff_exists'.mp (h.al b hb)
    have := s.fr b u hu (h.dj b hb)
    rw [this] at e
    cases e
    exact h.kd b _ hb hu
end
end Mi
end
section
set_option Elab.async false
set_option linter.all false
set_option maxRecDepth 100000
/-! Ev2: readings of evaluators, the general rules for operators, calls, displays -/
namespace Mi
open PySem L2

/-! ### new objects -/
structure Alc (P H P' H' : Hp) (S : Ad) : Prop where
  exP : Same P P'
  exH : Same H H'
  ph : Same P' H'
  pn : ∀ b, P' b ≠ none → P b ≠ none ∨ H b = none
  new : ∀ b, S b → H b = none ∧ H' b ≠ none ∧ P' b = none
  kd : ∀ b o, S b → H' b = some o → ownK o = true
def nobody : Ad := fun _ => False
section
variable {G : Glb} {P H P' H' P1 H1 : Hp} {F F1 : Nat → Ad} {σ : L2.St} {ρ : Rho} {S S1 : Ad} {v : V} {w : Vl} {p : Addr} {o : HO}
theorem Alc.refl (e : Same P H) : Alc P H P H nobody := ⟨Same.refl P, Same.refl H, e, fun _ h => .inl h, fun _ h => h.elim, fun _ _ h => h.elim⟩
theorem same_upd (h : H p = none) : Same H (upd H p o) := fun b u e => by rw [upd_ne (ne_of_none e h)]; exact e
theorem same_none (e : Same P H) (h : H p = none) : P p = none := e.free h
/-- a new frozen object -/
theorem Alc.tup (e : Same P H) (h : H p = none) : Alc P H (upd P p o) (upd H p o) nobody := by
  refine ⟨same_upd (same_none e h), same_upd h, fun b u q => ?_, fun b q => ?_, fun _ h => h.elim, fun _ _ h => h.elim⟩
  · by_cases hb : b = p
    · subst hb; rw [upd_same] at q ⊢; exact q
    · rw [upd_ne hb] at q ⊢; exact e b u q
  · by_cases hb : b = p
    · subst hb; exact .inr h
    · rw [upd_ne hb] at q; exact .inl q
/-- a new owned object -/
theorem Alc.own (e : Same P H) (h : H p = none) (ho : ownK o = true := by rfl) : Alc P H P (upd H p o) (fun b => b = p) := by
  refine ⟨Same.refl P, same_upd h, e.trans (same_upd h), fun _ q => .inl q, fun b q => ?_, fun b u q e => ?_⟩
  · subst q
    exact ⟨h, by rw [upd_same]; exact (fun z => nomatch z), same_none e h⟩
  · subst q
    rw [upd_same] at e
    cases e
    exact ho
theorem Alc.now (a : Alc P H P' H' S) (n : Now G P H σ ρ F) : Now G P' H' σ ρ F := by
  refine ⟨a.ph, n.dj, fun i b h => ?_, fun i b h => ?_, fun i w h => ?_, fun i b u h e => ?_⟩
  · refine Classical.byContradiction fun q => ?_
    rcases a.pn b q with z | z
    · exact z (n.np i b h)
    · exact n.al i b h z
  · obtain ⟨o, e⟩ := Option.ne_none_iff_exists'.mp (n.al i b h)
    rw [a.exH b o e]; exact fun z => nomatch z
  · obtain ⟨v, h1, h2⟩ := n.rd i w h
    exact ⟨v, h1, h2.mono a.exP (fun b o _ e => a.exH b o e) fun _ z => z⟩
  · obtain ⟨o, e'⟩ := Option.ne_none_iff_exists'.mp (n.al i b h)
    rw [a.exH b o e'] at e
    cases e
    exact n.kd i b _ h e'
theorem Alc.stp (a : Alc P H P' H' S) : Stp P H F P' H' F := by
  refine ⟨a.exP, fun b o e _ => a.exH b o e, fun i b h => .inl ⟨i, h⟩, fun b h => ?_, fun b h => ?_⟩
  · rcases a.pn b h with z | z
    · exact .inl z
    · exact .inr (.inr z)
  · obtain ⟨o, e⟩ := Option.ne_none_iff_exists'.mp h
    rw [a.exH b o e]; exact fun z => nomatch z
theorem Alc.tmp (a : Alc P H P' H' S) (n : Now G P H σ ρ F) (o : Ow G P' H' S v w) : Tmp G P' H' F S v w :=
  ⟨o, fun b h => (a.new b h).2.2, fun b h => (a.new b h).2.1, fun b h i q => n.al i b q (a.new b h).1, a.kd⟩
end

/-! ### operands -/
def look (ρ : Rho) : Opd → Option Vl
  | .val w => some w
  | .brw i => (ρ[i]?).join
def Has (G : Glb) (P H : Hp) (F : Nat → Ad) (σ : L2.St) (S : Ad) (v : V) : Opd → Prop
  | .val w => Tmp G P H F S v w
  | .brw i => σ[i]? = some (some v)
/-- a view: the value is held, by whomever -/
def OwE (G : Glb) (P H : Hp) (v : V) (w : Vl) : Prop := ∃ S, Ow G P H S v w
section
variable {G : Glb} {P H P1 H1 : Hp} {F F1 : Nat → Ad} {σ : L2.St} {ρ : Rho} {S : Ad} {v : V} {o : Opd} {w : Vl}
theorem Has.step (h : Has G P H F σ S v o) (s : Stp P H F P1 H1 F1) : Has G P1 H1 F1 σ S v o := by
  cases o with
  | val w => exact Tmp.step h s
  | brw i => exact h
theorem Has.look (h : Has G P H F σ S v o) (n : Now G P H σ ρ F) (e : look ρ o = some w) : OwE G P H v w := by
  cases o with
  | val w' =>
    have e' : w' = w := Option.some.inj e
    subst e'
    exact ⟨S, h.ow⟩
  | brw i =>
    have e' : (ρ[i]?).join = some w := e
    have e2 : ρ[i]? = some (some w) := by
      cases q : ρ[i]? with
      | none => rw [q] at e'; cases e'
      | some x => rw [q] at e'; have : x = some w := e'; rw [this]
    obtain ⟨v', h1, h2⟩ := n.rd i w e2
    have h3 : σ[i]? = some (some v) := h
    rw [h3] at h1
    have e3 : v = v' := by simpa using h1
    subst e3
    exact ⟨F i, h2⟩
end

/-! ### what an evaluator promises -/
def EndO (G : Glb) (W : WX) (P H : Hp) (F : Nat → Ad) (σ : L2.St) (Q : VK) : Out Opd → Prop
  | .ok o ρ' => ∀ v P' H' F' S, Now G P' H' σ ρ' F' → Stp P H F P' H' F' → Has G P' H' F' σ S v o → (∀ b, S b → (∃ i, F i b) ∨ H b = none) → Q v H'
  | .exc c ρ' => ∀ P' H' F', Now G P' H' σ ρ' F' → Stp P H F P' H' F' → W (.ref (G.ea c)) none σ H'
  | .stk => False
def tE (G : Glb) (W : WX) (f : FE) : TE := fun σ H Q => ∃ ρ P F, Now G P H σ ρ F ∧ EndO G W P H F σ Q (f ρ)
abbrev FT := Rho → Out Bool
def EndT (G : Glb) (W : WX) (P H : Hp) (F : Nat → Ad) (σ : L2.St) (Q : Bool → Hp → Prop) : Out Bool → Prop
  | .ok b ρ' => ∀ P' H' F', Now G P' H' σ ρ' F' → Stp P H F P' H' F' → Q b H'
  | .exc c ρ' => ∀ P' H' F', Now G P' H' σ ρ' F' → Stp P H F P' H' F' → W (.ref (G.ea c)) none σ H'
  | .stk => False
def tT (G : Glb) (W : WX) (f : FT) : TT := fun σ H Q => ∃ ρ P F, Now G P H σ ρ F ∧ EndT G W P H F σ Q (f ρ)
abbrev FA := Rho → Out (List Opd)
/-- the operands of a list, one's own things apart from the others' -/
def HasL (G : Glb) (P H : Hp) (F : Nat → Ad) (σ : L2.St) : Ad → List V → List Opd → Prop
  | _, [], [] => True
  | S, v :: vs, o :: os => ∃ S1 S2, Has G P H F σ S1 v o ∧ HasL G P H F σ S2 vs os ∧ (∀ b, S1 b → S b ∧ ¬ S2 b) ∧ ∀ b, S2 b → S b
  | _, _, _ => False
def EndA (G : Glb) (W : WX) (P H : Hp) (F : Nat → Ad) (σ : L2.St) (Q : List V → Hp → Prop) : Out (List Opd) → Prop
  | .ok os ρ' => ∀ vs P' H' F' S, Now G P' H' σ ρ' F' → Stp P H F P' H' F' → HasL G P' H' F' σ S vs os → (∀ b, S b → (P' b = none ∧ H' b ≠ none ∧ ∀ i, ¬ F' i b) ∧ ((∃ i, F i b) ∨ H b = none)) → Q vs H'
  | .exc c ρ' => ∀ P' H' F', Now G P' H' σ ρ' F' → Stp P H F P' H' F' → W (.ref (G.ea c)) none σ H'
  | .stk => False
def tA (G : Glb) (W : WX) (f : FA) : TA := fun σ H Q => ∃ ρ P F, Now G P H σ ρ F ∧ EndA G W P H F σ Q (f ρ)

theorem PE.imp {X : Cx} {e : Expr} {t t' : TE} (h : PE X e t) (i : ∀ σ H Q, t' σ H Q → t σ H Q) : PE X e t' := ⟨fun pins s σ H Q I q => h.run pins s σ H Q I (i σ H Q q)⟩
theorem PT.imp {X : Cx} {e : Expr} {t t' : TT} (h : PT X e t) (i : ∀ σ H Q, t' σ H Q → t σ H Q) : PT X e t' := ⟨fun pins s σ H Q I q => h.run pins s σ H Q I (i σ H Q q)⟩
theorem PA.imp {X : Cx} {e : List Expr} {t t' : TA} (h : PA X e t) (i : ∀ σ H Q, t' σ H Q → t σ H Q) : PA X e t' := ⟨fun pos pins s σ H Q I q => h.run pos pins s σ H Q I (i σ H Q q)⟩

section
variable {G : Glb} {W : WX} {P H P1 H1 : Hp} {F F1 : Nat → Ad} {σ : L2.St} {ρ : Rho} {S : Ad} {v : V} {o : Opd} {w : Vl}
theorem HasL.step (s : Stp P H F P1 H1 F1) : ∀ {vs : List V} {os : List Opd} {S : Ad}, HasL G P H F σ S vs os → HasL G P1 H1 F1 σ S vs os
  | [], [], _, _ => trivial
  | v :: vs, o :: os, _, ⟨S1, S2, h1, h2, h3, h4⟩ => ⟨S1, S2, h1.step s, HasL.step s h2, h3, h4⟩
  | [], _ :: _, _, h => h.elim
  | _ :: _, [], _, h => h.elim
theorem EndO.trans {Q : VK} {r : Out Opd} (s : Stp P H F P1 H1 F1) (h : EndO G W P H F σ Q r) : EndO G W P1 H1 F1 σ Q r := by
  cases r with
  | ok o ρ' =>
    intro v P' H' F' S n t hs hq
    refine h v P' H' F' S n (s.trans t) hs fun b hb => ?_
    rcases hq b hb with ⟨i, hi⟩ | z
    · exact s.sub i b hi
    · exact .inr (Classical.byContradiction fun q => s.al b q z)
  | exc c ρ' => exact fun P' H' F' n t => h P' H' F' n (s.trans t)
  | stk => exact h
theorem EndT.trans {Q : Bool → Hp → Prop} {r : Out Bool} (s : Stp P H F P1 H1 F1) (h : EndT G W P H F σ Q r) : EndT G W P1 H1 F1 σ Q r := by
  cases r with
  | ok o ρ' => exact fun P' H' F' n t => h P' H' F' n (s.trans t)
  | exc c ρ' => exact fun P' H' F' n t => h P' H' F' n (s.trans t)
  | stk => exact h
theorem EndA.trans {Q : List V → Hp → Prop} {r : Out (List Opd)} (s : Stp P H F P1 H1 F1) (h : EndA G W P H F σ Q r) : EndA G W P1 H1 F1 σ Q r := by
  cases r with
  | ok o ρ' =>
    intro v P' H' F' S n t hs hq
    refine h v P' H' F' S n (s.trans t) hs fun b hb => ⟨(hq b hb).1, ?_⟩
    rcases (hq b hb).2 with ⟨i, hi⟩ | z
    · exact s.sub i b hi
    · exact .inr (Classical.byContradiction fun q => s.al b q z)
  | exc c ρ' => exact fun P' H' F' n t => h P' H' F' n (s.trans t)
  | stk => exact h
end

/-! ### sequencing -/
def Out.bind {α β : Type} (x : Out α) (k : α → Rho → Out β) : Out β :=
  match x with
  | .ok a ρ => k a ρ
  | .exc c ρ => .exc c ρ
  | .stk => .stk
/-- a plain result -/
def ret (ρ : Rho) : Option Vl → Out Opd
  | some w => .ok (.val w) ρ
  | none => .stk

section
variable {G : Glb} {W : WX} {P H P1 H1 : Hp} {F F1 : Nat → Ad} {σ : L2.St} {ρ : Rho} {S : Ad} {v : V} {o : Opd} {w : Vl} {f : FE}
/-- first f, then what k says -/
theorem tE_bind {Q : VK} {β : Type} {k : Opd → Rho → Out β} {End : Hp → Hp → (Nat → Ad) → Out β → Prop} (n : Now G P H σ ρ F) (hE : End P H F ((f ρ).bind k))
    (hx : ∀ c ρ', End P H F (.exc c ρ') → ∀ P' H' F', Now G P' H' σ ρ' F' → Stp P H F P' H' F' → W (.ref (G.ea c)) none σ H') (hs : ¬ End P H F .stk)
    (h : ∀ o ρ1 v P1 H1 F1 S, f ρ = .ok o ρ1 → End P H F (k o ρ1) → Now G P1 H1 σ ρ1 F1 → Stp P H F P1 H1 F1 → Has G P1 H1 F1 σ S v o → (∀ b, S b → (∃ i, F i b) ∨ H b = none) → Q v H1) : tE G W f σ H Q := by
  refine ⟨ρ, P, F, n, ?_⟩
  cases e : f ρ with
  | ok o ρ1 =>
    rw [e] at hE
    exact fun v P1 H1 F1 S n1 s1 h1 q1 => h o ρ1 v P1 H1 F1 S e hE n1 s1 h1 q1
  | exc c ρ' =>
    rw [e] at hE
    exact hx c ρ' hE
  | stk =>
    rw [e] at hE
    exact (hs hE).elim
theorem endO_val {Q : VK} {r : Option Vl} (h : EndO G W P H F σ Q (ret ρ r)) : ∃ w, r = some w ∧ EndO G W P H F σ Q (.ok (.val w) ρ) := by
  cases r with
  | none => exact h.elim
  | some w => exact ⟨w, rfl, h⟩
/-- a result that is made of new things alone -/
theorem EndO.alc {Q : VK} {P' H' : Hp} (h : EndO G W P H F σ Q (.ok (.val w) ρ)) (n : Now G P H σ ρ F) (a : Alc P H P' H' S) (o : Ow G P' H' S v w) : Q v H' :=
  h v P' H' F S (a.now n) a.stp (a.tmp n o) fun b hb => .inr (a.new b hb).1
theorem EndO.same {Q : VK} (h : EndO G W P H F σ Q (.ok (.val w) ρ)) (n : Now G P H σ ρ F) (o : Ow G P H nobody v w) : Q v H := h.alc n (Alc.refl n.ex) o
end

/-! ### operators by views -/
/-- r answers what g says of what the operands hold -/
def OpOk (G : Glb) (r : R2) (g : Vl → Vl → Option Vl) : Prop :=
  ∀ (P H : Hp) (x y : V) (a b w : Vl) (Q : VK), Same P H → OwE G P H x a → OwE G P H y b → g a b = some w → (∀ v P' H' S, Alc P H P' H' S → Ow G P' H' S v w → Q v H') → r x y H Q
def bin (g : Vl → Vl → Option Vl) (fa fb : FE) : FE := fun ρ => (fa ρ).bind fun x ρ1 => (fb ρ1).bind fun y ρ2 => ret ρ2 ((look ρ2 x).bind fun a => (look ρ2 y).bind fun b => g a b)
theorem bin_ok {G : Glb} {W : WX} {r : R2} {g : Vl → Vl → Option Vl} (ok : OpOk G r g) {fa fb : FE} {σ : L2.St} {H : Hp} {Q : VK} (h : tE G W (bin g fa fb) σ H Q) : tOp r (tE G W fa) (tE G W fb) σ H Q := by
  obtain ⟨ρ, P, F, n, h⟩ := h
  refine tE_bind (End := fun P H F => EndO G W P H F σ Q) n h (fun _ _ z => z) (fun z => z) fun x ρ1 vx P1 H1 F1 S1 e1 h1 n1 s1 hx q1 => ?_
  refine tE_bind (End := fun P H F => EndO G W P H F σ Q) n1 (EndO.trans s1 h1) (fun _ _ z => z) (fun z => z) fun y ρ2 vy P2 H2 F2 S2 e2 h2 n2 s2 hy q2 => ?_
  have h2 := EndO.trans s2 h2
  obtain ⟨w, hw, h2⟩ := endO_val h2
  cases ea : look ρ2 x with
  | none => rw [ea] at hw; cases hw
  | some a =>
    cases eb : look ρ2 y with
    | none => rw [ea, eb] at hw; cases hw
    | some b =>
      rw [ea, eb] at hw
      have hx' := (hx.step s2).look n2 ea
      have hy' := hy.look n2 eb
      exact ok P2 H2 vx vy a b w Q n2.ex hx' hy' hw fun v P' H' S a o => h2.alc n2 a o
def UnOk (G : Glb) (r : V → Hp → VK → Prop) (g : Vl → Option Vl) : Prop :=
  ∀ (P H : Hp) (x : V) (a w : Vl) (Q : VK), Same P H → OwE G P H x a → g a = some w → (∀ v P' H' S, Alc P H P' H' S → Ow G P' H' S v w → Q v H') → r x H Q
def una (g : Vl → Option Vl) (fa : FE) : FE := fun ρ => (fa ρ).bind fun x ρ1 => ret ρ1 ((look ρ1 x).bind g)
theorem una_ok {G : Glb} {W : WX} {r : V → Hp → VK → Prop} {g : Vl → Option Vl} (ok : UnOk G r g) {fa : FE} {σ : L2.St} {H : Hp} {Q : VK} (h : tE G W (una g fa) σ H Q) : tE G W fa σ H (fun x H1 => r x H1 Q) := by
  obtain ⟨ρ, P, F, n, h⟩ := h
  refine tE_bind (End := fun P H F => EndO G W P H F σ Q) n h (fun _ _ z => z) (fun z => z) fun x ρ1 vx P1 H1 F1 S1 e1 h1 n1 s1 hx q1 => ?_
  obtain ⟨w, hw, h2⟩ := endO_val (EndO.trans s1 h1)
  cases ea : look ρ1 x with
  | none => rw [ea] at hw; cases hw
  | some a =>
    rw [ea] at hw
    exact ok P1 H1 vx a w Q n1.ex (hx.look n1 ea) hw fun v P' H' S a o => h2.alc n1 a o

/-! ### arguments -/
def aNil : FA := fun ρ => .ok [] ρ
def aCons (f : FE) (g : FA) : FA := fun ρ => (f ρ).bind fun x ρ1 => (g ρ1).bind fun xs ρ2 => .ok (x :: xs) ρ2
theorem pa_nilV {X : Cx} {G : Glb} {W : WX} : PA X [] (tA G W aNil) := PA.imp pa_nil fun σ H Q h => by
  obtain ⟨ρ, P, F, n, h⟩ := h
  exact h [] P H F nobody n Stp.refl trivial fun b z => z.elim
theorem pa_consV {X : Cx} {G : Glb} {W : WX} {e : Expr} {es : List Expr} {f : FE} {g : FA} (he : PE X e (tE G W f)) (hr : PA X es (tA G W g)) (hs : starEach (e :: es) X.env = (false, eval e X.env) :: starEach es X.env := by rfl) : PA X (e :: es) (tA G W (aCons f g)) := PA.imp (pa_cons he hr hs) fun σ H Q h => by
  obtain ⟨ρ, P, F, n, h⟩ := h
  refine tE_bind (End := fun P H F => EndA G W P H F σ Q) n h (fun _ _ z => z) (fun z => z) fun x ρ1 vx P1 H1 F1 S1 e1 h1 n1 s1 hx q1 => ?_
  refine ⟨ρ1, P1, F1, n1, ?_⟩
  cases e : g ρ1 with
  | stk => rw [e] at h1; exact h1.elim
  | exc c ρ2 =>
    rw [e] at h1
    exact fun P2 H2 F2 n2 s2 => h1 P2 H2 F2 n2 (s1.trans s2)
  | ok xs ρ2 =>
    rw [e] at h1
    intro vs P2 H2 F2 S2 n2 s2 hs2 q2
    have hx2 := hx.step s2
    have back : ∀ b, S2 b → (∃ i, F i b) ∨ H b = none := fun b hb => by
      rcases (q2 b hb).2 with ⟨i, hi⟩ | z
      · exact s1.sub i b hi
      · exact .inr (Classical.byContradiction fun q => s1.al b q z)
    cases x with
    | val w =>
      have t2 : Tmp G P2 H2 F2 S1 vx w := hx2
      have t1 : Tmp G P1 H1 F1 S1 vx w := hx
      refine h1 (vx :: vs) P2 H2 F2 (fun b => S1 b ∨ S2 b) n2 (s1.trans s2) ⟨S1, S2, hx2, hs2, fun b hb => ⟨.inl hb, fun z => ?_⟩, fun b hb => .inr hb⟩ fun b hb => ?_
      · rcases (q2 b z).2 with ⟨i, hi⟩ | y
        · exact t1.dj b hb i hi
        · exact t1.al b hb y
      · rcases hb with hb | hb
        · exact ⟨⟨t2.np b hb, t2.al b hb, t2.dj b hb⟩, q1 b hb⟩
        · exact ⟨(q2 b hb).1, back b hb⟩
    | brw i =>
      exact h1 (vx :: vs) P2 H2 F2 S2 n2 (s1.trans s2) ⟨nobody, S2, hx2, hs2, fun b hb => hb.elim, fun b hb => hb⟩ fun b hb => ⟨(q2 b hb).1, back b hb⟩
end Mi
end
section
set_option Elab.async false
set_option linter.all false
set_option maxRecDepth 100000
/-! Ev3: constants, slots, operators on data -/
namespace Mi
open PySem L2

noncomputable def gd (p : Prop) (x : Vl) : Option Vl := by classical exact if p then some x else none
theorem gd_pos {p : Prop} {x : Vl} (h : p) : gd p x = some x := by unfold gd; exact if_pos h
theorem gd_some {p : Prop} {x w : Vl} (h : gd p x = some w) : p ∧ x = w := by
  unfold gd at h
  by_cases q : p
  · rw [if_pos q] at h; exact ⟨q, Option.some.inj h⟩
  · rw [if_neg q] at h; cases h
abbrev vI (i : Int) : Vl := .dat (.int i)
abbrev vB (b : Bool) : Vl := .dat (.bool b)

/-! ### slots, constants -/
def fV (i : Nat) : FE := fun ρ => match (ρ[i]?).join with
  | some (.dat d) => .ok (.val (.dat d)) ρ
  | some _ => .ok (.brw i) ρ
  | none => .stk
def fC (d : PyData) : FE := fun ρ => .ok (.val (.dat d)) ρ
section
variable {X : Cx} {W : WX} {G : Glb} {P H : Hp} {F : Nat → Ad} {σ : L2.St} {ρ : Rho} {Q : VK}
theorem join_some {ρ : Rho} {i : Nat} {w : Vl} (h : (ρ[i]?).join = some w) : ρ[i]? = some (some w) := by
  cases q : ρ[i]? with
  | none => rw [q] at h; cases h
  | some x => rw [q] at h; have : x = some w := h; rw [this]
theorem EndO.datum {d : PyData} {v : V} (n : Now G P H σ ρ F) (h : EndO G W P H F σ Q (.ok (.val (.dat d)) ρ)) (r : Dp G.K P v d) : Q v H :=
  h v P H F nobody n Stp.refl ⟨r, fun _ z => z.elim, fun _ z => z.elim, fun _ z => z.elim, fun _ _ z => z.elim⟩ fun _ z => z.elim
theorem pv_V {i : Nat} {x : Str} {pos : Pos} (hN : X.N[i]? = some x := by rfl) (hv : Vis X.env.scope x := by first | exact Or.inl rfl | exact Or.inr (Or.inl rfl) | exact Or.inr (Or.inr rfl))
    (hd : (x == ("__debug__" : Str)) = false := by decide) (hcd : (x == ("__classdict__" : Str)) = false := by decide) : PE X (.Name x pos) (tE G W (fV i)) := PE.imp (pe_var hN hv hd hcd) fun σ H Q h => by
  obtain ⟨ρ, P, F, n, h⟩ := h
  unfold fV at h
  cases e : (ρ[i]?).join with
  | none => rw [e] at h; exact h.elim
  | some w =>
    obtain ⟨v, h1, h2⟩ := n.rd i w (join_some e)
    refine ⟨v, h1, ?_⟩
    rw [e] at h
    cases w with
    | dat d => exact h.datum n h2
    | ml ds => exact h v P H F nobody n Stp.refl h1 fun _ z => z.elim
    | mml ds => exact h v P H F nobody n Stp.refl h1 fun _ z => z.elim
    | ob c fs => exact h v P H F nobody n Stp.refl h1 fun _ z => z.elim
    | st ns => exact h v P H F nobody n Stp.refl h1 fun _ z => z.elim
theorem pc_datum {e : Expr} {v : V} {d : PyData} (he : PE X e (tC v)) (r : ∀ P : Hp, Dp G.K P v d) : PE X e (tE G W (fC d)) := PE.imp he fun σ H Q h => by
  obtain ⟨ρ, P, F, n, h⟩ := h
  exact h.datum n (r P)
theorem pc_int {i j pos} : PE X (.Constant (.int i) j pos) (tE G W (fC (.int i))) := pc_datum pe_int fun _ => .int _
theorem pc_bl {b j pos} : PE X (.Constant (.bool b) j pos) (tE G W (fC (.bool b))) := pc_datum pe_bl fun _ => .bl _
theorem pc_non {j pos} : PE X (.Constant .none j pos) (tE G W (fC .none)) := pc_datum pe_non fun _ => .non
theorem pc_str {x j pos} : PE X (.Constant (.str x) j pos) (tE G W (fC (.str x))) := pc_datum pe_str fun _ => .str _
/-- a constant of the module -/
theorem pc_glob {x : Str} {v : V} {u : Value} {d : PyData} {pos : Pos} (hg : Gl X x) (hm : X.mg x = some u) (r : RelV v u) (rd : ∀ P : Hp, Dp G.K P v d) (hd : (x == ("__debug__" : Str)) = false := by decide) : PE X (.Name x pos) (tE G W (fC d)) :=
  pc_datum (pe_glob hg hm r hd) rd
end

/-! ### ints -/
noncomputable def iop (C : Int → Int → Prop) (g : Int → Int → PyData) : Vl → Vl → Option Vl
  | .dat (.int i), .dat (.int j) => gd (C i j) (.dat (g i j))
  | _, _ => none
section
variable {G : Glb} {P H : Hp} {v : V}
theorem ow_int {i : Int} (h : OwE G P H v (.dat (.int i))) : v = .int i := by
  obtain ⟨S, h⟩ := h
  have h : Dp G.K P v (.int i) := h
  cases h; rfl
theorem ow_bool {i : Bool} (h : OwE G P H v (.dat (.bool i))) : v = .bl i := by
  obtain ⟨S, h⟩ := h
  have h : Dp G.K P v (.bool i) := h
  cases h; rfl
theorem ow_str {i : Str} (h : OwE G P H v (.dat (.str i))) : v = .str i := by
  obtain ⟨S, h⟩ := h
  have h : Dp G.K P v (.str i) := h
  cases h; rfl
theorem ow_non (h : OwE G P H v (.dat .none)) : v = .non := by
  obtain ⟨S, h⟩ := h
  have h : Dp G.K P v .none := h
  cases h; rfl
theorem okI {C : Int → Int → Prop} {g : Int → Int → V} {d : Int → Int → PyData} (r : ∀ (K : PySem.W.Frag) (P : Hp) i j, Dp K P (g i j) (d i j)) : OpOk G (rI C g) (iop C d) := by
  intro P H x y a b w Q e hx hy hw k
  unfold iop at hw
  split at hw
  · rename_i i j
    obtain ⟨hc, rfl⟩ := gd_some hw
    rw [ow_int hx, ow_int hy]
    exact ⟨i, j, rfl, rfl, hc, k _ P H nobody (Alc.refl e) (r _ _ i j)⟩
  · cases hw
abbrev tt2 : Int → Int → Prop := fun _ _ => True
theorem okI0 {g : Int → Int → V} {d : Int → Int → PyData} (r : ∀ (K : PySem.W.Frag) (P : Hp) i j, Dp K P (g i j) (d i j)) : OpOk G (rI0 g) (iop tt2 d) := by
  intro P H x y a b w Q e hx hy hw k
  unfold iop at hw
  split at hw
  · rename_i i j
    obtain ⟨hc, rfl⟩ := gd_some hw
    rw [ow_int hx, ow_int hy]
    exact ⟨i, j, rfl, rfl, k _ P H nobody (Alc.refl e) (r _ _ i j)⟩
  · cases hw
theorem okOr1 {r r' : R2} {g : Vl → Vl → Option Vl} (h : OpOk G r g) : OpOk G (fun x y H Q => r x y H Q ∨ r' x y H Q) g := fun P H x y a b w Q e hx hy hw k => .inl (h P H x y a b w Q e hx hy hw k)
def orG (g g' : Vl → Vl → Option Vl) : Vl → Vl → Option Vl := fun a b => match g a b with
  | some w => some w
  | none => g' a b
theorem okOr {r r' : R2} {g g' : Vl → Vl → Option Vl} (h : OpOk G r g) (h' : OpOk G r' g') : OpOk G (fun x y H Q => r x y H Q ∨ r' x y H Q) (orG g g') := fun P H x y a b w Q e hx hy hw k => by
  unfold orG at hw
  cases q : g a b with
  | some w' => rw [q] at hw; cases hw; exact .inl (h P H x y a b w Q e hx hy q k)
  | none => rw [q] at hw; exact .inr (h' P H x y a b w Q e hx hy hw k)
end
theorem OpR.or {X : Cx} {f : Value → Value → Sem Value} {r r' : R2} (h : OpR X f r) (h' : OpR X f r') : OpR X f (fun x y H Q => r x y H Q ∨ r' x y H Q) := by
  intro pins s σ H x y v u Q I rx ry q
  rcases q with q | q
  · exact h pins s σ H x y v u Q I rx ry q
  · exact h' pins s σ H x y v u Q I rx ry q

noncomputable def gSub := iop tt2 fun i j => .int (i - j)
noncomputable def gFDiv := iop CDiv fun i j => .int (i / j)
noncomputable def gMod := iop (fun _ j => 0 < j) fun i j => .int (i % j)
noncomputable def gPow := iop CPow fun i j => .int (i ^ j.toNat)
noncomputable def gShl := iop CPow fun i j => .int (i * 2 ^ j.toNat)
noncomputable def gShr := iop (fun _ j => 0 ≤ j) fun i j => .int (i / 2 ^ j.toNat)
noncomputable def gAnd := iop tt2 fun i j => .int (Builtin.bitAnd i j)
noncomputable def gOr := iop tt2 fun i j => .int (Builtin.bitOr i j)
noncomputable def gXor := iop tt2 fun i j => .int (Builtin.bitXor i j)
noncomputable def gLt := iop tt2 fun i j => .bool (decide (i < j))
noncomputable def gLe := iop tt2 fun i j => .bool (decide (i ≤ j))
noncomputable def gGt := iop tt2 fun i j => .bool (decide (j < i))
noncomputable def gGe := iop tt2 fun i j => .bool (decide (j ≤ i))

section
variable {X : Cx} {W : WX} {G : Glb} {a b : Expr} {fa fb : FE} {pos : Pos}
theorem pe_binV {op : Operator} {r : R2} {g : Vl → Vl → Option Vl} (ho : OpR X (binaryOp op) r) (ok : OpOk G r g) (ha : PE X a (tE G W fa)) (hb : PE X b (tE G W fb)) : PE X (.BinOp a op b pos) (tE G W (bin g fa fb)) :=
  PE.imp (pe_op ho ha hb) fun _ _ _ h => bin_ok ok h
theorem pe_cmpV {op : CmpOp} {r : R2} {g : Vl → Vl → Option Vl} (ho : OpR X (compareOp op) r) (ok : OpOk G r g) (ha : PE X a (tE G W fa)) (hb : PE X b (tE G W fb)) (hm : behindInMarks op b = false := by rfl) : PE X (.Compare a [op] [b] pos) (tE G W (bin g fa fb)) :=
  PE.imp (pe_cmpR ho ha hb hm) fun _ _ _ h => bin_ok ok h
theorem e_sub (ha : PE X a (tE G W fa)) (hb : PE X b (tE G W fb)) : PE X (.BinOp a .Sub b pos) (tE G W (bin gSub fa fb)) := pe_binV op_sub (okI0 fun _ _ _ _ => .int _) ha hb
theorem e_fdiv (ha : PE X a (tE G W fa)) (hb : PE X b (tE G W fb)) : PE X (.BinOp a .FloorDiv b pos) (tE G W (bin gFDiv fa fb)) := pe_binV op_fdiv (okI fun _ _ _ _ => .int _) ha hb
theorem e_mod (ha : PE X a (tE G W fa)) (hb : PE X b (tE G W fb)) : PE X (.BinOp a .Mod b pos) (tE G W (bin gMod fa fb)) := pe_binV op_mod (okI fun _ _ _ _ => .int _) ha hb
theorem e_pow (ha : PE X a (tE G W fa)) (hb : PE X b (tE G W fb)) : PE X (.BinOp a .Pow b pos) (tE G W (bin gPow fa fb)) := pe_binV op_pow (okI fun _ _ _ _ => .int _) ha hb
theorem e_shl (ha : PE X a (tE G W fa)) (hb : PE X b (tE G W fb)) : PE X (.BinOp a .LShift b pos) (tE G W (bin gShl fa fb)) := pe_binV op_shl (okI fun _ _ _ _ => .int _) ha hb
theorem e_shr (ha : PE X a (tE G W fa)) (hb : PE X b (tE G W fb)) : PE X (.BinOp a .RShift b pos) (tE G W (bin gShr fa fb)) := pe_binV op_shr (okI fun _ _ _ _ => .int _) ha hb
theorem e_and (ha : PE X a (tE G W fa)) (hb : PE X b (tE G W fb)) : PE X (.BinOp a .BitAnd b pos) (tE G W (bin gAnd fa fb)) := pe_binV op_and (okI0 fun _ _ _ _ => .int _) ha hb
theorem e_or (ha : PE X a (tE G W fa)) (hb : PE X b (tE G W fb)) : PE X (.BinOp a .BitOr b pos) (tE G W (bin gOr fa fb)) := pe_binV op_or (okI0 fun _ _ _ _ => .int _) ha hb
theorem e_xor (ha : PE X a (tE G W fa)) (hb : PE X b (tE G W fb)) : PE X (.BinOp a .BitXor b pos) (tE G W (bin gXor fa fb)) := pe_binV op_xor (okI0 fun _ _ _ _ => .int _) ha hb
theorem e_lt (ha : PE X a (tE G W fa)) (hb : PE X b (tE G W fb)) : PE X (.Compare a [.Lt] [b] pos) (tE G W (bin gLt fa fb)) := pe_cmpV op_lt (okI0 fun _ _ _ _ => .bl _) ha hb (nomark _)
theorem e_le (ha : PE X a (tE G W fa)) (hb : PE X b (tE G W fb)) : PE X (.Compare a [.LtE] [b] pos) (tE G W (bin gLe fa fb)) := pe_cmpV op_le (okI0 fun _ _ _ _ => .bl _) ha hb (nomark _)
theorem e_gt (ha : PE X a (tE G W fa)) (hb : PE X b (tE G W fb)) : PE X (.Compare a [.Gt] [b] pos) (tE G W (bin gGt fa fb)) := pe_cmpV op_gt (okI0 fun _ _ _ _ => .bl _) ha hb (nomark _)
theorem e_ge (ha : PE X a (tE G W fa)) (hb : PE X b (tE G W fb)) : PE X (.Compare a [.GtE] [b] pos) (tE G W (bin gGe fa fb)) := pe_cmpV op_ge (okI0 fun _ _ _ _ => .bl _) ha hb (nomark _)
end

/-! ### data: views, ==, in -/
def viewD : Vl → Option PyData
  | .dat d => some d
  | .ml ds => some (.list ds)
  | .mml dss => some (.list (dss.map .list))
  | .ob _ _ => none
  | .st _ => none
def asL : Vl → Option (List PyData)
  | .dat (.list ds) => some ds
  | .ml ds => some ds
  | _ => none
def asT : Vl → Option (List PyData)
  | .dat (.tuple ds) => some ds
  | _ => none
section
variable {G : Glb} {P H : Hp} {v : V} {w : Vl} {d : PyData} {ds : List PyData}
theorem rows_dpa {S : Ad} (e : Same P H) : ∀ {as : List Addr} {dss : List (List PyData)}, Rows G P H S as dss → DpAll G.K H (as.map V.ref) (dss.map PyData.list)
  | [], [], _ => .nil
  | b :: as, ds :: dss, ⟨_, _, ⟨ys, h2, h3⟩, h4⟩ => .cons (.lst (SqL.of h2) (dpa_mono e _ _ h3)) (rows_dpa e h4)
  | [], _ :: _, h => h.elim
  | _ :: _, [], h => h.elim
theorem OwE.dp (h : OwE G P H v w) (e : Same P H) (hv : viewD w = some d) : Dp G.K H v d := by
  obtain ⟨S, h⟩ := h
  cases w with
  | dat d' => cases hv; exact dp_mono e _ _ h
  | ml ds => cases hv; obtain ⟨a, xs, rfl, _, h3, h4⟩ := h; exact .lst (SqL.of h3) (dpa_mono e _ _ h4)
  | mml dss => cases hv; obtain ⟨a, as, rfl, _, _, h4, h5⟩ := h; exact .lst (SqL.of h4) (rows_dpa e h5)
  | ob c fs => cases hv
  | st ns => cases hv
theorem OwE.lst (h : OwE G P H v w) (e : Same P H) (hv : asL w = some ds) : ∃ a xs, v = .ref a ∧ SqL G.K H a xs ∧ DpAll G.K P xs ds := by
  obtain ⟨S, h⟩ := h
  cases w with
  | dat d =>
    cases d with
    | list ds' =>
      cases hv
      have h : Dp G.K P v (.list ds) := h
      cases h with
      | lst hs ha => exact ⟨_, _, rfl, e.seq hs, ha⟩
    | _ => cases hv
  | ml ds => cases hv; obtain ⟨a, xs, rfl, _, h3, h4⟩ := h; exact ⟨a, xs, rfl, SqL.of h3, h4⟩
  | mml dss => cases hv
  | ob c fs => cases hv
  | st ns => cases hv
theorem OwE.tup (h : OwE G P H v w) (e : Same P H) (hv : asT w = some ds) : ∃ a xs, v = .ref a ∧ SqT G.K H a xs ∧ DpAll G.K P xs ds := by
  obtain ⟨S, h⟩ := h
  cases w with
  | dat d =>
    cases d with
    | tuple ds' =>
      cases hv
      have h : Dp G.K P v (.tuple ds) := h
      cases h with
      | tup hs ha => exact ⟨_, _, rfl, sqT_mono e hs, ha⟩
    | _ => cases hv
  | ml ds => cases hv
  | mml dss => cases hv
  | ob c fs => cases hv
  | st ns => cases hv
end
abbrev shp (d : PyData) : Prop := SeqAt.shaped d = true
noncomputable def gEqD (a b : Vl) : Option Vl := (viewD a).bind fun d => (viewD b).bind fun e => gd (shp d ∧ shp e) (vB (PyData.eqv d e))
noncomputable def gNeD (a b : Vl) : Option Vl := (viewD a).bind fun d => (viewD b).bind fun e => gd (shp d ∧ shp e) (vB (!PyData.eqv d e))
def gEqS : Vl → Vl → Option Vl
  | .dat (.str i), .dat (.str j) => some (vB (decide (i = j)))
  | _, _ => none
def gNeS : Vl → Vl → Option Vl
  | .dat (.str i), .dat (.str j) => some (vB (!decide (i = j)))
  | _, _ => none
noncomputable def gEq : Vl → Vl → Option Vl := orG gEqS gEqD
noncomputable def gNe : Vl → Vl → Option Vl := orG gNeS gNeD
noncomputable def gIn (a b : Vl) : Option Vl := (viewD a).bind fun d => (viewD b).bind fun e => match e with
  | .list ds => gd (shp d ∧ shp e) (vB (ds.any fun z => PyData.eqv z d))
  | .tuple ds => gd (shp d ∧ shp e) (vB (ds.any fun z => PyData.eqv z d))
  | _ => none
noncomputable def gNotIn (a b : Vl) : Option Vl := (viewD a).bind fun d => (viewD b).bind fun e => match e with
  | .list ds => gd (shp d ∧ shp e) (vB (!ds.any fun z => PyData.eqv z d))
  | .tuple ds => gd (shp d ∧ shp e) (vB (!ds.any fun z => PyData.eqv z d))
  | _ => none
def rInT (K : PySem.W.Frag) (neg : Bool) : R2 := fun x y H Q => ∃ d ds, Dp K H x d ∧ Dp K H y (.tuple ds) ∧ SeqAt.shaped d = true ∧ SeqAt.shaped (.tuple ds) = true ∧ Q (.bl (if neg then !ds.any (fun z => PyData.eqv z d) else ds.any fun z => PyData.eqv z d)) H
section
variable {X : Cx}
theorem op_inT (hu : X.A.units + 65 < cLine) : OpR X (compareOp .In) (rInT X.K false) := by
  intro pins s σ H x y v u Q I rx ry h
  obtain ⟨d, ds, hd, he, sd, se, q⟩ := h
  obtain ⟨as, r1⟩ := Dp.reads I d x v hd rx
  obtain ⟨bs, r2⟩ := Dp.reads I (.tuple ds) y u he ry
  exact SeqAt.in_tuple_reads r2 r1 (SeqAt.canLay_of_shaped se) (SeqAt.canLay_of_shaped sd) (PyProof.Rows.room_in_shaped sd hu) ⟨.bl _, H, I, rfl, q⟩
theorem op_notInT (hu : X.A.units + 65 < cLine) : OpR X (compareOp .NotIn) (rInT X.K true) := by
  intro pins s σ H x y v u Q I rx ry h
  obtain ⟨d, ds, hd, he, sd, se, q⟩ := h
  obtain ⟨as, r1⟩ := Dp.reads I d x v hd rx
  obtain ⟨bs, r2⟩ := Dp.reads I (.tuple ds) y u he ry
  exact SeqAt.notIn_tuple_reads r2 r1 (SeqAt.canLay_of_shaped se) (SeqAt.canLay_of_shaped sd) (PyProof.Rows.room_in_shaped sd hu) ⟨.bl _, H, I, rfl, q⟩
end
end Mi
end
section
set_option Elab.async false
set_option linter.all false
set_option maxRecDepth 100000
/-! Ev4: the context; ==, in, +, *, subscripts, slices; tests; displays; calls of built-ins -/
namespace Mi
open PySem L2

/-- what a rule may lean on -/
structure Cxt (G : Glb) (X : Cx) (W : WX) (k : Nat) : Prop where
  K : X.K = G.K
  calm : X.calm = true
  room : Room k X.A
  gd : X.A.guards = some []
  tk : L2N.Takes X W
  nd : X.N.Nodup
theorem Cxt.u65 {G : Glb} {X : Cx} {W : WX} {k : Nat} (c : Cxt G X W k) : X.A.units + 65 < cLine := by have := c.room.un; omega
theorem Cxt.u64 {G : Glb} {X : Cx} {W : WX} {k : Nat} (c : Cxt G X W k) : X.A.units + 64 < cLine := by have := c.room.un; omega

section
variable {X : Cx} {W : WX} {G : Glb} {k : Nat} {a b e : Expr} {fa fb f : FE} {pos : Pos} {K : PySem.W.Frag}
theorem okEqD (h : K = G.K) : OpOk G (rEqD K) gEqD := by
  subst h
  intro P H x y a b w Q e hx hy hw q
  unfold gEqD at hw
  cases ea : viewD a with
  | none => rw [ea] at hw; cases hw
  | some d =>
    cases eb : viewD b with
    | none => rw [ea, eb] at hw; cases hw
    | some d' =>
      rw [ea, eb] at hw
      obtain ⟨⟨h1, h2⟩, rfl⟩ := gd_some hw
      exact ⟨d, d', hx.dp e ea, hy.dp e eb, h1, h2, q _ P H nobody (Alc.refl e) (Dp.bl _)⟩
theorem okNeD (h : K = G.K) : OpOk G (rNeD K) gNeD := by
  subst h
  intro P H x y a b w Q e hx hy hw q
  unfold gNeD at hw
  cases ea : viewD a with
  | none => rw [ea] at hw; cases hw
  | some d =>
    cases eb : viewD b with
    | none => rw [ea, eb] at hw; cases hw
    | some d' =>
      rw [ea, eb] at hw
      obtain ⟨⟨h1, h2⟩, rfl⟩ := gd_some hw
      exact ⟨d, d', hx.dp e ea, hy.dp e eb, h1, h2, q _ P H nobody (Alc.refl e) (Dp.bl _)⟩
theorem okEqS : OpOk G rEq gEqS := by
  intro P H x y a b w Q e hx hy hw q
  unfold gEqS at hw
  split at hw
  · rename_i i j
    cases hw
    rw [ow_str hx, ow_str hy]
    refine ⟨rfl, ?_⟩
    rw [show decide (V.str i = V.str j) = decide (i = j) from by simp]
    exact q _ P H nobody (Alc.refl e) (Dp.bl _)
  · cases hw
theorem okNeS : OpOk G rNe gNeS := by
  intro P H x y a b w Q e hx hy hw q
  unfold gNeS at hw
  split at hw
  · rename_i i j
    cases hw
    rw [ow_str hx, ow_str hy]
    refine ⟨rfl, ?_⟩
    rw [show decide (V.str i = V.str j) = decide (i = j) from by simp]
    exact q _ P H nobody (Alc.refl e) (Dp.bl _)
  · cases hw
theorem okEq (h : K = G.K) : OpOk G (fun x y H Q => rEq x y H Q ∨ rEqD K x y H Q) gEq := okOr okEqS (okEqD h)
theorem okNe (h : K = G.K) : OpOk G (fun x y H Q => rNe x y H Q ∨ rNeD K x y H Q) gNe := okOr okNeS (okNeD h)
theorem okIn (h : K = G.K) : OpOk G (fun x y H Q => rInD K x y H Q ∨ rInT K false x y H Q) gIn := by
  subst h
  intro P H x y a b w Q e hx hy hw q
  unfold gIn at hw
  cases ea : viewD a with
  | none => rw [ea] at hw; cases hw
  | some d =>
    cases eb : viewD b with
    | none => rw [ea, eb] at hw; cases hw
    | some d' =>
      rw [ea, eb] at hw
      cases d' with
      | list ds =>
        obtain ⟨⟨h1, h2⟩, rfl⟩ := gd_some hw
        exact .inl ⟨d, ds, hx.dp e ea, hy.dp e eb, h1, h2, q _ P H nobody (Alc.refl e) (Dp.bl _)⟩
      | tuple ds =>
        obtain ⟨⟨h1, h2⟩, rfl⟩ := gd_some hw
        exact .inr ⟨d, ds, hx.dp e ea, hy.dp e eb, h1, h2, q _ P H nobody (Alc.refl e) (Dp.bl _)⟩
      | _ => cases hw
theorem okNotIn (h : K = G.K) : OpOk G (fun x y H Q => rNotInD K x y H Q ∨ rInT K true x y H Q) gNotIn := by
  subst h
  intro P H x y a b w Q e hx hy hw q
  unfold gNotIn at hw
  cases ea : viewD a with
  | none => rw [ea] at hw; cases hw
  | some d =>
    cases eb : viewD b with
    | none => rw [ea, eb] at hw; cases hw
    | some d' =>
      rw [ea, eb] at hw
      cases d' with
      | list ds =>
        obtain ⟨⟨h1, h2⟩, rfl⟩ := gd_some hw
        exact .inl ⟨d, ds, hx.dp e ea, hy.dp e eb, h1, h2, q _ P H nobody (Alc.refl e) (Dp.bl _)⟩
      | tuple ds =>
        obtain ⟨⟨h1, h2⟩, rfl⟩ := gd_some hw
        exact .inr ⟨d, ds, hx.dp e ea, hy.dp e eb, h1, h2, q _ P H nobody (Alc.refl e) (Dp.bl _)⟩
      | _ => cases hw
theorem e_eq (c : Cxt G X W k) (ha : PE X a (tE G W fa)) (hb : PE X b (tE G W fb)) : PE X (.Compare a [.Eq] [b] pos) (tE G W (bin gEq fa fb)) := pe_cmpV (OpR.or op_eq (op_eqD c.u64)) (okEq c.K) ha hb (nomark _)
theorem e_ne (c : Cxt G X W k) (ha : PE X a (tE G W fa)) (hb : PE X b (tE G W fb)) : PE X (.Compare a [.NotEq] [b] pos) (tE G W (bin gNe fa fb)) := pe_cmpV (OpR.or op_ne (op_neD c.u64)) (okNe c.K) ha hb (nomark _)
theorem e_in (c : Cxt G X W k) (ha : PE X a (tE G W fa)) (hb : PE X b (tE G W fb)) (hm : behindInMarks .In b = false := by rfl) : PE X (.Compare a [.In] [b] pos) (tE G W (bin gIn fa fb)) := pe_cmpV (OpR.or (op_inD c.u65) (op_inT c.u65)) (okIn c.K) ha hb hm
theorem e_notIn (c : Cxt G X W k) (ha : PE X a (tE G W fa)) (hb : PE X b (tE G W fb)) (hm : behindInMarks .NotIn b = false := by rfl) : PE X (.Compare a [.NotIn] [b] pos) (tE G W (bin gNotIn fa fb)) := pe_cmpV (OpR.or (op_notInD c.u65) (op_notInT c.u65)) (okNotIn c.K) ha hb hm

/-! ### is None -/
def gIsN (neg : Bool) (a b : Vl) : Option Vl := match b with
  | .dat .none => match a with
    | .dat .none => some (vB (if neg then false else true))
    | _ => some (vB (if neg then true else false))
  | _ => none
theorem ow_ne_non {P H : Hp} {v : V} {w : Vl} (h : OwE G P H v w) (n : w ≠ .dat .none) : v ≠ .non := by
  obtain ⟨S, h⟩ := h
  intro z
  subst z
  cases w with
  | dat d =>
    have h : Dp G.K P .non d := h
    cases h; exact n rfl
  | ml ds => obtain ⟨a, xs, z, _⟩ := h; cases z
  | mml ds => obtain ⟨a, xs, z, _⟩ := h; cases z
  | ob c fs => obtain ⟨a, xs, fv, z, _⟩ := h; cases z
  | st ns => obtain ⟨a, m, n, z, _⟩ := h; cases z
theorem isN_core {neg : Bool} {P H : Hp} {x y : V} {a b w : Vl} {Q : VK} (e : Same P H) (hx : OwE G P H x a) (hy : OwE G P H y b) (hw : gIsN neg a b = some w) (q : ∀ v P' H' S, Alc P H P' H' S → Ow G P' H' S v w → Q v H') :
    y = .non ∧ Q (.bl (if neg then !decide (x = .non) else decide (x = .non))) H := by
  unfold gIsN at hw
  split at hw
  · refine ⟨ow_non hy, ?_⟩
    split at hw
    · cases hw
      rw [ow_non hx]
      cases neg <;> exact q _ P H nobody (Alc.refl e) (Dp.bl _)
    · rename_i h1
      cases hw
      have hne := ow_ne_non hx (fun z => h1 z)
      rw [decide_eq_false hne]
      cases neg <;> exact q _ P H nobody (Alc.refl e) (Dp.bl _)
  · cases hw
theorem okIsN : OpOk G (fun x y H Q => y = .non ∧ Q (.bl (decide (x = .non))) H) (gIsN false) := fun P H x y a b w Q e hx hy hw q => isN_core (neg := false) e hx hy hw q
theorem okNotN : OpOk G (fun x y H Q => y = .non ∧ Q (.bl (!decide (x = .non))) H) (gIsN true) := fun P H x y a b w Q e hx hy hw q => isN_core (neg := true) e hx hy hw q
theorem e_isN (ha : PE X a (tE G W fa)) (hb : PE X b (tE G W fb)) : PE X (.Compare a [.Is] [b] pos) (tE G W (bin (gIsN false) fa fb)) := pe_cmpV op_isN okIsN ha hb (nomark _)
theorem e_notN (ha : PE X a (tE G W fa)) (hb : PE X b (tE G W fb)) : PE X (.Compare a [.IsNot] [b] pos) (tE G W (bin (gIsN true) fa fb)) := pe_cmpV op_notN okNotN ha hb (nomark _)

/-! ### +, * -/
def rCatL (K : PySem.W.Frag) : R2 := fun x y H Q => ∃ l b xs zs, x = .ref l ∧ y = .ref b ∧ SqL K H l xs ∧ SqL K H b zs ∧ xs.length + zs.length ≤ sizeLine ∧ ∀ p, H p = none → Q (.ref p) (upd H p (.lst (xs ++ zs)))
theorem op_catL : OpR X (binaryOp .Add) (rCatL X.K) := by
  intro pins s σ H x y v u Q I rx ry h
  obtain ⟨l, b, xs, zs, rfl, rfl, hH, hB, hz, q⟩ := h
  cases rx
  cases ry
  obtain ⟨its, r, ⟨⟨cls, dd, data, sl⟩, n, ho, hc, hd0, hd⟩, _⟩ := I.list hH
  obtain ⟨its2, r2, ⟨⟨cls2, dd2, data2, sl2⟩, n2, ho2, hc2, hd02, hd2⟩, _⟩ := I.list hB
  simp only at hc hd hc2 hd2
  subst hc hd hc2 hd2
  have l1 := r.length
  have l2 := r2.length
  have ea : its.toArray ++ its2.toArray = (its ++ its2).toArray := by simp
  refine concat_meets ⟨_, ho, rfl⟩ ⟨_, ho2, rfl⟩ noFill_list_add seq_list_add PySem.F.slot_list_add PySem.F.entry_list_add (PySem.F.args_list_add_2 _ _) (PyProof.Rows.list_addW l b its.toArray its2.toArray n n2 dd dd2 sl sl2 (by rw [List.size_toArray, List.size_toArray]; omega)) ⟨ho, ho2, ?_⟩
  rw [ea]
  exact ⟨.ref _, _, I.lnew (t' := s.toks) (r.append r2) (by rw [List.length_append]; omega), rfl, q _ I.fresh⟩
noncomputable def gCatL (a b : Vl) : Option Vl := (asL a).bind fun ds => (asL b).bind fun es => gd (ds.length + es.length ≤ sizeLine) (.ml (ds ++ es))
noncomputable def gCatT (a b : Vl) : Option Vl := (asT a).bind fun ds => (asT b).bind fun es => gd (ds.length + es.length ≤ sizeLine) (.dat (.tuple (ds ++ es)))
noncomputable def gCatS : Vl → Vl → Option Vl
  | .dat (.str x), .dat (.str y) => gd (x.length + y.length ≤ sizeLine) (.dat (.str (x ++ y)))
  | _, _ => none
theorem okCatL (h : K = G.K) : OpOk G (rCatL K) gCatL := by
  subst h
  intro P H x y a b w Q e hx hy hw q
  unfold gCatL at hw
  cases ea : asL a with
  | none => rw [ea] at hw; cases hw
  | some ds =>
    cases eb : asL b with
    | none => rw [ea, eb] at hw; cases hw
    | some es =>
      rw [ea, eb] at hw
      obtain ⟨hz, rfl⟩ := gd_some hw
      obtain ⟨p1, xs, rfl, h1, h2⟩ := hx.lst e ea
      obtain ⟨p2, ys, rfl, h3, h4⟩ := hy.lst e eb
      have l1 := dpa_len _ _ h2
      have l2 := dpa_len _ _ h4
      exact ⟨p1, p2, xs, ys, rfl, rfl, h1, h3, by omega, fun p hp => q _ P _ _ (Alc.own e hp) ⟨p, _, rfl, rfl, upd_same, dpa_app h2 h4⟩⟩
theorem okCatT (h : K = G.K) : OpOk G (rCatA K) gCatT := by
  subst h
  intro P H x y a b w Q e hx hy hw q
  unfold gCatT at hw
  cases ea : asT a with
  | none => rw [ea] at hw; cases hw
  | some ds =>
    cases eb : asT b with
    | none => rw [ea, eb] at hw; cases hw
    | some es =>
      rw [ea, eb] at hw
      obtain ⟨hz, rfl⟩ := gd_some hw
      have hx0 := hx
      have hy0 := hy
      obtain ⟨p1, xs, rfl, h1, h2⟩ := hx.tup e ea
      obtain ⟨p2, ys, rfl, h3, h4⟩ := hy.tup e eb
      have l1 := dpa_len _ _ h2
      have l2 := dpa_len _ _ h4
      have ra : a = .dat (.tuple ds) := by
        cases a with
        | dat d => cases d <;> first | (cases ea; rfl) | cases ea
        | _ => cases ea
      have rb : b = .dat (.tuple es) := by
        cases b with
        | dat d => cases d <;> first | (cases eb; rfl) | cases eb
        | _ => cases eb
      subst ra
      subst rb
      obtain ⟨S1, o1⟩ := hx0
      obtain ⟨S2, o2⟩ := hy0
      have o1 : Dp G.K P (.ref p1) (.tuple ds) := o1
      have o2 : Dp G.K P (.ref p2) (.tuple es) := o2
      refine ⟨p1, p2, xs, ys, rfl, rfl, h1, h3, by omega, fun z => ?_, fun _ z => ?_, fun _ _ p hp => ?_⟩
      · have : ds = [] := by cases ds with | nil => rfl | cons d ds => rw [z] at l1; simp at l1
        subst this
        exact q _ P H nobody (Alc.refl e) o2
      · have : es = [] := by cases es with | nil => rfl | cons d ds => rw [z] at l2; simp at l2
        subst this
        rw [List.append_nil] at q
        exact q _ P H nobody (Alc.refl e) o1
      · exact q _ _ _ _ (Alc.tup (o := .tup (xs ++ ys)) e hp) (Dp.tup (SqT.of upd_same) (dpa_mono (same_upd (same_none e hp)) _ _ (dpa_app h2 h4)))
theorem okCatS : OpOk G (fun x y H Q => ∃ i j, x = V.str i ∧ y = V.str j ∧ i.length + j.length ≤ sizeLine ∧ Q (.str (i ++ j)) H) gCatS := by
  intro P H x y a b w Q e hx hy hw q
  unfold gCatS at hw
  split at hw
  · obtain ⟨hz, rfl⟩ := gd_some hw
    exact ⟨_, _, ow_str hx, ow_str hy, hz, q _ P H nobody (Alc.refl e) (Dp.str _)⟩
  · cases hw
noncomputable def gAddI := iop tt2 fun i j => .int (i + j)
noncomputable def gAdd : Vl → Vl → Option Vl := orG gAddI (orG gCatL (orG gCatT gCatS))
theorem e_add (c : Cxt G X W k) (ha : PE X a (tE G W fa)) (hb : PE X b (tE G W fb)) : PE X (.BinOp a .Add b pos) (tE G W (bin gAdd fa fb)) :=
  pe_binV (OpR.or op_add (OpR.or op_catL (OpR.or op_catA op_add_str))) (okOr (okI0 fun _ _ _ _ => .int _) (okOr (okCatL c.K) (okOr (okCatT c.K) okCatS))) ha hb
def asM : Vl → Option (List PyData)
  | .ml ds => some ds
  | _ => none
noncomputable def gRepL : Vl → Vl → Option Vl
  | .ml ds, .dat (.int k) => gd (-(2 ^ 63) ≤ k ∧ k < 2 ^ 63 ∧ ds.length * k.toNat ≤ sizeLine) (.ml (List.replicate k.toNat ds).flatten)
  | _, _ => none
noncomputable def gRepT : Vl → Vl → Option Vl
  | .dat (.tuple ds), .dat (.int k) => gd (ds ≠ [] ∧ 2 ≤ k ∧ k ≤ 1000 ∧ ds.length ≤ 1000) (.dat (.tuple (List.replicate k.toNat ds).flatten))
  | _, _ => none
theorem dpa_rep {P : Hp} {ds : List PyData} {xs : List V} (h : DpAll K P xs ds) : ∀ n : Nat, DpAll K P (List.replicate n xs).flatten (List.replicate n ds).flatten
  | 0 => .nil
  | n + 1 => by
    rw [List.replicate_succ, List.replicate_succ, List.flatten_cons, List.flatten_cons]
    exact dpa_app h (dpa_rep h n)
theorem okRepL : OpOk G rRep gRepL := by
  intro P H x y a b w Q e hx hy hw q
  unfold gRepL at hw
  split at hw
  · obtain ⟨⟨h1, h2, h3⟩, rfl⟩ := gd_some hw
    obtain ⟨S, l, xs, rfl, _, h4, h5⟩ := hx
    have l1 := dpa_len _ _ h5
    exact ⟨l, _, xs, rfl, ow_int hy, h4, h1, h2, by rw [l1]; exact h3, fun p hp => q _ P _ _ (Alc.own e hp) ⟨p, _, rfl, rfl, upd_same, dpa_rep h5 _⟩⟩
  · cases hw
theorem okRepT (h : K = G.K) : OpOk G (rRepT K) gRepT := by
  subst h
  intro P H x y a b w Q e hx hy hw q
  unfold gRepT at hw
  split at hw
  · rename_i ds k
    obtain ⟨⟨h0, h1, h2, h3⟩, rfl⟩ := gd_some hw
    obtain ⟨p1, xs, rfl, h4, h5⟩ := hx.tup e (show asT (.dat (.tuple ds)) = some ds from rfl)
    have l1 := dpa_len _ _ h5
    refine ⟨p1, _, xs, rfl, ow_int hy, h4, fun z => ?_, h1, h2, by omega, fun p hp => ?_⟩
    · subst z
      exact h0 (List.eq_nil_of_length_eq_zero l1.symm)
    · exact q _ _ _ _ (Alc.tup (o := .tup _) e hp) (Dp.tup (SqT.of upd_same) (dpa_mono (same_upd (same_none e hp)) _ _ (dpa_rep h5 _)))
  · cases hw
noncomputable def gMulI := iop CMul fun i j => .int (i * j)
noncomputable def gMul : Vl → Vl → Option Vl := orG gMulI (orG gRepL gRepT)
theorem e_mul (c : Cxt G X W k) (ha : PE X a (tE G W fa)) (hb : PE X b (tE G W fb)) : PE X (.BinOp a .Mult b pos) (tE G W (bin gMul fa fb)) :=
  pe_binV (OpR.or op_mul (OpR.or op_rep op_repT)) (okOr (okI fun _ _ _ _ => .int _) (okOr okRepL (okRepT c.K))) ha hb

/-! ### unary -/
noncomputable def gU (g : Int → Int) : Vl → Option Vl
  | .dat (.int i) => some (vI (g i))
  | _ => none
theorem okU {g : Int → Int} : UnOk G (rU fun i => .int (g i)) (gU g) := by
  intro P H x a w Q e hx hw q
  unfold gU at hw
  split at hw
  · cases hw
    exact ⟨_, ow_int hx, q _ P H nobody (Alc.refl e) (Dp.int _)⟩
  · cases hw
theorem e_neg (ha : PE X a (tE G W fa)) : PE X (.UnaryOp .USub a pos) (tE G W (una (gU fun i => -i) fa)) := PE.imp (pe_un un_neg ha) fun _ _ _ h => una_ok okU h
theorem e_inv (ha : PE X a (tE G W fa)) : PE X (.UnaryOp .Invert a pos) (tE G W (una (gU Builtin.bitNot) fa)) := PE.imp (pe_un un_inv ha) fun _ _ _ h => una_ok okU h

/-! ### subscripts -/
def gIx : Vl → Vl → Option Vl := fun a b => match b with
  | .dat (.int i) => match asL a with
    | some ds => (atI ds i).map .dat
    | none => match asT a with
      | some ds => (atI ds i).map .dat
      | none => none
  | _ => none
theorem at_rel {P : Hp} {ds : List PyData} {xs : List V} {i : Int} {d : PyData} (h : DpAll K P xs ds) (e : atI ds i = some d) : ∃ v, atI xs i = some v ∧ Dp K P v d := by
  unfold atI at e ⊢
  rw [dpa_len _ _ h]
  cases q : ixN ds.length i with
  | none => rw [q] at e; cases e
  | some j =>
    rw [q] at e
    exact dpa_get _ _ h j d e
theorem okIx (h : K = G.K) : OpOk G (fun x y H Q => rIxL K x y H Q ∨ rIxT K x y H Q) gIx := by
  subst h
  intro P H x y a b w Q e hx hy hw q
  unfold gIx at hw
  split at hw
  · rename_i i
    have hi := ow_int hy
    subst hi
    cases ea : asL a with
    | some ds =>
      rw [ea] at hw
      obtain ⟨p1, xs, rfl, h1, h2⟩ := hx.lst e ea
      obtain ⟨d, hd, rfl⟩ := Option.map_eq_some_iff.mp hw
      obtain ⟨v, h3, h4⟩ := at_rel h2 hd
      exact .inl ⟨p1, xs, i, v, rfl, rfl, h1, h3, q _ P H nobody (Alc.refl e) h4⟩
    | none =>
      rw [ea] at hw
      cases eb : asT a with
      | none => rw [eb] at hw; cases hw
      | some ds =>
        rw [eb] at hw
        obtain ⟨p1, xs, rfl, h1, h2⟩ := hx.tup e eb
        obtain ⟨d, hd, rfl⟩ := Option.map_eq_some_iff.mp hw
        obtain ⟨v, h3, h4⟩ := at_rel h2 hd
        exact .inr ⟨p1, xs, i, v, rfl, rfl, h1, h3, q _ P H nobody (Alc.refl e) h4⟩
  · cases hw
theorem e_ix (c : Cxt G X W k) (ha : PE X a (tE G W fa)) (hb : PE X b (tE G W fb)) (hs : PlainIx b := by exact fun _ _ => rfl) : PE X (.Subscript a b pos) (tE G W (bin gIx fa fb)) :=
  PE.imp (pe_ix (ix_list.or ix_tup) ha hb hs) fun _ _ _ h => bin_ok (okIx c.K) h
end
end Mi
end
section
set_option Elab.async false
set_option linter.all false
set_option maxRecDepth 100000
/-! Ev5: slices, chains, tests, and, or, not, if .. else -/
namespace Mi
open PySem L2

/-! ### the general bind for tests -/
section
variable {G : Glb} {W : WX} {P H P1 H1 : Hp} {F F1 : Nat → Ad} {σ : L2.St} {ρ : Rho} {f : FT}
theorem tT_bind {Q : Bool → Hp → Prop} {β : Type} {k : Bool → Rho → Out β} {End : Hp → Hp → (Nat → Ad) → Out β → Prop} (n : Now G P H σ ρ F) (hE : End P H F ((f ρ).bind k))
    (hx : ∀ c ρ', End P H F (.exc c ρ') → ∀ P' H' F', Now G P' H' σ ρ' F' → Stp P H F P' H' F' → W (.ref (G.ea c)) none σ H') (hs : ¬ End P H F .stk)
    (h : ∀ b ρ1 P1 H1 F1, f ρ = .ok b ρ1 → End P H F (k b ρ1) → Now G P1 H1 σ ρ1 F1 → Stp P H F P1 H1 F1 → Q b H1) : tT G W f σ H Q := by
  refine ⟨ρ, P, F, n, ?_⟩
  cases e : f ρ with
  | ok b ρ1 =>
    rw [e] at hE
    exact fun P1 H1 F1 n1 s1 => h b ρ1 P1 H1 F1 e hE n1 s1
  | exc c ρ' => rw [e] at hE; exact hx c ρ' hE
  | stk => rw [e] at hE; exact (hs hE).elim
end

/-! ### truth -/
noncomputable def tru (w : Vl) : Option Bool := match w with
  | .dat .none => some false
  | .dat (.bool b) => some b
  | .dat (.int i) => some (i != 0)
  | .dat (.list ds) => some (!ds.isEmpty)
  | .dat (.tuple ds) => some (!ds.isEmpty)
  | .ml ds => some (!ds.isEmpty)
  | _ => none
section
variable {X : Cx} {W : WX} {G : Glb} {k : Nat} {a b c e : Expr} {fa fb fc f : FE} {pos p2 : Pos} {K : PySem.W.Frag} {P H : Hp} {v : V} {w : Vl}
theorem isEmpty_dpa {xs : List V} {ds : List PyData} (h : DpAll K P xs ds) : (!ds.isEmpty) = !xs.isEmpty := by cases h <;> rfl
theorem tru_ok' (h : OwE G P H v w) (e : Same P H) {b : Bool} (t : tru w = some b) : TruV G.K v H b := by
  unfold tru at t
  split at t
  · cases t; rw [ow_non h]; rfl
  · cases t; rw [ow_bool h]; rfl
  · cases t; rw [ow_int h]; rfl
  · rename_i ds
    cases t
    obtain ⟨p, xs, rfl, h1, h2⟩ := h.lst e (show asL (.dat (.list ds)) = some ds from rfl)
    exact .inl ⟨xs, h1, isEmpty_dpa h2⟩
  · rename_i ds
    cases t
    obtain ⟨p, xs, rfl, h1, h2⟩ := h.tup e (show asT (.dat (.tuple ds)) = some ds from rfl)
    exact .inr (.inl ⟨xs, h1, isEmpty_dpa h2⟩)
  · rename_i ds
    cases t
    obtain ⟨p, xs, rfl, h1, h2⟩ := h.lst e (show asL (.ml ds) = some ds from rfl)
    exact .inl ⟨xs, h1, isEmpty_dpa h2⟩
  · cases t
noncomputable def trO (ρ : Rho) (o : Opd) : Out Bool := match (look ρ o).bind tru with
  | some b => .ok b ρ
  | none => .stk
/-- a value as a test -/
noncomputable def tTr (f : FE) : FT := fun ρ => (f ρ).bind fun o ρ1 => trO ρ1 o
theorem trO_ok {ρ : Rho} {o : Opd} {W : WX} {P0 H0 : Hp} {F0 : Nat → Ad} {σ : L2.St} {Q : Bool → Hp → Prop} (h : EndT G W P0 H0 F0 σ Q (trO ρ o)) : ∃ w b, look ρ o = some w ∧ tru w = some b ∧ EndT G W P0 H0 F0 σ Q (.ok b ρ) := by
  unfold trO at h
  cases e : look ρ o with
  | none => rw [e] at h; exact h.elim
  | some w =>
    rw [e] at h
    cases e2 : tru w with
    | none => rw [Option.bind_some, e2] at h; exact h.elim
    | some b => rw [Option.bind_some, e2] at h; exact ⟨w, b, rfl, e2, h⟩
theorem t_tru (hK : X.K = G.K) (he : PE X e (tE G W f)) (hi : ∀ whole, isTrue e X.env whole = (do let v ← whole; standAt e.pos; holding [v] (truthy v)) := by intro _; rfl) : PT X e (tT G W (tTr f)) := PT.imp (pt_truth he hi) fun σ H Q h => by
  obtain ⟨ρ, P, F, n, h⟩ := h
  refine tE_bind (End := fun P H F => EndT G W P H F σ Q) n h (fun _ _ z => z) (fun z => z) fun x ρ1 vx P1 H1 F1 S1 e1 h1 n1 s1 hx q1 => ?_
  obtain ⟨w, b, hw, hb, h1⟩ := trO_ok h1
  refine ⟨b, ?_, h1 P1 H1 F1 n1 s1⟩
  rw [hK]
  exact tru_ok' (hx.look n1 hw) n1.ex hb

/-! ### comparisons, bundled -/
structure CmpV (G : Glb) (X : Cx) (op : CmpOp) (g : Vl → Vl → Option Vl) : Prop where
  ex : ∃ r, OpR X (compareOp op) r ∧ OpOk G r g
  nm : op ≠ .In ∧ op ≠ .NotIn
theorem c_lt : CmpV G X .Lt gLt := ⟨⟨_, op_lt, okI0 fun _ _ _ _ => .bl _⟩, by decide, by decide⟩
theorem c_le : CmpV G X .LtE gLe := ⟨⟨_, op_le, okI0 fun _ _ _ _ => .bl _⟩, by decide, by decide⟩
theorem c_gt : CmpV G X .Gt gGt := ⟨⟨_, op_gt, okI0 fun _ _ _ _ => .bl _⟩, by decide, by decide⟩
theorem c_ge : CmpV G X .GtE gGe := ⟨⟨_, op_ge, okI0 fun _ _ _ _ => .bl _⟩, by decide, by decide⟩
theorem c_eq (c : Cxt G X W k) : CmpV G X .Eq gEq := ⟨⟨_, OpR.or op_eq (op_eqD c.u64), okEq c.K⟩, by decide, by decide⟩
theorem c_ne (c : Cxt G X W k) : CmpV G X .NotEq gNe := ⟨⟨_, OpR.or op_ne (op_neD c.u64), okNe c.K⟩, by decide, by decide⟩
theorem c_isN : CmpV G X .Is (gIsN false) := ⟨⟨_, op_isN, okIsN⟩, by decide, by decide⟩
theorem c_notN : CmpV G X .IsNot (gIsN true) := ⟨⟨_, op_notN, okNotN⟩, by decide, by decide⟩
theorem e_cmp {op : CmpOp} {g : Vl → Vl → Option Vl} (h : CmpV G X op g) (ha : PE X a (tE G W fa)) (hb : PE X b (tE G W fb)) : PE X (.Compare a [op] [b] pos) (tE G W (bin g fa fb)) := by
  obtain ⟨⟨r, ho, ok⟩, h1, h2⟩ := h
  exact pe_cmpV ho ok ha hb (nobehind b h1 h2)
/-- a truth value as a test -/
noncomputable def boO (ρ : Rho) (o : Opd) : Out Bool := match look ρ o with
  | some (.dat (.bool b)) => .ok b ρ
  | _ => .stk
noncomputable def tBo (f : FE) : FT := fun ρ => (f ρ).bind fun o ρ1 => boO ρ1 o
theorem boO_ok {ρ : Rho} {o : Opd} {W : WX} {P0 H0 : Hp} {F0 : Nat → Ad} {σ : L2.St} {Q : Bool → Hp → Prop} (h : EndT G W P0 H0 F0 σ Q (boO ρ o)) : ∃ b, look ρ o = some (vB b) ∧ EndT G W P0 H0 F0 σ Q (.ok b ρ) := by
  unfold boO at h
  split at h
  · rename_i b e; exact ⟨b, e, h⟩
  · exact h.elim
theorem bo_rd {σ : L2.St} {H : Hp} {Q : Bool → Hp → Prop} {f : FE} (h : tT G W (tBo f) σ H Q) : tE G W f σ H (fun x H' => ∃ k, x = .bl k ∧ Q k H') := by
  obtain ⟨ρ, P, F, n, h⟩ := h
  refine tE_bind (End := fun P H F => EndT G W P H F σ Q) n h (fun _ _ z => z) (fun z => z) fun x ρ1 vx P1 H1 F1 S1 e1 h1 n1 s1 hx q1 => ?_
  obtain ⟨b, hb, h1⟩ := boO_ok h1
  exact ⟨b, ow_bool (hx.look n1 hb), h1 P1 H1 F1 n1 s1⟩
theorem t_cmp {op : CmpOp} {g : Vl → Vl → Option Vl} (h : CmpV G X op g) (ha : PE X a (tE G W fa)) (hb : PE X b (tE G W fb)) : PT X (.Compare a [op] [b] pos) (tT G W (tBo (bin g fa fb))) := by
  obtain ⟨⟨r, ho, ok⟩, h1, h2⟩ := h
  exact PT.imp (pt_cmpR ho ha hb (nobehind b h1 h2)) fun _ _ _ h => bin_ok ok (bo_rd h)
theorem t_in (c : Cxt G X W k) (ha : PE X a (tE G W fa)) (hb : PE X b (tE G W fb)) (hm : behindInMarks .In b = false := by rfl) : PT X (.Compare a [.In] [b] pos) (tT G W (tBo (bin gIn fa fb))) :=
  PT.imp (pt_cmpR (OpR.or (op_inD c.u65) (op_inT c.u65)) ha hb hm) fun _ _ _ h => bin_ok (okIn c.K) (bo_rd h)
theorem t_notIn (c : Cxt G X W k) (ha : PE X a (tE G W fa)) (hb : PE X b (tE G W fb)) (hm : behindInMarks .NotIn b = false := by rfl) : PT X (.Compare a [.NotIn] [b] pos) (tT G W (tBo (bin gNotIn fa fb))) :=
  PT.imp (pt_cmpR (OpR.or (op_notInD c.u65) (op_notInT c.u65)) ha hb hm) fun _ _ _ h => bin_ok (okNotIn c.K) (bo_rd h)

/-! ### chains -/
noncomputable def chain (g g' : Vl → Vl → Option Vl) (fa fb fc : FE) : FE := fun ρ => (fa ρ).bind fun x ρ1 => (fb ρ1).bind fun y ρ2 =>
  match (look ρ2 x).bind fun a => (look ρ2 y).bind fun b => g a b with
  | some (.dat (.bool true)) => (fc ρ2).bind fun z ρ3 => ret ρ3 ((look ρ3 y).bind fun b => (look ρ3 z).bind fun c => g' b c)
  | some (.dat (.bool false)) => .ok (.val (vB false)) ρ2
  | _ => .stk
theorem chain_rd {r r' : R2} {g g' : Vl → Vl → Option Vl} (ok : OpOk G r g) (ok' : OpOk G r' g') {σ : L2.St} {H : Hp} {Q : VK} (h : tE G W (chain g g' fa fb fc) σ H Q) : tChain r r' (tE G W fa) (tE G W fb) (tE G W fc) σ H Q := by
  obtain ⟨ρ, P, F, n, h⟩ := h
  refine tE_bind (End := fun P H F => EndO G W P H F σ Q) n h (fun _ _ z => z) (fun z => z) fun x ρ1 vx P1 H1 F1 S1 e1 h1 n1 s1 hx q1 => ?_
  refine tE_bind (End := fun P H F => EndO G W P H F σ Q) n1 (EndO.trans s1 h1) (fun _ _ z => z) (fun z => z) fun y ρ2 vy P2 H2 F2 S2 e2 h2 n2 s2 hy q2 => ?_
  have h2 := EndO.trans s2 h2
  cases ea : look ρ2 x with
  | none => rw [ea] at h2; exact h2.elim
  | some a =>
    cases eb : look ρ2 y with
    | none => rw [ea, eb] at h2; exact h2.elim
    | some b =>
      rw [ea, eb] at h2
      have hx' := (hx.step s2).look n2 ea
      have hy' := hy.look n2 eb
      simp only [Option.bind_some] at h2
      split at h2
      · rename_i eg
        refine ok P2 H2 vx vy a b _ _ n2.ex hx' hy' eg fun v P3 H3 S3 al o => ?_
        have o : Dp G.K P3 v (.bool true) := o
        cases o
        refine ⟨true, rfl, ?_⟩
        rw [if_pos rfl]
        have n3 := al.now n2
        have h3 := EndO.trans (al.stp (F := F2)) h2
        refine tE_bind (End := fun P H F => EndO G W P H F σ Q) n3 h3 (fun _ _ z => z) (fun z => z) fun z ρ4 vz P4 H4 F4 S4 e4 h4 n4 s4 hz q4 => ?_
        obtain ⟨w, hw, h4⟩ := endO_val (EndO.trans s4 h4)
        cases ec : look ρ4 y with
        | none => rw [ec] at hw; cases hw
        | some b' =>
          cases ed : look ρ4 z with
          | none => rw [ec, ed] at hw; cases hw
          | some c' =>
            rw [ec, ed] at hw
            exact ok' P4 H4 vy vz b' c' w Q n4.ex (((hy.step al.stp).step s4).look n4 ec) (hz.look n4 ed) hw fun v P' H' S a o => h4.alc n4 a o
      · rename_i eg
        refine ok P2 H2 vx vy a b _ _ n2.ex hx' hy' eg fun v P3 H3 S3 al o => ?_
        have o : Dp G.K P3 v (.bool false) := o
        cases o
        refine ⟨false, rfl, ?_⟩
        rw [if_neg Bool.false_ne_true]
        exact (EndO.trans (al.stp (F := F2)) h2).datum (al.now n2) (Dp.bl _)
      · exact h2.elim
theorem e_chain {op op' : CmpOp} {g g' : Vl → Vl → Option Vl} (h : CmpV G X op g) (h' : CmpV G X op' g') (ha : PE X a (tE G W fa)) (hb : PE X b (tE G W fb)) (hc : PE X c (tE G W fc)) (hm : lastMarks [op, op'] [b, c] = false := by with_unfolding_all rfl) :
    PE X (.Compare a [op, op'] [b, c] pos) (tE G W (chain g g' fa fb fc)) := by
  obtain ⟨⟨r, ho, ok⟩, _⟩ := h
  obtain ⟨⟨r', ho', ok'⟩, _⟩ := h'
  exact PE.imp (pe_chain ho ho' ha hb hc hm) fun _ _ _ h => chain_rd ok ok' h
theorem t_chain {op op' : CmpOp} {g g' : Vl → Vl → Option Vl} (h : CmpV G X op g) (h' : CmpV G X op' g') (ha : PE X a (tE G W fa)) (hb : PE X b (tE G W fb)) (hc : PE X c (tE G W fc)) (hm : lastMarks [op, op'] [b, c] = false := by with_unfolding_all rfl) :
    PT X (.Compare a [op, op'] [b, c] pos) (tT G W (tBo (chain g g' fa fb fc))) := by
  obtain ⟨⟨r, ho, ok⟩, _⟩ := h
  obtain ⟨⟨r', ho', ok'⟩, _⟩ := h'
  exact PT.imp (pt_chain ho ho' ha hb hc hm) fun _ _ _ h => chain_rd ok ok' (bo_rd h)

/-! ### and, or, not, if .. else -/
def tAndV (f g : FT) : FT := fun ρ => (f ρ).bind fun b ρ1 => if b = true then g ρ1 else .ok false ρ1
def tOrV (f g : FT) : FT := fun ρ => (f ρ).bind fun b ρ1 => if b = true then .ok true ρ1 else g ρ1
def tNotV (f : FT) : FT := fun ρ => (f ρ).bind fun b ρ1 => .ok (!b) ρ1
variable {ft gt : FT} {rest : List Expr}
theorem PW.imp {t t' : TT} (h : PW X e t) (i : ∀ σ H Q, t' σ H Q → t σ H Q) : PW X e t' := ⟨fun wh pins s σ H Q I q => h.run wh pins s σ H Q I (i σ H Q q)⟩
theorem w_and1 (ha : PT X a (tT G W ft)) : PW X (.BoolOp .And [a] pos) (tT G W ft) := pw_and1 ha
theorem w_or1 (ha : PT X a (tT G W ft)) : PW X (.BoolOp .Or [a] pos) (tT G W ft) := pw_or1 ha
theorem w_and (ha : PT X a (tT G W ft)) (hb : PW X (.BoolOp .And (b :: rest) pos) (tT G W gt)) : PW X (.BoolOp .And (a :: b :: rest) pos) (tT G W (tAndV ft gt)) := PW.imp (pw_and ha hb) fun σ H Q h => by
  obtain ⟨ρ, P, F, n, h⟩ := h
  refine tT_bind (End := fun P H F => EndT G W P H F σ Q) n h (fun _ _ z => z) (fun z => z) fun b ρ1 P1 H1 F1 e1 h1 n1 s1 => ?_
  cases b with
  | true => exact ⟨ρ1, P1, F1, n1, EndT.trans s1 h1⟩
  | false => exact h1 P1 H1 F1 n1 s1
theorem w_or (ha : PT X a (tT G W ft)) (hb : PW X (.BoolOp .Or (b :: rest) pos) (tT G W gt)) : PW X (.BoolOp .Or (a :: b :: rest) pos) (tT G W (tOrV ft gt)) := PW.imp (pw_or ha hb) fun σ H Q h => by
  obtain ⟨ρ, P, F, n, h⟩ := h
  refine tT_bind (End := fun P H F => EndT G W P H F σ Q) n h (fun _ _ z => z) (fun z => z) fun b ρ1 P1 H1 F1 e1 h1 n1 s1 => ?_
  cases b with
  | true => exact h1 P1 H1 F1 n1 s1
  | false => exact ⟨ρ1, P1, F1, n1, EndT.trans s1 h1⟩
theorem t_not (ha : PT X a (tT G W ft)) : PT X (.UnaryOp .Not a pos) (tT G W (tNotV ft)) := PT.imp (pt_not ha) fun σ H Q h => by
  obtain ⟨ρ, P, F, n, h⟩ := h
  exact tT_bind (End := fun P H F => EndT G W P H F σ Q) n h (fun _ _ z => z) (fun z => z) fun b ρ1 P1 H1 F1 e1 h1 n1 s1 => h1 P1 H1 F1 n1 s1
/-- .. as values -/
noncomputable def fAnd (f g : FE) : FE := fun ρ => (f ρ).bind fun x ρ1 => (trO ρ1 x).bind fun b _ => if b = true then g ρ1 else .ok x ρ1
noncomputable def fOr (f g : FE) : FE := fun ρ => (f ρ).bind fun x ρ1 => (trO ρ1 x).bind fun b _ => if b = true then .ok x ρ1 else g ρ1
noncomputable def fNot (f : FE) : FE := fun ρ => (f ρ).bind fun x ρ1 => (trO ρ1 x).bind fun b _ => .ok (.val (vB (!b))) ρ1
theorem trO_bind {ρ : Rho} {o : Opd} {P0 H0 : Hp} {F0 : Nat → Ad} {σ : L2.St} {Q : VK} {kk : Bool → Out Opd} (h : EndO G W P0 H0 F0 σ Q ((trO ρ o).bind fun b _ => kk b)) : ∃ w b, look ρ o = some w ∧ tru w = some b ∧ EndO G W P0 H0 F0 σ Q (kk b) := by
  unfold trO at h
  cases e : look ρ o with
  | none => rw [e] at h; exact h.elim
  | some w =>
    rw [e] at h
    cases e2 : tru w with
    | none => rw [Option.bind_some, e2] at h; exact h.elim
    | some b => rw [Option.bind_some, e2] at h; exact ⟨w, b, rfl, e2, h⟩
theorem e_one {op : BoolOp} (ha : PE X a (tE G W fa)) : PE X (.BoolOp op [a] pos) (tE G W fa) := pe_one ha
theorem e_andV (hK : X.K = G.K) (ha : PE X a (tE G W fa)) (hb : PE X (.BoolOp .And (b :: rest) pos) (tE G W fb)) : PE X (.BoolOp .And (a :: b :: rest) pos) (tE G W (fAnd fa fb)) := PE.imp (pe_andT ha hb) fun σ H Q h => by
  obtain ⟨ρ, P, F, n, h⟩ := h
  refine tE_bind (End := fun P H F => EndO G W P H F σ Q) n h (fun _ _ z => z) (fun z => z) fun x ρ1 vx P1 H1 F1 S1 e1 h1 n1 s1 hx q1 => ?_
  obtain ⟨w, b, hw, hb, h1⟩ := trO_bind (kk := fun b => if b = true then fb ρ1 else .ok x ρ1) h1
  refine ⟨b, by rw [hK]; exact tru_ok' (hx.look n1 hw) n1.ex hb, ?_⟩
  cases b with
  | true => exact ⟨ρ1, P1, F1, n1, EndO.trans s1 h1⟩
  | false => exact h1 vx P1 H1 F1 S1 n1 s1 hx q1
theorem e_orV (hK : X.K = G.K) (ha : PE X a (tE G W fa)) (hb : PE X (.BoolOp .Or (b :: rest) pos) (tE G W fb)) : PE X (.BoolOp .Or (a :: b :: rest) pos) (tE G W (fOr fa fb)) := PE.imp (pe_orT ha hb) fun σ H Q h => by
  obtain ⟨ρ, P, F, n, h⟩ := h
  refine tE_bind (End := fun P H F => EndO G W P H F σ Q) n h (fun _ _ z => z) (fun z => z) fun x ρ1 vx P1 H1 F1 S1 e1 h1 n1 s1 hx q1 => ?_
  obtain ⟨w, b, hw, hb, h1⟩ := trO_bind (kk := fun b => if b = true then .ok x ρ1 else fb ρ1) h1
  refine ⟨b, by rw [hK]; exact tru_ok' (hx.look n1 hw) n1.ex hb, ?_⟩
  cases b with
  | true => exact h1 vx P1 H1 F1 S1 n1 s1 hx q1
  | false => exact ⟨ρ1, P1, F1, n1, EndO.trans s1 h1⟩
theorem e_notV (hK : X.K = G.K) (ha : PE X a (tE G W fa)) : PE X (.UnaryOp .Not a pos) (tE G W (fNot fa)) := PE.imp (pe_notT ha) fun σ H Q h => by
  obtain ⟨ρ, P, F, n, h⟩ := h
  refine tE_bind (End := fun P H F => EndO G W P H F σ Q) n h (fun _ _ z => z) (fun z => z) fun x ρ1 vx P1 H1 F1 S1 e1 h1 n1 s1 hx q1 => ?_
  obtain ⟨w, b, hw, hb, h1⟩ := trO_bind (kk := fun b => .ok (.val (vB (!b))) ρ1) h1
  exact ⟨b, by rw [hK]; exact tru_ok' (hx.look n1 hw) n1.ex hb, (EndO.trans s1 h1).datum n1 (Dp.bl _)⟩
def fIf (t : FT) (f g : FE) : FE := fun ρ => (t ρ).bind fun b ρ1 => if b = true then f ρ1 else g ρ1
theorem e_if (ht : PT X c (tT G W ft)) (ha : PE X a (tE G W fa)) (hb : PE X b (tE G W fb)) : PE X (.IfExp c a b pos) (tE G W (fIf ft fa fb)) := PE.imp (pe_ifExp ht ha hb) fun σ H Q h => by
  obtain ⟨ρ, P, F, n, h⟩ := h
  refine tT_bind (End := fun P H F => EndO G W P H F σ Q) n h (fun _ _ z => z) (fun z => z) fun b ρ1 P1 H1 F1 e1 h1 n1 s1 => ?_
  cases b with
  | true => exact ⟨ρ1, P1, F1, n1, EndO.trans s1 h1⟩
  | false => exact ⟨ρ1, P1, F1, n1, EndO.trans s1 h1⟩

/-! ### slices -/
abbrev FP := Rho → Out (Option Int)
def pNo : FP := fun ρ => .ok none ρ
def pSo (f : FE) : FP := fun ρ => (f ρ).bind fun o ρ1 => match look ρ1 o with
  | some (.dat (.int i)) => .ok (some i) ρ1
  | _ => .stk
def EndP (G : Glb) (W : WX) (P H : Hp) (F : Nat → Ad) (σ : L2.St) (Q : Option Int → Hp → Prop) : Out (Option Int) → Prop
  | .ok b ρ' => ∀ P' H' F', Now G P' H' σ ρ' F' → Stp P H F P' H' F' → Q b H'
  | .exc c ρ' => ∀ P' H' F', Now G P' H' σ ρ' F' → Stp P H F P' H' F' → W (.ref (G.ea c)) none σ H'
  | .stk => False
def tP (G : Glb) (W : WX) (f : FP) : TO := fun σ H Q => ∃ ρ P F, Now G P H σ ρ F ∧ EndP G W P H F σ Q (f ρ)
theorem PO.imp {eo : Option Expr} {t t' : TO} (h : PO X eo t) (i : ∀ σ H Q, t' σ H Q → t σ H Q) : PO X eo t' := ⟨fun pins s σ H Q I q => h.run pins s σ H Q I (i σ H Q q)⟩
theorem o_no : PO X none (tP G W pNo) := PO.imp po_none fun σ H Q h => by
  obtain ⟨ρ, P, F, n, h⟩ := h
  exact h P H F n Stp.refl
theorem o_so (he : PE X e (tE G W f)) : PO X (some e) (tP G W (pSo f)) := PO.imp (po_some he) fun σ H Q h => by
  obtain ⟨ρ, P, F, n, h⟩ := h
  refine tE_bind (End := fun P H F => EndP G W P H F σ Q) n h (fun _ _ z => z) (fun z => z) fun x ρ1 vx P1 H1 F1 S1 e1 h1 n1 s1 hx q1 => ?_
  split at h1
  · rename_i i hi
    exact ⟨i, ow_int (hx.look n1 hi), h1 P1 H1 F1 n1 s1⟩
  · exact h1.elim
def cutD {α : Type} (xs : List α) (lo hi : Option Int) : List α := (xs.drop (HT.sIx xs.length 0 lo)).take (HT.sIx xs.length xs.length hi - HT.sIx xs.length 0 lo)
def gSl (a : Vl) (lo hi : Option Int) : Option Vl := match asL a with
  | some ds => some (.ml (cutD ds lo hi))
  | none => match asT a with
    | some ds => some (.dat (.tuple (cutD ds lo hi)))
    | none => none
def fSl (f : FE) (lo hi : FP) : FE := fun ρ => (f ρ).bind fun o ρ1 => (lo ρ1).bind fun l ρ2 => (hi ρ2).bind fun h ρ3 => ret ρ3 ((look ρ3 o).bind fun a => gSl a l h)
theorem tP_bind {σ : L2.St} {H : Hp} {ρ : Rho} {P : Hp} {F : Nat → Ad} {f : FP} {Q : Option Int → Hp → Prop} {β : Type} {kk : Option Int → Rho → Out β} {End : Hp → Hp → (Nat → Ad) → Out β → Prop} (n : Now G P H σ ρ F) (hE : End P H F ((f ρ).bind kk))
    (hx : ∀ c ρ', End P H F (.exc c ρ') → ∀ P' H' F', Now G P' H' σ ρ' F' → Stp P H F P' H' F' → W (.ref (G.ea c)) none σ H') (hs : ¬ End P H F .stk)
    (h : ∀ b ρ1 P1 H1 F1, f ρ = .ok b ρ1 → End P H F (kk b ρ1) → Now G P1 H1 σ ρ1 F1 → Stp P H F P1 H1 F1 → Q b H1) : tP G W f σ H Q := by
  refine ⟨ρ, P, F, n, ?_⟩
  cases e : f ρ with
  | ok b ρ1 =>
    rw [e] at hE
    exact fun P1 H1 F1 n1 s1 => h b ρ1 P1 H1 F1 e hE n1 s1
  | exc c ρ' => rw [e] at hE; exact hx c ρ' hE
  | stk => rw [e] at hE; exact (hs hE).elim
theorem dpa_cut {xs : List V} {ds : List PyData} {lo hi : Option Int} (h : DpAll K P xs ds) : DpAll K P (cutV xs lo hi) (cutD ds lo hi) := by
  unfold cutV cutD
  rw [dpa_len _ _ h]
  exact dpa_take _ (dpa_drop _ h)
theorem whole_cut {α : Type} {xs : List α} {lo hi : Option Int} (h : HT.sIx xs.length 0 lo = 0 ∧ HT.sIx xs.length xs.length hi = xs.length) : cutD xs lo hi = xs := by
  unfold cutD
  rw [h.1, h.2]
  simp
theorem e_sl {lo hi : Option Expr} {fl fh : FP} (hK : X.K = G.K) (ha : PE X a (tE G W fa)) (hl : PO X lo (tP G W fl)) (hh : PO X hi (tP G W fh)) : PE X (.Subscript a (.Slice lo hi none p2) pos) (tE G W (fSl fa fl fh)) := PE.imp (pe_slice (sl_list.or sl_tupA) ha hl hh) fun σ H Q h => by
  obtain ⟨ρ, P, F, n, h⟩ := h
  refine tE_bind (End := fun P H F => EndO G W P H F σ Q) n h (fun _ _ z => z) (fun z => z) fun x ρ1 vx P1 H1 F1 S1 e1 h1 n1 s1 hx q1 => ?_
  refine tP_bind (End := fun P H F => EndO G W P H F σ Q) n1 (EndO.trans s1 h1) (fun _ _ z => z) (fun z => z) fun l ρ2 P2 H2 F2 e2 h2 n2 s2 => ?_
  refine tP_bind (End := fun P H F => EndO G W P H F σ Q) n2 (EndO.trans s2 h2) (fun _ _ z => z) (fun z => z) fun u ρ3 P3 H3 F3 e3 h3 n3 s3 => ?_
  obtain ⟨w, hw, h3⟩ := endO_val (EndO.trans s3 h3)
  cases ea : look ρ3 x with
  | none => rw [ea] at hw; cases hw
  | some a =>
    rw [ea] at hw
    have ow := ((hx.step s2).step s3).look n3 ea
    have hw : gSl a l u = some w := hw
    unfold gSl at hw
    cases eb : asL a with
    | some ds =>
      rw [eb] at hw
      cases hw
      obtain ⟨p, xs, rfl, hq, hd⟩ := ow.lst n3.ex eb
      refine .inl ⟨p, xs, rfl, by rw [hK]; exact hq, fun p hp => h3.alc n3 (Alc.own n3.ex hp) ⟨p, _, rfl, rfl, upd_same, dpa_cut hd⟩⟩
    | none =>
      rw [eb] at hw
      cases ec : asT a with
      | none => rw [ec] at hw; cases hw
      | some ds =>
        rw [ec] at hw
        cases hw
        have ra : a = .dat (.tuple ds) := by
          cases a with
          | dat d => cases d <;> first | (cases ec; rfl) | cases ec
          | _ => cases ec
        obtain ⟨S9, ow9⟩ := id ow
        subst ra
        have ow9 : Dp G.K P3 vx (.tuple ds) := ow9
        obtain ⟨p, xs, rfl, hq, hd⟩ := ow.tup n3.ex ec
        have hl := dpa_len _ _ hd
        refine .inr ⟨p, xs, rfl, by rw [hK]; exact hq, fun z => ?_, fun _ p hp => ?_⟩
        · rw [hl] at z
          rw [whole_cut z] at h3
          exact h3.datum n3 ow9
        · exact h3.alc n3 (Alc.tup (o := .tup (cutV xs l u)) n3.ex hp) (Dp.tup (SqT.of upd_same) (dpa_mono (same_upd (same_none n3.ex hp)) _ _ (dpa_cut hd)))
end
end Mi
end
section
set_option Elab.async false
set_option linter.all false
set_option maxRecDepth 100000
/-! Ev6: freezing, displays, calls of built-ins -/
namespace Mi
open PySem L2

/-! ### freezing -/
noncomputable def froz (P H : Hp) (S : Ad) : Hp := by classical exact fun b => if S b then H b else P b
section
variable {G : Glb} {P H : Hp} {F : Nat → Ad} {σ : L2.St} {ρ ρ' : Rho} {S : Ad} {v : V} {w : Vl} {d : PyData} {i : Nat}
theorem froz_in {b : Addr} (h : S b) : froz P H S b = H b := by unfold froz; exact if_pos h
theorem froz_out {b : Addr} (h : ¬ S b) : froz P H S b = P b := by unfold froz; exact if_neg h
theorem froz_mono (h : ∀ b, S b → P b = none) : Same P (froz P H S) := fun b o e => by
  by_cases q : S b
  · rw [h b q] at e; cases e
  · rw [froz_out q]; exact e
theorem froz_sub (e : Same P H) : Same (froz P H S) H := fun b o h => by
  by_cases q : S b
  · rw [froz_in q] at h; exact h
  · rw [froz_out q] at h; exact e b o h
theorem froz_new {b : Addr} (h : froz P H S b ≠ none) : P b ≠ none ∨ S b := by
  by_cases q : S b
  · exact .inr q
  · rw [froz_out q] at h; exact .inl h
theorem rows_froz (h0 : ∀ b, S b → P b = none) : ∀ {as : List Addr} {dss : List (List PyData)}, Rows G P H S as dss → DpAll G.K (froz P H S) (as.map V.ref) (dss.map PyData.list)
  | [], [], _ => .nil
  | b :: as, ds :: dss, ⟨h1, _, ⟨ys, h2, h3⟩, h4⟩ => .cons (.lst (SqL.of (by rw [froz_in h1]; exact h2)) (dpa_mono (froz_mono h0) _ _ h3)) (rows_froz h0 h4)
  | [], _ :: _, h => h.elim
  | _ :: _, [], h => h.elim
/-- an owned value, frozen -/
theorem ow_froz (h0 : ∀ b, S b → P b = none) (h : Ow G P H S v w) (hv : viewD w = some d) : Dp G.K (froz P H S) v d := by
  cases w with
  | dat d' => cases hv; exact dp_mono (froz_mono h0) _ _ h
  | ml ds =>
    cases hv
    obtain ⟨a, xs, rfl, h2, h3, h4⟩ := h
    exact .lst (SqL.of (by rw [froz_in h2]; exact h3)) (dpa_mono (froz_mono h0) _ _ h4)
  | mml dss =>
    cases hv
    obtain ⟨a, as, rfl, h2, h3, h4, h5⟩ := h
    exact .lst (SqL.of (by rw [froz_in h2]; exact h4)) (rows_froz h0 h5)
  | ob c fs => cases hv
  | st ns => cases hv

structure Fz (P H : Hp) (F : Nat → Ad) (P' : Hp) (F' : Nat → Ad) (S : Ad) : Prop where
  ex : Same P P'
  ph : Same P' H
  sub : ∀ i b, F' i b → F i b
  pn : ∀ b, P' b ≠ none → P b ≠ none ∨ S b ∨ ∃ i, F i b
theorem Fz.stp {P0 H0 P' : Hp} {F0 F' : Nat → Ad} (z : Fz P H F P' F' S) (s : Stp P0 H0 F0 P H F) (q : ∀ b, S b → (∃ i, F0 i b) ∨ H0 b = none) : Stp P0 H0 F0 P' H F' := by
  refine ⟨s.ex.trans z.ex, s.fr, fun i b h => s.sub i b (z.sub i b h), fun b h => ?_, s.al⟩
  rcases z.pn b h with y | y | ⟨i, y⟩
  · exact s.pn b y
  · exact .inr (q b y)
  · exact .inr (s.sub i b y)
def upR (ρ : Rho) (i : Nat) (d : PyData) : Rho := ρ.set i (some (.dat d))
def frz1 (ρ : Rho) : Opd → Option (PyData × Rho)
  | .val w => (viewD w).map fun d => (d, ρ)
  | .brw i => ((look ρ (.brw i)).bind viewD).map fun d => (d, upR ρ i d)
def frzL (ρ : Rho) : List Opd → Option (List PyData × Rho)
  | [] => some ([], ρ)
  | o :: os => (frz1 ρ o).bind fun p => (frzL p.2 os).map fun q => (p.1 :: q.1, q.2)
/-- a slot's own things are frozen -/
def offF (F : Nat → Ad) (i : Nat) : Nat → Ad := fun j b => j ≠ i ∧ F j b
theorem frz1_ok {o : Opd} (n : Now G P H σ ρ F) (h : Has G P H F σ S v o) (e : frz1 ρ o = some (d, ρ')) : ∃ P' F', Now G P' H σ ρ' F' ∧ Dp G.K P' v d ∧ Fz P H F P' F' S := by
  cases o with
  | val w =>
    have t : Tmp G P H F S v w := h
    have e : (viewD w).map (fun d => (d, ρ)) = some (d, ρ') := e
    obtain ⟨d', hv, e2⟩ := Option.map_eq_some_iff.mp e
    cases e2
    refine ⟨froz P H S, F, ⟨froz_sub n.ex, n.dj, fun i b h => ?_, n.al, fun i w h => ?_, n.kd⟩, ow_froz t.np t.ow hv, froz_mono t.np, froz_sub n.ex, fun _ _ h => h, fun b h => (froz_new h).imp id .inl⟩
    · rw [froz_out fun q => t.dj b q i h]; exact n.np i b h
    · obtain ⟨v, h1, h2⟩ := n.rd i w h
      exact ⟨v, h1, h2.mono (froz_mono t.np) (fun _ _ _ e => e) fun _ z => z⟩
  | brw i =>
    have hs : σ[i]? = some (some v) := h
    have e : ((look ρ (.brw i)).bind viewD).map (fun d => (d, upR ρ i d)) = some (d, ρ') := e
    obtain ⟨d', hv, e2⟩ := Option.map_eq_some_iff.mp e
    cases e2
    obtain ⟨w, hw, hv2⟩ := Option.bind_eq_some_iff.mp hv
    clear hv
    obtain ⟨v', h1, h2⟩ := n.rd i w (join_some hw)
    rw [hs] at h1
    have ev : v = v' := by simpa using h1
    subst ev
    have hnp := n.np i
    refine ⟨froz P H (F i), offF F i, ⟨froz_sub n.ex, fun j k a h1 h2 => n.dj j k a h1.2 h2.2, fun j b h => ?_, fun j b h => n.al j b h.2, fun j w' h => ?_, fun j b u h e => n.kd j b u h.2 e⟩, ow_froz hnp h2 hv2, froz_mono hnp, froz_sub n.ex, fun _ _ h => h.2, fun b h => ?_⟩
    · rw [froz_out fun q => h.1 (n.dj j i b h.2 q)]; exact n.np j b h.2
    · unfold upR at h
      by_cases hj : j = i
      · subst hj
        have hl : j < ρ.length := by
          have := join_some hw
          exact (List.getElem?_eq_some_iff.mp this).1
        rw [List.getElem?_set_self hl] at h
        cases h
        exact ⟨v, hs, ow_froz hnp h2 hv2⟩
      · rw [List.getElem?_set_ne (Ne.symm hj)] at h
        obtain ⟨v2, h3, h4⟩ := n.rd j w' h
        exact ⟨v2, h3, h4.mono (froz_mono hnp) (fun _ _ _ e => e) fun b z => ⟨hj, z⟩⟩
    · rcases froz_new h with z | z
      · exact .inl z
      · exact .inr (.inr ⟨i, z⟩)
theorem Has.fz {P' : Hp} {F' : Nat → Ad} {S1 : Ad} {o : Opd} (h : Has G P H F σ S v o) (z : Fz P H F P' F' S1) (d : ∀ b, S b → ¬ S1 b) : Has G P' H F' σ S v o := by
  cases o with
  | val w =>
    have t : Tmp G P H F S v w := h
    refine ⟨t.ow.mono z.ex (fun _ _ _ e => e) fun _ y => y, fun b hb => ?_, t.al, fun b hb i q => t.dj b hb i (z.sub i b q), t.kd⟩
    refine Classical.byContradiction fun q => ?_
    rcases z.pn b q with y | y | ⟨i, y⟩
    · exact y (t.np b hb)
    · exact d b hb y
    · exact t.dj b hb i y
  | brw i => exact h
theorem HasL.fz {P' : Hp} {F' : Nat → Ad} {S1 : Ad} (z : Fz P H F P' F' S1) : ∀ {vs : List V} {os : List Opd} {S : Ad}, HasL G P H F σ S vs os → (∀ b, S b → ¬ S1 b) → HasL G P' H F' σ S vs os
  | [], [], _, _, _ => trivial
  | v :: vs, o :: os, _, ⟨S2, S3, h1, h2, h3, h4⟩, d => ⟨S2, S3, h1.fz z fun b hb => d b (h3 b hb).1, HasL.fz z h2 fun b hb => d b (h4 b hb), h3, h4⟩
  | [], _ :: _, _, h, _ => h.elim
  | _ :: _, [], _, h, _ => h.elim
theorem frzL_ok : ∀ {os : List Opd} {vs : List V} {S : Ad} {ρ ρ' : Rho} {P : Hp} {F : Nat → Ad} {ds : List PyData}, Now G P H σ ρ F → HasL G P H F σ S vs os → frzL ρ os = some (ds, ρ') →
    ∃ P' F', Now G P' H σ ρ' F' ∧ DpAll G.K P' vs ds ∧ Fz P H F P' F' S
  | [], [], S, ρ, ρ', P, F, ds, n, _, e => by
    have e : some ([], ρ) = some (ds, ρ') := e
    cases e
    exact ⟨P, F, n, .nil, Same.refl P, n.ex, fun _ _ h => h, fun _ h => .inl h⟩
  | o :: os, v :: vs, S, ρ, ρ', P, F, ds, n, ⟨S1, S2, h1, h2, h3, h4⟩, e => by
    have e : (frz1 ρ o).bind (fun p => (frzL p.2 os).map fun q => (p.1 :: q.1, q.2)) = some (ds, ρ') := e
    obtain ⟨⟨d, ρ1⟩, e1, e⟩ := Option.bind_eq_some_iff.mp e
    obtain ⟨⟨ds', ρ2⟩, e2, e3⟩ := Option.map_eq_some_iff.mp e
    cases e3
    obtain ⟨P1, F1, n1, d1, z1⟩ := frz1_ok n h1 e1
    obtain ⟨P2, F2, n2, d2, z2⟩ := frzL_ok n1 (HasL.fz z1 h2 fun b hb q => (h3 b q).2 hb) e2
    refine ⟨P2, F2, n2, .cons (dp_mono z2.ex _ _ d1) d2, z1.ex.trans z2.ex, z2.ph, fun i b h => z1.sub i b (z2.sub i b h), fun b h => ?_⟩
    rcases z2.pn b h with y | y | ⟨i, y⟩
    · rcases z1.pn b y with x | x | x
      · exact .inl x
      · exact .inr (.inl (h3 b x).1)
      · exact .inr (.inr x)
    · exact .inr (.inl (h4 b y))
    · exact .inr (.inr ⟨i, z1.sub i b y⟩)
  | [], _ :: _, _, _, _, _, _, _, _, h, _ => h.elim
  | _ :: _, [], _, _, _, _, _, _, _, h, _ => h.elim
end

/-! ### the general bind for arguments -/
section
variable {G : Glb} {W : WX} {P H P1 H1 : Hp} {F F1 : Nat → Ad} {σ : L2.St} {ρ : Rho} {f : FA}
theorem tA_bind {Q : List V → Hp → Prop} {β : Type} {k : List Opd → Rho → Out β} {End : Hp → Hp → (Nat → Ad) → Out β → Prop} (n : Now G P H σ ρ F) (hE : End P H F ((f ρ).bind k))
    (hx : ∀ c ρ', End P H F (.exc c ρ') → ∀ P' H' F', Now G P' H' σ ρ' F' → Stp P H F P' H' F' → W (.ref (G.ea c)) none σ H') (hs : ¬ End P H F .stk)
    (h : ∀ os ρ1 vs P1 H1 F1 S, f ρ = .ok os ρ1 → End P H F (k os ρ1) → Now G P1 H1 σ ρ1 F1 → Stp P H F P1 H1 F1 → HasL G P1 H1 F1 σ S vs os → (∀ b, S b → (P1 b = none ∧ H1 b ≠ none ∧ ∀ i, ¬ F1 i b) ∧ ((∃ i, F i b) ∨ H b = none)) → Q vs H1) : tA G W f σ H Q := by
  refine ⟨ρ, P, F, n, ?_⟩
  cases e : f ρ with
  | ok os ρ1 =>
    rw [e] at hE
    exact fun vs P1 H1 F1 S n1 s1 h1 q1 => h os ρ1 vs P1 H1 F1 S e hE n1 s1 h1 q1
  | exc c ρ' => rw [e] at hE; exact hx c ρ' hE
  | stk => rw [e] at hE; exact (hs hE).elim
end

/-! ### displays -/
noncomputable def mkT (ρ : Rho) (os : List Opd) : Out Opd := match frzL ρ os with
  | some (ds, ρ2) => if ds.length ≤ 100000 then .ok (.val (.dat (.tuple ds))) ρ2 else .stk
  | none => .stk
noncomputable def mkL (ρ : Rho) (os : List Opd) : Out Opd := match frzL ρ os with
  | some (ds, ρ2) => if ds.length ≤ 100000 then .ok (.val (.ml ds)) ρ2 else .stk
  | none => .stk
noncomputable def fTup (fa : FA) : FE := fun ρ => (fa ρ).bind fun os ρ1 => mkT ρ1 os
noncomputable def fLst (fa : FA) : FE := fun ρ => (fa ρ).bind fun os ρ1 => mkL ρ1 os
theorem line5 {n : Nat} (h : n ≤ 100000) : n ≤ sizeLine := by rw [sizeLine_eq]; omega
section
variable {X : Cx} {W : WX} {G : Glb} {k : Nat} {es : List Expr} {e : Expr} {fa : FA} {f : FE} {pos : Pos}
theorem e_tup {x1} (h : PA X es (tA G W fa)) : PE X (.Tuple es x1 pos) (tE G W (fTup fa)) := PE.imp (pe_tup h) fun σ H Q h => by
  obtain ⟨ρ, P, F, n, h⟩ := h
  refine tA_bind (End := fun P H F => EndO G W P H F σ Q) n h (fun _ _ z => z) (fun z => z) fun os ρ1 vs P1 H1 F1 S1 e1 h1 n1 s1 hs q1 => ?_
  unfold mkT at h1
  cases e2 : frzL ρ1 os with
  | none => rw [e2] at h1; exact h1.elim
  | some p =>
    obtain ⟨ds, ρ2⟩ := p
    rw [e2] at h1
    obtain ⟨P2, F2, n2, d2, z2⟩ := frzL_ok n1 hs e2
    have hl := dpa_len _ _ d2
    by_cases hz : ds.length ≤ 100000
    · have h1 : EndO G W P H F σ Q (.ok (.val (.dat (.tuple ds))) ρ2) := by
        have h1' := h1
        simp only [hz, if_true] at h1'
        exact h1'
      refine ⟨line5 (by omega), fun p hp => ?_⟩
      have s2 := z2.stp s1 fun b hb => (q1 b hb).2
      have al := Alc.tup (o := .tup vs) n2.ex hp
      exact (EndO.trans s2 h1).alc n2 al (Dp.tup (SqT.of upd_same) (dpa_mono al.exP _ _ d2))
    · simp only [hz, if_false] at h1
      exact h1.elim
theorem e_lst (h : PA X es (tA G W fa)) : PE X (.List es pos) (tE G W (fLst fa)) := PE.imp (pe_lst h) fun σ H Q h => by
  obtain ⟨ρ, P, F, n, h⟩ := h
  refine tA_bind (End := fun P H F => EndO G W P H F σ Q) n h (fun _ _ z => z) (fun z => z) fun os ρ1 vs P1 H1 F1 S1 e1 h1 n1 s1 hs q1 => ?_
  unfold mkL at h1
  cases e2 : frzL ρ1 os with
  | none => rw [e2] at h1; exact h1.elim
  | some p =>
    obtain ⟨ds, ρ2⟩ := p
    rw [e2] at h1
    obtain ⟨P2, F2, n2, d2, z2⟩ := frzL_ok n1 hs e2
    have hl := dpa_len _ _ d2
    by_cases hz : ds.length ≤ 100000
    · have h1 : EndO G W P H F σ Q (.ok (.val (.ml ds)) ρ2) := by
        have h1' := h1
        simp only [hz, if_true] at h1'
        exact h1'
      refine ⟨line5 (by omega), fun p hp => ?_⟩
      have s2 := z2.stp s1 fun b hb => (q1 b hb).2
      have al := Alc.own (o := .lst vs) n2.ex hp
      exact (EndO.trans s2 h1).alc n2 al ⟨p, vs, rfl, rfl, upd_same, d2⟩
    · simp only [hz, if_false] at h1
      exact h1.elim
end

/-! ### calls of built-ins that only read -/
def looks (ρ : Rho) : List Opd → Option (List Vl)
  | [] => some []
  | o :: os => (look ρ o).bind fun w => (looks ρ os).map fun ws => w :: ws
def OwsE (G : Glb) (P H : Hp) : List V → List Vl → Prop
  | [], [] => True
  | v :: vs, w :: ws => OwE G P H v w ∧ OwsE G P H vs ws
  | _, _ => False
theorem HasL.looks {G : Glb} {P H : Hp} {F : Nat → Ad} {σ : L2.St} {ρ : Rho} (n : Now G P H σ ρ F) : ∀ {os : List Opd} {vs : List V} {S : Ad} {ws : List Vl}, HasL G P H F σ S vs os → Mi.looks ρ os = some ws → OwsE G P H vs ws
  | [], [], _, ws, _, e => by
    have e : some [] = some ws := e
    cases e; trivial
  | o :: os, v :: vs, _, ws, ⟨S1, S2, h1, h2, _⟩, e => by
    have e : (look ρ o).bind (fun w => (Mi.looks ρ os).map fun ws => w :: ws) = some ws := e
    obtain ⟨w, e1, e⟩ := Option.bind_eq_some_iff.mp e
    obtain ⟨ws', e2, e3⟩ := Option.map_eq_some_iff.mp e
    subst e3
    exact ⟨h1.look n e1, HasL.looks n h2 e2⟩
  | [], _ :: _, _, _, h, _ => h.elim
  | _ :: _, [], _, _, h, _ => h.elim
def CallOk (G : Glb) (r : List V → Hp → VK → Prop) (g : List Vl → Option Vl) : Prop :=
  ∀ (P H : Hp) (vs : List V) (ws : List Vl) (w : Vl) (Q : VK), Same P H → OwsE G P H vs ws → g ws = some w → (∀ v P' H' S, Alc P H P' H' S → Ow G P' H' S v w → Q v H') → r vs H Q
def callB (g : List Vl → Option Vl) (fa : FA) : FE := fun ρ => (fa ρ).bind fun os ρ1 => ret ρ1 ((looks ρ1 os).bind g)
theorem callB_rd {G : Glb} {W : WX} {r : List V → Hp → VK → Prop} {g : List Vl → Option Vl} (ok : CallOk G r g) {fa : FA} {σ : L2.St} {H : Hp} {Q : VK} (h : tE G W (callB g fa) σ H Q) : tA G W fa σ H (fun vs H1 => r vs H1 Q) := by
  obtain ⟨ρ, P, F, n, h⟩ := h
  refine tA_bind (End := fun P H F => EndO G W P H F σ Q) n h (fun _ _ z => z) (fun z => z) fun os ρ1 vs P1 H1 F1 S1 e1 h1 n1 s1 hs q1 => ?_
  obtain ⟨w, hw, h1⟩ := endO_val (EndO.trans s1 h1)
  cases e2 : looks ρ1 os with
  | none => rw [e2] at hw; cases hw
  | some ws =>
    rw [e2] at hw
    exact ok P1 H1 vs ws w Q n1.ex (hs.looks n1 e2) hw fun v P' H' S a o => h1.alc n1 a o
/-- how a built-in is called -/
structure BltV (G : Glb) (X : Cx) (u : Value) (g : List Vl → Option Vl) : Prop where
  ex : ∃ r, CallR X u r ∧ CallOk G r g
section
variable {X : Cx} {W : WX} {G : Glb} {k : Nat} {es : List Expr} {e : Expr} {fa : FA} {pos p : Pos} {x : Str} {id T : String} {g : List Vl → Option Vl}
theorem e_blt (h : BltV G X (.builtin id) g) (hm : X.mg x = none) (ha : PA X (e :: es) (tA G W fa)) (hg : Gl X x := by rfl) (hv : bootBuiltins x = some (.builtin id) := by decide +kernel) (hn : x ≠ "__name__" := by decide) (hdb : (x == ("__debug__" : Str)) = false := by decide)
    (he : starEach (e :: es) X.env = (false, eval e X.env) :: starEach es X.env := by rfl) (hpl : (backTo pos (starEach es X.env)).any (·.1) = false := by rfl) : PE X (.Call (.Name x p) (e :: es) [] pos) (tE G W (callB g fa)) := by
  obtain ⟨r, hc, ok⟩ := h
  exact PE.imp (pe_callB hc hg hm hv ha hn hdb he hpl) fun _ _ _ h => callB_rd ok h
theorem e_ty (h : BltV G X (.type T) g) (hm : X.mg x = none) (ha : PA X (e :: es) (tA G W fa)) (hg : Gl X x := by rfl) (hv : bootBuiltins x = some (.type T) := by decide +kernel) (hn : x ≠ "__name__" := by decide) (hdb : (x == ("__debug__" : Str)) = false := by decide)
    (he : starEach (e :: es) X.env = (false, eval e X.env) :: starEach es X.env := by rfl) (hpl : (backTo pos (starEach es X.env)).any (·.1) = false := by rfl) : PE X (.Call (.Name x p) (e :: es) [] pos) (tE G W (callB g fa)) := by
  obtain ⟨r, hc, ok⟩ := h
  exact PE.imp (pe_callTy hc hg hm hv ha hn hdb he hpl) fun _ _ _ h => callB_rd ok h
end
end Mi
end
section
set_option Elab.async false
set_option linter.all false
set_option maxRecDepth 100000
/-! Ev7: the built-ins -/
namespace Mi
open PySem L2

def asInts : List PyData → Option (List Int)
  | [] => some []
  | .int i :: ds => (asInts ds).map fun ns => i :: ns
  | _ => none
def asBools : List PyData → Option (List Bool)
  | [] => some []
  | .bool i :: ds => (asBools ds).map fun ns => i :: ns
  | _ => none
theorem asInts_map : ∀ ns : List Int, asInts (ns.map .int) = some ns
  | [] => rfl
  | n :: ns => by show (asInts (ns.map .int)).map _ = _; rw [asInts_map ns]; rfl
theorem asBools_map : ∀ ns : List Bool, asBools (ns.map .bool) = some ns
  | [] => rfl
  | n :: ns => by show (asBools (ns.map .bool)).map _ = _; rw [asBools_map ns]; rfl
theorem asInts_eq : ∀ {ds : List PyData} {ns : List Int}, asInts ds = some ns → ds = ns.map .int
  | [], ns, h => by cases h; rfl
  | .int i :: ds, ns, h => by
    have h : (asInts ds).map (fun ns => i :: ns) = some ns := h
    obtain ⟨m, h1, h2⟩ := Option.map_eq_some_iff.mp h
    subst h2
    rw [asInts_eq h1]; rfl
  | .none :: _, _, h => by cases h
  | .bool _ :: _, _, h => by cases h
  | .str _ :: _, _, h => by cases h
  | .list _ :: _, _, h => by cases h
  | .tuple _ :: _, _, h => by cases h
  | .dict _ :: _, _, h => by cases h
theorem asBools_eq : ∀ {ds : List PyData} {ns : List Bool}, asBools ds = some ns → ds = ns.map .bool
  | [], ns, h => by cases h; rfl
  | .bool i :: ds, ns, h => by
    have h : (asBools ds).map (fun ns => i :: ns) = some ns := h
    obtain ⟨m, h1, h2⟩ := Option.map_eq_some_iff.mp h
    subst h2
    rw [asBools_eq h1]; rfl
  | .none :: _, _, h => by cases h
  | .int _ :: _, _, h => by cases h
  | .str _ :: _, _, h => by cases h
  | .list _ :: _, _, h => by cases h
  | .tuple _ :: _, _, h => by cases h
  | .dict _ :: _, _, h => by cases h
theorem dpa_ints {K : PySem.W.Frag} {P : Hp} : ∀ {ns : List Int} {xs : List V}, DpAll K P xs (ns.map .int) → xs = ns.map V.int
  | [], _, h => by cases h; rfl
  | n :: ns, _, h => by
    cases h with
    | cons h1 h2 => cases h1; rw [dpa_ints h2]; rfl
theorem dpa_bools {K : PySem.W.Frag} {P : Hp} : ∀ {ns : List Bool} {xs : List V}, DpAll K P xs (ns.map .bool) → xs = ns.map V.bl
  | [], _, h => by cases h; rfl
  | n :: ns, _, h => by
    cases h with
    | cons h1 h2 => cases h1; rw [dpa_bools h2]; rfl
theorem ints_dpa {K : PySem.W.Frag} {P : Hp} : ∀ {ns : List Int}, DpAll K P (ns.map V.int) (ns.map .int)
  | [] => .nil
  | n :: ns => .cons (.int n) ints_dpa

section
variable {X : Cx} {W : WX} {G : Glb} {k : Nat}
theorem owsE1 {P H : Hp} {vs : List V} {w : Vl} (h : OwsE G P H vs [w]) : ∃ v, vs = [v] ∧ OwE G P H v w := by
  match vs, h with
  | [v], ⟨h1, _⟩ => exact ⟨v, rfl, h1⟩
theorem owsE2 {P H : Hp} {vs : List V} {w w' : Vl} (h : OwsE G P H vs [w, w']) : ∃ v v', vs = [v, v'] ∧ OwE G P H v w ∧ OwE G P H v' w' := by
  match vs, h with
  | [v, v'], ⟨h1, h2, _⟩ => exact ⟨v, v', rfl, h1, h2⟩
/-- a call of one argument -/
def g1 (g : Vl → Option Vl) : List Vl → Option Vl
  | [w] => g w
  | _ => none
theorem callOk1 {r : List V → Hp → VK → Prop} {g : Vl → Option Vl} (h : ∀ (P H : Hp) (v : V) (a w : Vl) (Q : VK), Same P H → OwE G P H v a → g a = some w → (∀ v P' H' S, Alc P H P' H' S → Ow G P' H' S v w → Q v H') → r [v] H Q) : CallOk G r (g1 g) := by
  intro P H vs ws w Q e ho hw q
  unfold g1 at hw
  split at hw
  · obtain ⟨v, rfl, h1⟩ := owsE1 ho
    exact h P H v _ w Q e h1 hw q
  · cases hw
def gLen (a : Vl) : Option Vl := (viewD a).bind fun d => match d with
  | .list ds => some (vI ds.length)
  | .tuple ds => some (vI ds.length)
  | _ => none
theorem b_len (c : Cxt G X W k) : BltV G X (.builtin "len") (g1 gLen) := ⟨⟨_, call_len, callOk1 fun P H v a w Q e h hw q => by
  unfold gLen at hw
  obtain ⟨d, hd, hw⟩ := Option.bind_eq_some_iff.mp hw
  have dp := h.dp e hd
  rw [c.K]
  cases dp with
  | lst hs ha =>
    have hw : some (vI _) = some w := hw
    cases hw
    exact ⟨_, _, rfl, .inl ⟨_, hs, rfl⟩, by rw [dpa_len _ _ ha]; exact q _ P H nobody (Alc.refl e) (Dp.int _)⟩
  | tup hs ha =>
    have hw : some (vI _) = some w := hw
    cases hw
    exact ⟨_, _, rfl, .inr ⟨_, hs, rfl⟩, by rw [dpa_len _ _ ha]; exact q _ P H nobody (Alc.refl e) (Dp.int _)⟩
  | _ => cases hw⟩⟩
def gInt : Vl → Option Vl
  | .dat (.int i) => some (vI i)
  | .dat (.bool b) => some (vI (if b then 1 else 0))
  | _ => none
theorem b_int : BltV G X (.type "int") (g1 gInt) := ⟨⟨_, call_int1, callOk1 fun P H v a w Q e h hw q => by
  unfold gInt at hw
  split at hw
  · cases hw
    exact .inl ⟨_, by rw [ow_int h], q _ P H nobody (Alc.refl e) (Dp.int _)⟩
  · cases hw
    exact .inr ⟨_, by rw [ow_bool h], q _ P H nobody (Alc.refl e) (Dp.int _)⟩
  · cases hw⟩⟩
def gAbs : Vl → Option Vl
  | .dat (.int i) => some (vI (if i < 0 then -i else i))
  | _ => none
theorem b_abs : BltV G X (.builtin "abs") (g1 gAbs) := ⟨⟨_, call_abs, callOk1 fun P H v a w Q e h hw q => by
  unfold gAbs at hw
  split at hw
  · cases hw
    exact ⟨_, by rw [ow_int h], q _ P H nobody (Alc.refl e) (Dp.int _)⟩
  · cases hw⟩⟩
def gSum (a : Vl) : Option Vl := (asL a).bind fun ds => (asInts ds).map fun ns => vI ns.sum
theorem b_sum (c : Cxt G X W k) : BltV G X (.builtin "sum") (g1 gSum) := ⟨⟨_, cr_sum c.calm, callOk1 fun P H v a w Q e h hw q => by
  obtain ⟨ds, hd, hw⟩ := Option.bind_eq_some_iff.mp hw
  obtain ⟨ns, hn, rfl⟩ := Option.map_eq_some_iff.mp hw
  obtain ⟨p, xs, rfl, hs, ha⟩ := h.lst e hd
  rw [asInts_eq hn] at ha
  rw [dpa_ints ha] at hs
  exact ⟨p, ns, rfl, by rw [c.K]; exact hs, q _ P H nobody (Alc.refl e) (Dp.int _)⟩⟩⟩
def gAny (a : Vl) : Option Vl := (asL a).bind fun ds => (asBools ds).map fun ns => vB (ns.any id)
def gAll (a : Vl) : Option Vl := (asL a).bind fun ds => (asBools ds).map fun ns => vB (ns.all id)
theorem b_any (c : Cxt G X W k) : BltV G X (.builtin "any") (g1 gAny) := ⟨⟨_, cr_any c.calm, callOk1 fun P H v a w Q e h hw q => by
  obtain ⟨ds, hd, hw⟩ := Option.bind_eq_some_iff.mp hw
  obtain ⟨ns, hn, rfl⟩ := Option.map_eq_some_iff.mp hw
  obtain ⟨p, xs, rfl, hs, ha⟩ := h.lst e hd
  rw [asBools_eq hn] at ha
  rw [dpa_bools ha] at hs
  exact ⟨p, ns, rfl, by rw [c.K]; exact hs, q _ P H nobody (Alc.refl e) (Dp.bl _)⟩⟩⟩
theorem b_all (c : Cxt G X W k) : BltV G X (.builtin "all") (g1 gAll) := ⟨⟨_, cr_all c.calm, callOk1 fun P H v a w Q e h hw q => by
  obtain ⟨ds, hd, hw⟩ := Option.bind_eq_some_iff.mp hw
  obtain ⟨ns, hn, rfl⟩ := Option.map_eq_some_iff.mp hw
  obtain ⟨p, xs, rfl, hs, ha⟩ := h.lst e hd
  rw [asBools_eq hn] at ha
  rw [dpa_bools ha] at hs
  exact ⟨p, ns, rfl, by rw [c.K]; exact hs, q _ P H nobody (Alc.refl e) (Dp.bl _)⟩⟩⟩
/-- greatest, least of ints -/
def maxI : List Int → Int
  | [] => 0
  | n :: ns => ns.foldl max n
def minI : List Int → Int
  | [] => 0
  | n :: ns => ns.foldl min n
theorem maxI_fold : ∀ (ns : List Int) (n : Int), n ≤ ns.foldl max n ∧ (∀ y ∈ ns, y ≤ ns.foldl max n) ∧ (ns.foldl max n = n ∨ ns.foldl max n ∈ ns)
  | [], n => ⟨Int.le_refl _, fun _ h => absurd h (by simp), .inl rfl⟩
  | a :: ns, n => by
    obtain ⟨h1, h2, h3⟩ := maxI_fold ns (max n a)
    rw [List.foldl_cons]
    refine ⟨by omega, fun y hy => ?_, ?_⟩
    · rcases List.mem_cons.mp hy with rfl | hy
      · omega
      · exact h2 y hy
    · rcases h3 with h3 | h3
      · rcases (show max n a = n ∨ max n a = a by omega) with q | q
        · exact .inl (h3.trans q)
        · exact .inr (List.mem_cons.mpr (.inl (h3.trans q)))
      · exact .inr (List.mem_cons_of_mem _ h3)
theorem minI_fold : ∀ (ns : List Int) (n : Int), ns.foldl min n ≤ n ∧ (∀ y ∈ ns, ns.foldl min n ≤ y) ∧ (ns.foldl min n = n ∨ ns.foldl min n ∈ ns)
  | [], n => ⟨Int.le_refl _, fun _ h => absurd h (by simp), .inl rfl⟩
  | a :: ns, n => by
    obtain ⟨h1, h2, h3⟩ := minI_fold ns (min n a)
    rw [List.foldl_cons]
    refine ⟨by omega, fun y hy => ?_, ?_⟩
    · rcases List.mem_cons.mp hy with rfl | hy
      · omega
      · exact h2 y hy
    · rcases h3 with h3 | h3
      · rcases (show min n a = n ∨ min n a = a by omega) with q | q
        · exact .inl (h3.trans q)
        · exact .inr (List.mem_cons.mpr (.inl (h3.trans q)))
      · exact .inr (List.mem_cons_of_mem _ h3)
theorem maxI_mem {ns : List Int} (h : 0 < ns.length) : maxI ns ∈ ns := by
  cases ns with
  | nil => simp at h
  | cons n ns =>
    rcases (maxI_fold ns n).2.2 with q | q
    · exact List.mem_cons.mpr (.inl q)
    · exact List.mem_cons_of_mem _ q
theorem maxI_le {ns : List Int} {y : Int} (h : y ∈ ns) : y ≤ maxI ns := by
  cases ns with
  | nil => cases h
  | cons n ns =>
    rcases List.mem_cons.mp h with rfl | h
    · exact (maxI_fold ns y).1
    · exact (maxI_fold ns n).2.1 y h
theorem minI_mem {ns : List Int} (h : 0 < ns.length) : minI ns ∈ ns := by
  cases ns with
  | nil => simp at h
  | cons n ns =>
    rcases (minI_fold ns n).2.2 with q | q
    · exact List.mem_cons.mpr (.inl q)
    · exact List.mem_cons_of_mem _ q
theorem minI_le {ns : List Int} {y : Int} (h : y ∈ ns) : minI ns ≤ y := by
  cases ns with
  | nil => cases h
  | cons n ns =>
    rcases List.mem_cons.mp h with rfl | h
    · exact (minI_fold ns y).1
    · exact (minI_fold ns n).2.1 y h
theorem CallR.or {u : Value} {r r' : List V → Hp → VK → Prop} (h : CallR X u r) (h' : CallR X u r') : CallR X u (fun vs H Q => r vs H Q ∨ r' vs H Q) := by
  intro pins s σ H vs us Q I rv q
  rcases q with q | q
  · exact h pins s σ H vs us Q I rv q
  · exact h' pins s σ H vs us Q I rv q
def orC (g g' : List Vl → Option Vl) : List Vl → Option Vl := fun ws => match g ws with
  | some w => some w
  | none => g' ws
theorem callOr {r r' : List V → Hp → VK → Prop} {g g' : List Vl → Option Vl} (h : CallOk G r g) (h' : CallOk G r' g') : CallOk G (fun vs H Q => r vs H Q ∨ r' vs H Q) (orC g g') := fun P H vs ws w Q e ho hw q => by
  unfold orC at hw
  cases z : g ws with
  | some w' => rw [z] at hw; cases hw; exact .inl (h P H vs ws w Q e ho z q)
  | none => rw [z] at hw; exact .inr (h' P H vs ws w Q e ho hw q)
theorem BltV.or {u : Value} {g g' : List Vl → Option Vl} (h : BltV G X u g) (h' : BltV G X u g') : BltV G X u (orC g g') := by
  obtain ⟨r, a, b⟩ := h
  obtain ⟨r', a', b'⟩ := h'
  exact ⟨⟨_, CallR.or a a', callOr b b'⟩⟩
def g2I (f : Int → Int → Int) : List Vl → Option Vl
  | [.dat (.int i), .dat (.int j)] => some (vI (f i j))
  | _ => none
theorem b_max2 (c : Cxt G X W k) : BltV G X (.builtin "max") (g2I fun i j => if j > i then j else i) := ⟨⟨_, call_max2 c.calm, fun P H vs ws w Q e ho hw q => by
  unfold g2I at hw
  split at hw
  · cases hw
    obtain ⟨v, v', rfl, h1, h2⟩ := owsE2 ho
    exact ⟨_, _, by rw [ow_int h1, ow_int h2], q _ P H nobody (Alc.refl e) (Dp.int _)⟩
  · cases hw⟩⟩
theorem b_min2 (c : Cxt G X W k) : BltV G X (.builtin "min") (g2I fun i j => if j < i then j else i) := ⟨⟨_, call_min2 c.calm, fun P H vs ws w Q e ho hw q => by
  unfold g2I at hw
  split at hw
  · cases hw
    obtain ⟨v, v', rfl, h1, h2⟩ := owsE2 ho
    exact ⟨_, _, by rw [ow_int h1, ow_int h2], q _ P H nobody (Alc.refl e) (Dp.int _)⟩
  · cases hw⟩⟩
noncomputable def gMax1 (a : Vl) : Option Vl := (asL a).bind fun ds => (asInts ds).bind fun ns => gd (0 < ns.length) (vI (maxI ns))
noncomputable def gMin1 (a : Vl) : Option Vl := (asL a).bind fun ds => (asInts ds).bind fun ns => gd (0 < ns.length) (vI (minI ns))
theorem b_max1 (c : Cxt G X W k) : BltV G X (.builtin "max") (g1 gMax1) := ⟨⟨_, cr_max c.calm, callOk1 fun P H v a w Q e h hw q => by
  obtain ⟨ds, hd, hw⟩ := Option.bind_eq_some_iff.mp hw
  obtain ⟨ns, hn, hw⟩ := Option.bind_eq_some_iff.mp hw
  obtain ⟨h0, rfl⟩ := gd_some hw
  obtain ⟨p, xs, rfl, hs, ha⟩ := h.lst e hd
  rw [asInts_eq hn] at ha
  rw [dpa_ints ha] at hs
  refine ⟨p, ns, rfl, by rw [c.K]; exact hs, h0, fun m hm hle => ?_⟩
  have : m = maxI ns := Int.le_antisymm (maxI_le hm) (hle _ (maxI_mem h0))
  rw [this]
  exact q _ P H nobody (Alc.refl e) (Dp.int _)⟩⟩
theorem b_min1 (c : Cxt G X W k) : BltV G X (.builtin "min") (g1 gMin1) := ⟨⟨_, cr_min c.calm, callOk1 fun P H v a w Q e h hw q => by
  obtain ⟨ds, hd, hw⟩ := Option.bind_eq_some_iff.mp hw
  obtain ⟨ns, hn, hw⟩ := Option.bind_eq_some_iff.mp hw
  obtain ⟨h0, rfl⟩ := gd_some hw
  obtain ⟨p, xs, rfl, hs, ha⟩ := h.lst e hd
  rw [asInts_eq hn] at ha
  rw [dpa_ints ha] at hs
  refine ⟨p, ns, rfl, by rw [c.K]; exact hs, h0, fun m hm hle => ?_⟩
  have : m = minI ns := Int.le_antisymm (hle _ (minI_mem h0)) (minI_le hm)
  rw [this]
  exact q _ P H nobody (Alc.refl e) (Dp.int _)⟩⟩
def gList (a : Vl) : Option Vl := match asL a with
  | some ds => some (.ml ds)
  | none => (asT a).map .ml
theorem b_list (c : Cxt G X W k) : BltV G X (.type "list") (g1 gList) := ⟨⟨_, call_list_of, callOk1 fun P H v a w Q e h hw q => by
  unfold gList at hw
  rw [c.K]
  cases ea : asL a with
  | some ds =>
    rw [ea] at hw
    cases hw
    obtain ⟨p, xs, rfl, hs, ha⟩ := h.lst e ea
    exact ⟨p, xs, rfl, .inl hs, fun l hl => q _ P _ _ (Alc.own e hl) ⟨l, xs, rfl, rfl, upd_same, ha⟩⟩
  | none =>
    rw [ea] at hw
    obtain ⟨ds, hd, rfl⟩ := Option.map_eq_some_iff.mp hw
    obtain ⟨p, xs, rfl, hs, ha⟩ := h.tup e hd
    exact ⟨p, xs, rfl, .inr hs, fun l hl => q _ P _ _ (Alc.own e hl) ⟨l, xs, rfl, rfl, upd_same, ha⟩⟩⟩⟩
theorem asT_eq {a : Vl} {ds : List PyData} (h : asT a = some ds) : a = .dat (.tuple ds) := by
  cases a with
  | dat d => cases d <;> first | (cases h; rfl) | cases h
  | _ => cases h
def gTuple (a : Vl) : Option Vl := match asL a with
  | some ds => some (.dat (.tuple ds))
  | none => (asT a).map fun ds => .dat (.tuple ds)
theorem b_tuple (c : Cxt G X W k) : BltV G X (.type "tuple") (g1 gTuple) := ⟨⟨_, call_tuple_of, callOk1 fun P H v a w Q e h hw q => by
  unfold gTuple at hw
  rw [c.K]
  cases ea : asL a with
  | some ds =>
    rw [ea] at hw
    cases hw
    obtain ⟨p, xs, rfl, hs, ha⟩ := h.lst e ea
    exact ⟨p, xs, rfl, .inl ⟨hs, fun l hl => q _ _ _ _ (Alc.tup (o := .tup xs) e hl) (Dp.tup (SqT.of upd_same) (dpa_mono (same_upd (same_none e hl)) _ _ ha))⟩⟩
  | none =>
    rw [ea] at hw
    obtain ⟨ds, hd, rfl⟩ := Option.map_eq_some_iff.mp hw
    have hr := asT_eq hd
    subst hr
    obtain ⟨S, ow⟩ := id h
    obtain ⟨p, xs, rfl, hs, ha⟩ := h.tup e hd
    exact ⟨p, xs, rfl, .inr ⟨hs, q _ P H nobody (Alc.refl e) ow⟩⟩⟩⟩

/-! ### sorted -/
structure Srt (ds : List PyData) : Prop where
  al : PySem.W.AllAlike ds
  so : PySem.W.Sortable ds
  dp : ∀ d ∈ ds, d.depth ≤ 64
noncomputable def sortD (rev : Bool) (ds : List PyData) : List PyData := ds.mergeSort (PySem.W.dataLe rev id)
noncomputable def gSorted (a : Vl) : Option Vl := (asL a).bind fun ds => gd (Srt ds) (.ml (sortD false ds))
def EachD (K : PySem.W.Frag) (P : Hp) (v : Value) (d : PyData) : Prop := ∃ x, RelV x v ∧ Dp K P x d
theorem eachD {K : PySem.W.Frag} {P : Hp} : ∀ {xs : List V} {us : List Value} {ds : List PyData}, Vals xs us → DpAll K P xs ds → PySem.W.EachIs (EachD K P) us ds
  | [], _, _, r, h => by cases r; cases h; exact .nil
  | x :: xs, _, _, r, h => by
    cases r with
    | cons r1 r2 =>
      cases h with
      | cons h1 h2 => exact .cons ⟨x, r1, h1⟩ (eachD r2 h2)
theorem dOfEach {K : PySem.W.Frag} {P : Hp} : ∀ {us : List Value} {ds : List PyData}, PySem.W.EachIs (EachD K P) us ds → ∃ xs, Vals xs us ∧ DpAll K P xs ds
  | [], _, h => by cases h; exact ⟨[], .nil, .nil⟩
  | u :: us, _, h => by
    cases h with
    | cons h1 h2 =>
      obtain ⟨x, r, d⟩ := h1
      obtain ⟨xs, r2, d2⟩ := dOfEach h2
      exact ⟨x :: xs, .cons r r2, .cons d d2⟩
theorem eachReads {pins : List (Addr × Obj)} {s : Shared} {σ : L2.St} {H P : Hp} (I : L2.Inv X pins σ H s) (e : Same P H) : ∀ {us : List Value} {ds : List PyData}, PySem.W.EachIs (EachD X.K P) us ds → PySem.W.EachIs (fun v b => ∃ as, Reads s.heap v (id b) as) us ds
  | [], _, h => by cases h; exact .nil
  | u :: us, _, h => by
    cases h with
    | cons h1 h2 =>
      obtain ⟨x, r, d⟩ := h1
      exact .cons (Dp.reads I _ _ _ (dp_mono e _ _ d) r) (eachReads I e h2)
def rSortD (K : PySem.W.Frag) : List V → Hp → VK → Prop := fun vs H Q => ∃ (P : Hp) (a : Addr) (xs : List V) (ds : List PyData), Same P H ∧ vs = [V.ref a] ∧ SqL K H a xs ∧ DpAll K P xs ds ∧ Srt ds ∧
  ∀ (ys : List V) (p : Addr), DpAll K P ys (sortD false ds) → H p = none → Q (.ref p) (upd H p (.lst ys))
theorem cr_sortD (c : Cxt G X W k) : CallR X (.builtin "sorted") (rSortD X.K) := by
  intro pins s σ H vs us Q I r h
  obtain ⟨P, a, xs, ds, e, rfl, hs, ha, so, q⟩ := h
  obtain ⟨its, rv, hl, hz⟩ := I.list hs
  rw [Vals.ref1 r]
  have hlen := rv.length
  have hlen2 := dpa_len _ _ ha
  have ed := eachD rv ha
  refine PySem.W.sorted_data (enc := id) hl.isList ed (eachReads I e ed) (by rw [List.map_id]; exact so.al) (by rw [List.map_id]; exact so.so) (by omega) (fun b hb => ?_) fun out ho eo => ?_
  · have := so.dp b hb
    have := c.room.un
    show X.A.units + 2 + b.depth < cLine
    omega
  · obtain ⟨ys, ry, dy⟩ := dOfEach eo
    obtain ⟨ep, he'⟩ := PyProof.Rows.sortedAll_at s.heap its out.toArray
    have hy := ry.length
    exact ⟨.ref _, upd H (s.heap.objs.size + 1) (.lst ys), I.laid (t' := s.toks) (fun _ _ => PyProof.Rows.sortedAll_old) (Nat.le_succ _) ⟨by omega, out, ep, ry, he'⟩, rfl, q ys _ dy (I.hok.fresh (Nat.le_succ _))⟩
theorem b_sorted (c : Cxt G X W k) : BltV G X (.builtin "sorted") (g1 gSorted) := ⟨⟨_, cr_sortD c, callOk1 fun P H v a w Q e h hw q => by
  obtain ⟨ds, hd, hw⟩ := Option.bind_eq_some_iff.mp hw
  obtain ⟨so, rfl⟩ := gd_some hw
  obtain ⟨p, xs, rfl, hs, ha⟩ := h.lst e hd
  rw [c.K]
  exact ⟨P, p, xs, ds, e, rfl, hs, ha, so, fun ys l dy hl => q _ P _ _ (Alc.own e hl) ⟨l, ys, rfl, rfl, upd_same, dy⟩⟩⟩⟩

/-! ### repr -/
structure Rok (d : PyData) : Prop where
  sh : d.showable = true
  nd : d.hasDict = false
  dp : d.depth ≤ 64
  sz : d.shown.length ≤ sizeLine
def isRef : PyData → Bool
  | .list _ => true
  | .tuple _ => true
  | _ => false
noncomputable def gRepr (a : Vl) : Option Vl := (viewD a).bind fun d => gd (Rok d ∧ isRef d = true) (.dat (.str d.shown))
def rReprD (K : PySem.W.Frag) : List V → Hp → VK → Prop := fun vs H Q => ∃ (v : V) (d : PyData), vs = [v] ∧ Dp K H v d ∧ Rok d ∧ isRef d = true ∧ Q (.str d.shown) H
theorem cr_reprD (c : Cxt G X W k) : CallR X (.builtin "repr") (rReprD X.K) := by
  intro pins s σ H vs us Q I r h
  obtain ⟨v, d, rfl, dp, ok, hr, q⟩ := h
  cases r with
  | cons r1 r2 =>
    cases r2
    obtain ⟨as, rd⟩ := Dp.reads I d v _ dp r1
    have hu := c.room.un
    have hdp := ok.dp
    cases dp with
    | lst hs ha =>
      cases r1
      exact repr_of_reads' rd ok.sh (fun z => by rw [ok.nd] at z; cases z) c.gd (by omega) (fun _ _ z => z) (fun h' u tk hk => ⟨.str _, H, I.kept hk, ⟨_, rfl⟩, q⟩) ok.sz
    | tup hs ha =>
      cases r1
      exact repr_of_reads' rd ok.sh (fun z => by rw [ok.nd] at z; cases z) c.gd (by omega) (fun _ _ z => z) (fun h' u tk hk => ⟨.str _, H, I.kept hk, ⟨_, rfl⟩, q⟩) ok.sz
    | _ => cases hr
theorem b_repr (c : Cxt G X W k) : BltV G X (.builtin "repr") (g1 gRepr) := ⟨⟨_, cr_reprD c, callOk1 fun P H v a w Q e h hw q => by
  obtain ⟨d, hd, hw⟩ := Option.bind_eq_some_iff.mp hw
  obtain ⟨⟨ok, hr⟩, rfl⟩ := gd_some hw
  rw [c.K]
  exact ⟨v, d, rfl, h.dp e hd, ok, hr, q _ P H nobody (Alc.refl e) (Dp.str _)⟩⟩⟩
end
end Mi
end
section
set_option Elab.async false
set_option linter.all false
set_option maxRecDepth 100000
/-! Ev8a: set(list of ints); sorted of such a set, of any size: at the library's level -/
namespace Mi
open PySem PySem.Spec PyProof.Rows L2
section
variable {P : Program} {w : World} {A : Around} {E : Value → Shared → Prop} {s : Shared}
/-- a set as it is made -/
abbrev bornSet (w : World) : Obj := { cls := .type "set", dict := none, data := .set #[] 0 (.fresh 0 0 (!w.params.followText "set-order")) }
set_option maxRecDepth 100000 in
set_option maxHeartbeats 3200000 in
theorem set_of_list {l : Addr} {items : Array Value} (ns : List Int) {Q : Value → Shared → Prop} (hh : A.handled = none) (hl : s.heap.IsList l items) (hit : IntsAre items.toList ns) (hb : ns.length + 1 < scanBound)
    (fin : ∀ (h' : Heap) (tk c : Nat), SetR w h' s.heap.objs.size (fun j => decide (j ∈ ns)) c → c ≤ ns.length → (∀ b o, s.heap.get? b = some o → h'.get? b = some o) → Q (.ref s.heap.objs.size) { s with heap := h', toks := tk }) :
    wpAny (model P w) A (call (.type "set") [.ref l]) Q E s := by
  have many : items.size = ns.length := by
    have q := IntsAre.length hit
    rwa [Array.length_toList] at q
  obtain ⟨mc, mtl, mmro⟩ := F.called_set.mro
  have m1 := F.called_set.made
  have m2 := F.called_set.sub
  refine wpAny_call (codeAny_of_tree ?_)
  show wpAny _ _ (callAny (.type "set") _) _ _ _
  refine wpAny_pure ⟨Code.quiet_builtin _ (by decide +kernel), codeAny_builtin F.entry_type_call ?_⟩
  rw [Around.under_plain (weight_type_call_type "set" [.ref l] []) rfl]
  have m3 := F.called_set.notType
  have m4 := F.called_set.canCreate
  have m5 := F.typeCall_set_1 (.ref l)
  repeat (any_goals (first | assumption | wp_step))
  refine codeAny_mono (code_set_led1 (.ref l) (E := E) (Q₁ := fun made s₁ => made = .ref s.heap.objs.size ∧ s₁ = { s with heap := s.heap.push (bornSet w) }) ⟨rfl, rfl⟩) fun res s₁ got => ?_
  cases res with
  | error e => exact got
  | ok fl =>
    cases fl with
    | ret made =>
      obtain ⟨rfl, rfl⟩ := got
      have atS : (s.heap.push (bornSet w)).get? s.heap.objs.size = some (bornSet w) := Heap.get?_push_size _ rfl
      have isS : Shared.TypeIs { s with heap := s.heap.push (bornSet w) } (.ref s.heap.objs.size) "set" := ⟨_, atS, rfl⟩
      have m6 := F.called_set.init.lookup
      have m7 := F.called_set.init.bind (.ref s.heap.objs.size)
      repeat (any_goals (first | assumption | wp_step))
      refine codeAny_mono (codeAny_call_builtin (R := wants (fun res s₂ => res = .none ∧ ∃ h' tk c, s₂ = { s with heap := h', toks := tk } ∧ SetR w h' s.heap.objs.size (fun j => decide (j ∈ ns)) c ∧ c ≤ ns.length ∧ (∀ b o, s.heap.get? b = some o → h'.get? b = some o)) E)
        F.called_set.init.plain F.entry_set_init (check_set_init_1 isS ?_)) fun res2 s₂ got2 => ?_
      · obtain ⟨⟨lc, ld, ldat, lsl⟩, hol, hcl, nl, hdl⟩ := hl
        simp only at hcl hdl
        subst hcl; subst hdl
        have atL : (s.heap.push (bornSet w)).get? l = some { cls := .type "list", dict := ld, data := .seq items nl, slots := lsl } := Heap.get?_push_of_some _ hol
        have n1 := F.sub_list_set
        have n2 := F.sub_list_frozenset
        have n3 : (Value.type "list" == Value.type "dict") = false := by decide
        have isL : (s.heap.push (bornSet w)).IsList l items := ⟨_, atL, rfl, nl, rfl⟩
        unfold Builtin.«set.__init__» noKeywords Builtin.Frozenset.updateFrom
        generalize hPI : pyIter = PI
        wp_walk
        subst hPI
        refine wpAny_pyIter_list isL ?_
        refine wpAny_bind (wpAny_runValue ?_)
        have lS : l < s.heap.objs.size := Heap.lt_size hol
        have noh : A.in1.in1.in1.handled = none := by simp [hh]
        have lI : l ≠ (s.heap.push (bornSet w)).objs.size := by
          rw [Heap.size_push]; exact Nat.ne_of_lt (Nat.lt_succ_of_lt lS)
        have sI : s.heap.objs.size ∉ [(s.heap.push (bornSet w)).objs.size, l] := by
          rw [Heap.size_push]; simp only [List.mem_cons, List.mem_singleton, List.not_mem_nil, or_false, not_or]
          exact ⟨Nat.ne_of_lt (Nat.lt_succ_self _), Nat.ne_of_gt lS⟩
        have each : ∀ (i : Nat) (v : Value), items[i]? = some v → ∃ k t, ns[i]? = some k ∧ v = .int k t := fun i v hv => by
          have hi : i < ns.length := by rw [← many]; exact (Array.getElem?_eq_some_iff.mp hv).1
          obtain ⟨t, e⟩ := PyProof.Rows.IntsAre.int_at hit i v (by rw [Array.getElem?_toList]; exact hv)
          refine ⟨ns[i], t, List.getElem?_eq_getElem hi, ?_⟩
          rw [e, List.getD_eq_getElem?_getD, List.getElem?_eq_getElem hi] <;> rfl
        refine set_update_ints ((Walks.list noh _ l lI items).toS) s.heap.objs.size sI ns many hb each (items.size - 0) 0 _ (by omega) (Nat.zero_le _) ⟨⟨_, Heap.get?_push_size _ rfl, rfl, rfl⟩, (isL.push _)⟩ ?first ?last
        case first => exact ⟨0, Nat.le_refl 0, setR_new_at (Heap.get?_push_of_some _ atS)⟩
        case last =>
          intro s' c' mv hc' hS'
          obtain ⟨h', g2, d', tk', os'⟩ := s'
          obtain rfl : g2 = s.gens := mv.gens
          obtain rfl : d' = s.drawn := mv.drawn
          obtain rfl : os' = s.os := mv.os
          show wpAny _ _ _ _ _ _
          refine wpAny_pure ?_
          show wpAny _ _ (PySem.ret Value.none) _ _ _
          rw [many] at hc'
          refine wpAny_pure ⟨rfl, h', tk', c', rfl, hS', hc', fun b o e => ?_⟩
          have b0 : b < s.heap.objs.size := Heap.lt_size e
          refine mv.heap b o ?_ (Heap.get?_push_of_some _ (Heap.get?_push_of_some _ e))
          rw [Heap.size_push]
          simp only [List.mem_cons, List.mem_singleton, List.not_mem_nil, or_false, not_or]
          exact ⟨Nat.ne_of_lt b0, Nat.ne_of_lt (Nat.lt_succ_of_lt b0)⟩
      · cases res2 with
        | error e => exact got2
        | ok fl₂ =>
          cases fl₂ with
          | ret r =>
            obtain ⟨rfl, h', tk, c', rfl, hS', hc', hk'⟩ := got2
            repeat (any_goals (first | assumption | wp_step))
            exact fin _ _ _ hS' hc' hk'
          | _ => exact got2.elim
    | _ => exact got.elim
/-- sorted of a set of ints, however many -/
theorem sorted_of_set {a : Addr} {S : Int → Bool} {n : Nat} {Q : Value → Shared → Prop} (R : SetR w s.heap a S n) (hh : A.handled = none) (hu : A.units + 200 < cLine)
    (fin : ∀ s' p (out : Array Value) (c : Nat) (ns : List Int), (∀ b o, s.heap.get? b = some o → s'.heap.get? b = some o) → s'.gens = s.gens → s'.os = s.os → s.heap.objs.size ≤ p →
      s'.heap.get? p = some (seqObj "list" out c) → IntsAre out.toList ns → ns.Pairwise (· < ·) → (∀ k, k ∈ ns ↔ S k = true) → ns.length = n → Q (.ref p) s') :
    wpAny (model P w) A (call (.builtin "sorted") [.ref a]) Q E s := by
  obtain ⟨o, es, ep, t, ho, hex, hd, g, nd, hm, hb, hf, hn, hr, hl⟩ := R
  refine Calls.call_function_entry kind_sorted plain_sorted entry_sorted (args_sorted1 _) ?_
  unfold Builtin.«sorted»
  refine wpAny_bind (m := checkCount "sorted" 1 1 _) (wpAny_pure ?_)
  refine wpAny_bind (collect_set (A := A.in1) hh ⟨o, ho, hex.1, hd⟩ hf hb hr hl fun s1 vs k1 hz g1 o1 pm => ?_)
  have cnt : vs.length = n := by rw [pm.length_eq, List.length_map, Array.length_toList]; exact hn
  have all : IntsAre vs (vs.map Builtin.Re.reRawOf) := ints_of vs fun v hv => by
    obtain ⟨e, he, q⟩ := List.mem_map.mp (pm.mem_iff.mp hv)
    obtain ⟨k, tk, h1, _⟩ := g e he
    exact ⟨k, tk, by rw [← q]; exact h1⟩
  have pk : (vs.map Builtin.Re.reRawOf).Perm (es.toList.map keyOf) := by
    have q := pm.map Builtin.Re.reRawOf
    rwa [List.map_map] at q
  have small : vs.length ≤ sizeLine := by
    have : scanBound = 4096 := rfl
    rw [cnt, sizeLine_eq]; omega
  refine wpAny_bind (wpAny_newList ?_ small)
  have atL : (s1.heap.push (seqObj "list" vs.toArray 0)).get? s1.heap.objs.size = some (seqObj "list" vs.toArray 0) := Heap.get?_push_size _ rfl
  have rel : ∀ {us : List Value} {ms : List Int}, IntsAre us ms → PySem.W.EachIs (fun v (k : Int) => ∃ t, v = Value.int k t) us ms := by
    intro us ms h
    induction h with
    | nil => exact .nil
    | cons k t h ih => exact .cons ⟨t, rfl⟩ ih
  have back : ∀ {us : List Value} {ms : List Int}, PySem.W.EachIs (fun v (k : Int) => ∃ t, v = Value.int k t) us ms → IntsAre us ms := by
    intro us ms h
    induction h with
    | nil => exact .nil
    | cons h1 h2 ih => obtain ⟨t, rfl⟩ := h1; exact .cons _ t ih
  refine wpAny_bind (wpAny_holding (PySem.W.list_sort_data (enc := PyData.int) (bs := vs.map Builtin.Re.reRawOf) (R := fun v (k : Int) => ∃ t, v = Value.int k t) atL (rel all) ((rel all).mono fun v b h => ?_) ?_ ?_ (by rw [List.length_map]; exact small) (fun b _ => ?_) fun out lo eo => ?_))
  · obtain ⟨t, rfl⟩ := h
    exact ⟨[], .int b t, by simp⟩
  · intro d hd d' hd'
    obtain ⟨i, _, rfl⟩ := List.mem_map.mp hd
    obtain ⟨j, _, rfl⟩ := List.mem_map.mp hd'
    rfl
  · refine .inr fun d hd => ?_
    obtain ⟨i, _, rfl⟩ := List.mem_map.mp hd
    exact ⟨(fun z => nomatch z), (fun _ z => nomatch z)⟩
  · show A.units + 1 + 1 + 0 < cLine
    omega
  · obtain ⟨c, hc⟩ := sortedHeap_at (vs := vs) (out := out.toArray) atL
    have out' := back eo
    rw [show PySem.W.dataLe false PyData.int = fun a b : Int => decide (a ≤ b) from PySem.W.dataLe_int (fun b => b)] at out'
    have pm2 := List.mergeSort_perm (vs.map Builtin.Re.reRawOf) (fun a b : Int => decide (a ≤ b))
    have srt : ((vs.map Builtin.Re.reRawOf).mergeSort (fun a b : Int => decide (a ≤ b))).Pairwise (· ≤ ·) := by
      have q := List.pairwise_mergeSort (le := fun a b : Int => decide (a ≤ b)) (fun a b c h1 h2 => by simp only [decide_eq_true_eq] at *; omega) (fun a b => by simp only [Bool.or_eq_true, decide_eq_true_eq]; omega) (vs.map Builtin.Re.reRawOf)
      exact q.imp fun h => of_decide_eq_true h
    have pn := pm2.trans pk
    refine wpAny_pure ⟨_, rfl, fin _ s1.heap.objs.size out.toArray c _ (fun b u e => ?_) g1 o1 hz hc out' (lt_of_le_nodup _ srt (pn.nodup_iff.mpr nd)) (fun k => by rw [pn.mem_iff, ← hm k]) (by rw [pn.length_eq, List.length_map, Array.length_toList]; exact hn)⟩
    have q := k1 b u e
    have lt := Heap.lt_size q
    show (sortedHeap (s1.heap.push (seqObj "list" vs.toArray 0)) s1.heap.objs.size vs out.toArray).get? b = some u
    rw [sortedHeap_old (Nat.ne_of_lt lt) (by rw [Heap.size_push]; exact Nat.lt_succ_of_lt lt)]
    exact Heap.get?_push_of_some _ q
end
end Mi
end
section
set_option Elab.async false
set_option linter.all false
set_option maxRecDepth 100000
/-! Ev8: sets of ints, in the layer -/
namespace Mi
open PySem L2

/-- the members, ascending, each once -/
def insS (k : Int) : List Int → List Int
  | [] => [k]
  | x :: xs => if k < x then k :: x :: xs else if k = x then x :: xs else x :: insS k xs
def sortSet (ns : List Int) : List Int := ns.foldr insS []
theorem mem_insS {k j : Int} : ∀ {xs : List Int}, j ∈ insS k xs ↔ j = k ∨ j ∈ xs
  | [] => by simp [insS]
  | x :: xs => by
    unfold insS
    split
    · simp
    · split
      · rename_i h; subst h; simp
      · rw [List.mem_cons, mem_insS (xs := xs), List.mem_cons]
        constructor
        · rintro (h | h | h)
          · exact .inr (.inl h)
          · exact .inl h
          · exact .inr (.inr h)
        · rintro (h | h | h)
          · exact .inr (.inl h)
          · exact .inl h
          · exact .inr (.inr h)
theorem asc_insS {k : Int} : ∀ {xs : List Int}, xs.Pairwise (· < ·) → (insS k xs).Pairwise (· < ·)
  | [], _ => by simp [insS]
  | x :: xs, h => by
    obtain ⟨h1, h2⟩ := List.pairwise_cons.mp h
    unfold insS
    split
    · rename_i hk
      refine List.pairwise_cons.mpr ⟨fun y hy => ?_, h⟩
      rcases List.mem_cons.mp hy with rfl | hy
      · exact hk
      · have := h1 y hy; omega
    · split
      · exact h
      · rename_i a b
        refine List.pairwise_cons.mpr ⟨fun y hy => ?_, asc_insS h2⟩
        rcases mem_insS.mp hy with rfl | hy
        · omega
        · exact h1 y hy
theorem mem_sortSet {j : Int} : ∀ {ns : List Int}, j ∈ sortSet ns ↔ j ∈ ns
  | [] => by simp [sortSet]
  | n :: ns => by
    show j ∈ insS n (sortSet ns) ↔ _
    rw [mem_insS, mem_sortSet (ns := ns), List.mem_cons]
theorem asc_sortSet : ∀ {ns : List Int}, (sortSet ns).Pairwise (· < ·)
  | [] => by simp [sortSet]
  | n :: ns => by
    show (insS n (sortSet ns)).Pairwise (· < ·)
    exact asc_insS asc_sortSet
/-- an ascending list is told by its members -/
theorem asc_ext : ∀ {xs ys : List Int}, xs.Pairwise (· < ·) → ys.Pairwise (· < ·) → (∀ j, j ∈ xs ↔ j ∈ ys) → xs = ys
  | [], [], _, _, _ => rfl
  | [], y :: ys, _, _, h => by have := (h y).mpr (List.mem_cons_self); simp at this
  | x :: xs, [], _, _, h => by have := (h x).mp (List.mem_cons_self); simp at this
  | x :: xs, y :: ys, hx, hy, h => by
    obtain ⟨a1, a2⟩ := List.pairwise_cons.mp hx
    obtain ⟨b1, b2⟩ := List.pairwise_cons.mp hy
    have e : x = y := by
      have p := (h x).mp List.mem_cons_self
      have q := (h y).mpr List.mem_cons_self
      rcases List.mem_cons.mp p with p | p
      · exact p
      · rcases List.mem_cons.mp q with q | q
        · exact q.symm
        · have := b1 x p; have := a1 y q; omega
    subst e
    rw [asc_ext a2 b2 fun j => ?_]
    constructor
    · intro hj
      rcases List.mem_cons.mp ((h j).mp (List.mem_cons_of_mem _ hj)) with q | q
      · subst q; have := a1 j hj; omega
      · exact q
    · intro hj
      rcases List.mem_cons.mp ((h j).mpr (List.mem_cons_of_mem _ hj)) with q | q
      · subst q; have := b1 j hj; omega
      · exact q

section
variable {X : Cx} {W : WX} {G : Glb} {k : Nat}
def rSetI (K : PySem.W.Frag) (w : World) : List V → Hp → VK → Prop := fun vs H Q => ∃ (a : Addr) (ns : List Int), vs = [V.ref a] ∧ (SqL K H a (ns.map V.int) ∨ SqT K H a (ns.map V.int)) ∧ ns.length < 4000 ∧
  ∀ (p : Addr) (n : Nat), H p = none → Q (.ref p) (upd H p (SetO w p (fun j => decide (j ∈ ns)) n))
theorem cr_setI (c : Cxt G X W k) : CallR X (.type "set") (rSetI X.K X.w) := by
  intro pins s σ H vs us Q I r h
  obtain ⟨a, ns, rfl, hs, hz, q⟩ := h
  rw [Vals.ref1 r]
  have hb : ns.length + 1 < scanBound := by show ns.length + 1 < 4096; omega
  rcases hs with hs | hs
  · obtain ⟨its, rv, hl, _⟩ := I.list hs
    refine set_of_list ns (I.ok.hd c.calm) hl.isList (by simpa using rv.ints) hb fun h' tk n R _ kp => ?_
    exact ⟨.ref _, upd H s.heap.objs.size (SetO X.w s.heap.objs.size (fun j => decide (j ∈ ns)) n), I.laid (t' := tk) kp (Nat.le_refl _) (setO_new R), rfl, q _ n (I.hok.fresh (Nat.le_refl _))⟩
  · obtain ⟨its, rv, hl, _⟩ := I.tuple hs
    refine call_set_tupI ns (I.ok.hd c.calm) (show s.heap.IsTuple a its.toArray from hl) (by simpa using rv.ints) hb fun h' tk n R _ kp => ?_
    exact ⟨.ref _, upd H s.heap.objs.size (SetO X.w s.heap.objs.size (fun j => decide (j ∈ ns)) n), I.laid (t' := tk) kp (Nat.le_refl _) (setO_new R), rfl, q _ n (I.hok.fresh (Nat.le_refl _))⟩
def rSortS (w : World) : List V → Hp → VK → Prop := fun vs H Q => ∃ (a : Addr) (m : Int → Bool) (n : Nat), vs = [V.ref a] ∧ H a = some (SetO w a m n) ∧
  ∀ (ns : List Int) (p : Addr), ns.Pairwise (· < ·) → (∀ k : Int, k ∈ ns ↔ m k = true) → H p = none → Q (.ref p) (upd H p (.lst (ns.map V.int)))
theorem cr_sortS (c : Cxt G X W k) : CallR X (.builtin "sorted") (rSortS X.w) := by
  intro pins s σ H vs us Q I r h
  obtain ⟨a, m, n, rfl, ha, q⟩ := h
  have R := setO_get I ha
  rw [Vals.ref1 r]
  have small : n < 4096 := by
    have ⟨_, _, _, _, _, _, _, _, _, _, hb, _, hn, _⟩ := R
    have hb : _ < 4096 := hb
    omega
  refine sorted_of_set R (I.ok.hd c.calm) (by have := c.room.un; omega) fun s' p out cap ns kp eg eo hp hg hi hs hm hl => ?_
  have fresh : H p = none := I.hok.fresh hp
  have J : L2.Inv X pins σ (upd H p (.lst (ns.map V.int))) { s with heap := s'.heap, gens := s'.gens, drawn := s'.drawn, toks := s'.toks } :=
    I.call (ch := []) (Un.laid kp hp fresh) (I.hok.laid kp hp ⟨by rw [List.length_map, sizeLine_eq]; omega, out.toList, cap, vals_of_ints hi, hg⟩) (by rw [eg]; exact I.bare) (fun _ z => nomatch z)
  have e : s' = { s with heap := s'.heap, gens := s'.gens, drawn := s'.drawn, toks := s'.toks } := by
    cases s'; cases s; cases eo; rfl
  rw [e]
  exact ⟨.ref p, _, J, rfl, q ns p hs hm fresh⟩
noncomputable def gSet (a : Vl) : Option Vl := ((asL a).orElse fun _ => asT a).bind fun ds => (asInts ds).bind fun ns => gd (ns.length < 4000) (.st ns)
theorem b_set (c : Cxt G X W k) (hw : X.w = G.w) : BltV G X (.type "set") (g1 gSet) := ⟨⟨_, cr_setI c, callOk1 fun P H v a w Q e h hq q => by
  obtain ⟨ds, hd, hq⟩ := Option.bind_eq_some_iff.mp hq
  obtain ⟨ns, hn, hq⟩ := Option.bind_eq_some_iff.mp hq
  obtain ⟨h0, rfl⟩ := gd_some hq
  rw [c.K, hw]
  have eds := asInts_eq hn
  have fin : ∀ (p : Addr) (n : Nat), H p = none → Q (.ref p) (upd H p (SetO G.w p (fun j => decide (j ∈ ns)) n)) := fun p n hp =>
    q _ P _ _ (Alc.own e hp) ⟨p, fun j => decide (j ∈ ns), n, rfl, rfl, upd_same, fun k => by simp⟩
  cases ea : asL a with
  | some ds' =>
    rw [ea] at hd
    have hd : some ds' = some ds := hd
    cases hd
    obtain ⟨p, xs, rfl, hs, ha⟩ := h.lst e ea
    rw [eds] at ha
    rw [dpa_ints ha] at hs
    exact ⟨p, ns, rfl, .inl hs, h0, fin⟩
  | none =>
    rw [ea] at hd
    have hd : asT a = some ds := hd
    obtain ⟨p, xs, rfl, hs, ha⟩ := h.tup e hd
    rw [eds] at ha
    rw [dpa_ints ha] at hs
    exact ⟨p, ns, rfl, .inr hs, h0, fin⟩⟩⟩
def gSortS : Vl → Option Vl
  | .st ns => some (.ml ((sortSet ns).map .int))
  | _ => none
theorem b_sortS (c : Cxt G X W k) (hw : X.w = G.w) : BltV G X (.builtin "sorted") (g1 gSortS) := ⟨⟨_, cr_sortS c, callOk1 fun P H v a w Q e h hq q => by
  unfold gSortS at hq
  split at hq
  · rename_i ns
    cases hq
    obtain ⟨S, p, m, n, rfl, _, hp, hm⟩ := h
    rw [hw]
    refine ⟨p, m, n, rfl, hp, fun ms l h1 h2 hl => ?_⟩
    have : ms = sortSet ns := asc_ext h1 asc_sortSet fun j => by rw [h2, hm, mem_sortSet]
    subst this
    exact q _ P _ _ (Alc.own e hl) ⟨l, _, rfl, rfl, upd_same, ints_dpa⟩
  · cases hq⟩⟩
/-- sorted of a list, or of a set of ints -/
theorem b_sorted2 (c : Cxt G X W k) (hw : X.w = G.w) : BltV G X (.builtin "sorted") (orC (g1 gSortS) (g1 gSorted)) := BltV.or (b_sortS c hw) (b_sorted c)
end
end Mi
end
section
set_option Elab.async false
set_option linter.all false
set_option maxRecDepth 100000
/-! Ev9: what a def promises, by a function of what its arguments hold; calls -/
namespace Mi
open PySem L2

inductive COut where
  | ok (w : Vl) (outs : List (Option Vl))
  | exc (c : Nat) (outs : List (Option Vl))
  | stk
abbrev CSpec := List Vl → COut
def ioAt (io : List Bool) (j : Nat) : Bool := io.getD j false
/-- what a call leaves, in the callee's eyes -/
def EndC (G : Glb) (io : List Bool) (vs : List V) (P H : Hp) (F : Nat → Ad) (Q : VK) (E : XK) : COut → Prop
  | .ok w outs => ∀ v P' H' F' S, Now G P' H' (vs.map some) outs F' → (∀ j b, F' j b → ioAt io j = true) → Stp P H F P' H' F' → Tmp G P' H' F' S v w → (∀ b, S b → (∃ i, F i b) ∨ H b = none) → outs.length = io.length → Q v H'
  | .exc c outs => ∀ P' H' F', Now G P' H' (vs.map some) outs F' → (∀ j b, F' j b → ioAt io j = true) → Stp P H F P' H' F' → outs.length = io.length → E (.ref (G.ea c)) none H'
  | .stk => False
def spV (G : Glb) (io : List Bool) (spec : CSpec) : Sp := fun vs H Q E => ∃ ws P F, vs.length = io.length ∧ ws.length = io.length ∧ Now G P H (vs.map some) (ws.map some) F ∧ (∀ j b, F j b → ioAt io j = true) ∧ EndC G io vs P H F Q E (spec ws)
theorem spV_len {G : Glb} {io : List Bool} {spec : CSpec} {vs : List V} {H : Hp} {Q : VK} {E : XK} (h : spV G io spec vs H Q E) : vs.length = io.length := by
  obtain ⟨ws, P, F, h1, _⟩ := h
  exact h1

/-! ### the arguments, by value or by slot -/
def argW (ρ : Rho) : List Bool → List Opd → Option (List Vl)
  | [], [] => some []
  | true :: io, .brw i :: os => (look ρ (.brw i)).bind fun w => (argW ρ io os).map fun ws => w :: ws
  | false :: io, o :: os => ((look ρ o).bind viewD).bind fun d => (argW ρ io os).map fun ws => .dat d :: ws
  | _, _ => none
def isB (i : Nat) : Opd → Bool
  | .brw j => j == i
  | _ => false
def ioC (io : List Bool) (os : List Opd) : Bool := (io.zip os).all fun p => !p.1 || (match p.2 with
  | .brw i => os.countP (isB i) == 1
  | .val _ => false)
def noBor (io : List Bool) (os : List Opd) : Bool := (io.zip os).all fun p => p.1 || (match p.2 with
  | .brw _ => false
  | .val _ => true)
mutual
def noL : PyData → Bool
  | .none => true
  | .bool _ => true
  | .int _ => true
  | .str _ => true
  | .list _ => false
  | .tuple ds => noLs ds
  | .dict _ => false
def noLs : List PyData → Bool
  | [] => true
  | d :: ds => noL d && noLs ds
end
def clean : Vl → Bool
  | .dat d => noL d
  | .ml ds => noLs ds
  | .mml dss => dss.all noLs
  | .ob _ fs => fs.all fun p => noL p.2
  | .st _ => true
def cleanO : Option Vl → Bool
  | some w => clean w
  | none => true
def setIO (ρ : Rho) : List Bool → List Opd → List (Option Vl) → Rho
  | true :: io, .brw i :: os, w :: outs => setIO (ρ.set i w) io os outs
  | _ :: io, _ :: os, _ :: outs => setIO ρ io os outs
  | _, _, _ => ρ
def fCall (io : List Bool) (spec : CSpec) (fa : FA) : FE := fun ρ => (fa ρ).bind fun os ρ1 => if ioC io os = true then
    match argW ρ1 io os with
    | some ws => match spec ws with
      | .ok w outs => if noBor io os || (clean w && outs.all cleanO) then .ok (.val w) (setIO ρ1 io os outs) else .stk
      | .exc c outs => if noBor io os || outs.all cleanO then .exc c (setIO ρ1 io os outs) else .stk
      | .stk => .stk
    | none => .stk
  else .stk

section
variable {G : Glb} {P H : Hp} {F : Nat → Ad} {σ : L2.St} {ρ : Rho} {S : Ad} {v : V} {w : Vl}
theorem ioAt_cons0 {b : Bool} {io : List Bool} : ioAt (b :: io) 0 = b := rfl
theorem ioAt_cons {b : Bool} {io : List Bool} {j : Nat} : ioAt (b :: io) (j + 1) = ioAt io j := rfl
theorem countP_two {α : Type} {p : α → Bool} : ∀ {os : List α} {j k : Nat} {x y : α}, os[j]? = some x → os[k]? = some y → p x = true → p y = true → j < k → 2 ≤ os.countP p
  | [], j, k, x, y, h, _, _, _, _ => by simp at h
  | o :: os, 0, 0, x, y, _, _, _, _, h => absurd h (Nat.lt_irrefl _)
  | o :: os, 0, k + 1, x, y, h1, h2, hx, hy, _ => by
    have e : o = x := by simpa using h1
    subst e
    have : 1 ≤ os.countP p := List.countP_pos_iff.mpr ⟨y, List.mem_of_getElem? (by simpa using h2), hy⟩
    rw [List.countP_cons, hx, if_pos rfl]
    omega
  | o :: os, j + 1, k + 1, x, y, h1, h2, hx, hy, h => by
    have := countP_two (os := os) (by simpa using h1) (by simpa using h2) hx hy (Nat.lt_of_succ_lt_succ h)
    rw [List.countP_cons]; omega
  | o :: os, j + 1, 0, x, y, _, _, _, _, h => by omega
theorem ioC_one {io : List Bool} {os : List Opd} (h : ioC io os = true) {j k i : Nat} (h1 : ioAt io j = true) (h2 : os[j]? = some (.brw i)) (h3 : os[k]? = some (.brw i)) : j = k := by
  have hz : (io.zip os)[j]? = some (true, .brw i) := by
    rw [List.getElem?_zip_eq_some]
    refine ⟨?_, h2⟩
    unfold ioAt at h1
    rw [List.getD_eq_getElem?_getD] at h1
    cases q : io[j]? with
    | none => rw [q] at h1; cases h1
    | some b => rw [q] at h1; have : b = true := h1; rw [this]
  have hm := List.mem_of_getElem? hz
  have := List.all_eq_true.mp h _ hm
  have hc : os.countP (isB i) = 1 := by simpa using this
  rcases Nat.lt_trichotomy j k with q | q | q
  · have := countP_two (p := isB i) h2 h3 (by simp [isB]) (by simp [isB]) q; omega
  · exact q
  · have := countP_two (p := isB i) h3 h2 (by simp [isB]) (by simp [isB]) q; omega
theorem noBor_not {io : List Bool} {os : List Opd} (h : noBor io os = true) {j i : Nat} (hl : os.length = io.length) (h2 : os[j]? = some (.brw i)) : ioAt io j = true := by
  have hj : j < io.length := by rw [← hl]; exact (List.getElem?_eq_some_iff.mp h2).1
  have hz : (io.zip os)[j]? = some (io[j], .brw i) := by
    rw [List.getElem?_zip_eq_some]
    exact ⟨List.getElem?_eq_getElem hj, h2⟩
  have := List.all_eq_true.mp h _ (List.mem_of_getElem? hz)
  have e : io[j] = true := by simpa using this
  unfold ioAt
  rw [List.getD_eq_getElem?_getD, List.getElem?_eq_getElem hj]
  exact e
/-- each argument: its operand, its value -/
theorem argW_at : ∀ {io : List Bool} {os : List Opd} {vs : List V} {S : Ad} {ws : List Vl}, HasL G P H F σ S vs os → argW ρ io os = some ws →
    os.length = io.length ∧ vs.length = io.length ∧ ws.length = io.length ∧ ∀ j w, ws[j]? = some w → ∃ o v S', os[j]? = some o ∧ vs[j]? = some v ∧ Has G P H F σ S' v o ∧ (∀ b, S' b → S b) ∧
      ((ioAt io j = true ∧ ∃ i, o = .brw i ∧ look ρ (.brw i) = some w) ∨ (ioAt io j = false ∧ ∃ w0 d, look ρ o = some w0 ∧ viewD w0 = some d ∧ w = .dat d))
  | [], [], [], S, ws, _, e => by
    have e : some [] = some ws := e
    cases e
    exact ⟨rfl, rfl, rfl, fun j w h => by simp at h⟩
  | true :: io, .brw i :: os, v :: vs, S, ws, ⟨S1, S2, h1, h2, h3, h4⟩, e => by
    have e : (look ρ (.brw i)).bind (fun w => (argW ρ io os).map fun ws => w :: ws) = some ws := e
    obtain ⟨w, e1, e⟩ := Option.bind_eq_some_iff.mp e
    obtain ⟨ws', e2, rfl⟩ := Option.map_eq_some_iff.mp e
    obtain ⟨l1, l2, l3, ih⟩ := argW_at h2 e2
    refine ⟨by simp [l1], by simp [l2], by simp [l3], fun j w' hj => ?_⟩
    cases j with
    | zero =>
      have : w = w' := by simpa using hj
      subst this
      exact ⟨_, v, S1, rfl, rfl, h1, fun b hb => (h3 b hb).1, .inl ⟨rfl, i, rfl, e1⟩⟩
    | succ j =>
      obtain ⟨o, v', S', a1, a2, a3, a4, a5⟩ := ih j w' (by simpa using hj)
      exact ⟨o, v', S', by simpa using a1, by simpa using a2, a3, fun b hb => h4 b (a4 b hb), by simpa only [ioAt_cons] using a5⟩
  | false :: io, o :: os, v :: vs, S, ws, ⟨S1, S2, h1, h2, h3, h4⟩, e => by
    have e : ((look ρ o).bind viewD).bind (fun d => (argW ρ io os).map fun ws => Vl.dat d :: ws) = some ws := by
      cases o <;> exact e
    obtain ⟨d, e1, e⟩ := Option.bind_eq_some_iff.mp e
    obtain ⟨w0, e0, e1⟩ := Option.bind_eq_some_iff.mp e1
    obtain ⟨ws', e2, rfl⟩ := Option.map_eq_some_iff.mp e
    obtain ⟨l1, l2, l3, ih⟩ := argW_at h2 e2
    refine ⟨by simp [l1], by simp [l2], by simp [l3], fun j w' hj => ?_⟩
    cases j with
    | zero =>
      have : Vl.dat d = w' := by simpa using hj
      subst this
      exact ⟨_, v, S1, rfl, rfl, h1, fun b hb => (h3 b hb).1, .inr ⟨rfl, w0, d, e0, e1, rfl⟩⟩
    | succ j =>
      obtain ⟨o', v', S', a1, a2, a3, a4, a5⟩ := ih j w' (by simpa using hj)
      exact ⟨o', v', S', by simpa using a1, by simpa using a2, a3, fun b hb => h4 b (a4 b hb), by simpa only [ioAt_cons] using a5⟩
  | true :: io, .val w :: os, v :: vs, S, ws, _, e => by
    have e : (none : Option (List Vl)) = some ws := e
    cases e
  | [], o :: os, vs, S, ws, _, e => by
    have e : (none : Option (List Vl)) = some ws := by cases o <;> exact e
    cases e
  | b :: io, [], vs, S, ws, _, e => by
    have e : (none : Option (List Vl)) = some ws := by cases b <;> exact e
    cases e
  | _, [], _ :: _, _, _, h, _ => h.elim
  | _, _ :: _, [], _, _, h, _ => h.elim
theorem setIO_at : ∀ {io : List Bool} {os : List Opd} {outs : List (Option Vl)} {ρ : Rho} {i : Nat} {w : Vl}, os.length = io.length → outs.length = io.length → (setIO ρ io os outs)[i]? = some (some w) →
    (∃ j, ioAt io j = true ∧ os[j]? = some (.brw i) ∧ outs[j]? = some (some w)) ∨ ((∀ j, ioAt io j = true → os[j]? ≠ some (.brw i)) ∧ ρ[i]? = some (some w))
  | [], [], [], ρ, i, w, _, _, h => .inr ⟨fun j _ => by simp, h⟩
  | true :: io, .brw k :: os, x :: outs, ρ, i, w, l1, l2, h => by
    have h : (setIO (ρ.set k x) io os outs)[i]? = some (some w) := h
    rcases setIO_at (by simpa using l1) (by simpa using l2) h with ⟨j, a, b, c⟩ | ⟨a, b⟩
    · exact .inl ⟨j + 1, a, by simpa using b, by simpa using c⟩
    · by_cases e : k = i
      · subst e
        by_cases hk : k < ρ.length
        · rw [List.getElem?_set_self hk] at b
          have : x = some w := by simpa using b
          subst this
          exact .inl ⟨0, rfl, rfl, rfl⟩
        · rw [List.getElem?_eq_none (by simp; omega)] at b; cases b
      · rw [List.getElem?_set_ne e] at b
        refine .inr ⟨fun j hj q => ?_, b⟩
        cases j with
        | zero =>
          have : k = i := by simpa using q
          exact e this
        | succ j => exact a j hj (by simpa using q)
  | false :: io, o :: os, x :: outs, ρ, i, w, l1, l2, h => by
    have h : (setIO ρ io os outs)[i]? = some (some w) := by cases o <;> exact h
    rcases setIO_at (by simpa using l1) (by simpa using l2) h with ⟨j, a, b, c⟩ | ⟨a, b⟩
    · exact .inl ⟨j + 1, a, by simpa using b, by simpa using c⟩
    · refine .inr ⟨fun j hj q => ?_, b⟩
      cases j with
      | zero => cases hj
      | succ j => exact a j hj (by simpa using q)
  | true :: io, .val y :: os, x :: outs, ρ, i, w, l1, l2, h => by
    have h : (setIO ρ io os outs)[i]? = some (some w) := h
    rcases setIO_at (by simpa using l1) (by simpa using l2) h with ⟨j, a, b, c⟩ | ⟨a, b⟩
    · exact .inl ⟨j + 1, a, by simpa using b, by simpa using c⟩
    · refine .inr ⟨fun j hj q => ?_, b⟩
      cases j with
      | zero =>
        have : Opd.val y = .brw i := by simpa using q
        cases this
      | succ j => exact a j hj (by simpa using q)
  | [], _ :: _, _, _, _, _, l1, _, _ => by simp at l1
  | _ :: _, [], _, _, _, _, l1, _, _ => by simp at l1
  | [], [], _ :: _, _, _, _, _, l2, _ => by simp at l2
  | _ :: _, _ :: _, [], _, _, _, _, l2, _ => by simp at l2

/-! ### clean data don't hang on borrowed lists -/
mutual
theorem dp_clean {K : PySem.W.Frag} {P P' : Hp} (h : ∀ b u, P b = some u → ownK u = false → P' b = some u) : ∀ (d : PyData) (v : V), noL d = true → Dp K P v d → Dp K P' v d
  | .none, _, _, h => by cases h; exact .non
  | .bool _, _, _, h => by cases h; exact .bl _
  | .int _, _, _, h => by cases h; exact .int _
  | .str _, _, _, h => by cases h; exact .str _
  | .list _, _, c, _ => by cases c
  | .tuple ds, _, c, q => by
    cases q with
    | tup hs ha =>
      have c : noLs ds = true := by
        have c' := c
        unfold noL at c'
        exact c'
      refine .tup ?_ (dpa_clean h ds _ c ha)
      rcases hs with (hs | ⟨o, hs⟩) | hs
      · exact .inl (.inl (h _ _ hs rfl))
      · exact .inl (.inr ⟨o, h _ _ hs rfl⟩)
      · exact .inr hs
  | .dict _, _, c, _ => by cases c
theorem dpa_clean {K : PySem.W.Frag} {P P' : Hp} (h : ∀ b u, P b = some u → ownK u = false → P' b = some u) : ∀ (ds : List PyData) (vs : List V), noLs ds = true → DpAll K P vs ds → DpAll K P' vs ds
  | [], _, _, q => by cases q; exact .nil
  | d :: ds, _, c, q => by
    unfold noLs at c
    have c := Bool.and_eq_true_iff.mp c
    cases q with
    | cons h1 h2 => exact .cons (dp_clean h d _ c.1 h1) (dpa_clean h ds _ c.2 h2)
end
theorem rows_clean {P' : Hp} (h : ∀ b u, P b = some u → ownK u = false → P' b = some u) : ∀ {as : List Addr} {dss : List (List PyData)}, dss.all noLs = true → Rows G P H S as dss → Rows G P' H S as dss
  | [], [], _, _ => trivial
  | b :: as, ds :: dss, c, ⟨h1, h0, ⟨ys, h2, h3⟩, h4⟩ => by
    rw [List.all_cons, Bool.and_eq_true] at c
    exact ⟨h1, h0, ⟨ys, h2, dpa_clean h _ _ c.1 h3⟩, rows_clean h c.2 h4⟩
  | [], _ :: _, _, h => h.elim
  | _ :: _, [], _, h => h.elim
theorem flds_clean {P' : Hp} (h : ∀ b u, P b = some u → ownK u = false → P' b = some u) : ∀ {fv : List (Str × V)} {fs : List (Str × PyData)}, (fs.all fun p => noL p.2) = true → Flds G P fv fs → Flds G P' fv fs
  | [], [], _, _ => trivial
  | (f, v) :: r, (g, d) :: t, c, ⟨h1, h2, h3⟩ => by
    rw [List.all_cons, Bool.and_eq_true] at c
    exact ⟨h1, dp_clean h _ _ c.1 h2, flds_clean h c.2 h3⟩
  | [], _ :: _, _, h => h.elim
  | _ :: _, [], _, h => h.elim
theorem ow_clean {P' : Hp} (h : ∀ b u, P b = some u → ownK u = false → P' b = some u) (c : clean w = true) (o : Ow G P H S v w) : Ow G P' H S v w := by
  cases w with
  | dat d => exact dp_clean h d v c o
  | ml ds => obtain ⟨a, xs, h1, h2, h3, h4⟩ := o; exact ⟨a, xs, h1, h2, h3, dpa_clean h _ _ c h4⟩
  | mml dss => obtain ⟨a, as, h1, h2, h3, h4, h5⟩ := o; exact ⟨a, as, h1, h2, h3, h4, rows_clean h c h5⟩
  | ob n fs => obtain ⟨a, dx, fv, h1, h2, h3, h4⟩ := o; exact ⟨a, dx, fv, h1, h2, h3, flds_clean h c h4⟩
  | st ns => exact o
end
end Mi
end
section
set_option Elab.async false
set_option linter.all false
set_option maxRecDepth 100000
/-! Ev10: a call, in the caller's eyes -/
namespace Mi
open PySem L2
section
variable {G : Glb} {P H P1 H1 P' H' : Hp} {F F1 F' : Nat → Ad} {σ : L2.St} {ρ1 : Rho} {S1 : Ad} {W : WX} {io : List Bool} {os : List Opd} {vs : List V} {ws : List Vl} {outs : List (Option Vl)} {spec : CSpec} {fa : FA}
def Bor (io : List Bool) (os : List Opd) (F1 : Nat → Ad) : Ad := fun b => ∃ j i, ioAt io j = false ∧ os[j]? = some (.brw i) ∧ F1 i b
def inZ (io : List Bool) (os : List Opd) (F1 : Nat → Ad) (S1 : Ad) : Ad := fun b => S1 b ∨ Bor io os F1 b
def inF (io : List Bool) (os : List Opd) (F1 : Nat → Ad) : Nat → Ad := fun j b => ioAt io j = true ∧ ∃ i, os[j]? = some (.brw i) ∧ F1 i b
theorem call_in (n1 : Now G P1 H1 σ ρ1 F1) (hs : HasL G P1 H1 F1 σ S1 vs os) (q1 : ∀ b, S1 b → P1 b = none ∧ H1 b ≠ none ∧ ∀ i, ¬ F1 i b) (hc : ioC io os = true) (ha : argW ρ1 io os = some ws) :
    Now G (froz P1 H1 (inZ io os F1 S1)) H1 (vs.map some) (ws.map some) (inF io os F1) := by
  obtain ⟨l1, l2, l3, args⟩ := argW_at hs ha
  have hZ : ∀ b, inZ io os F1 S1 b → P1 b = none := fun b hb => by
    rcases hb with hb | ⟨j, i, _, _, hb⟩
    · exact (q1 b hb).1
    · exact n1.np i b hb
  refine ⟨froz_sub n1.ex, ?_, ?_, ?_, ?_, ?_⟩
  · rintro j k a ⟨hj, i, e1, f1⟩ ⟨hk, i', e2, f2⟩
    have := n1.dj i i' a f1 f2
    subst this
    exact ioC_one hc hj e1 e2
  · rintro j b ⟨hj, i, e1, f1⟩
    have : ¬ inZ io os F1 S1 b := by
      rintro (z | ⟨j', i', hj', e', f'⟩)
      · exact (q1 b z).2.2 i f1
      · have := n1.dj i i' b f1 f'
        subst this
        have := ioC_one hc hj e1 e'
        subst this
        rw [hj] at hj'; cases hj'
    rw [froz_out this]
    exact n1.np i b f1
  · rintro j b ⟨hj, i, e1, f1⟩
    exact n1.al i b f1
  · intro j w hj
    have hj : ws[j]? = some w := by
      rw [List.getElem?_map] at hj
      cases q : ws[j]? with
      | none => rw [q] at hj; cases hj
      | some x => rw [q] at hj; have : x = w := by simpa using hj
                  rw [this]
    obtain ⟨o, v, S', ho, hv, hh, hS, cs⟩ := args j w hj
    refine ⟨v, by rw [List.getElem?_map, hv]; rfl, ?_⟩
    rcases cs with ⟨hio, i, rfl, hw⟩ | ⟨hio, w0, d, hw, hd, rfl⟩
    · obtain ⟨v', h1, h2⟩ := n1.rd i w (join_some hw)
      have hh : σ[i]? = some (some v) := hh
      rw [hh] at h1
      have : v = v' := by simpa using h1
      subst this
      exact h2.mono (froz_mono hZ) (fun _ _ _ e => e) fun b hb => ⟨hio, i, ho, hb⟩
    · show Dp G.K _ v d
      cases o with
      | val w1 =>
        have : w1 = w0 := Option.some.inj hw
        subst this
        have t : Tmp G P1 H1 F1 S' v w1 := hh
        exact ow_froz hZ (t.ow.mono (Same.refl _) (fun _ _ _ e => e) fun b hb => .inl (hS b hb)) hd
      | brw i =>
        obtain ⟨v', h1, h2⟩ := n1.rd i w0 (join_some hw)
        have hh : σ[i]? = some (some v) := hh
        rw [hh] at h1
        have : v = v' := by simpa using h1
        subst this
        exact ow_froz hZ (h2.mono (Same.refl _) (fun _ _ _ e => e) fun b hb => .inr ⟨j, i, hio, ho, hb⟩) hd
  · rintro j b u ⟨hj, i, e1, f1⟩ e
    exact n1.kd i b u f1 e
theorem call_back (n1 : Now G P1 H1 σ ρ1 F1) (s1 : Stp P H F P1 H1 F1) (hs : HasL G P1 H1 F1 σ S1 vs os) (q1 : ∀ b, S1 b → (P1 b = none ∧ H1 b ≠ none ∧ ∀ i, ¬ F1 i b) ∧ ((∃ i, F i b) ∨ H b = none)) (hc : ioC io os = true) (ha : argW ρ1 io os = some ws)
    (nF : Now G P' H' (vs.map some) outs F') (hF : ∀ j b, F' j b → ioAt io j = true) (st : Stp (froz P1 H1 (inZ io os F1 S1)) H1 (inF io os F1) P' H' F') (lo : outs.length = io.length) (cl : (noBor io os || outs.all cleanO) = true) :
    ∃ Pa F2, Now G Pa H' σ (setIO ρ1 io os outs) F2 ∧ Stp P H F Pa H' F2 ∧ (∀ S v w, (noBor io os = true ∨ clean w = true) → Ow G P' H' S v w → Ow G Pa H' S v w) ∧ (∀ b, P' b = none → Pa b = none) ∧
      (∀ i b, F2 i b → (∃ j, F' j b) ∨ (F1 i b ∧ ∀ j, ¬ inF io os F1 j b)) := by
  obtain ⟨l1, l2, l3, args⟩ := argW_at hs ha
  have hZ : ∀ b, inZ io os F1 S1 b → P1 b = none := fun b hb => by
    rcases hb with hb | ⟨j, i, _, _, hb⟩
    · exact (q1 b hb).1.1
    · exact n1.np i b hb
  -- the caller's frozen part afterwards
  obtain ⟨Pa, pa1, pa2⟩ : ∃ Pa : Hp, (∀ b, Bor io os F1 b → Pa b = none) ∧ ∀ b, ¬ Bor io os F1 b → Pa b = P' b := by
    classical
    exact ⟨fun b => if Bor io os F1 b then none else P' b, fun b h => if_pos h, fun b h => if_neg h⟩
  have paNone : ∀ b, P' b = none → Pa b = none := fun b h => by
    by_cases q : Bor io os F1 b
    · exact pa1 b q
    · rw [pa2 b q]; exact h
  have paSome : ∀ b u, Pa b = some u → P' b = some u := fun b u h => by
    by_cases q : Bor io os F1 b
    · rw [pa1 b q] at h; cases h
    · rw [← pa2 b q]; exact h
  have agree : ∀ b u, P' b = some u → ownK u = false → Pa b = some u := fun b u h hu => by
    by_cases q : Bor io os F1 b
    · obtain ⟨j, i, hj, e, f⟩ := id q
      obtain ⟨o, ho⟩ := Option.ne_none_iff_exists'.mp (n1.al i b f)
      have h2 : froz P1 H1 (inZ io os F1 S1) b = some o := by rw [froz_in (.inr q)]; exact ho
      have h3 := st.ex b o h2
      rw [h] at h3; cases h3
      rw [n1.kd i b u f ho] at hu; cases hu
    · rw [pa2 b q]; exact h
  have keep : ∀ S v w, (noBor io os = true ∨ clean w = true) → Ow G P' H' S v w → Ow G Pa H' S v w := fun S v w hcw o => by
    rcases hcw with z | z
    · have : Same P' Pa := fun b u h => by
        rw [pa2 b fun ⟨j, i, hj, e, f⟩ => by rw [noBor_not z l1 e] at hj; cases hj]; exact h
      exact o.mono this (fun _ _ _ e => e) fun _ y => y
    · exact ow_clean agree z o
  have p1a : Same P1 Pa := fun b u h => by
    rw [pa2 b fun q => by rw [hZ b (.inr q)] at h; cases h]
    exact st.ex b u (froz_mono hZ b u h)
  have nonio : ∀ {i b}, (∀ j, ioAt io j = true → os[j]? ≠ some (.brw i)) → F1 i b → ∀ j, ¬ inF io os F1 j b := fun {i b} hn f j ⟨hj, i', e', f'⟩ => by
    have := n1.dj i i' b f f'
    subst this
    exact hn j hj e'
  refine ⟨Pa, fun i b => (∃ j, ioAt io j = true ∧ os[j]? = some (.brw i) ∧ F' j b) ∨ ((∀ j, ioAt io j = true → os[j]? ≠ some (.brw i)) ∧ F1 i b), ⟨fun b u h => nF.ex b u (paSome b u h), ?_, ?_, ?_, ?_, ?_⟩, ⟨?_, ?_, ?_, ?_, ?_⟩, keep, paNone, ?_⟩
  · rintro i k a (⟨j, hj, e, f⟩ | ⟨hn, f⟩) (⟨j', hj', e', f'⟩ | ⟨hn', f'⟩)
    · have := nF.dj j j' a f f'
      subst this
      rw [e] at e'
      simpa using e'
    · rcases st.sub j a f with ⟨j2, z⟩ | z
      · exact (nonio hn' f' j2 z).elim
      · exact (n1.al k a f' z).elim
    · rcases st.sub j' a f' with ⟨j2, z⟩ | z
      · exact (nonio hn f j2 z).elim
      · exact (n1.al i a f z).elim
    · exact n1.dj i k a f f'
  · rintro i b (⟨j, hj, e, f⟩ | ⟨hn, f⟩)
    · exact paNone b (nF.np j b f)
    · refine Classical.byContradiction fun q => ?_
      by_cases hb : Bor io os F1 b
      · exact q (pa1 b hb)
      · rw [pa2 b hb] at q
        rcases st.pn b q with z | ⟨j, z⟩ | z
        · rcases froz_new z with y | y | y
          · exact y (n1.np i b f)
          · exact (q1 b y).1.2.2 i f
          · exact hb y
        · exact nonio hn f j z
        · exact n1.al i b f z
  · rintro i b (⟨j, hj, e, f⟩ | ⟨hn, f⟩)
    · exact nF.al j b f
    · exact st.al b (n1.al i b f)
  · intro i w hw
    rcases setIO_at l1 lo hw with ⟨j, hj, e, ho⟩ | ⟨hn, hr⟩
    · obtain ⟨v', h1, h2⟩ := nF.rd j w ho
      have hjl : j < ws.length := by rw [l3, ← l1]; exact (List.getElem?_eq_some_iff.mp e).1
      obtain ⟨o, v, S', a1, a2, a3, a4, a5⟩ := args j ws[j] (List.getElem?_eq_getElem hjl)
      rw [e] at a1
      have : o = .brw i := by simpa using a1.symm
      subst this
      have a3 : σ[i]? = some (some v) := a3
      rw [List.getElem?_map, a2] at h1
      have : v = v' := by simpa using h1
      subst this
      refine ⟨v, a3, (keep (F' j) v w ?_ h2).mono (Same.refl _) (fun _ _ _ e => e) fun b hb => .inl ⟨j, hj, e, hb⟩⟩
      rcases Bool.or_eq_true_iff.mp cl with z | z
      · exact .inl z
      · exact .inr (List.all_eq_true.mp z _ (List.mem_of_getElem? ho))
    · obtain ⟨v, h1, h2⟩ := n1.rd i w hr
      exact ⟨v, h1, h2.mono p1a (fun b o hb e => st.fr b o e (nonio hn hb)) fun b hb => .inr ⟨hn, hb⟩⟩
  · rintro i b u (⟨j, hj, e, f⟩ | ⟨hn, f⟩) hu
    · exact nF.kd j b u f hu
    · obtain ⟨o, ho⟩ := Option.ne_none_iff_exists'.mp (n1.al i b f)
      rw [st.fr b o ho (nonio hn f)] at hu
      cases hu
      exact n1.kd i b _ f ho
  · exact s1.ex.trans p1a
  · intro b o h hf
    refine st.fr b o (s1.fr b o h hf) fun j ⟨hj, i, e, f⟩ => ?_
    exact s1.out (by rw [h]; exact fun z => nomatch z) hf i f
  · rintro i b (⟨j, hj, e, f⟩ | ⟨hn, f⟩)
    · rcases st.sub j b f with ⟨j2, _, i2, _, z⟩ | z
      · exact s1.sub i2 b z
      · exact .inr (Classical.byContradiction fun q => s1.al b q z)
    · exact s1.sub i b f
  · intro b q
    have hb : ¬ Bor io os F1 b := fun z => q (pa1 b z)
    rw [pa2 b hb] at q
    rcases st.pn b q with z | ⟨j, _, i, _, z⟩ | z
    · rcases froz_new z with y | y | y
      · exact s1.pn b y
      · exact .inr (q1 b y).2
      · exact (hb y).elim
    · exact .inr (s1.sub i b z)
    · exact .inr (.inr (Classical.byContradiction fun q => s1.al b q z))
  · exact fun b h => st.al b (s1.al b h)
  · rintro i b (⟨j, hj, e, f⟩ | ⟨hn, f⟩)
    · exact .inl ⟨j, f⟩
    · exact .inr ⟨f, nonio hn f⟩
theorem call_rd {H : Hp} {Q : VK} (h : tE G W (fCall io spec fa) σ H Q) : tA G W fa σ H (fun vs H1 => spV G io spec vs H1 Q (fun cls d H' => W cls d σ H')) := by
  obtain ⟨ρ, P, F, n, h⟩ := h
  refine tA_bind (End := fun P H F => EndO G W P H F σ Q) n h (fun _ _ z => z) (fun z => z) fun os ρ1 vs P1 H1 F1 S1 e1 h1 n1 s1 hs q1 => ?_
  by_cases hc : ioC io os = true
  · rw [if_pos hc] at h1
    cases ha : argW ρ1 io os with
    | none => rw [ha] at h1; exact h1.elim
    | some ws =>
      rw [ha] at h1
      obtain ⟨l1, l2, l3, _⟩ := argW_at hs ha
      refine ⟨ws, _, _, l2, l3, call_in n1 hs (fun b hb => (q1 b hb).1) hc ha, fun j b h => h.1, ?_⟩
      cases hsp : spec ws with
      | stk => simp only [hsp] at h1; exact h1.elim
      | exc c outs =>
        simp only [hsp] at h1
        by_cases cl : (noBor io os || outs.all cleanO) = true
        · rw [if_pos cl] at h1
          intro P' H' F' nF hF st lo
          obtain ⟨Pa, F2, n2, s2, _⟩ := call_back n1 s1 hs q1 hc ha nF hF st lo cl
          exact h1 Pa H' F2 n2 s2
        · rw [if_neg cl] at h1; exact h1.elim
      | ok w outs =>
        simp only [hsp] at h1
        by_cases cl : (noBor io os || (clean w && outs.all cleanO)) = true
        · rw [if_pos cl] at h1
          intro v P' H' F' S nF hF st tm src lo
          have cl2 : (noBor io os || outs.all cleanO) = true := by
            rcases Bool.or_eq_true_iff.mp cl with z | z
            · rw [z, Bool.true_or]
            · rw [(Bool.and_eq_true_iff.mp z).2, Bool.or_true]
          obtain ⟨Pa, F2, n2, s2, keep, paN, off⟩ := call_back n1 s1 hs q1 hc ha nF hF st lo cl2
          refine h1 v Pa H' F2 S n2 s2 ⟨keep S v w ?_ tm.ow, fun b hb => paN b (tm.np b hb), tm.al, fun b hb i q => ?_, tm.kd⟩ fun b hb => ?_
          · rcases Bool.or_eq_true_iff.mp cl with z | z
            · exact .inl z
            · exact .inr (Bool.and_eq_true_iff.mp z).1
          · rcases off i b q with ⟨j, y⟩ | ⟨y, no⟩
            · exact tm.dj b hb j y
            · rcases src b hb with ⟨j, x⟩ | x
              · exact no j x
              · exact n1.al i b y x
          · rcases src b hb with ⟨j, _, i, _, x⟩ | x
            · exact s1.sub i b x
            · exact .inr (Classical.byContradiction fun q => s1.al b q x)
        · rw [if_neg cl] at h1; exact h1.elim
  · rw [if_neg hc] at h1
    exact h1.elim
end
end Mi
end
section
set_option Elab.async false
set_option linter.all false
set_option maxRecDepth 100000
/-! Ev11: defs, their promises, their calls -/
namespace Mi
open PySem PySem.Spec PyProof.Rows L2

structure RoomG (k : Nat) (A : Around) : Prop where
  rm : Room k A
  gd : A.guards = some []
theorem RoomG.mono {j k : Nat} {A : Around} (r : RoomG k A) (h : j ≤ k) : RoomG j A := ⟨r.rm.mono h, r.gd⟩
theorem RoomG.deeper {k : Nat} {A : Around} (r : RoomG (k + 1) A) (env : Env) : RoomG k (A.deeper env) := ⟨r.rm.deeper env, r.gd⟩
theorem make_guards {A : Around} {C : Addr} {us : List Value} {kw : List (Str × Value)} (h : A.guards = some []) : (A.under (.builtin "type.__call__" ⟨.ref C :: us, kw⟩)).guards = some [] := by
  simp [Around.under, Code.guards, Code.isGuard, guardIds, pushGuards, h]
theorem RoomG.make {k : Nat} {A : Around} (r : RoomG (k + 1) A) (C : Addr) (us : List Value) (kw : List (Str × Value)) : RoomG k (A.under (.builtin "type.__call__" ⟨.ref C :: us, kw⟩)) := ⟨r.rm.make C us kw, make_guards r.gd⟩

structure FnG (P : Program) (w : World) (K : PySem.W.Frag) (mg : Str → Option Value) (base : Heap) (k : Nat) (f : Addr) (fd : FuncData) (ps : List Str) (sp : Sp) : Prop where
  len : ∀ vs H Q E, sp vs H Q E → vs.length = ps.length
  run : ∀ (A : Around) (outer : List Env) (s : Shared) (H : Hp) (args : Args) (us : List Value) (vs : List V) (Q : VK) (E : XK), RoomG k A → Env0 P w K mg base A outer s H → BindsTo s fd args (ps.zip us) → Vals vs us → sp vs H Q E →
    codeAny (model P w) A (.call (.ref f) args) (CR (L2N.CX P w) outer P w H s Q E) s
section
variable {P : Program} {w : World} {K : PySem.W.Frag} {mg : Str → Option Value} {base : Heap}
theorem FnG.mono {j k : Nat} {f : Addr} {fd : FuncData} {ps : List Str} {sp : Sp} (F : FnG P w K mg base j f fd ps sp) (h : j ≤ k) : FnG P w K mg base k f fd ps sp :=
  ⟨F.len, fun A outer s H args us vs Q E hr => F.run A outer s H args us vs Q E (hr.mono h)⟩
theorem FnG.imp {k : Nat} {f : Addr} {fd : FuncData} {ps : List Str} {sp sp' : Sp} (F : FnG P w K mg base k f fd ps sp) (h : ∀ vs H Q E, sp' vs H Q E → sp vs H Q E) : FnG P w K mg base k f fd ps sp' :=
  ⟨fun vs H Q E q => F.len vs H Q E (h _ _ _ _ q), fun A outer s H args us vs Q E hr he hb hv hs => F.run A outer s H args us vs Q E hr he hb hv (h _ _ _ _ hs)⟩
theorem FnG.of {k : Nat} {f : Addr} {fd : FuncData} {ps : List Str} {sp : Sp} (F : FnOk P w K mg base (L2N.CX P w) k f fd ps sp) : FnG P w K mg base k f fd ps sp :=
  ⟨F.len, fun A outer s H args us vs Q E hr => F.run A outer s H args us vs Q E hr.rm⟩
theorem fn_ofG {k : Nat} {f : Addr} {name qual : Str} {params : Arguments} {body : List Stmt} {scope : Scope} {dV kV doc pm cdv ct oc : Value} {an od : Option Addr}
    {osl : Array (Option Value)} {N ps : List Str} {sp : Sp} (lk : K.lookup f = some ⟨oc, od, .func (PySem.W.fnOf name qual params body scope dV kV doc pm an cdv ct), osl⟩) (hcd : PySem.W.codeIn K cdv qual = true) (S : FnScope N ps scope)
    (len : ∀ vs H Q E, sp vs H Q E → vs.length = ps.length)
    (hbody : ∀ (A : Around) (outer : List Env) (s : Shared) (H : Hp) (vs : List V) (Q : VK) (E : XK), RoomG k (A.deeper (envOfC qual scope s.heap.objs.size f cdv)) → sp vs H Q E →
      ∃ t, PSs (cxOf (L2N.CX P w) P w K mg base N qual scope f cdv A outer s H E) body t ∧ t { nx := fun _ H' => Q .non H', rt := Q } (L2.start N vs) H) :
    FnG P w K mg base (k + 1) f (PySem.W.fnOf name qual params body scope dV kV doc pm an cdv ct) ps sp := by
  constructor
  · exact len
  intro A outer s H args us vs Q E room env bind vals prom
  have keepB : ∀ b o, base.get? b = some o → s.heap.get? b = some o := fun b o q => (env.bs b o q).1
  have KH : K.In s.heap := env.mod.kin.keeps keepB
  have noLim : s.heap.NoLimit := env.mod.nolimit.keeps keepB
  have kinds : ∀ y ∈ ps.zip us, scope.names.lookup y.1 = some .local ∨ (scope.names.lookup y.1 = some .cell ∧ ((cellsFrom (s.heap.objs.size + 1) scope.names []).lookup y.1).isSome = true) := by
    rintro ⟨n, v⟩ hy
    rcases S.par n (List.of_mem_zip hy).1 with q | q
    · exact .inl q
    · exact .inr ⟨q, PySem.W.cellsFrom_some _ _ _ (.inl q)⟩
  refine codeAny_call_function room.rm.depth (KH _ _ lk) rfl S.co S.gen rfl (PySem.W.codeRec_of KH hcd) ?_
  refine bind _ _ _ _ (wpAny_newFunctionEnv_cells S.kind kinds ?_)
  rintro _ rfl s1 x
  refine ⟨noLim.keeps x.toInCall.keep, codeAny_func ?_⟩
  obtain ⟨t, bodyOk, rd⟩ := hbody A outer s H vs Q E (room.deeper _) prom
  have I0 := inv_start (CX := L2N.CX P w) (E := E) (mg := mg) (cd := cdv) (qual := qual) (f := f) S room.rm.hd env (len _ _ _ _ prom) vals x
  refine wpAny_mono (bodyOk.run [] s1 _ H _ I0 rd) (fun fl s' out => ?_) fun _ _ z => z
  cases fl with
  | brk => obtain ⟨_, _, _, z⟩ := out; exact z.elim
  | cont => obtain ⟨_, _, _, z⟩ := out; exact z.elim
  | next =>
    obtain ⟨σ', H', J, q⟩ := out
    exact ⟨V.non, H', J.os, J.bare, J.base, J.hok, rfl, q⟩
  | ret u =>
    obtain ⟨v, σ', H', J, rel, q⟩ := out
    exact ⟨v, H', J.os, J.bare, J.base, J.hok, rel, q⟩
end

/-! ### calls -/
section
variable {X : Cx} {W : WX} {G : Glb} {k : Nat} {f C : Addr} {fd : FuncData} {ps : List Str} {sp : Sp} {x m : Str} {p pos apos : Pos} {e o : Expr} {es : List Expr}
theorem run_fnG {pins : List (Addr × Obj)} {σ : L2.St} {H : Hp} {s : Shared} {Q : VK} {us : List Value} {vs : List V} (F : FnG X.prog X.w X.K X.mg X.base k f fd ps sp) (c : Cxt G X W k) (hb : Binds X.K fd ps [])
    (I : Inv X pins σ H s) (r : Vals vs us) (h : sp vs H Q (fun cls d H' => W cls d σ H')) : wpAny (model X.prog X.w) X.A (call (.ref f) us) (EP X pins σ Q) X.xe s := by
  have hl : us.length = ps.length := r.length.symm.trans (F.len _ _ _ _ h)
  have b := hb s us I.kIn (by rw [List.append_nil]; exact hl)
  rw [List.append_nil] at b
  refine wpAny_call (codeAny_mono (F.run X.A X.stack s H _ us vs Q _ ⟨c.room, c.gd⟩ I.env0 b r h) ?_)
  intro res s' out
  match res, out with
  | .error e, out => exact L2N.passAt c.tk σ pins H s e s' I out
  | .ok (.ret u), out => exact I.after out
/-- f(e, ..) -/
theorem e_call {io : List Bool} {spec : CSpec} {fa : FA} (c : Cxt G X W k) (F : FnG X.prog X.w X.K X.mg X.base k f fd ps (spV G io spec)) (hm : X.mg x = some (.ref f)) (hk : PySem.W.keepIn X.K (.ref f) = true) (hb : Binds X.K fd ps [])
    (ha : PA X (e :: es) (tA G W fa)) (hg : Gl X x := by rfl) (hdb : (x == ("__debug__" : Str)) = false := by decide) (he : starEach (e :: es) X.env = (false, eval e X.env) :: starEach es X.env := by rfl) (hpl : (backTo pos (starEach es X.env)).any (·.1) = false := by rfl) :
    PE X (.Call (.Name x p) (e :: es) [] pos) (tE G W (fCall io spec fa)) := by
  constructor
  intro pins s σ H Q I h
  refine wpAny_Call_Name_kw (ld_glob I hg hm (PySem.W.callWith_K (h₀ := X.base) I.ok.mod.kin hk (thn (ha.run pos pins s σ H _ I (call_rd h)) ?_) he hpl) hdb)
  rintro us s1 ⟨vs, H1, I1, r, q⟩
  exact ⟨I1.kIn, run_fnG F c hb I1 r q⟩
end
end Mi
end
section
set_option Elab.async false
set_option linter.all false
set_option maxRecDepth 100000
/-! Ev12: statements -/
namespace Mi
open PySem L2

inductive SO where
  | nx (ρ : Rho)
  | bk (ρ : Rho)
  | ct (ρ : Rho)
  | ret (w : Vl) (ρ : Rho)
  | exc (c : Nat) (ρ : Rho)
  | stk
abbrev FS := Rho → SO
/-- the slots' number stays, and what is pinned stays where it is -/
structure Kp (n : Nat) (π : List Bool) (σ σ' : L2.St) : Prop where
  len : σ'.length = n
  pin : ∀ j, ioAt π j = true → σ'[j]? = σ[j]?
theorem Kp.refl {n : Nat} {π : List Bool} {σ : L2.St} (h : σ.length = n) : Kp n π σ σ := ⟨h, fun _ _ => rfl⟩
theorem Kp.trans {n : Nat} {π : List Bool} {σ σ1 σ2 : L2.St} (a : Kp n π σ σ1) (b : Kp n π σ1 σ2) : Kp n π σ σ2 := ⟨b.len, fun j h => (b.pin j h).trans (a.pin j h)⟩
theorem Kp.set {n i : Nat} {π : List Bool} {σ : L2.St} {x : Option V} (h : σ.length = n) (hi : ioAt π i = false) : Kp n π σ (σ.set i x) := ⟨by rw [List.length_set]; exact h, fun j hj => by
  have : i ≠ j := fun e => by subst e; rw [hi] at hj; cases hj
  rw [List.getElem?_set_ne this]⟩
def EndS (G : Glb) (W : WX) (n : Nat) (π : List Bool) (P H : Hp) (F : Nat → Ad) (σ : L2.St) (D : Ends) : SO → Prop
  | .nx ρ' => ∀ σ' P' H' F', Now G P' H' σ' ρ' F' → Stp P H F P' H' F' → Kp n π σ σ' → D.nx σ' H'
  | .bk ρ' => ∀ σ' P' H' F', Now G P' H' σ' ρ' F' → Stp P H F P' H' F' → Kp n π σ σ' → D.bk σ' H'
  | .ct ρ' => ∀ σ' P' H' F', Now G P' H' σ' ρ' F' → Stp P H F P' H' F' → Kp n π σ σ' → D.ct σ' H'
  | .ret w ρ' => ∀ v σ' P' H' F' S, Now G P' H' σ' ρ' F' → Stp P H F P' H' F' → Kp n π σ σ' → Tmp G P' H' F' S v w → (∀ b, S b → (∃ i, F i b) ∨ H b = none) → D.rt v H'
  | .exc c ρ' => ∀ σ' P' H' F', Now G P' H' σ' ρ' F' → Stp P H F P' H' F' → Kp n π σ σ' → W (.ref (G.ea c)) none σ' H'
  | .stk => False
def tS (G : Glb) (W : WX) (n : Nat) (π : List Bool) (f : FS) : TS := fun D σ H => ∃ ρ P F, Now G P H σ ρ F ∧ σ.length = n ∧ EndS G W n π P H F σ D (f ρ)
theorem PS.imp {X : Cx} {e : Stmt} {t t' : TS} (h : PS X e t) (i : ∀ D σ H, t' D σ H → t D σ H) : PS X e t' := ⟨fun pins s σ H D I q => h.run pins s σ H D I (i D σ H q)⟩
theorem PSs.imp {X : Cx} {e : List Stmt} {t t' : TS} (h : PSs X e t) (i : ∀ D σ H, t' D σ H → t D σ H) : PSs X e t' := ⟨fun pins s σ H D I q => h.run pins s σ H D I (i D σ H q)⟩
def Out.bindS {α : Type} (x : Out α) (k : α → Rho → SO) : SO := match x with
  | .ok a ρ => k a ρ
  | .exc c ρ => .exc c ρ
  | .stk => .stk
section
variable {G : Glb} {W : WX} {n : Nat} {π : List Bool} {P H P1 H1 : Hp} {F F1 : Nat → Ad} {σ σ1 : L2.St} {ρ : Rho} {D : Ends} {f : FE}
theorem EndS.trans {r : SO} (s : Stp P H F P1 H1 F1) (kp : Kp n π σ σ1) (h : EndS G W n π P H F σ D r) : EndS G W n π P1 H1 F1 σ1 D r := by
  cases r with
  | nx ρ' => exact fun σ' P' H' F' n t k => h σ' P' H' F' n (s.trans t) (kp.trans k)
  | bk ρ' => exact fun σ' P' H' F' n t k => h σ' P' H' F' n (s.trans t) (kp.trans k)
  | ct ρ' => exact fun σ' P' H' F' n t k => h σ' P' H' F' n (s.trans t) (kp.trans k)
  | exc c ρ' => exact fun σ' P' H' F' n t k => h σ' P' H' F' n (s.trans t) (kp.trans k)
  | ret w ρ' =>
    intro v σ' P' H' F' S n t k tm src
    refine h v σ' P' H' F' S n (s.trans t) (kp.trans k) tm fun b hb => ?_
    rcases src b hb with ⟨i, hi⟩ | z
    · exact s.sub i b hi
    · exact .inr (Classical.byContradiction fun q => s.al b q z)
  | stk => exact h
theorem tE_bindS {Q : VK} {k : Opd → Rho → SO} (nw : Now G P H σ ρ F) (hl : σ.length = n) (hE : EndS G W n π P H F σ D ((f ρ).bindS k))
    (h : ∀ o ρ1 v P1 H1 F1 S, EndS G W n π P1 H1 F1 σ D (k o ρ1) → Now G P1 H1 σ ρ1 F1 → Stp P H F P1 H1 F1 → Has G P1 H1 F1 σ S v o → (∀ b, S b → (∃ i, F i b) ∨ H b = none) → EndS G W n π P H F σ D (k o ρ1) → Q v H1) : tE G W f σ H Q := by
  refine ⟨ρ, P, F, nw, ?_⟩
  cases e : f ρ with
  | ok o ρ1 =>
    rw [e] at hE
    exact fun v P1 H1 F1 S n1 s1 h1 q1 => h o ρ1 v P1 H1 F1 S (EndS.trans s1 (Kp.refl hl) hE) n1 s1 h1 q1 hE
  | exc c ρ' =>
    rw [e] at hE
    exact fun P1 H1 F1 n1 s1 => hE σ P1 H1 F1 n1 s1 (Kp.refl hl)
  | stk =>
    rw [e] at hE
    exact hE.elim
theorem tT_bindS {f : FT} {Q : Bool → Hp → Prop} {k : Bool → Rho → SO} (nw : Now G P H σ ρ F) (hl : σ.length = n) (hE : EndS G W n π P H F σ D ((f ρ).bindS k))
    (h : ∀ o ρ1 P1 H1 F1, EndS G W n π P1 H1 F1 σ D (k o ρ1) → Now G P1 H1 σ ρ1 F1 → Q o H1) : tT G W f σ H Q := by
  refine ⟨ρ, P, F, nw, ?_⟩
  cases e : f ρ with
  | ok o ρ1 =>
    rw [e] at hE
    exact fun P1 H1 F1 n1 s1 => h o ρ1 P1 H1 F1 (EndS.trans s1 (Kp.refl hl) hE) n1
  | exc c ρ' =>
    rw [e] at hE
    exact fun P1 H1 F1 n1 s1 => hE σ P1 H1 F1 n1 s1 (Kp.refl hl)
  | stk =>
    rw [e] at hE
    exact hE.elim
/-- a slot takes a temporary -/
def setF (F : Nat → Ad) (i : Nat) (S : Ad) : Nat → Ad := fun k b => (k = i ∧ S b) ∨ (k ≠ i ∧ F k b)
theorem setF_at {i : Nat} {S : Ad} {b : Addr} (h : S b) : setF F i S i b := .inl ⟨rfl, h⟩
theorem now_set {v : V} {w : Vl} {S : Ad} {i : Nat} (nw : Now G P H σ ρ F) (t : Tmp G P H F S v w) (hi : i < σ.length) : Now G P H (σ.set i (some v)) (ρ.set i (some w)) (setF F i S) := by
  refine ⟨nw.ex, ?_, ?_, ?_, fun j w' h => ?_, ?_⟩
  · rintro j k a (⟨rfl, h1⟩ | ⟨h0, h1⟩) (⟨rfl, h2⟩ | ⟨h3, h2⟩)
    · rfl
    · exact (t.dj a h1 k h2).elim
    · exact (t.dj a h2 j h1).elim
    · exact nw.dj j k a h1 h2
  · rintro j b (⟨rfl, h1⟩ | ⟨h0, h1⟩)
    · exact t.np b h1
    · exact nw.np j b h1
  · rintro j b (⟨rfl, h1⟩ | ⟨h0, h1⟩)
    · exact t.al b h1
    · exact nw.al j b h1
  · by_cases e : i = j
    · subst e
      by_cases hl : i < ρ.length
      · rw [List.getElem?_set_self hl] at h
        cases h
        exact ⟨v, List.getElem?_set_self hi, t.ow.mono (Same.refl P) (fun _ _ _ q => q) fun b hb => setF_at hb⟩
      · rw [List.getElem?_eq_none (by rw [List.length_set]; omega)] at h
        cases h
    · rw [List.getElem?_set_ne e] at h
      obtain ⟨v', h1, h2⟩ := nw.rd j w' h
      exact ⟨v', by rw [List.getElem?_set_ne e]; exact h1, h2.mono (Same.refl P) (fun _ _ _ q => q) fun b hb => .inr ⟨Ne.symm e, hb⟩⟩
  · rintro j b u (⟨rfl, h1⟩ | ⟨h0, h1⟩) q
    · exact t.kd b u h1 q
    · exact nw.kd j b u h1 q
theorem stp_set {P0 H0 : Hp} {F0 : Nat → Ad} {S : Ad} {i : Nat} (s : Stp P0 H0 F0 P H F) (src : ∀ b, S b → (∃ i, F0 i b) ∨ H0 b = none) : Stp P0 H0 F0 P H (setF F i S) :=
  ⟨s.ex, s.fr, fun j b h => h.elim (fun z => src b z.2) fun z => s.sub j b z.2, s.pn, s.al⟩
/-- a slot's own things, as a temporary's -/
theorem now_off {v : V} {w : Vl} {i : Nat} (nw : Now G P H σ ρ F) (hs : σ[i]? = some (some v)) (hw : look ρ (.brw i) = some w) : Now G P H σ (ρ.set i none) (offF F i) ∧ Tmp G P H (offF F i) (F i) v w := by
  obtain ⟨v', h1, h2⟩ := nw.rd i w (join_some hw)
  rw [hs] at h1
  have ev : v = v' := by simpa using h1
  subst ev
  refine ⟨⟨nw.ex, fun j k a h1 h2 => nw.dj j k a h1.2 h2.2, fun j b h => nw.np j b h.2, fun j b h => nw.al j b h.2, fun j w' h => ?_, fun j b u h e => nw.kd j b u h.2 e⟩, h2, fun b h => nw.np i b h, fun b h => nw.al i b h, fun b h j q => q.1 (nw.dj j i b q.2 h), fun b u h e => nw.kd i b u h e⟩
  by_cases e : i = j
  · subst e
    by_cases hl : i < ρ.length
    · rw [List.getElem?_set_self hl] at h
      cases h
    · rw [List.getElem?_eq_none (by rw [List.length_set]; omega)] at h
      cases h
  · rw [List.getElem?_set_ne e] at h
    obtain ⟨v', h3, h4⟩ := nw.rd j w' h
    exact ⟨v', h3, h4.mono (Same.refl P) (fun _ _ _ q => q) fun b hb => ⟨Ne.symm e, hb⟩⟩
theorem stp_off {P0 H0 : Hp} {F0 : Nat → Ad} {i : Nat} (s : Stp P0 H0 F0 P H F) : Stp P0 H0 F0 P H (offF F i) := ⟨s.ex, s.fr, fun j b h => s.sub j b h.2, s.pn, s.al⟩
end

/-! ### the statements -/
def sNext : FS := fun ρ => .nx ρ
def sSeq (f g : FS) : FS := fun ρ => match f ρ with
  | .nx ρ1 => g ρ1
  | r => r
def sDrop (f : FE) : FS := fun ρ => (f ρ).bindS fun _ ρ1 => .nx ρ1
/-- an operand as a temporary -/
def own (ρ : Rho) : Opd → Option (Vl × Rho)
  | .val w => some (w, ρ)
  | .brw j => (look ρ (.brw j)).map fun w => (w, ρ.set j none)
def setO (i : Nat) (o : Opd) (ρ : Rho) : SO := match own ρ o with
  | some (w, ρ1) => .nx (ρ1.set i (some w))
  | none => .stk
def sSet (i : Nat) (f : FE) : FS := fun ρ => (f ρ).bindS fun o ρ1 => setO i o ρ1
def retO (o : Opd) (ρ : Rho) : SO := match own ρ o with
  | some (w, ρ1) => .ret w ρ1
  | none => .stk
def sRet (f : FE) : FS := fun ρ => (f ρ).bindS fun o ρ1 => retO o ρ1
def sRetN : FS := fun ρ => .ret (.dat .none) ρ
def sBrk : FS := fun ρ => .bk ρ
def sCnt : FS := fun ρ => .ct ρ
def sIf (c : FT) (a b : FS) : FS := fun ρ => (c ρ).bindS fun t ρ1 => if t = true then a ρ1 else b ρ1
def sRaise (c : Nat) : FS := fun ρ => .exc c ρ
section
variable {X : Cx} {G : Glb} {W : WX} {n k i : Nat} {π : List Bool} {st : Stmt} {rest sa sb : List Stmt} {f g : FS} {e : Expr} {fe : FE} {ft : FT} {pos p2 : Pos} {x : Str}
theorem own_ok {P H P0 H0 : Hp} {F F0 : Nat → Ad} {σ : L2.St} {ρ ρ' : Rho} {S : Ad} {v : V} {o : Opd} {w : Vl} (nw : Now G P H σ ρ F) (s : Stp P0 H0 F0 P H F) (h : Has G P H F σ S v o) (src : ∀ b, S b → (∃ i, F0 i b) ∨ H0 b = none) (e : own ρ o = some (w, ρ')) :
    ∃ F' S', Now G P H σ ρ' F' ∧ Stp P0 H0 F0 P H F' ∧ Tmp G P H F' S' v w ∧ ∀ b, S' b → (∃ i, F0 i b) ∨ H0 b = none := by
  cases o with
  | val w' =>
    have e : some (w', ρ) = some (w, ρ') := e
    cases e
    exact ⟨F, S, nw, s, h, src⟩
  | brw j =>
    have e : (look ρ (.brw j)).map (fun w => (w, ρ.set j none)) = some (w, ρ') := e
    obtain ⟨w', hw, e2⟩ := Option.map_eq_some_iff.mp e
    cases e2
    obtain ⟨n1, t1⟩ := now_off nw h hw
    exact ⟨offF F j, F j, n1, stp_off s, t1, fun b hb => s.sub j b hb⟩
theorem s_nil : PSs X [] (tS G W n π sNext) := PSs.imp pss_nil fun D σ H ⟨ρ, P, F, nw, hl, h⟩ => h σ P H F nw Stp.refl (Kp.refl hl)
theorem s_pass : PS X (.Pass pos) (tS G W n π sNext) := PS.imp ps_pass fun D σ H ⟨ρ, P, F, nw, hl, h⟩ => h σ P H F nw Stp.refl (Kp.refl hl)
theorem s_break : PS X (.Break pos) (tS G W n π sBrk) := PS.imp ps_break fun D σ H ⟨ρ, P, F, nw, hl, h⟩ => h σ P H F nw Stp.refl (Kp.refl hl)
theorem s_continue : PS X (.Continue pos) (tS G W n π sCnt) := PS.imp ps_continue fun D σ H ⟨ρ, P, F, nw, hl, h⟩ => h σ P H F nw Stp.refl (Kp.refl hl)
theorem s_cons (h1 : PS X st (tS G W n π f)) (h2 : PSs X rest (tS G W n π g)) : PSs X (st :: rest) (tS G W n π (sSeq f g)) := PSs.imp (pss_cons h1 h2) fun D σ H ⟨ρ, P, F, nw, hl, h⟩ => by
  refine ⟨ρ, P, F, nw, hl, ?_⟩
  unfold sSeq at h
  cases e : f ρ with
  | nx ρ1 =>
    rw [e] at h
    exact fun σ' P' H' F' n1 s1 k1 => ⟨ρ1, P', F', n1, k1.len, EndS.trans s1 k1 h⟩
  | bk ρ1 => rw [e] at h; exact h
  | ct ρ1 => rw [e] at h; exact h
  | ret w ρ1 => rw [e] at h; exact h
  | exc c ρ1 => rw [e] at h; exact h
  | stk => rw [e] at h; exact h
theorem s_one (h1 : PS X st (tS G W n π f)) : PSs X [st] (tS G W n π f) := pss_one h1
theorem s_expr (he : PE X e (tE G W fe)) (hs : swapsWith e none pos.line X.env = pure false := by rfl) : PS X (.Expr e pos) (tS G W n π (sDrop fe)) := PS.imp (ps_expr he hs) fun D σ H ⟨ρ, P, F, nw, hl, h⟩ =>
  tE_bindS nw hl h fun o ρ1 v P1 H1 F1 S h1 n1 s1 hs q1 _ => h1 σ P1 H1 F1 n1 Stp.refl (Kp.refl hl)
theorem set_rd {D : Ends} {σ : L2.St} {H : Hp} (hn : i < n) (hp : ioAt π i = false) (h : tS G W n π (sSet i fe) D σ H) : tE G W fe σ H (fun x H1 => D.nx (σ.set i (some x)) H1) := by
  obtain ⟨ρ, P, F, nw, hl, h⟩ := h
  refine tE_bindS nw hl h fun o ρ1 v P1 H1 F1 S _ n1 s1 hs q1 h0 => ?_
  unfold setO at h0
  cases e : own ρ1 o with
  | none => rw [e] at h0; exact h0.elim
  | some p =>
    obtain ⟨w, ρ2⟩ := p
    rw [e] at h0
    obtain ⟨F2, S2, n2, s2, t2, q2⟩ := own_ok n1 s1 hs q1 e
    exact h0 _ P1 H1 _ (now_set n2 t2 (by omega)) (stp_set s2 q2) (Kp.set hl hp)
theorem s_set (hN : X.N.Nodup) (hi : X.N[i]? = some x) (hx : Loc X.env.scope x) (hn : i < n) (hp : ioAt π i = false) (he : PE X e (tE G W fe)) (hs : swapsWith e (some (.Name x p2)) pos.line X.env = pure false := by rfl)
    (hf : X.fn x = true ∨ X.env.scope.names.lookup x = some .local := by first | exact .inl rfl | exact .inr rfl | assumption) : PS X (.Assign [.Name x p2] e pos) (tS G W n π (sSet i fe)) :=
  PS.imp (ps_set hN hi hx he hs hf) fun D σ H h => set_rd hn hp h
theorem s_ret (he : PE X e (tE G W fe)) : PS X (.Return (some e) pos) (tS G W n π (sRet fe)) := PS.imp (ps_ret he) fun D σ H ⟨ρ, P, F, nw, hl, h⟩ => by
  refine tE_bindS nw hl h fun o ρ1 v P1 H1 F1 S _ n1 s1 hs q1 h0 => ?_
  unfold retO at h0
  cases e : own ρ1 o with
  | none => rw [e] at h0; exact h0.elim
  | some p =>
    obtain ⟨w, ρ2⟩ := p
    rw [e] at h0
    obtain ⟨F2, S2, n2, s2, t2, q2⟩ := own_ok n1 s1 hs q1 e
    exact h0 v σ P1 H1 F2 S2 n2 s2 (Kp.refl hl) t2 q2
theorem s_retN : PS X (.Return none pos) (tS G W n π sRetN) := PS.imp ps_retN fun D σ H ⟨ρ, P, F, nw, hl, h⟩ =>
  h .non σ P H F nobody nw Stp.refl (Kp.refl hl) ⟨.non, fun _ z => z.elim, fun _ z => z.elim, fun _ z => z.elim, fun _ _ z => z.elim⟩ fun _ z => z.elim
theorem s_if {c : Expr} (hc : PT X c (tT G W ft)) (ha : PSs X sa (tS G W n π f)) (hb : PSs X sb (tS G W n π g)) : PS X (.If c sa sb pos) (tS G W n π (sIf ft f g)) := PS.imp (ps_if hc ha hb) fun D σ H ⟨ρ, P, F, nw, hl, h⟩ =>
  tT_bindS nw hl h fun t ρ1 P1 H1 F1 h1 n1 => by
    cases t with
    | true => exact ⟨ρ1, P1, F1, n1, hl, h1⟩
    | false => exact ⟨ρ1, P1, F1, n1, hl, h1⟩
theorem s_raise {c : Nat} (cx : Cxt G X W k) (he : L2N.PMk X e (fun _ H Q => Q (.ref (G.ea c)) none H)) : PS X (.Raise (some e) none pos) (tS G W n π (sRaise c)) := PS.imp (L2N.ps_raise cx.calm cx.tk he) fun D σ H ⟨ρ, P, F, nw, hl, h⟩ =>
  h σ P H F nw Stp.refl (Kp.refl hl)
end
end Mi
end
section
set_option Elab.async false
set_option linter.all false
set_option maxRecDepth 100000
/-! Ev13: lists that are changed -/
namespace Mi
open PySem L2
section
variable {G : Glb} {W : WX} {P H P1 H1 : Hp} {F F1 : Nat → Ad} {σ : L2.St} {ρ : Rho} {i : Nat} {a : Addr} {xs : List V} {ds : List PyData}
/-- the list of slot i is changed -/
theorem now_upd (nw : Now G P H σ ρ F) (hs : σ[i]? = some (some (.ref a))) (ha : F i a) (hd : DpAll G.K P xs ds) : Now G P (upd H a (.lst xs)) σ (ρ.set i (some (.ml ds))) F := by
  have na : ∀ b o, P b = some o → b ≠ a := fun b o h e => by rw [e, nw.np i a ha] at h; cases h
  refine ⟨fun b o h => by rw [upd_ne (na b o h)]; exact nw.ex b o h, nw.dj, nw.np, fun j b h => ?_, fun j w' h => ?_, fun j b u h e => ?_⟩
  · by_cases q : b = a
    · rw [q, upd_same]; exact fun z => nomatch z
    · rw [upd_ne q]; exact nw.al j b h
  · by_cases e : i = j
    · subst e
      by_cases hl : i < ρ.length
      · rw [List.getElem?_set_self hl] at h
        cases h
        exact ⟨_, hs, a, xs, rfl, ha, upd_same, hd⟩
      · rw [List.getElem?_eq_none (by rw [List.length_set]; omega)] at h
        cases h
    · rw [List.getElem?_set_ne e] at h
      obtain ⟨v', h1, h2⟩ := nw.rd j w' h
      refine ⟨v', h1, h2.mono (Same.refl P) (fun b o hb q => ?_) fun b hb => hb⟩
      rw [upd_ne (fun (z : b = a) => e (nw.dj i j a ha (by rw [← z]; exact hb)))]
      exact q
  · by_cases q : b = a
    · rw [q, upd_same] at e; cases e; rfl
    · rw [upd_ne q] at e; exact nw.kd j b u h e
theorem stp_upd {P0 H0 : Hp} {F0 : Nat → Ad} (nw : Now G P H σ ρ F) (s : Stp P0 H0 F0 P H F) (ha : F i a) : Stp P0 H0 F0 P (upd H a (.lst xs)) F := by
  refine ⟨s.ex, fun b o h hf => ?_, s.sub, s.pn, fun b h => ?_⟩
  · rw [upd_ne (fun (z : b = a) => s.out (by rw [h]; exact fun z => nomatch z) hf i (by rw [z]; exact ha))]
    exact s.fr b o h hf
  · by_cases q : b = a
    · rw [q, upd_same]; exact fun z => nomatch z
    · rw [upd_ne q]; exact s.al b h
theorem now_ml (nw : Now G P H σ ρ F) (hw : look ρ (.brw i) = some (.ml ds)) : ∃ a xs, σ[i]? = some (some (.ref a)) ∧ F i a ∧ H a = some (.lst xs) ∧ DpAll G.K P xs ds := by
  obtain ⟨v, h1, a, xs, rfl, h2, h3, h4⟩ := nw.rd i _ (join_some hw)
  exact ⟨a, xs, h1, h2, h3, h4⟩
end
def isMl (ρ : Rho) (i : Nat) : Bool := match look ρ (.brw i) with
  | some (.ml _) => true
  | _ => false
/-- x.append(e) -/
noncomputable def appO (i : Nat) (o : Opd) (ρ : Rho) : Out Opd := match frz1 ρ o with
  | some (d, ρ1) => match look ρ1 (.brw i) with
    | some (.ml ds) => if ds.length ≤ 100000 then .ok (.val (.dat .none)) (ρ1.set i (some (.ml (ds ++ [d])))) else .stk
    | _ => .stk
  | none => .stk
noncomputable def fApp (i : Nat) (f : FE) : FE := fun ρ => if isMl ρ i = true then (f ρ).bind fun o ρ1 => appO i o ρ1 else .stk
/-- x.extend(e), e a new list -/
noncomputable def extO (i : Nat) (o : Opd) (ρ : Rho) : Out Opd := match o with
  | .val (.ml es) => match look ρ (.brw i) with
    | some (.ml ds) => if ds.length + es.length ≤ 100000 then .ok (.val (.dat .none)) (ρ.set i (some (.ml (ds ++ es)))) else .stk
    | _ => .stk
  | _ => .stk
noncomputable def fExt (i : Nat) (f : FE) : FE := fun ρ => if isMl ρ i = true then (f ρ).bind fun o ρ1 => extO i o ρ1 else .stk
/-- x.pop() -/
def fPop (i : Nat) : FE := fun ρ => match look ρ (.brw i) with
  | some (.ml ds) => match ds.getLast? with
    | some d => .ok (.val (.dat d)) (ρ.set i (some (.ml ds.dropLast)))
    | none => .stk
  | _ => .stk
/-- x[j] = e -/
noncomputable def setItemO (i : Nat) (d : PyData) (o : Opd) (ρ : Rho) : SO := match look ρ o with
  | some (.dat (.int j)) => match look ρ (.brw i) with
    | some (.ml ds) => match ixN ds.length j with
      | some m => .nx (ρ.set i (some (.ml (ds.set m d))))
      | none => .stk
    | _ => .stk
  | _ => .stk
noncomputable def sSetItem (i : Nat) (fi fe : FE) : FS := fun ρ => (fe ρ).bindS fun o ρ1 => match frz1 ρ1 o with
  | some (d, ρ2) => if isMl ρ2 i = true then (fi ρ2).bindS fun oi ρ3 => setItemO i d oi ρ3 else .stk
  | none => .stk
section
variable {X : Cx} {G : Glb} {W : WX} {n k i : Nat} {π : List Bool} {e ei : Expr} {es : List Expr} {fe fi : FE} {fa : FA} {pos p2 apos cpos p3 : Pos} {x : Str}
theorem v_var (hN : X.N[i]? = some x := by rfl) (hv : Vis X.env.scope x := by first | exact Or.inl rfl | exact Or.inr (Or.inl rfl) | exact Or.inr (Or.inr rfl))
    (hd : (x == ("__debug__" : Str)) = false := by decide) (hcd : (x == ("__classdict__" : Str)) = false := by decide) : PE X (.Name x pos) (tVar i) := pe_var hN hv hd hcd
theorem isMl_look {ρ : Rho} (h : isMl ρ i = true) : ∃ ds, look ρ (.brw i) = some (.ml ds) := by
  unfold isMl at h
  split at h
  · rename_i ds e
    exact ⟨ds, e⟩
  · cases h
theorem e_append (hK : X.K = G.K) (ho : PE X (.Name x p3) (tVar i)) (he : PE X e (tE G W fe))
    (hbase : attributeBase (.Name x p3) "append" X.env (eval (.Name x p3) X.env) = eval (.Name x p3) X.env := by rfl)
    (hfew : ((backTo cpos (starEach [e] X.env)).all (fun x => !x.1) && (backToKw cpos (keywordEach [] X.env)).all (fun x => x.1.isSome)
      && decide (([e] : List Expr).length + ([] : List Keyword).length + (if ([] : List Keyword).isEmpty then 0 else 1) < 30)) = true := by rfl)
    (hline : (apos.endLine == cpos.line) = true := by rfl) (hs : starEach [e] X.env = (false, eval e X.env) :: starEach [] X.env := by rfl) (hplain : (backTo cpos (starEach [] X.env)).any (·.1) = false := by rfl) :
    PE X (.Call (.Attribute (.Name x p3) "append" apos) [e] [] cpos) (tE G W (fApp i fe)) :=
  PE.imp (pe_bm PySem.F.plainAttrs_list PySem.F.slot_list_append PySem.F.type_list_append mt_append ho (pa_cons he pa_nil hs) hbase hfew hline hs hplain) fun σ H Q ⟨ρ, P, F, nw, h⟩ => by
    unfold fApp at h
    by_cases q : isMl ρ i = true
    · rw [if_pos q] at h
      obtain ⟨ds0, hw0⟩ := isMl_look q
      obtain ⟨a, xs0, hs0, hF0, hH0, _⟩ := now_ml nw hw0
      refine ⟨.ref a, hs0, .inl ⟨rfl, xs0, SqL.of hH0⟩, ?_⟩
      refine tE_bind (End := fun P H F => EndO G W P H F σ Q) nw h (fun _ _ z => z) (fun z => z) fun o ρ1 v P1 H1 F1 S e1 h1 n1 s1 hx q1 => ?_
      unfold appO at h1
      cases ef : frz1 ρ1 o with
      | none => rw [ef] at h1; exact h1.elim
      | some p =>
        obtain ⟨d, ρ2⟩ := p
        rw [ef] at h1
        obtain ⟨P2, F2, n2, d2, z2⟩ := frz1_ok n1 hx ef
        have s2 := z2.stp s1 q1
        cases el : look ρ2 (.brw i) with
        | none => simp only [el] at h1; exact h1.elim
        | some w2 =>
          cases w2 with
          | ml ds =>
            simp only [el] at h1
            by_cases hz : ds.length ≤ 100000
            · rw [if_pos hz] at h1
              obtain ⟨a2, xs, hs2, hF2, hH2, hd2⟩ := now_ml n2 el
              have ea : a2 = a := by rw [hs0] at hs2; simpa using hs2.symm
              subst ea
              have hlen := dpa_len _ _ hd2
              refine ⟨a2, xs, v, rfl, rfl, hH2, by rw [sizeLine_eq]; omega, ?_⟩
              have n3 := now_upd n2 hs2 hF2 (dpa_app hd2 (.cons d2 .nil))
              exact h1 .non P2 _ F2 nobody n3 (stp_upd n2 s2 hF2) ⟨.non, fun _ z => z.elim, fun _ z => z.elim, fun _ z => z.elim, fun _ _ z => z.elim⟩ fun _ z => z.elim
            · rw [if_neg hz] at h1; exact h1.elim
          | dat _ => simp only [el] at h1; exact h1.elim
          | mml _ => simp only [el] at h1; exact h1.elim
          | ob _ _ => simp only [el] at h1; exact h1.elim
          | st _ => simp only [el] at h1; exact h1.elim
    · rw [if_neg q] at h; exact h.elim
theorem e_extend (hK : X.K = G.K) (ho : PE X (.Name x p3) (tVar i)) (he : PE X e (tE G W fe))
    (hbase : attributeBase (.Name x p3) "extend" X.env (eval (.Name x p3) X.env) = eval (.Name x p3) X.env := by rfl)
    (hfew : ((backTo cpos (starEach [e] X.env)).all (fun x => !x.1) && (backToKw cpos (keywordEach [] X.env)).all (fun x => x.1.isSome)
      && decide (([e] : List Expr).length + ([] : List Keyword).length + (if ([] : List Keyword).isEmpty then 0 else 1) < 30)) = true := by rfl)
    (hline : (apos.endLine == cpos.line) = true := by rfl) (hs : starEach [e] X.env = (false, eval e X.env) :: starEach [] X.env := by rfl) (hplain : (backTo cpos (starEach [] X.env)).any (·.1) = false := by rfl) :
    PE X (.Call (.Attribute (.Name x p3) "extend" apos) [e] [] cpos) (tE G W (fExt i fe)) :=
  PE.imp (pe_bm PySem.F.plainAttrs_list PySem.F.slot_list_extend PySem.F.type_list_extend mt_extend ho (pa_cons he pa_nil hs) hbase hfew hline hs hplain) fun σ H Q ⟨ρ, P, F, nw, h⟩ => by
    unfold fExt at h
    by_cases q : isMl ρ i = true
    · rw [if_pos q] at h
      obtain ⟨ds0, hw0⟩ := isMl_look q
      obtain ⟨a, xs0, hs0, hF0, hH0, _⟩ := now_ml nw hw0
      refine ⟨.ref a, hs0, .inl ⟨rfl, xs0, SqL.of hH0⟩, ?_⟩
      refine tE_bind (End := fun P H F => EndO G W P H F σ Q) nw h (fun _ _ z => z) (fun z => z) fun o ρ1 v P1 H1 F1 S e1 h1 n1 s1 hx q1 => ?_
      unfold extO at h1
      split at h1
      · rename_i es
        have t : Tmp G P1 H1 F1 S v (.ml es) := hx
        obtain ⟨b, ys, rfl, hb, hHb, hde⟩ := t.ow
        split at h1
        · rename_i ds el
          by_cases hz : ds.length + es.length ≤ 100000
          · rw [if_pos hz] at h1
            obtain ⟨a2, xs, hs2, hF2, hH2, hd2⟩ := now_ml n1 el
            have ea : a2 = a := by rw [hs0] at hs2; simpa using hs2.symm
            subst ea
            have l1 := dpa_len _ _ hd2
            have l2 := dpa_len _ _ hde
            refine ⟨a2, b, xs, ys, rfl, rfl, hH2, hHb, by rw [sizeLine_eq]; omega, ?_⟩
            exact h1 .non P1 _ F1 nobody (now_upd n1 hs2 hF2 (dpa_app hd2 hde)) (stp_upd n1 s1 hF2) ⟨.non, fun _ z => z.elim, fun _ z => z.elim, fun _ z => z.elim, fun _ _ z => z.elim⟩ fun _ z => z.elim
          · rw [if_neg hz] at h1; exact h1.elim
        · exact h1.elim
      · exact h1.elim
    · rw [if_neg q] at h; exact h.elim
theorem e_pop (hK : X.K = G.K) (ho : PE X (.Name x p3) (tVar i))
    (hbase : attributeBase (.Name x p3) "pop" X.env (eval (.Name x p3) X.env) = eval (.Name x p3) X.env := by rfl) (hline : (apos.endLine == cpos.line) = true := by rfl) :
    PE X (.Call (.Attribute (.Name x p3) "pop" apos) [] [] cpos) (tE G W (fPop i)) :=
  PE.imp (pe_bm0 PySem.F.plainAttrs_list PySem.F.slot_list_pop PySem.F.type_list_pop mt_pop ho hbase hline) fun σ H Q ⟨ρ, P, F, nw, h⟩ => by
    unfold fPop at h
    split at h
    · rename_i ds el
      split at h
      · rename_i d ed
        obtain ⟨a, xs, hs, hF, hH, hd⟩ := now_ml nw el
        have l1 := dpa_len _ _ hd
        have hk : ds[ds.length - 1]? = some d := by rw [← List.getLast?_eq_getElem?]; exact ed
        obtain ⟨y, hy, hdy⟩ := dpa_get ds xs hd _ d hk
        have hdl : DpAll G.K P xs.dropLast ds.dropLast := by
          rw [List.dropLast_eq_take, List.dropLast_eq_take, l1]
          exact dpa_take _ hd
        refine ⟨.ref a, hs, .inl ⟨rfl, xs, SqL.of hH⟩, a, xs, y, rfl, rfl, hH, by rw [l1]; exact hy, ?_⟩
        exact h y P _ F nobody (now_upd nw hs hF hdl) (stp_upd nw Stp.refl hF) ⟨hdy, fun _ z => z.elim, fun _ z => z.elim, fun _ z => z.elim, fun _ _ z => z.elim⟩ fun _ z => z.elim
      · exact h.elim
    · exact h.elim
theorem s_setItem (ho : PE X (.Name x p3) (tVar i)) (hi : PE X ei (tE G W fi)) (he : PE X e (tE G W fe))
    (ha : ∀ v, assign (.Subscript (.Name x p3) ei p2) X.env v = (do
      let ov ← holding [v] (eval (.Name x p3) X.env)
      let iv ← holding [v, ov] (eval ei X.env)
      standAt p2
      holding [v, ov, iv] (setItem ov iv v)
      release [v, ov, iv] []) := by intro _; rfl)
    (hs : swapsWithSole [.Subscript (.Name x p3) ei p2] e pos.line X.env = pure false := by rfl) (hw : swappedStores [.Subscript (.Name x p3) ei p2] e X.env = pure none := by rfl)
    (h1 : (assignEach [.Subscript (.Name x p3) ei p2] X.env).map (·.2) = [assign (.Subscript (.Name x p3) ei p2) X.env] := by rfl) :
    PS X (.Assign [.Subscript (.Name x p3) ei p2] e pos) (tS G W n π (sSetItem i fi fe)) := PS.imp (ps_asg he (pg_sub ho hi set_list ha) hs hw h1) fun D σ H ⟨ρ, P, F, nw, hl, h⟩ => by
  refine tE_bindS nw hl h fun o ρ1 v P1 H1 F1 S _ n1 s1 hx q1 h0 => ?_
  cases ef : frz1 ρ1 o with
  | none => simp only [ef] at h0; exact h0.elim
  | some p =>
    obtain ⟨d, ρ2⟩ := p
    simp only [ef] at h0
    obtain ⟨P2, F2, n2, d2, z2⟩ := frz1_ok n1 hx ef
    have s2 := z2.stp s1 q1
    by_cases hq : isMl ρ2 i = true
    case neg => rw [if_neg hq] at h0; exact h0.elim
    rw [if_pos hq] at h0
    have h2 := EndS.trans s2 (Kp.refl hl) h0
    -- the slot is read ahead of the index
    have go : ∀ a, σ[i]? = some (some (.ref a)) → tE G W fi σ H1 (fun iv H3 => rSetL (.ref a) iv v H3 fun H4 => D.nx σ H4) := fun a hs0 => by
      refine tE_bindS n2 hl h2 fun oi ρ3 vi P3 H3 F3 S3 h3 n3 s3 hxi q3 _ => ?_
      unfold setItemO at h3
      split at h3
      · rename_i j ej
        split at h3
        · rename_i ds el
          split at h3
          · rename_i m em
            obtain ⟨a2, xs, hs2, hF2, hH2, hd2⟩ := now_ml n3 el
            have ea : a2 = a := by rw [hs0] at hs2; simpa using hs2.symm
            subst ea
            have l1 := dpa_len _ _ hd2
            refine ⟨a2, xs, j, m, rfl, ow_int (hxi.look n3 ej), hH2, by rw [l1]; exact em, ?_⟩
            exact h3 σ P3 _ F3 (now_upd n3 hs2 hF2 (dpa_set (dp_mono s3.ex _ _ d2) m hd2)) (stp_upd n3 Stp.refl hF2) (Kp.refl hl)
          · exact h3.elim
        · exact h3.elim
      · exact h3.elim
    obtain ⟨ds0, hw0⟩ := isMl_look hq
    obtain ⟨a, xs0, hs0, _⟩ := now_ml n2 hw0
    exact ⟨.ref a, hs0, go a hs0⟩
end
end Mi
end
section
set_option Elab.async false
set_option linter.all false
set_option maxRecDepth 100000
/-! Ev14: what is walked; for, while -/
namespace Mi
open PySem PySem.Spec PyProof.Rows L2

/-- the walk J yields ds -/
def Yl (G : Glb) (J : It) (P : Hp) (ds : List PyData) : Prop := ∀ (i : Nat) (P1 H : Hp), Same P P1 → Same P1 H →
  (ds.length ≤ i → J.stop i H) ∧ (i < ds.length → J.go i H ∧ ∀ x H', J.yld i H x H' → ∃ P' d, Alc P1 H P' H' nobody ∧ ds[i]? = some d ∧ Dp G.K P' x d)
abbrev FI := Rho → Out (List PyData)
def EndI (G : Glb) (W : WX) (P H : Hp) (F : Nat → Ad) (σ : L2.St) (R : It → Hp → Prop) : Out (List PyData) → Prop
  | .ok ds ρ' => ∀ J P' H' F', Now G P' H' σ ρ' F' → Stp P H F P' H' F' → Yl G J P' ds → R J H'
  | .exc c ρ' => ∀ P' H' F', Now G P' H' σ ρ' F' → Stp P H F P' H' F' → W (.ref (G.ea c)) none σ H'
  | .stk => False
def tI (G : Glb) (W : WX) (f : FI) : TI := fun σ H R => ∃ ρ P F, Now G P H σ ρ F ∧ EndI G W P H F σ R (f ρ)
theorem PI.imp {X : Cx} {tg e : Expr} {t t' : TI} (h : PI X tg e t) (i : ∀ σ H Q, t' σ H Q → t σ H Q) : PI X tg e t' := ⟨fun pins s σ H R I q => h.run pins s σ H R I (i σ H R q)⟩
section
variable {G : Glb} {W : WX} {P H P1 H1 : Hp} {F F1 : Nat → Ad} {σ : L2.St} {ρ : Rho} {a : Addr} {xs : List V} {ds : List PyData} {R : It → Hp → Prop}
theorem EndI.trans {r : Out (List PyData)} (s : Stp P H F P1 H1 F1) (h : EndI G W P H F σ R r) : EndI G W P1 H1 F1 σ R r := by
  cases r with
  | ok o ρ' => exact fun J P' H' F' n t => h J P' H' F' n (s.trans t)
  | exc c ρ' => exact fun P' H' F' n t => h P' H' F' n (s.trans t)
  | stk => exact h
theorem yl_lst (h : SqL G.K P a xs) (hd : DpAll G.K P xs ds) : Yl G (Itl G.K a) P ds := fun i P1 H e1 e2 => by
  have e := e1.trans e2
  have hl := dpa_len _ _ hd
  have hs : SqL G.K H a xs := e.seq h
  refine ⟨fun hi => ⟨xs, hs, by omega⟩, fun hi => ?_⟩
  obtain ⟨v, hv, hdv⟩ := dpa_get _ _ hd i ds[i] (by simp [hi])
  refine ⟨⟨xs, v, hs, hv⟩, ?_⟩
  rintro x H' ⟨rfl, y⟩
  have := y xs hs
  rw [hv] at this
  cases this
  exact ⟨P1, ds[i], Alc.refl e2, by simp [hi], dp_mono e1 _ _ hdv⟩
theorem yl_tup (h : SqT G.K P a xs) (hd : DpAll G.K P xs ds) : Yl G (Itt G.K a) P ds := fun i P1 H e1 e2 => by
  have e := e1.trans e2
  have hl := dpa_len _ _ hd
  have hs : SqT G.K H a xs := sqT_mono e h
  refine ⟨fun hi => ⟨xs, hs, by omega⟩, fun hi => ?_⟩
  obtain ⟨v, hv, hdv⟩ := dpa_get _ _ hd i ds[i] (by simp [hi])
  refine ⟨⟨xs, v, hs, hv⟩, ?_⟩
  rintro x H' ⟨rfl, y⟩
  have := y xs hs
  rw [hv] at this
  cases this
  exact ⟨P1, ds[i], Alc.refl e2, by simp [hi], dp_mono e1 _ _ hdv⟩
def rangeD (lo hi : Int) : List PyData := (List.range (hi - lo).toNat).map fun k => .int (lo + (k : Nat))
theorem yl_rng {lo hi : Int} {m : Nat} (e : m = (hi - lo).toNat) : Yl G (Itr lo m) P (rangeD lo hi) := fun i P1 H e1 e2 => by
  have hl : (rangeD lo hi).length = m := by unfold rangeD; rw [List.length_map, List.length_range, e]
  rw [hl]
  refine ⟨fun h => h, fun hi => ⟨hi, ?_⟩⟩
  rintro x H' ⟨rfl, rfl⟩
  refine ⟨P1, .int (lo + (i : Nat)), Alc.refl e2, ?_, .int _⟩
  unfold rangeD
  rw [List.getElem?_map, List.getElem?_range (by omega)]
  rfl
end
def iSq (K : PySem.W.Frag) (tl : TE) : TI := fun σ H R => tl σ H fun x H1 => ∃ a, x = .ref a ∧ (((∃ xs, SqL K H1 a xs) ∧ R (Itl K a) H1) ∨ ((∃ xs, SqT K H1 a xs) ∧ R (Itt K a) H1))
noncomputable def seqO (ρ : Rho) (o : Opd) : Out (List PyData) := match frz1 ρ o with
  | some (.list ds, ρ2) => .ok ds ρ2
  | some (.tuple ds, ρ2) => .ok ds ρ2
  | _ => .stk
noncomputable def iE (f : FE) : FI := fun ρ => (f ρ).bind fun o ρ1 => seqO ρ1 o
noncomputable def rg1 (ρ : Rho) (os : List Opd) : Out (List PyData) := match looks ρ os with
  | some [.dat (.int j)] => if -(2 ^ 62) ≤ j ∧ j < 2 ^ 62 then .ok (rangeD 0 j) ρ else .stk
  | _ => .stk
noncomputable def rg2 (ρ : Rho) (os : List Opd) : Out (List PyData) := match looks ρ os with
  | some [.dat (.int i), .dat (.int j)] => if -(2 ^ 62) ≤ i ∧ i < 2 ^ 62 ∧ -(2 ^ 62) ≤ j ∧ j < 2 ^ 62 then .ok (rangeD i j) ρ else .stk
  | _ => .stk
noncomputable def iR1 (f : FA) : FI := fun ρ => (f ρ).bind fun os ρ1 => rg1 ρ1 os
noncomputable def iR2 (f : FA) : FI := fun ρ => (f ρ).bind fun os ρ1 => rg2 ρ1 os
section
variable {X : Cx} {tg e a b : Expr} {G : Glb} {W : WX} {f : FE} {fa : FA} {p pos : Pos}
theorem pi_sq {l : Expr} {tl : TE} (hl : PE X l tl) : PI X tg l (iSq X.K tl) := by
  constructor
  intro pins s σ H R I h
  refine thn (hl.run pins s σ H _ I h) ?_
  rintro v s1 ⟨x, H1, I1, r1, a, rfl, q⟩
  obtain rfl : v = Value.ref a := r1
  have fp : ∀ b ∈ [s1.heap.objs.size], FpOk X pins H1 b := fun b hb => by
    obtain rfl : b = s1.heap.objs.size := by simpa using hb
    exact I1.fpOk (Nat.le_refl _) (I1.hok.fresh (Nat.le_refl _))
  rcases q with ⟨⟨xs, hq⟩, q⟩ | ⟨⟨xs, hq⟩, q⟩
  · obtain ⟨its, rv, pl, hz⟩ := I1.list hq
    exact wpAny_pyIter_list pl.isList ⟨_, _, _, _, H1, rfl, I1.kept (t' := s1.toks) (fun b o e => Heap.get?_push_of_some _ e), turn_list a _, ⟨_, Heap.get?_push_size _ rfl, rfl, rfl⟩, fp, q⟩
  · obtain ⟨its, rv, ht, hz⟩ := I1.tuple hq
    exact wpAny_pyIter_tuple (show s1.heap.IsTuple a its.toArray from ht) ⟨_, _, _, _, H1, rfl, I1.kept (t' := s1.toks) (fun b o e => Heap.get?_push_of_some _ e), turn_tuple a _, ⟨_, Heap.get?_push_size _ rfl, rfl, rfl⟩, fp, q⟩
theorem i_E (hK : X.K = G.K) (he : PE X e (tE G W f)) : PI X tg e (tI G W (iE f)) := PI.imp (pi_sq he) fun σ H R ⟨ρ, P, F, nw, h⟩ => by
  rw [hK]
  refine tE_bind (End := fun P H F => EndI G W P H F σ R) nw h (fun _ _ z => z) (fun z => z) fun o ρ1 v P1 H1 F1 S e1 h1 n1 s1 hx q1 => ?_
  unfold seqO at h1
  split at h1
  · rename_i ds ρ2 ef
    obtain ⟨P2, F2, n2, d2, z2⟩ := frz1_ok n1 hx ef
    cases d2 with
    | lst hs ha => exact ⟨_, rfl, .inl ⟨⟨_, n2.ex.seq hs⟩, h1 _ P2 H1 F2 n2 (z2.stp s1 q1) (yl_lst hs ha)⟩⟩
  · rename_i ds ρ2 ef
    obtain ⟨P2, F2, n2, d2, z2⟩ := frz1_ok n1 hx ef
    cases d2 with
    | tup hs ha => exact ⟨_, rfl, .inr ⟨⟨_, sqT_mono n2.ex hs⟩, h1 _ P2 H1 F2 n2 (z2.stp s1 q1) (yl_tup hs ha)⟩⟩
  · exact h1.elim
theorem i_R1 (hm : X.mg "range" = none) (ha : PA X [a] (tA G W fa)) (hg : Gl X "range" := by rfl) (hs : starEach [a] X.env = [(false, eval a X.env)] := by rfl) : PI X tg (.Call (.Name "range" p) [a] [] pos) (tI G W (iR1 fa)) :=
  PI.imp (pi_range1 hg hm ha hs) fun σ H R ⟨ρ, P, F, nw, h⟩ => by
    refine tA_bind (End := fun P H F => EndI G W P H F σ R) nw h (fun _ _ z => z) (fun z => z) fun os ρ1 vs P1 H1 F1 S e1 h1 n1 s1 hx q1 => ?_
    unfold rg1 at h1
    split at h1
    · rename_i j el
      by_cases hj : -(2 ^ 62) ≤ j ∧ j < 2 ^ 62
      · rw [if_pos hj] at h1
        have hv := hx.looks n1 el
        match vs, hv with
        | [v], ⟨hv, _⟩ => exact ⟨j, by rw [ow_int hv], hj.1, hj.2, h1 _ P1 H1 F1 n1 s1 (yl_rng (by simp))⟩
      · rw [if_neg hj] at h1; exact h1.elim
    · exact h1.elim
theorem i_R2 (hm : X.mg "range" = none) (ha : PA X [a, b] (tA G W fa)) (hg : Gl X "range" := by rfl) (hs : starEach [a, b] X.env = [(false, eval a X.env), (false, eval b X.env)] := by rfl) (hs2 : starEach [b] X.env = [(false, eval b X.env)] := by rfl) :
    PI X tg (.Call (.Name "range" p) [a, b] [] pos) (tI G W (iR2 fa)) :=
  PI.imp (pi_range2 hg hm ha hs hs2) fun σ H R ⟨ρ, P, F, nw, h⟩ => by
    refine tA_bind (End := fun P H F => EndI G W P H F σ R) nw h (fun _ _ z => z) (fun z => z) fun os ρ1 vs P1 H1 F1 S e1 h1 n1 s1 hx q1 => ?_
    unfold rg2 at h1
    split at h1
    · rename_i i j el
      by_cases hj : -(2 ^ 62) ≤ i ∧ i < 2 ^ 62 ∧ -(2 ^ 62) ≤ j ∧ j < 2 ^ 62
      · rw [if_pos hj] at h1
        have hv := hx.looks n1 el
        match vs, hv with
        | [v, u], ⟨hv, hu, _⟩ => exact ⟨i, j, by rw [ow_int hv, ow_int hu], hj, h1 _ P1 H1 F1 n1 s1 (yl_rng rfl)⟩
      · rw [if_neg hj] at h1; exact h1.elim
    · exact h1.elim
end

/-! ### targets -/
abbrev FB := PyData → Rho → Option Rho
def tG (G : Glb) (n : Nat) (π : List Bool) (b : FB) : TG := fun v σ H Q => ∃ ρ P F d ρ', Now G P H σ ρ F ∧ σ.length = n ∧ Dp G.K P v d ∧ b d ρ = some ρ' ∧ ∀ σ' F', Now G P H σ' ρ' F' → Stp P H F P H F' → Kp n π σ σ' → Q σ' H
theorem PG.imp {X : Cx} {e : Expr} {t t' : TG} (h : PG X e t) (i : ∀ v σ H Q, t' v σ H Q → t v σ H Q) : PG X e t' := ⟨fun pins s σ H v u Q I r q => h.run pins s σ H v u Q I r (i v σ H Q q)⟩
def bN (i : Nat) : FB := fun d ρ => some (ρ.set i (some (.dat d)))
def setAll : List Nat → List PyData → Rho → Option Rho
  | [], [], ρ => some ρ
  | i :: is, d :: ds, ρ => setAll is ds (ρ.set i (some (.dat d)))
  | _, _, _ => none
def bT (is : List Nat) : FB := fun d ρ => match d with
  | .tuple ds => setAll is ds ρ
  | _ => none
def tGs (G : Glb) (n : Nat) (π : List Bool) (is : List Nat) : TGs := fun vs σ H Q => ∃ ρ P F ds ρ', Now G P H σ ρ F ∧ σ.length = n ∧ DpAll G.K P vs ds ∧ setAll is ds ρ = some ρ' ∧ ∀ σ' F', Now G P H σ' ρ' F' → Stp P H F P H F' → Kp n π σ σ' → Q σ' H
section
variable {X : Cx} {G : Glb} {n i : Nat} {π : List Bool} {x : Str} {pos : Pos} {e : Expr} {es : List Expr} {is : List Nat}
theorem now_dat {P H : Hp} {F : Nat → Ad} {σ : L2.St} {ρ : Rho} {v : V} {d : PyData} (nw : Now G P H σ ρ F) (hd : Dp G.K P v d) (hi : i < σ.length) : Now G P H (σ.set i (some v)) (ρ.set i (some (.dat d))) (setF F i nobody) :=
  now_set nw (S := nobody) ⟨hd, fun _ z => z.elim, fun _ z => z.elim, fun _ z => z.elim, fun _ _ z => z.elim⟩ hi
theorem g_name (hN : X.N.Nodup) (hi : X.N[i]? = some x) (hx : Loc X.env.scope x) (hn : i < n) (hp : ioAt π i = false)
    (hf : X.fn x = true ∨ X.env.scope.names.lookup x = some .local := by first | exact .inl rfl | exact .inr rfl | assumption) : PG X (.Name x pos) (tG G n π (bN i)) :=
  PG.imp (pg_name hN hi hx hf) fun v σ H Q ⟨ρ, P, F, d, ρ', nw, hl, hd, hb, k⟩ => by
    cases hb
    exact k _ _ (now_dat nw hd (by omega)) (stp_set Stp.refl fun _ z => z.elim) (Kp.set hl hp)
theorem PGs.imp {X : Cx} {e : List Expr} {t t' : TGs} (h : PGs X e t) (i : ∀ v σ H Q, t' v σ H Q → t v σ H Q) : PGs X e t' := ⟨fun pins s σ H v u Q I r q => h.run pins s σ H v u Q I r (i v σ H Q q)⟩
theorem gs_nil : PGs X [] (tGs G n π []) := PGs.imp pgs_nil fun vs σ H Q ⟨ρ, P, F, ds, ρ', nw, hl, hd, hb, k⟩ => by
  cases ds with
  | nil =>
    cases hd
    cases hb
    exact ⟨rfl, k σ F nw Stp.refl (Kp.refl hl)⟩
  | cons _ _ => cases hb
theorem gs_cons (hN : X.N.Nodup) (hi : X.N[i]? = some x) (hx : Loc X.env.scope x) (hn : i < n) (hp : ioAt π i = false) (h2 : PGs X es (tGs G n π is))
    (hs : (assignEach (.Name x pos :: es) X.env).map (·.2) = assign (.Name x pos) X.env :: (assignEach es X.env).map (·.2) := by rfl)
    (hf : X.fn x = true ∨ X.env.scope.names.lookup x = some .local := by first | exact .inl rfl | exact .inr rfl | assumption) : PGs X (.Name x pos :: es) (tGs G n π (i :: is)) :=
  PGs.imp (pgs_cons (pg_name hN hi hx hf) h2 hs) fun vs σ H Q ⟨ρ, P, F, ds, ρ', nw, hl, hd, hb, k⟩ => by
    cases ds with
    | nil => cases hb
    | cons d ds =>
      cases hd with
      | @cons v1 vs1 _ _ h1 h3 =>
        refine ⟨_, _, rfl, ?_⟩
        have n1 := now_dat (i := i) nw h1 (by omega)
        have s1 : Stp P H F P H (setF F i nobody) := stp_set Stp.refl fun _ z => z.elim
        have k1 : Kp n π σ (σ.set i (some v1)) := Kp.set hl hp
        exact ⟨_, P, _, ds, ρ', n1, k1.len, h3, hb, fun σ' F' n2 s2 k2 => k σ' F' n2 (s1.trans s2) (k1.trans k2)⟩
theorem g_tup {k m : Nat} (hK : X.K = G.K) (hc : X.calm = true) (h : PGs X es (tGs G n π is)) (hm : is.length = m) (hn : (assignEach es X.env).length = m := by rfl) (hst : (assignEach es X.env).findIdx? (·.1) = none := by rfl) : PG X (.Tuple es k pos) (tG G n π (bT is)) :=
  PG.imp (pg_tup hc h hn hst) fun v σ H Q ⟨ρ, P, F, d, ρ', nw, hl, hd, hb, k⟩ => by
    unfold bT at hb
    split at hb
    · rename_i ds
      cases hd with
      | tup hs ha =>
        rw [hK]
        have h1 := dpa_len _ _ ha
        have h2 : ∀ {is : List Nat} {ds : List PyData} {ρ ρ' : Rho}, setAll is ds ρ = some ρ' → is.length = ds.length := by
          intro is
          induction is with
          | nil =>
            intro ds ρ ρ' h
            cases ds with
            | nil => rfl
            | cons _ _ => cases h
          | cons i is ih =>
            intro ds ρ ρ' h
            cases ds with
            | nil => cases h
            | cons _ _ => simp [ih h]
        exact ⟨_, _, rfl, sqT_mono nw.ex hs, by rw [h1, ← h2 hb, hm], ρ, P, F, ds, ρ', nw, hl, ha, hb, k⟩
    · cases hb
end

/-! ### for -/
def forL (b : FB) (body : FS) : List PyData → FS
  | [], ρ => .nx ρ
  | d :: ds, ρ => match b d ρ with
    | none => .stk
    | some ρ1 => match body ρ1 with
      | .nx ρ2 => forL b body ds ρ2
      | .ct ρ2 => forL b body ds ρ2
      | .bk ρ2 => .nx ρ2
      | .ret w ρ2 => .ret w ρ2
      | .exc c ρ2 => .exc c ρ2
      | .stk => .stk
def sFor (fi : FI) (b : FB) (body : FS) : FS := fun ρ => (fi ρ).bindS fun ds ρ1 => forL b body ds ρ1
/-- k turns at most -/
def whN (c : FT) (body : FS) : Nat → FS
  | 0, _ => .stk
  | k + 1, ρ => (c ρ).bindS fun t ρ1 => if t = true then
      match body ρ1 with
      | .nx ρ2 => whN c body k ρ2
      | .ct ρ2 => whN c body k ρ2
      | .bk ρ2 => .nx ρ2
      | .ret w ρ2 => .ret w ρ2
      | .exc c ρ2 => .exc c ρ2
      | .stk => .stk
    else .nx ρ1
noncomputable def sWh (c : FT) (body : FS) : FS := by classical exact fun ρ => if h : ∃ k, whN c body k ρ ≠ .stk then whN c body h.choose ρ else .stk
section
variable {X : Cx} {tg iter c : Expr} {body : List Stmt} {G : Glb} {W : WX} {n : Nat} {π : List Bool} {fi : FI} {b : FB} {fb : FS} {ft : FT} {pos : Pos}
theorem s_for (hp : PassesOwn (model X.prog X.w) X.A X.env X.xe) (hc : X.calm = true) (hi : PI X tg iter (tI G W fi)) (hg : PG X tg (tG G n π b)) (hb : PSs X body (tS G W n π fb)) (hs : ∀ x, foldedSetIterable iter X.env x = pure x := by intro _; rfl) :
    PS X (.For tg iter body [] pos) (tS G W n π (sFor fi b fb)) := PS.imp (ps_for hp hc hi hg hb hs) fun D σ H ⟨ρ, P, F, nw, hl, h⟩ => by
  refine ⟨ρ, P, F, nw, ?_⟩
  unfold sFor at h
  cases ei : fi ρ with
  | stk => rw [ei] at h; exact h.elim
  | exc c ρ1 => rw [ei] at h; exact fun P1 H1 F1 n1 s1 => h σ P1 H1 F1 n1 s1 (Kp.refl hl)
  | ok ds ρ1 =>
    rw [ei] at h
    intro J P1 H1 F1 n1 s1 yl
    have h1 : EndS G W n π P1 H1 F1 σ D (forL b fb ds ρ1) := EndS.trans s1 (Kp.refl hl) h
    refine ⟨fun i m σ' H' => m = ds.length - i ∧ i ≤ ds.length ∧ ∃ ρ' P' F', Now G P' H' σ' ρ' F' ∧ σ'.length = n ∧ Same P1 P' ∧ EndS G W n π P' H' F' σ' D (forL b fb (ds.drop i) ρ'), ⟨_, rfl, Nat.zero_le _, ρ1, P1, F1, n1, hl, Same.refl _, h1⟩, ?_⟩
    rintro i m σ2 H2 ⟨rfl, hi, ρ2, P2, F2, n2, l2, e2, h2⟩
    obtain ⟨y1, y2⟩ := yl i P2 H2 e2 n2.ex
    by_cases hlt : i < ds.length
    · obtain ⟨go, y3⟩ := y2 hlt
      refine .inr ⟨go, fun σ' H' => i + 1 ≤ ds.length ∧ ∃ ρ' P' F', Now G P' H' σ' ρ' F' ∧ σ'.length = n ∧ Same P1 P' ∧ EndS G W n π P' H' F' σ' D (forL b fb (ds.drop (i + 1)) ρ'), fun σ' H' ⟨q1, q2⟩ => ⟨_, by omega, rfl, q1, q2⟩, fun x H3 hy => ?_⟩
      obtain ⟨P3, d, al, hd, hdp⟩ := y3 x H3 hy
      have ed : ds.drop i = d :: ds.drop (i + 1) := by
        rw [List.drop_eq_getElem_cons hlt]
        have := (List.getElem?_eq_some_iff.mp hd).2
        rw [this]
      rw [ed] at h2
      have h3 : EndS G W n π P3 H3 F2 σ2 D (forL b fb (d :: ds.drop (i + 1)) ρ2) := EndS.trans al.stp (Kp.refl l2) h2
      unfold forL at h3
      cases eb : b d ρ2 with
      | none => rw [eb] at h3; exact h3.elim
      | some ρ3 =>
        simp only [eb] at h3
        refine ⟨ρ2, P3, F2, d, ρ3, al.now n2, l2, hdp, eb, fun σ4 F4 n4 s4 k4 => ⟨ρ3, P3, F4, n4, k4.len, ?_⟩⟩
        have h4 := EndS.trans s4 k4 h3
        have e3 : Same P1 P3 := e2.trans al.exP
        have next : ∀ {ρ5 : Rho}, EndS G W n π P3 H3 F4 σ4 D (forL b fb (ds.drop (i + 1)) ρ5) → ∀ σ' P' H' F', Now G P' H' σ' ρ5 F' → Stp P3 H3 F4 P' H' F' → Kp n π σ4 σ' →
            i + 1 ≤ ds.length ∧ ∃ ρ' P' F', Now G P' H' σ' ρ' F' ∧ σ'.length = n ∧ Same P1 P' ∧ EndS G W n π P' H' F' σ' D (forL b fb (ds.drop (i + 1)) ρ') :=
          fun {ρ5} h5 σ' P' H' F' n5 s5 k5 => ⟨hlt, ρ5, P', F', n5, k5.len, e3.trans s5.ex, EndS.trans s5 k5 h5⟩
        cases ef : fb ρ3 with
        | nx ρ5 => rw [ef] at h4; exact next h4
        | ct ρ5 => rw [ef] at h4; exact next h4
        | bk ρ5 => rw [ef] at h4; exact h4
        | ret w ρ5 => rw [ef] at h4; exact h4
        | exc c ρ5 => rw [ef] at h4; exact h4
        | stk => rw [ef] at h4; exact h4
    · have e : ds.drop i = [] := List.drop_eq_nil_of_le (by omega)
      rw [e] at h2
      exact .inl ⟨y1 (by omega), h2 σ2 P2 H2 F2 n2 Stp.refl (Kp.refl l2)⟩
theorem whN_up {k : Nat} : ∀ {ρ : Rho}, whN ft fb k ρ ≠ .stk → whN ft fb (k + 1) ρ = whN ft fb k ρ := by
  induction k with
  | zero => intro ρ h; exact (h rfl).elim
  | succ k ih =>
    intro ρ h
    unfold whN at h
    show (ft ρ).bindS _ = (ft ρ).bindS _
    cases e : ft ρ with
    | stk => rfl
    | exc c ρ1 => rfl
    | ok t ρ1 =>
      rw [e] at h
      simp only [Out.bindS] at h ⊢
      cases t with
      | false => rfl
      | true =>
        simp only [if_true] at h ⊢
        cases ef : fb ρ1 with
        | nx ρ2 => simp only [ef] at h ⊢; exact ih h
        | ct ρ2 => simp only [ef] at h ⊢; exact ih h
        | bk ρ2 => rfl
        | ret w ρ2 => rfl
        | exc c ρ2 => rfl
        | stk => rfl
theorem whN_le {k : Nat} {ρ : Rho} (h : whN ft fb k ρ ≠ .stk) : ∀ j, whN ft fb (k + j) ρ = whN ft fb k ρ
  | 0 => rfl
  | j + 1 => by
    have ih := whN_le h j
    rw [← ih]
    exact whN_up (k := k + j) (fun q => h (ih.symm.trans q))
/-- a while's end, by any number of turns that is enough -/
theorem sWh_eq {k : Nat} {ρ : Rho} (h : whN ft fb k ρ ≠ .stk) : sWh ft fb ρ = whN ft fb k ρ := by
  have q : ∃ k, whN ft fb k ρ ≠ .stk := ⟨k, h⟩
  unfold sWh
  rw [dif_pos q]
  have h1 := whN_le h q.choose
  have h2 := whN_le q.choose_spec k
  rw [← h1, ← h2, Nat.add_comm]
theorem s_while (hp : PassesOwn (model X.prog X.w) X.A X.env X.xe) (hc : PT X c (tT G W ft)) (hb : PSs X body (tS G W n π fb)) : PS X (.While c body [] pos) (tS G W n π (sWh ft fb)) := PS.imp (ps_while hp hc hb) fun D σ H ⟨ρ, P, F, nw, hl, h⟩ => by
  by_cases q : ∃ k, whN ft fb k ρ ≠ .stk
  case neg => unfold sWh at h; rw [dif_neg q] at h; exact h.elim
  obtain ⟨k, hk⟩ := q
  rw [sWh_eq hk] at h
  refine ⟨fun m σ' H' => ∃ ρ' P' F', Now G P' H' σ' ρ' F' ∧ σ'.length = n ∧ EndS G W n π P' H' F' σ' D (whN ft fb m ρ'), ⟨k, ρ, P, F, nw, hl, h⟩, ?_⟩
  rintro m σ1 H1 ⟨ρ1, P1, F1, n1, l1, h1⟩
  cases m with
  | zero => exact h1.elim
  | succ m =>
    unfold whN at h1
    refine tT_bindS n1 l1 h1 fun t ρ2 P2 H2 F2 h2 n2 => ?_
    cases t with
    | false => exact h2 σ1 P2 H2 F2 n2 Stp.refl (Kp.refl l1)
    | true =>
      simp only [if_true] at h2 ⊢
      refine ⟨fun σ' H' => ∃ ρ' P' F', Now G P' H' σ' ρ' F' ∧ σ'.length = n ∧ EndS G W n π P' H' F' σ' D (whN ft fb m ρ'), fun σ' H' w => ⟨m, Nat.lt_succ_self m, w⟩, ρ2, P2, F2, n2, l1, ?_⟩
      have next : ∀ {ρ5 : Rho}, EndS G W n π P2 H2 F2 σ1 D (whN ft fb m ρ5) → ∀ σ' P' H' F', Now G P' H' σ' ρ5 F' → Stp P2 H2 F2 P' H' F' → Kp n π σ1 σ' →
          ∃ ρ' P' F', Now G P' H' σ' ρ' F' ∧ σ'.length = n ∧ EndS G W n π P' H' F' σ' D (whN ft fb m ρ') :=
        fun {ρ5} h5 σ' P' H' F' n5 s5 k5 => ⟨ρ5, P', F', n5, k5.len, EndS.trans s5 k5 h5⟩
      cases ef : fb ρ2 with
      | nx ρ5 => rw [ef] at h2; exact next h2
      | ct ρ5 => rw [ef] at h2; exact next h2
      | bk ρ5 => rw [ef] at h2; exact h2
      | ret w ρ5 => rw [ef] at h2; exact h2
      | exc c ρ5 => rw [ef] at h2; exact h2
      | stk => rw [ef] at h2; exact h2
end
end Mi
end
section
set_option Elab.async false
set_option linter.all false
set_option maxRecDepth 100000
/-! Ev15: comprehensions -/
namespace Mi
open PySem PySem.Spec PyProof.Rows L2

def wipeR (ρ : Rho) : List Nat → Rho
  | [] => ρ
  | v :: vs => (wipeR ρ vs).set v none
def restR (ρ0 ρ : Rho) : List Nat → Rho
  | [] => ρ
  | v :: vs => (restR ρ0 ρ vs).set v (ρ0[v]?).join
/-- one turn after another: what is kept of ds -/
noncomputable def compL (vs : List Nat) (b : FB) (c : FT) (e : FE) : List PyData → Rho → Out (List PyData)
  | [], ρ => .ok [] ρ
  | d :: ds, ρ => match b d (wipeR ρ vs) with
    | none => .stk
    | some ρ1 => match c ρ1 with
      | .ok true ρ2 => match e ρ2 with
        | .ok o ρ3 => match frz1 ρ3 o with
          | some (d', ρ4) => match compL vs b c e ds ρ4 with
            | .ok ds' ρ5 => .ok (d' :: ds') ρ5
            | .exc _ _ => .stk
            | .stk => .stk
          | none => .stk
        | .exc _ _ => .stk
        | .stk => .stk
      | .ok false ρ2 => compL vs b c e ds ρ2
      | .exc _ _ => .stk
      | .stk => .stk
noncomputable def compE (vs : List Nat) (ρ1 : Rho) (ds : List PyData) : Out (List PyData) → Out Opd
  | .ok ds' ρ2 => if ds.length ≤ 100000 then .ok (.val (.ml ds')) (restR ρ1 ρ2 vs) else .stk
  | .exc _ _ => .stk
  | .stk => .stk
noncomputable def fComp (vs : List Nat) (fi : FI) (b : FB) (c : FT) (e : FE) : FE := fun ρ => (fi ρ).bind fun ds ρ1 => compE vs ρ1 ds (compL vs b c e ds ρ1)
def cT : FT := fun ρ => .ok true ρ
def blkPi (n : Nat) (vs : List Nat) : List Bool := (List.range n).map fun j => !vs.contains j

section
variable {G : Glb} {W : WX} {P H P1 H1 P2 H2 : Hp} {F F1 F2 : Nat → Ad} {σ σ2 : L2.St} {ρ ρ1 : Rho} {vs : List Nat} {D : Addr} {o : HO} {n j : Nat}
theorem wipeR_in {w : Vl} : ∀ {vs : List Nat}, (wipeR ρ vs)[j]? = some (some w) → j ∉ vs ∧ ρ[j]? = some (some w)
  | [], h => ⟨by simp, h⟩
  | v :: vs, h => by
    unfold wipeR at h
    by_cases e : v = j
    · subst e
      by_cases hl : v < (wipeR ρ vs).length
      · rw [List.getElem?_set_self hl] at h; cases h
      · rw [List.getElem?_eq_none (by rw [List.length_set]; omega)] at h; cases h
    · rw [List.getElem?_set_ne e] at h
      obtain ⟨h1, h2⟩ := wipeR_in h
      exact ⟨by simp only [List.mem_cons, not_or]; exact ⟨fun q => e q.symm, h1⟩, h2⟩
theorem restR_in {w : Vl} : ∀ {vs : List Nat}, (restR ρ1 ρ vs)[j]? = some (some w) → (j ∈ vs ∧ ρ1[j]? = some (some w)) ∨ (j ∉ vs ∧ ρ[j]? = some (some w))
  | [], h => .inr ⟨by simp, h⟩
  | v :: vs, h => by
    unfold restR at h
    by_cases e : v = j
    · subst e
      by_cases hl : v < (restR ρ1 ρ vs).length
      · rw [List.getElem?_set_self hl] at h
        exact .inl ⟨by simp, join_some (Option.some.inj h)⟩
      · rw [List.getElem?_eq_none (by rw [List.length_set]; omega)] at h; cases h
    · rw [List.getElem?_set_ne e] at h
      rcases restR_in h with ⟨h1, h2⟩ | ⟨h1, h2⟩
      · exact .inl ⟨List.mem_cons_of_mem _ h1, h2⟩
      · exact .inr ⟨by simp only [List.mem_cons, not_or]; exact ⟨fun q => e q.symm, h1⟩, h2⟩
theorem ioAt_blk {vs : List Nat} (h1 : j < n) (h2 : j ∉ vs) : ioAt (blkPi n vs) j = true := by
  unfold ioAt blkPi
  rw [List.getD_eq_getElem?_getD, List.getElem?_map, List.getElem?_range h1]
  simp [h2]
theorem wipe_self : ∀ {vs : List Nat} {σ : L2.St}, j ∈ vs → j < σ.length → (wipe σ vs)[j]? = some none
  | [], _, h, _ => by simp at h
  | v :: vs, σ, h, hl => by
    unfold wipe
    by_cases e : v = j
    · subst e
      rw [List.getElem?_set_self (by rw [wipe_length]; exact hl)]
    · rw [List.getElem?_set_ne e]
      rcases List.mem_cons.mp h with q | q
      · exact (e q.symm).elim
      · exact wipe_self q hl
theorem wipe_same (hn : σ.length = n) (k : Kp n (blkPi n vs) (wipe σ vs) σ2) : wipe σ2 vs = wipe σ vs := by
  apply List.ext_getElem?
  intro j
  by_cases hj : j < n
  · by_cases hv : j ∈ vs
    · rw [wipe_self hv (by rw [k.len]; exact hj), wipe_self hv (by rw [hn]; exact hj)]
    · rw [wipe_out hv, k.pin j (ioAt_blk hj hv)]
  · rw [List.getElem?_eq_none (by rw [wipe_length, k.len]; omega), List.getElem?_eq_none (by rw [wipe_length, hn]; omega)]
theorem now_wipe (nw : Now G P H σ2 ρ F) (h : ∀ j, j ∉ vs → σ2[j]? = σ[j]?) : Now G P H σ (wipeR ρ vs) F :=
  ⟨nw.ex, nw.dj, nw.np, nw.al, fun i w e => by
    obtain ⟨h1, h2⟩ := wipeR_in e
    obtain ⟨v, h3, h4⟩ := nw.rd i w h2
    exact ⟨v, by rw [← h i h1]; exact h3, h4⟩, nw.kd⟩
theorem now_out (nw : Now G P H σ ρ F) (hP : P D = none) (hF : ∀ i, ¬ F i D) : Now G P (upd H D o) σ ρ F := by
  have nD : ∀ i b, F i b → b ≠ D := fun i b h e => hF i (e ▸ h)
  refine ⟨fun b u h => by rw [upd_ne (fun e => by rw [e, hP] at h; cases h)]; exact nw.ex b u h, nw.dj, nw.np, fun i b h => by rw [upd_ne (nD i b h)]; exact nw.al i b h, fun i w h => ?_, fun i b u h e => ?_⟩
  · obtain ⟨v, h1, h2⟩ := nw.rd i w h
    exact ⟨v, h1, h2.mono (Same.refl P) (fun b u hb q => by rw [upd_ne (nD i b hb)]; exact q) fun _ z => z⟩
  · rw [upd_ne (nD i b h)] at e
    exact nw.kd i b u h e
theorem stp_out (s : Stp P H F P1 H1 F1) (hD : H D = none) : Stp P H F P1 (upd H1 D o) F1 := by
  refine ⟨s.ex, fun b u h hf => ?_, s.sub, s.pn, fun b h => ?_⟩
  · rw [upd_ne (fun e => by rw [e, hD] at h; cases h)]
    exact s.fr b u h hf
  · by_cases e : b = D
    · rw [e, upd_same]; exact fun z => nomatch z
    · rw [upd_ne e]; exact s.al b h
/-- the environment without the block's own names -/
def cutF (F : Nat → Ad) (vs : List Nat) : Nat → Ad := fun i b => i ∉ vs ∧ F i b
def glueF (F1 F : Nat → Ad) (vs : List Nat) : Nat → Ad := fun i b => (i ∈ vs ∧ F1 i b) ∨ (i ∉ vs ∧ F i b)
theorem now_cut (nw : Now G P H σ ρ F) : Now G P H (wipe σ vs) (wipeR ρ vs) (cutF F vs) :=
  ⟨nw.ex, fun i j a h1 h2 => nw.dj i j a h1.2 h2.2, fun i b h => nw.np i b h.2, fun i b h => nw.al i b h.2, fun i w e => by
    obtain ⟨h1, h2⟩ := wipeR_in e
    obtain ⟨v, h3, h4⟩ := nw.rd i w h2
    exact ⟨v, by rw [wipe_out h1]; exact h3, h4.mono (Same.refl P) (fun _ _ _ q => q) fun b hb => ⟨h1, hb⟩⟩, fun i b u h e => nw.kd i b u h.2 e⟩
theorem now_glue (n1 : Now G P1 H1 σ ρ1 F1) (n2 : Now G P2 H2 (wipe σ vs) (wipeR ρ vs) F2) (s : Stp P1 H1 (cutF F1 vs) P2 H2 F2) : Now G P2 H2 σ (restR ρ1 ρ vs) (glueF F1 F2 vs) ∧ Stp P1 H1 F1 P2 H2 (glueF F1 F2 vs) := by
  have off : ∀ i b, i ∈ vs → F1 i b → ∀ k, ¬ cutF F1 vs k b := fun i b hi h k q => q.1 (by rw [← n1.dj i k b h q.2]; exact hi)
  refine ⟨⟨n2.ex, ?_, ?_, ?_, fun i w h => ?_, ?_⟩, ⟨s.ex, fun b u h hf => s.fr b u h fun i q => hf i q.2, ?_, fun b h => ?_, s.al⟩⟩
  · rintro i k a (⟨h1, h2⟩ | ⟨h1, h2⟩) (⟨h3, h4⟩ | ⟨h3, h4⟩)
    · exact n1.dj i k a h2 h4
    · exact (s.out (n1.al i a h2) (off i a h1 h2) k h4).elim
    · exact (s.out (n1.al k a h4) (off k a h3 h4) i h2).elim
    · exact n2.dj i k a h2 h4
  · rintro i b (⟨h1, h2⟩ | ⟨h1, h2⟩)
    · refine Classical.byContradiction fun q => ?_
      rcases s.pn b q with z | ⟨k, z⟩ | z
      · exact z (n1.np i b h2)
      · exact off i b h1 h2 k z
      · exact n1.al i b h2 z
    · exact n2.np i b h2
  · rintro i b (⟨h1, h2⟩ | ⟨h1, h2⟩)
    · exact s.al b (n1.al i b h2)
    · exact n2.al i b h2
  · rcases restR_in h with ⟨h1, h2⟩ | ⟨h1, h2⟩
    · obtain ⟨v, h3, h4⟩ := n1.rd i w h2
      exact ⟨v, h3, h4.mono s.ex (fun b u hb q => s.fr b u q (off i b h1 hb)) fun b hb => .inl ⟨h1, hb⟩⟩
    · have e : (wipeR ρ vs)[i]? = some (some w) := by
        have : ∀ {vs : List Nat}, i ∉ vs → (wipeR ρ vs)[i]? = ρ[i]? := by
          intro vs
          induction vs with
          | nil => intro _; rfl
          | cons v vs ih =>
            intro q
            unfold wipeR
            rw [List.getElem?_set_ne (fun e => q (by rw [e]; exact List.mem_cons_self))]
            exact ih fun m => q (List.mem_cons_of_mem _ m)
        rw [this h1]; exact h2
      obtain ⟨v, h3, h4⟩ := n2.rd i w e
      exact ⟨v, by rw [← wipe_out h1]; exact h3, h4.mono (Same.refl P2) (fun _ _ _ q => q) fun b hb => .inr ⟨h1, hb⟩⟩
  · rintro i b u (⟨h1, h2⟩ | ⟨h1, h2⟩) e
    · obtain ⟨o, ho⟩ := Option.ne_none_iff_exists'.mp (n1.al i b h2)
      rw [s.fr b o ho (off i b h1 h2)] at e
      cases e
      exact n1.kd i b _ h2 ho
    · exact n2.kd i b u h2 e
  · rintro i b (⟨h1, h2⟩ | ⟨h1, h2⟩)
    · exact .inl ⟨i, h2⟩
    · rcases s.sub i b h2 with ⟨k, q⟩ | q
      · exact .inl ⟨k, q.2⟩
      · exact .inr q
  · rcases s.pn b h with z | ⟨k, z⟩ | z
    · exact .inl z
    · exact .inr (.inl ⟨k, z.2⟩)
    · exact .inr (.inr z)
end

abbrev noW : WX := fun _ _ _ _ => False
section
variable {G : Glb} {W : WX} {σ : L2.St} {H : Hp} {Q : VK} {vs : List Nat} {fi : FI} {b : FB} {c : FT} {e : FE} {tt : TT}
theorem compL_len : ∀ {ds : List PyData} {ρ ρ' : Rho} {ds' : List PyData}, compL vs b c e ds ρ = .ok ds' ρ' → ds'.length ≤ ds.length
  | [], ρ, ρ', ds', h => by
    have h : Out.ok [] ρ = Out.ok ds' ρ' := h
    cases h
    exact Nat.le_refl _
  | d :: ds, ρ, ρ', ds', h => by
    unfold compL at h
    split at h
    · cases h
    · split at h
      · split at h
        · split at h
          · split at h
            · rename_i q
              cases h
              simpa using compL_len q
            · cases h
            · cases h
          · cases h
        · cases h
        · cases h
      · have := compL_len h
        simp; omega
      · cases h
      · cases h
/-- the reading of a comprehension -/
theorem comp_rd (ht : ∀ σ H Q, tT G noW c σ H Q → tt σ H Q) (h : tE G W (fComp vs fi b c e) σ H Q) : tLc (tI G W fi) (tG G σ.length (blkPi σ.length vs) b) tt (tE G noW e) vs σ H Q := by
  obtain ⟨ρ, P, F, nw, h⟩ := h
  refine ⟨ρ, P, F, nw, ?_⟩
  unfold fComp at h
  cases ei : fi ρ with
  | stk => rw [ei] at h; exact h.elim
  | exc c ρ1 => rw [ei] at h; exact h
  | ok ds ρ1 =>
    rw [ei] at h
    intro J P1 H1 F1 n1 s1 yl
    have h1 : EndO G W P1 H1 F1 σ Q (compE vs ρ1 ds (compL vs b c e ds ρ1)) := EndO.trans s1 h
    cases ec : compL vs b c e ds ρ1 with
    | stk => rw [ec] at h1; exact h1.elim
    | exc c ρ1 => rw [ec] at h1; exact h1.elim
    | ok dsF ρF =>
      rw [ec] at h1
      unfold compE at h1
      by_cases hz : ds.length ≤ 100000
      case neg => simp only [hz, if_false] at h1; exact h1.elim
      simp only [hz, if_true] at h1
      intro D hD
      have hP1 : P1 D = none := n1.ex.free hD
      have hF1 : ∀ i, ¬ F1 i D := fun i q => n1.al i D q hD
      refine ⟨fun i m H => m = ds.length - i ∧ i ≤ ds.length ∧ ∃ ρ' P' F' accV accD dsr, Now G P' H (wipe σ vs) (wipeR ρ' vs) F' ∧ Stp P1 H1 (cutF F1 vs) P' H F' ∧ H D = some (.lst accV) ∧ DpAll G.K P' accV accD ∧ P' D = none ∧ (∀ i, ¬ F' i D) ∧ accD.length ≤ i ∧
        compL vs b c e (ds.drop i) ρ' = .ok dsr ρF ∧ accD ++ dsr = dsF, ⟨_, rfl, Nat.zero_le _, ρ1, P1, cutF F1 vs, [], [], dsF, now_out (now_cut n1) hP1 (fun i q => hF1 i q.2), stp_out Stp.refl hD, upd_same, .nil, hP1, fun i q => hF1 i q.2, Nat.zero_le _, ec, rfl⟩, ?_⟩
      rintro i m H2 ⟨rfl, hi, ρ2, P2, F2, accV, accD, dsr, n2, s2, hD2, dA, hP2, hF2, hlen, hc, happ⟩
      obtain ⟨y1, y2⟩ := yl i P2 H2 s2.ex n2.ex
      by_cases hlt : i < ds.length
      · obtain ⟨go, y3⟩ := y2 hlt
        refine .inr ⟨go, fun H => i + 1 ≤ ds.length ∧ ∃ ρ' P' F' accV accD dsr, Now G P' H (wipe σ vs) (wipeR ρ' vs) F' ∧ Stp P1 H1 (cutF F1 vs) P' H F' ∧ H D = some (.lst accV) ∧ DpAll G.K P' accV accD ∧ P' D = none ∧ (∀ i, ¬ F' i D) ∧ accD.length ≤ i + 1 ∧
          compL vs b c e (ds.drop (i + 1)) ρ' = .ok dsr ρF ∧ accD ++ dsr = dsF, fun H' ⟨q1, q2⟩ => ⟨_, by omega, rfl, q1, q2⟩, fun x H3 hy => ?_⟩
        obtain ⟨P3, d, al, hd, hdp⟩ := y3 x H3 hy
        have ed : ds.drop i = d :: ds.drop (i + 1) := by
          rw [List.drop_eq_getElem_cons hlt]
          have := (List.getElem?_eq_some_iff.mp hd).2
          rw [this]
        rw [ed] at hc
        unfold compL at hc
        cases eb : b d (wipeR ρ2 vs) with
        | none => rw [eb] at hc; cases hc
        | some ρ3 =>
          simp only [eb] at hc
          have n3 := al.now n2
          have s3 := s2.trans al.stp
          -- what stays with the new list, through any step
          have kD : ∀ {P5 H5 : Hp} {F5 : Nat → Ad}, Stp P3 H3 F2 P5 H5 F5 → H5 D = some (.lst accV) ∧ P5 D = none ∧ (∀ i, ¬ F5 i D) := fun {P5 H5 F5} s => by
            have hD3 : H3 D = some (.lst accV) := al.exH D _ hD2
            have hP3 : P3 D = none := by
              refine Classical.byContradiction fun q => ?_
              rcases al.pn D q with z | z
              · exact z hP2
              · rw [hD2] at z; cases z
            refine ⟨s.fr D _ hD3 hF2, ?_, s.out (by rw [hD3]; exact fun z => nomatch z) hF2⟩
            refine Classical.byContradiction fun q => ?_
            rcases s.pn D q with z | ⟨k, z⟩ | z
            · exact z hP3
            · exact hF2 k z
            · rw [hD3] at z; cases z
          refine ⟨wipeR ρ2 vs, P3, F2, d, ρ3, n3, wipe_length _ _, hdp, eb, fun σ4 F4 n4 s4 k4 => ⟨wipe_same rfl k4, ht _ _ _ ?_⟩⟩
          have off4 : ∀ j, j ∉ vs → σ4[j]? = (wipe σ vs)[j]? := fun j hj => by
            have := wipe_same rfl k4
            rw [← wipe_out (σ := σ4) hj, this]
          refine ⟨ρ3, P3, F4, n4, ?_⟩
          cases etc : c ρ3 with
          | stk => rw [etc] at hc; cases hc
          | exc c' ρ4 => rw [etc] at hc; cases hc
          | ok t ρ4 =>
            intro P5 H5 F5 n5 s5
            cases t with
            | false =>
              simp only [etc] at hc
              rw [if_neg Bool.false_ne_true]
              obtain ⟨k1, k2, k3⟩ := kD (s4.trans s5)
              exact ⟨hlt, ρ4, P5, F5, accV, accD, dsr, now_wipe n5 off4, s3.trans (s4.trans s5), k1, dpa_mono (al.exP.trans (s4.trans s5).ex) _ _ dA, k2, k3, by omega, hc, happ⟩
            | true =>
              simp only [etc] at hc
              rw [if_pos rfl]
              refine ⟨ρ4, P5, F5, n5, ?_⟩
              cases ee : e ρ4 with
              | stk => rw [ee] at hc; cases hc
              | exc c' ρ6 => rw [ee] at hc; cases hc
              | ok o ρ6 =>
                intro y P6 H6 F6 S6 n6 s6 hy6 src6
                simp only [ee] at hc
                cases ef : frz1 ρ6 o with
                | none => rw [ef] at hc; cases hc
                | some p =>
                  obtain ⟨d', ρ7⟩ := p
                  simp only [ef] at hc
                  cases er : compL vs b c e (ds.drop (i + 1)) ρ7 with
                  | stk => rw [er] at hc; cases hc
                  | exc c' ρ8 => rw [er] at hc; cases hc
                  | ok dsr' ρ8 =>
                    simp only [er] at hc
                    cases hc
                    obtain ⟨P7, F7, n7, d7, z7⟩ := frz1_ok n6 hy6 ef
                    have sAll := s4.trans (s5.trans s6)
                    have s7 : Stp P3 H3 F2 P7 H6 F7 := z7.stp sAll fun b hb => by
                      rcases src6 b hb with ⟨k, q⟩ | q
                      · exact (s4.trans s5).sub k b q
                      · exact .inr (Classical.byContradiction fun q' => (s4.trans s5).al b q' q)
                    obtain ⟨k1, k2, k3⟩ := kD s7
                    have hl := dpa_len _ _ dA
                    refine ⟨accV, k1, by rw [sizeLine_eq]; omega, hlt, ρ7, P7, F7, accV ++ [y], accD ++ [d'], dsr', now_out (now_wipe n7 off4) k2 k3, stp_out (s3.trans s7) hD, upd_same, dpa_app (dpa_mono (al.exP.trans s7.ex) _ _ dA) (.cons d7 .nil), k2, k3, ?_, er, ?_⟩
                    · rw [List.length_append, List.length_singleton]; omega
                    · rw [List.append_assoc]; exact happ
      · have ed : ds.drop i = [] := List.drop_eq_nil_of_le (by omega)
        rw [ed] at hc
        have hc : Out.ok [] ρ2 = Out.ok dsr ρF := hc
        cases hc
        rw [List.append_nil] at happ
        subst happ
        obtain ⟨nG, sG⟩ := now_glue n1 n2 s2
        refine .inl ⟨y1 (by omega), h1 _ P2 H2 _ (fun x => x = D) nG sG ⟨⟨D, accV, rfl, rfl, hD2, dA⟩, fun b hb => by rw [hb]; exact hP2, fun b hb => by rw [hb, hD2]; exact Option.some_ne_none _, fun b hb i q => ?_, fun b u hb e => by rw [hb, hD2] at e; cases e; rfl⟩ fun b hb => .inr (by rw [hb]; exact hD)⟩
        rw [hb] at q
        rcases q with ⟨_, q⟩ | ⟨_, q⟩
        · exact hF1 i q
        · exact hF2 i q
end
end Mi
end
section
set_option Elab.async false
set_option linter.all false
set_option maxRecDepth 100000
/-! Ev16: comprehensions: the rules; two clauses -/
namespace Mi
open PySem PySem.Spec PyProof.Rows L2

noncomputable def compL2 (vs vs1 : List Nat) (b : FB) (c : FT) (fi1 : FI) (b1 : FB) (c1 : FT) (e : FE) : List PyData → Rho → Out (List PyData)
  | [], ρ => .ok [] ρ
  | d :: ds, ρ => match b d (wipeR ρ vs) with
    | none => .stk
    | some ρ1 => match c ρ1 with
      | .ok true ρ2 => match fi1 ρ2 with
        | .ok ds1 ρ3 => match compL vs1 b1 c1 e ds1 ρ3 with
          | .ok r1 ρ4 => match compL2 vs vs1 b c fi1 b1 c1 e ds ρ4 with
            | .ok r2 ρ5 => .ok (r1 ++ r2) ρ5
            | .exc _ _ => .stk
            | .stk => .stk
          | .exc _ _ => .stk
          | .stk => .stk
        | .exc _ _ => .stk
        | .stk => .stk
      | .ok false ρ2 => compL2 vs vs1 b c fi1 b1 c1 e ds ρ2
      | .exc _ _ => .stk
      | .stk => .stk
noncomputable def compE2 (vs : List Nat) (ρ1 : Rho) : Out (List PyData) → Out Opd
  | .ok ds' ρ2 => if ds'.length ≤ 100000 then .ok (.val (.ml ds')) (restR ρ1 ρ2 vs) else .stk
  | .exc _ _ => .stk
  | .stk => .stk
noncomputable def fComp2 (vs vs1 : List Nat) (fi : FI) (b : FB) (c : FT) (fi1 : FI) (b1 : FB) (c1 : FT) (e : FE) : FE := fun ρ => (fi ρ).bind fun ds ρ1 => compE2 vs ρ1 (compL2 vs vs1 b c fi1 b1 c1 e ds ρ1)

/-- the new list at D stands at acc, in a state -/
structure Acc (G : Glb) (Pb P1 H1 : Hp) (F0 : Nat → Ad) (D : Addr) (dsF rest : List PyData) (σ : L2.St) (ρ : Rho) (P H : Hp) (F : Nat → Ad) : Prop where
  nw : Now G P H σ ρ F
  st : Stp P1 H1 F0 P H F
  ls : ∃ accV accD, H D = some (.lst accV) ∧ DpAll G.K P accV accD ∧ accD ++ rest = dsF
  np : P D = none
  nf : ∀ i, ¬ F i D
  bs : Same Pb P
section
variable {G : Glb} {W : WX} {σ σ' : L2.St} {H H1 H2 P P1 P2 Pb : Hp} {F F0 F2 : Nat → Ad} {Q : VK} {vs vs1 : List Nat} {fi fi1 : FI} {b b1 : FB} {c c1 : FT} {e : FE} {tt tt1 : TT} {D : Addr} {dsF rest : List PyData} {ρ ρ' : Rho} {S : Ad} {y : V} {o : Opd} {d' : PyData}
theorem Acc.step (a : Acc G Pb P1 H1 F0 D dsF rest σ ρ P H F) (n2 : Now G P2 H2 σ' ρ' F2) (s : Stp P H F P2 H2 F2) : Acc G Pb P1 H1 F0 D dsF rest σ' ρ' P2 H2 F2 := by
  obtain ⟨nw, st, ⟨accV, accD, h1, h2, h3⟩, np, nf, bs⟩ := a
  refine ⟨n2, st.trans s, ⟨accV, accD, s.fr D _ h1 nf, dpa_mono s.ex _ _ h2, h3⟩, ?_, s.out (by rw [h1]; exact Option.some_ne_none _) nf, bs.trans s.ex⟩
  refine Classical.byContradiction fun q => ?_
  rcases s.pn D q with z | ⟨k, z⟩ | z
  · exact z np
  · exact nf k z
  · rw [h1] at z; cases z
theorem Acc.re (a : Acc G Pb P1 H1 F0 D dsF rest σ ρ P H F) (n2 : Now G P H σ' ρ' F) : Acc G Pb P1 H1 F0 D dsF rest σ' ρ' P H F := a.step n2 Stp.refl
theorem Acc.of_base (a : Acc G Pb P1 H1 F0 D dsF rest σ ρ P H F) (Pc : Hp) (h : Same Pc P) : Acc G Pc P1 H1 F0 D dsF rest σ ρ P H F := ⟨a.nw, a.st, a.ls, a.np, a.nf, h⟩
theorem Acc.rebase (a : Acc G Pb P1 H1 F0 D dsF rest σ ρ P H F) : Acc G P P1 H1 F0 D dsF rest σ ρ P H F := a.of_base P (Same.refl P)
theorem now_wipe2 (nw : Now G P H σ (wipeR ρ vs1) F) (hv : ∀ j ∈ vs1, j ∈ vs) (h : ∀ j, j ∉ vs → σ[j]? = σ'[j]?) : Now G P H σ' (wipeR ρ vs) F :=
  ⟨nw.ex, nw.dj, nw.np, nw.al, fun i w e => by
    obtain ⟨h1, h2⟩ := wipeR_in e
    have h3 : (wipeR ρ vs1)[i]? = some (some w) := by
      have : ∀ {us : List Nat}, i ∉ us → (wipeR ρ us)[i]? = ρ[i]? := by
        intro us
        induction us with
        | nil => intro _; rfl
        | cons v us ih =>
          intro q
          unfold wipeR
          rw [List.getElem?_set_ne (fun e => q (by rw [e]; exact List.mem_cons_self))]
          exact ih fun m => q (List.mem_cons_of_mem _ m)
      rw [this fun m => h1 (hv i m)]; exact h2
    obtain ⟨v, h4, h5⟩ := nw.rd i w h3
    exact ⟨v, by rw [← h i h1]; exact h4, h5⟩, nw.kd⟩
/-- an item is appended -/
theorem Acc.app (a : Acc G Pb P1 H1 F0 D dsF (d' :: rest) σ ρ P H F) (hD : H1 D = none) (hl : dsF.length ≤ 100000) (hd : Dp G.K P y d') : ∃ acc, H D = some (.lst acc) ∧ acc.length < sizeLine ∧ Acc G Pb P1 H1 F0 D dsF rest σ ρ P (upd H D (.lst (acc ++ [y]))) F := by
  obtain ⟨nw, st, ⟨accV, accD, h1, h2, h3⟩, np, nf, bs⟩ := a
  have l1 := dpa_len _ _ h2
  have l2 : accD.length + (rest.length + 1) = dsF.length := by rw [← h3]; simp
  refine ⟨accV, h1, by rw [sizeLine_eq]; omega, now_out nw np nf, stp_out st hD, ⟨accV ++ [y], accD ++ [d'], upd_same, dpa_app h2 (.cons hd .nil), ?_⟩, np, nf, bs⟩
  rw [List.append_assoc]
  exact h3
/-- one turn: bind, test, evaluate, append -/
theorem turn_rd {Nx : Hp → Prop} {x : V} {d : PyData} {ds rr dsr : List PyData} {ρE : Rho} (ht : ∀ σ H Q, tT G noW c σ H Q → tt σ H Q) (hD : H1 D = none) (hl : dsF.length ≤ 100000)
    (a : Acc G Pb P1 H1 F0 D dsF (dsr ++ rr) (wipe σ vs) (wipeR ρ vs) P H F) (hx : Dp G.K P x d) (hc : compL vs b c e (d :: ds) ρ = .ok dsr ρE)
    (hN : ∀ ρ' P' F' dsr' H', Acc G Pb P1 H1 F0 D dsF (dsr' ++ rr) (wipe σ vs) (wipeR ρ' vs) P' H' F' → compL vs b c e ds ρ' = .ok dsr' ρE → Nx H') :
    tG G σ.length (blkPi σ.length vs) b x (wipe σ vs) H fun σ2 H2 => wipe σ2 vs = wipe σ vs ∧ tt σ2 H2 fun b H3 => if b = true then tE G noW e σ2 H3 (fun y H4 => ∃ acc, H4 D = some (.lst acc) ∧ acc.length < sizeLine ∧ Nx (upd H4 D (.lst (acc ++ [y])))) else Nx H3 := by
  unfold compL at hc
  cases eb : b d (wipeR ρ vs) with
  | none => rw [eb] at hc; cases hc
  | some ρ3 =>
    simp only [eb] at hc
    refine ⟨wipeR ρ vs, P, F, d, ρ3, a.nw, wipe_length _ _, hx, eb, fun σ4 F4 n4 s4 k4 => ⟨wipe_same rfl k4, ht _ _ _ ?_⟩⟩
    have off4 : ∀ j, j ∉ vs → σ4[j]? = (wipe σ vs)[j]? := fun j hj => by
      have := wipe_same rfl k4
      rw [← wipe_out (σ := σ4) hj, this]
    have a4 := a.step n4 s4
    refine ⟨ρ3, P, F4, n4, ?_⟩
    cases etc : c ρ3 with
    | stk => rw [etc] at hc; cases hc
    | exc c' ρ4 => rw [etc] at hc; cases hc
    | ok t ρ4 =>
      intro P5 H5 F5 n5 s5
      have a5 := a4.step n5 s5
      cases t with
      | false =>
        simp only [etc] at hc
        rw [if_neg Bool.false_ne_true]
        exact hN ρ4 P5 F5 dsr H5 (a5.re (now_wipe n5 off4)) hc
      | true =>
        simp only [etc] at hc
        rw [if_pos rfl]
        refine ⟨ρ4, P5, F5, n5, ?_⟩
        cases ee : e ρ4 with
        | stk => rw [ee] at hc; cases hc
        | exc c' ρ6 => rw [ee] at hc; cases hc
        | ok o ρ6 =>
          intro y P6 H6 F6 S6 n6 s6 hy6 src6
          simp only [ee] at hc
          cases ef : frz1 ρ6 o with
          | none => rw [ef] at hc; cases hc
          | some p =>
            obtain ⟨d', ρ7⟩ := p
            simp only [ef] at hc
            cases er : compL vs b c e ds ρ7 with
            | stk => rw [er] at hc; cases hc
            | exc c' ρ8 => rw [er] at hc; cases hc
            | ok dsr' ρ8 =>
              simp only [er] at hc
              cases hc
              obtain ⟨P7, F7, n7, d7, z7⟩ := frz1_ok n6 hy6 ef
              have a7 : Acc G Pb P1 H1 F0 D dsF (d' :: (dsr' ++ rr)) σ4 ρ7 P7 H6 F7 := a5.step n7 (z7.stp s6 src6)
              obtain ⟨acc, q1, q2, q3⟩ := a7.app hD hl d7
              exact ⟨acc, q1, q2, hN ρ7 P7 F7 dsr' _ (q3.re (now_wipe q3.nw off4)) er⟩
theorem comp2_rd (ht : ∀ σ H Q, tT G noW c σ H Q → tt σ H Q) (ht1 : ∀ σ H Q, tT G noW c1 σ H Q → tt1 σ H Q) (hv : ∀ j ∈ vs1, j ∈ vs) (h : tE G W (fComp2 vs vs1 fi b c fi1 b1 c1 e) σ H Q) :
    tLc2 (tI G W fi) (tG G σ.length (blkPi σ.length vs) b) tt (tI G noW fi1) (tG G σ.length (blkPi σ.length vs1) b1) tt1 (tE G noW e) vs vs1 σ H Q := by
  obtain ⟨ρ, P, F, nw, h⟩ := h
  refine ⟨ρ, P, F, nw, ?_⟩
  unfold fComp2 at h
  cases ei : fi ρ with
  | stk => rw [ei] at h; exact h.elim
  | exc c ρ1 => rw [ei] at h; exact h
  | ok ds ρ1 =>
    rw [ei] at h
    intro J P1 H1 F1 n1 s1 yl
    have h1 : EndO G W P1 H1 F1 σ Q (compE2 vs ρ1 (compL2 vs vs1 b c fi1 b1 c1 e ds ρ1)) := EndO.trans s1 h
    cases ec : compL2 vs vs1 b c fi1 b1 c1 e ds ρ1 with
    | stk => rw [ec] at h1; exact h1.elim
    | exc c ρ1 => rw [ec] at h1; exact h1.elim
    | ok dsF ρF =>
      rw [ec] at h1
      unfold compE2 at h1
      by_cases hz : dsF.length ≤ 100000
      case neg => simp only [hz, if_false] at h1; exact h1.elim
      simp only [hz, if_true] at h1
      intro D hD
      have hP1 : P1 D = none := n1.ex.free hD
      have hF1 : ∀ i, ¬ F1 i D := fun i q => n1.al i D q hD
      refine ⟨fun i m H => m = ds.length - i ∧ i ≤ ds.length ∧ ∃ ρ' P' F' dsr, Acc G P1 P1 H1 (cutF F1 vs) D dsF dsr (wipe σ vs) (wipeR ρ' vs) P' H F' ∧ compL2 vs vs1 b c fi1 b1 c1 e (ds.drop i) ρ' = .ok dsr ρF,
        ⟨_, rfl, Nat.zero_le _, ρ1, P1, cutF F1 vs, dsF, ⟨now_out (now_cut n1) hP1 (fun i q => hF1 i q.2), stp_out Stp.refl hD, ⟨[], [], upd_same, .nil, rfl⟩, hP1, fun i q => hF1 i q.2, Same.refl _⟩, ec⟩, ?_⟩
      rintro i m H2 ⟨rfl, hi, ρ2, P2, F2, dsr, a2, hc⟩
      obtain ⟨y1, y2⟩ := yl i P2 H2 a2.st.ex a2.nw.ex
      by_cases hlt : i < ds.length
      · obtain ⟨go, y3⟩ := y2 hlt
        refine .inr ⟨go, fun H => i + 1 ≤ ds.length ∧ ∃ ρ' P' F' dsr, Acc G P1 P1 H1 (cutF F1 vs) D dsF dsr (wipe σ vs) (wipeR ρ' vs) P' H F' ∧ compL2 vs vs1 b c fi1 b1 c1 e (ds.drop (i + 1)) ρ' = .ok dsr ρF, fun H' ⟨q1, q2⟩ => ⟨_, by omega, rfl, q1, q2⟩, fun x H3 hy => ?_⟩
        obtain ⟨P3, d, al, hd, hdp⟩ := y3 x H3 hy
        have ed : ds.drop i = d :: ds.drop (i + 1) := by
          rw [List.drop_eq_getElem_cons hlt]
          have := (List.getElem?_eq_some_iff.mp hd).2
          rw [this]
        rw [ed] at hc
        unfold compL2 at hc
        have a3 := a2.step (al.now a2.nw) al.stp
        cases eb : b d (wipeR ρ2 vs) with
        | none => rw [eb] at hc; cases hc
        | some ρ3 =>
          simp only [eb] at hc
          refine ⟨wipeR ρ2 vs, P3, F2, d, ρ3, a3.nw, wipe_length _ _, hdp, eb, fun σ4 F4 n4 s4 k4 => ⟨wipe_same rfl k4, ht _ _ _ ?_⟩⟩
          have off4 : ∀ j, j ∉ vs → σ4[j]? = (wipe σ vs)[j]? := fun j hj => by
            have := wipe_same rfl k4
            rw [← wipe_out (σ := σ4) hj, this]
          have l4 : σ4.length = σ.length := by rw [k4.len]
          have a4 := a3.step n4 s4
          refine ⟨ρ3, P3, F4, n4, ?_⟩
          cases etc : c ρ3 with
          | stk => rw [etc] at hc; cases hc
          | exc c' ρ4 => rw [etc] at hc; cases hc
          | ok t ρ4 =>
            intro P5 H5 F5 n5 s5
            have a5 := a4.step n5 s5
            cases t with
            | false =>
              simp only [etc] at hc
              rw [if_neg Bool.false_ne_true]
              exact ⟨hlt, ρ4, P5, F5, dsr, a5.re (now_wipe n5 off4), hc⟩
            | true =>
              simp only [etc] at hc
              rw [if_pos rfl]
              refine ⟨ρ4, P5, F5, n5, ?_⟩
              cases ef : fi1 ρ4 with
              | stk => rw [ef] at hc; cases hc
              | exc c' ρ6 => rw [ef] at hc; cases hc
              | ok ds1 ρ6 =>
                simp only [ef] at hc
                intro J1 P6 H6 F6 n6 s6 yl1
                have a6 := a5.step n6 s6
                cases e1 : compL vs1 b1 c1 e ds1 ρ6 with
                | stk => rw [e1] at hc; cases hc
                | exc c' ρ7 => rw [e1] at hc; cases hc
                | ok r1 ρ7 =>
                  simp only [e1] at hc
                  cases e2 : compL2 vs vs1 b c fi1 b1 c1 e (ds.drop (i + 1)) ρ7 with
                  | stk => rw [e2] at hc; cases hc
                  | exc c' ρ8 => rw [e2] at hc; cases hc
                  | ok r2 ρ8 =>
                    simp only [e2] at hc
                    cases hc
                    have w4 : Now G P6 H6 (wipe σ4 vs1) (wipeR ρ6 vs1) F6 := now_wipe n6 fun j hj => (wipe_out hj).symm
                    refine ⟨fun j k H => k = ds1.length - j ∧ j ≤ ds1.length ∧ ∃ ρ' P' F' dsr', Acc G P6 P1 H1 (cutF F1 vs) D dsF (dsr' ++ r2) (wipe σ4 vs1) (wipeR ρ' vs1) P' H F' ∧ compL vs1 b1 c1 e (ds1.drop j) ρ' = .ok dsr' ρ7,
                      ⟨_, rfl, Nat.zero_le _, ρ6, P6, F6, r1, (a6.re w4).rebase, e1⟩, ?_⟩
                    rintro j k H9 ⟨rfl, hj, ρ9, P9, F9, dsr9, a9, c9⟩
                    obtain ⟨z1, z2⟩ := yl1 j P9 H9 a9.bs a9.nw.ex
                    by_cases hjt : j < ds1.length
                    · obtain ⟨go1, z3⟩ := z2 hjt
                      refine .inr ⟨go1, fun H => j + 1 ≤ ds1.length ∧ ∃ ρ' P' F' dsr', Acc G P6 P1 H1 (cutF F1 vs) D dsF (dsr' ++ r2) (wipe σ4 vs1) (wipeR ρ' vs1) P' H F' ∧ compL vs1 b1 c1 e (ds1.drop (j + 1)) ρ' = .ok dsr' ρ7, fun H' ⟨q1, q2⟩ => ⟨_, by omega, rfl, q1, q2⟩, fun x1 H10 hy1 => ?_⟩
                      obtain ⟨P10, d1, al1, hd1, hdp1⟩ := z3 x1 H10 hy1
                      have ed1 : ds1.drop j = d1 :: ds1.drop (j + 1) := by
                        rw [List.drop_eq_getElem_cons hjt]
                        have := (List.getElem?_eq_some_iff.mp hd1).2
                        rw [this]
                      rw [ed1] at c9
                      have a10 := a9.step (al1.now a9.nw) al1.stp
                      rw [← l4]
                      exact turn_rd ht1 hD hz a10 hdp1 c9 fun ρ' P' F' dsr' H' aN cN => ⟨hjt, ρ', P', F', dsr', aN, cN⟩
                    · have ed1 : ds1.drop j = [] := List.drop_eq_nil_of_le (by omega)
                      rw [ed1] at c9
                      have c9 : Out.ok [] ρ9 = Out.ok dsr9 ρ7 := c9
                      cases c9
                      exact .inl ⟨z1 (by omega), hlt, _, P9, F9, r2, (a9.re (now_wipe2 a9.nw hv fun j hj => by rw [wipe_out fun m => hj (hv j m)]; exact off4 j hj)).of_base P1 a9.st.ex, e2⟩
      · have ed : ds.drop i = [] := List.drop_eq_nil_of_le (by omega)
        rw [ed] at hc
        have hc : Out.ok [] ρ2 = Out.ok dsr ρF := hc
        cases hc
        obtain ⟨accV, accD, q1, q2, q3⟩ := a2.ls
        rw [List.append_nil] at q3
        subst q3
        obtain ⟨nG, sG⟩ := now_glue n1 a2.nw a2.st
        refine .inl ⟨y1 (by omega), h1 _ P2 H2 _ (fun x => x = D) nG sG ⟨⟨D, accV, rfl, rfl, q1, q2⟩, fun b hb => by rw [hb]; exact a2.np, fun b hb => by rw [hb, q1]; exact Option.some_ne_none _, fun b hb i q => ?_, fun b u hb e => by rw [hb, q1] at e; cases e; rfl⟩ fun b hb => .inr (by rw [hb]; exact hD)⟩
        rw [hb] at q
        rcases q with ⟨_, q⟩ | ⟨_, q⟩
        · exact hF1 i q
        · exact a2.nf i q
end
end Mi
end
section
set_option Elab.async false
set_option linter.all false
set_option maxRecDepth 100000
/-! Ev17: the rules for comprehensions; the def of a list's place; try; the body of a def -/
namespace Mi
open PySem PySem.Spec PyProof.Rows L2

theorem Cxt.blk {G : Glb} {X : Cx} {W : WX} {k : Nat} (c : Cxt G X W k) (s : Shared) (H : Hp) (scope : Scope) (cenv : Env) (fp : List Addr) : Cxt G (X.blk s H scope cenv fp) noW k :=
  ⟨c.K, c.calm, c.room, c.gd, fun _ _ x => by
    obtain ⟨_, _, _, _, _, _, _, _, _, _, _, _, _, _, _, _, z⟩ := x
    exact z.elim, c.nd⟩
section
variable {X : Cx} {G : Glb} {W : WX} {k n i : Nat} {π : List Bool} {elt tg iter tg1 iter1 t t1 : Expr} {scope : Scope} {own : List (Str × Nat)} {vs vs1 : List Nat} {pos spos py : Pos} {fi fi1 : FI} {b b1 : FB} {c c1 : FT} {e : FE} {y : Str} {tt tt1 : TT} {ifs ifs1 : List Expr}
/-- the tests of a clause -/
structure Tst (G : Glb) (X : Cx) (ifs : List Expr) (c : FT) : Prop where
  ex : ∃ tt, PTs X ifs tt ∧ ∀ σ H Q, tT G noW c σ H Q → tt σ H Q
theorem tst0 : Tst G X [] cT := ⟨tYes, pts_nil, fun σ H Q ⟨ρ, P, F, nw, h⟩ => h P H F nw Stp.refl⟩
theorem tst1 (h : PT X t (tT G noW c)) : Tst G X [t] c := ⟨_, pts_one h, fun _ _ _ h => h⟩
theorem tI_len (hn : n = X.N.length) : n = X.N.length := hn
/-- [elt for tg in iter if ..] -/
theorem e_comp (cx : Cxt G X W k) (hn : X.N.length = n) (hi : PI X tg iter (tI G W fi)) (ok : blkC X.N X.env.scope scope own = true) (hvs : own.map (·.2) = vs) (hp : blkPi n vs = π)
    (hg : ∀ (s : Shared) (H : Hp) (C : Addr) (cl : List (Str × Addr)) (fp : List Addr), PG (X.blk s H scope (compEnvC scope cl C X.env) fp) tg (tG G n π b))
    (ht : ∀ (s : Shared) (H : Hp) (C : Addr) (cl : List (Str × Addr)) (fp : List Addr), PTs (X.blk s H scope (compEnvC scope cl C X.env) fp) ifs tt) (htt : ∀ σ H Q, tT G noW c σ H Q → tt σ H Q)
    (he : ∀ (s : Shared) (H : Hp) (C : Addr) (cl : List (Str × Addr)) (fp : List Addr), PE (X.blk s H scope (compEnvC scope cl C X.env) fp) elt (tE G noW e)) (hs : ∀ x, foldedSetIterable iter X.env x = pure x := by intro _; rfl) :
    PE X (.ListComp elt [⟨tg, iter, ifs, 0⟩] scope pos) (tE G W (fComp vs fi b c e)) := by
  constructor
  intro pins s σ H Q I h
  have hl : σ.length = n := I.len.trans hn
  subst hvs hp
  exact (pe_lc (wi := tI G W fi) (te := tE G noW e) cx.calm cx.nd hi (blkOk_by ok) hg ht he hs).run pins s σ H Q I (by rw [← hl]; exact comp_rd htt h)
/-- name = [..] -/
theorem s_setComp (cx : Cxt G X W k) (hn : X.N.length = n) (hy : X.N[i]? = some y) (hyl : X.env.scope.names.lookup y = some .local) (hin : i < n) (hpi : ioAt π i = false) (hi : PI X tg iter (tI G W fi)) (ok : blkC X.N X.env.scope scope own = true) (hvs : own.map (·.2) = vs) {π' : List Bool} (hp : blkPi n vs = π')
    (hg : ∀ (s : Shared) (H : Hp) (C : Addr) (cl : List (Str × Addr)) (fp : List Addr), PG (X.blk s H scope (compEnvC scope cl C X.env) fp) tg (tG G n π' b))
    (ht : ∀ (s : Shared) (H : Hp) (C : Addr) (cl : List (Str × Addr)) (fp : List Addr), PTs (X.blk s H scope (compEnvC scope cl C X.env) fp) ifs tt) (htt : ∀ σ H Q, tT G noW c σ H Q → tt σ H Q)
    (he : ∀ (s : Shared) (H : Hp) (C : Addr) (cl : List (Str × Addr)) (fp : List Addr), PE (X.blk s H scope (compEnvC scope cl C X.env) fp) elt (tE G noW e)) (hs : ∀ x, foldedSetIterable iter X.env x = pure x := by intro _; rfl)
    (hsw : swapsWith (.ListComp elt [⟨tg, iter, ifs, 0⟩] scope pos) (some (.Name y py)) spos.line X.env = pure true) :
    PS X (.Assign [.Name y py] (.ListComp elt [⟨tg, iter, ifs, 0⟩] scope pos) spos) (tS G W n π (sSet i (fComp vs fi b c e))) := by
  constructor
  intro pins s σ H D I h
  have hl : σ.length = n := I.len.trans hn
  have h2 := set_rd hin hpi h
  subst hvs hp
  exact (ps_setLc (i := i) (wi := tI G W fi) (te := tE G noW e) cx.calm cx.nd hy hyl hsw hi (blkOk_by ok) hg ht he hs).run pins s σ H D I (by rw [← hl]; exact comp_rd htt h2)
theorem e_comp2 (cx : Cxt G X W k) (hn : X.N.length = n) (hi : PI X tg iter (tI G W fi)) (ok : blkC X.N X.env.scope scope own = true) (hvs : own.map (·.2) = vs) (hv : ∀ j ∈ vs1, j ∈ vs) {π1 : List Bool} (hp : blkPi n vs = π) (hp1 : blkPi n vs1 = π1)
    (hg : ∀ (s : Shared) (H : Hp) (C : Addr) (cl : List (Str × Addr)) (fp : List Addr), PG (X.blk s H scope (compEnvC scope cl C X.env) fp) tg (tG G n π b))
    (ht : ∀ (s : Shared) (H : Hp) (C : Addr) (cl : List (Str × Addr)) (fp : List Addr), PTs (X.blk s H scope (compEnvC scope cl C X.env) fp) ifs tt) (htt : ∀ σ H Q, tT G noW c σ H Q → tt σ H Q)
    (hi1 : ∀ (s : Shared) (H : Hp) (C : Addr) (cl : List (Str × Addr)) (fp : List Addr), PI (X.blk s H scope (compEnvC scope cl C X.env) fp) tg1 iter1 (tI G noW fi1))
    (hg1 : ∀ (s : Shared) (H : Hp) (C : Addr) (cl : List (Str × Addr)) (fp : List Addr), PG (X.blk s H scope (compEnvC scope cl C X.env) fp) tg1 (tG G n π1 b1))
    (ht1 : ∀ (s : Shared) (H : Hp) (C : Addr) (cl : List (Str × Addr)) (fp : List Addr), PTs (X.blk s H scope (compEnvC scope cl C X.env) fp) ifs1 tt1) (htt1 : ∀ σ H Q, tT G noW c1 σ H Q → tt1 σ H Q)
    (he : ∀ (s : Shared) (H : Hp) (C : Addr) (cl : List (Str × Addr)) (fp : List Addr), PE (X.blk s H scope (compEnvC scope cl C X.env) fp) elt (tE G noW e)) (hs : ∀ x, foldedSetIterable iter X.env x = pure x := by intro _; rfl) (hs1 : ∀ env x, foldedSetIterable iter1 env x = pure x := by intro _ _; rfl) :
    PE X (.ListComp elt [⟨tg, iter, ifs, 0⟩, ⟨tg1, iter1, ifs1, 0⟩] scope pos) (tE G W (fComp2 vs vs1 fi b c fi1 b1 c1 e)) := by
  constructor
  intro pins s σ H Q I h
  have hl : σ.length = n := I.len.trans hn
  subst hvs hp hp1
  exact (pe_lc2 (wi := tI G W fi) (te := tE G noW e) cx.calm cx.nd hi (blkOk_by ok) hv hg ht hi1 hg1 ht1 he hs hs1).run pins s σ H Q I (by rw [← hl]; exact comp2_rd htt htt1 hv h)
theorem s_setComp2 (cx : Cxt G X W k) (hn : X.N.length = n) (hy : X.N[i]? = some y) (hyl : X.env.scope.names.lookup y = some .local) (hin : i < n) (hpi : ioAt π i = false) (hi : PI X tg iter (tI G W fi)) (ok : blkC X.N X.env.scope scope own = true) (hvs : own.map (·.2) = vs) (hv : ∀ j ∈ vs1, j ∈ vs) {π' π1 : List Bool} (hp : blkPi n vs = π') (hp1 : blkPi n vs1 = π1)
    (hg : ∀ (s : Shared) (H : Hp) (C : Addr) (cl : List (Str × Addr)) (fp : List Addr), PG (X.blk s H scope (compEnvC scope cl C X.env) fp) tg (tG G n π' b))
    (ht : ∀ (s : Shared) (H : Hp) (C : Addr) (cl : List (Str × Addr)) (fp : List Addr), PTs (X.blk s H scope (compEnvC scope cl C X.env) fp) ifs tt) (htt : ∀ σ H Q, tT G noW c σ H Q → tt σ H Q)
    (hi1 : ∀ (s : Shared) (H : Hp) (C : Addr) (cl : List (Str × Addr)) (fp : List Addr), PI (X.blk s H scope (compEnvC scope cl C X.env) fp) tg1 iter1 (tI G noW fi1))
    (hg1 : ∀ (s : Shared) (H : Hp) (C : Addr) (cl : List (Str × Addr)) (fp : List Addr), PG (X.blk s H scope (compEnvC scope cl C X.env) fp) tg1 (tG G n π1 b1))
    (ht1 : ∀ (s : Shared) (H : Hp) (C : Addr) (cl : List (Str × Addr)) (fp : List Addr), PTs (X.blk s H scope (compEnvC scope cl C X.env) fp) ifs1 tt1) (htt1 : ∀ σ H Q, tT G noW c1 σ H Q → tt1 σ H Q)
    (he : ∀ (s : Shared) (H : Hp) (C : Addr) (cl : List (Str × Addr)) (fp : List Addr), PE (X.blk s H scope (compEnvC scope cl C X.env) fp) elt (tE G noW e)) (hs : ∀ x, foldedSetIterable iter X.env x = pure x := by intro _; rfl) (hs1 : ∀ env x, foldedSetIterable iter1 env x = pure x := by intro _ _; rfl)
    (hsw : swapsWith (.ListComp elt [⟨tg, iter, ifs, 0⟩, ⟨tg1, iter1, ifs1, 0⟩] scope pos) (some (.Name y py)) spos.line X.env = pure true) :
    PS X (.Assign [.Name y py] (.ListComp elt [⟨tg, iter, ifs, 0⟩, ⟨tg1, iter1, ifs1, 0⟩] scope pos) spos) (tS G W n π (sSet i (fComp2 vs vs1 fi b c fi1 b1 c1 e))) := by
  constructor
  intro pins s σ H D I h
  have hl : σ.length = n := I.len.trans hn
  have h2 := set_rd hin hpi h
  subst hvs hp hp1
  exact (ps_setLc2 (i := i) (wi := tI G W fi) (te := tE G noW e) cx.calm cx.nd hy hyl hsw hi (blkOk_by ok) hv hg ht hi1 hg1 ht1 he hs hs1).run pins s σ H D I (by rw [← hl]; exact comp2_rd htt htt1 hv h2)
end

/-! ### [f, g, ..][e](..) -/
section
variable {X : Cx} {G : Glb} {W : WX} {k : Nat} {e : Expr} {es : List Expr} {p pos p1 p2 : Pos} {fe : FE} {fa : FA}
/-- names of defs, their places, what they promise -/
structure Def1 (G : Glb) (X : Cx) (k : Nat) (io : List Bool) (nf : Expr) (spec : CSpec) : Prop where
  ex : ∃ (x : Str) (p : Pos) (f : Addr) (fd : FuncData) (ps : List Str), nf = .Name x p ∧ FnG X.prog X.w X.K X.mg X.base k f fd ps (spV G io spec) ∧ X.mg x = some (.ref f) ∧ PySem.W.keepIn X.K (.ref f) = true ∧ Binds X.K fd ps [] ∧ Gl X x ∧ (x == ("__debug__" : Str)) = false
inductive Defs (G : Glb) (X : Cx) (k : Nat) (io : List Bool) : List Expr → List CSpec → Prop
  | nil : Defs G X k io [] []
  | cons {e : Expr} {es : List Expr} {s : CSpec} {ss : List CSpec} : Def1 G X k io e s → Defs G X k io es ss → Defs G X k io (e :: es) (s :: ss)
theorem def1 {x : Str} {f : Addr} {fd : FuncData} {ps : List Str} {io : List Bool} {spec : CSpec} (F : FnG X.prog X.w X.K X.mg X.base k f fd ps (spV G io spec)) (hm : X.mg x = some (.ref f)) (hk : PySem.W.keepIn X.K (.ref f) = true) (hb : Binds X.K fd ps []) (hg : Gl X x := by rfl) (hd : (x == ("__debug__" : Str)) = false := by decide) :
    Def1 G X k io (.Name x p) spec := ⟨x, p, f, fd, ps, rfl, F, hm, hk, hb, hg, hd⟩
noncomputable def pickO (io : List Bool) (ss : List CSpec) (fa : FA) (o : Opd) (ρ : Rho) : Out Opd := match look ρ o with
  | some (.dat (.int i)) => match atI ss i with
    | some s => fCall io s fa ρ
    | none => .stk
  | _ => .stk
noncomputable def fPick (io : List Bool) (ss : List CSpec) (fe : FE) (fa : FA) : FE := fun ρ => (fe ρ).bind fun o ρ1 => pickO io ss fa o ρ1
theorem defs_get {io : List Bool} : ∀ {es : List Expr} {ss : List CSpec} {i : Nat} {s : CSpec}, Defs G X k io es ss → ss[i]? = some s → ∃ nf, es[i]? = some nf ∧ Def1 G X k io nf s
  | _, _, 0, s, .cons h t, e => by simp at e; subst e; exact ⟨_, rfl, h⟩
  | _, _, i + 1, s, .cons h t, e => by
    obtain ⟨nf, h1, h2⟩ := defs_get t (i := i) (by simpa using e)
    exact ⟨nf, by simpa using h1, h2⟩
  | _, _, _, _, .nil, e => by simp at e
/-- the names are read -/
theorem pa_defs {io : List Bool} {es : List Expr} {ss : List CSpec} (h : Defs G X k io es ss) : ∃ vs : List V, vs.length = ss.length ∧ (∀ (i : Nat) (s : CSpec), ss[i]? = some s → ∃ (f : Addr) (fd : FuncData) (ps : List Str), vs[i]? = some (V.ref f) ∧ FnG X.prog X.w X.K X.mg X.base k f fd ps (spV G io s) ∧ PySem.W.keepIn X.K (Value.ref f) = true ∧ Binds X.K fd ps []) ∧ PA X es (fun σ H Q => Q vs H) := by
  induction h with
  | nil => exact ⟨[], rfl, fun i s h => by simp at h, pa_nil⟩
  | @cons e es s0 ss d t ih =>
    obtain ⟨x, p, f, fd, ps, rfl, F, hm, hk, hb, hg, hd⟩ := d
    obtain ⟨vs, h1, h2, h3⟩ := ih
    refine ⟨V.ref f :: vs, by simp [h1], fun i s h => ?_, pa_cons (te := tC (V.ref f)) (pe_glob hg hm rfl hd) h3 rfl⟩
    cases i with
    | zero => simp at h; subst h; exact ⟨f, fd, ps, rfl, F, hk, hb⟩
    | succ i => simpa using h2 i s (by simpa using h)
/-- the list of the defs, new, and its item -/
theorem e_pick {io : List Bool} {ss : List CSpec} {ns : List Expr} {ei a : Expr} {as : List Expr} (c : Cxt G X W k) (hd : Defs G X k io ns ss) (hi : PE X ei (tE G W fe)) (hlen : ss.length ≤ 100000 := by decide) (hs : PlainIxT ei := by intro _ _; rfl)
    (ha : PA X (a :: as) (tA G W fa)) (he : starEach (a :: as) X.env = (false, eval a X.env) :: starEach as X.env := by rfl) (hpl : (backTo pos (starEach as X.env)).any (·.1) = false := by rfl)
    (hev : eval (.Call (.Subscript (.List ns p1) ei p2) (a :: as) [] pos) X.env = (do callWith pos (← eval (.Subscript (.List ns p1) ei p2) X.env) [] (backTo pos (starEach (a :: as) X.env)) (backToKw pos (keywordEach [] X.env))) := by rfl) :
    PE X (.Call (.Subscript (.List ns p1) ei p2) (a :: as) [] pos) (tE G W (fPick io ss fe fa)) := by
  obtain ⟨vs, v1, v2, v3⟩ := pa_defs hd
  constructor
  intro pins s σ H Q I h
  obtain ⟨ρ, P, F, nw, h⟩ := h
  refine Call_ ?_ hev
  have key : tOp (rIxL X.K) (tLst fun σ H Q => Q vs H) (tE G W fe) σ H (fun f H1 => ∃ fa' fd ps s', f = V.ref fa' ∧ FnG X.prog X.w X.K X.mg X.base k fa' fd ps (spV G io s') ∧ PySem.W.keepIn X.K (Value.ref fa') = true ∧ Binds X.K fd ps [] ∧ tE G W (fCall io s' fa) σ H1 Q) := by
    refine ⟨by rw [v1, sizeLine_eq]; omega, fun l hl => ?_⟩
    have hPl : P l = none := nw.ex.free hl
    have hFl : ∀ i, ¬ F i l := fun i q => nw.al i l q hl
    have n0 : Now G P (upd H l (.lst vs)) σ ρ F := now_out nw hPl hFl
    have s0 : Stp P H F P (upd H l (.lst vs)) F := stp_out Stp.refl hl
    refine tE_bind (End := fun P H F => EndO G W P H F σ Q) n0 (EndO.trans s0 h) (fun _ _ z => z) (fun z => z) fun o ρ1 v P1 H1 F1 S e1 h1 n1 s1 hx q1 => ?_
    unfold pickO at h1
    split at h1
    · rename_i i el
      split at h1
      · rename_i s' es
        have hv := ow_int (hx.look n1 el)
        subst hv
        unfold atI at es
        cases ej : ixN ss.length i with
        | none => rw [ej] at es; cases es
        | some j =>
          rw [ej] at es
          obtain ⟨f, fd, ps, w1, w2, w3, w4⟩ := v2 j s' es
          refine ⟨l, vs, i, V.ref f, rfl, rfl, SqL.of (s1.fr l _ upd_same hFl), ?_, f, fd, ps, s', rfl, w2, w3, w4, ρ1, P1, F1, n1, EndO.trans s1 h1⟩
          unfold atI
          rw [v1, ej]
          exact w1
      · exact h1.elim
    · exact h1.elim
  refine thn ((pe_ix ix_list (pe_lst v3) hi hs).run pins s σ H _ I key) ?_
  rintro fv s1 ⟨x, H1, I1, r1, fa', fd, ps, s', rfl, F1, hk, hb, rd⟩
  obtain rfl : fv = Value.ref fa' := r1
  refine PySem.W.callWith_K (h₀ := X.base) I1.ok.mod.kin hk (thn (ha.run pos pins s1 σ H1 _ I1 (call_rd rd)) ?_) he hpl
  rintro us s2 ⟨vs2, H2, I2, r2, q2⟩
  exact ⟨I2.kIn, run_fnG F1 c hb I2 r2 q2⟩
end

/-! ### the body of a def -/
def outs : List Bool → Rho → List (Option Vl)
  | [], _ => []
  | b :: io, [] => none :: outs io []
  | b :: io, r :: ρ => (if b then r else none) :: outs io ρ
def specOf (io : List Bool) (n : Nat) (f : FS) : CSpec := fun ws => match f (ws.map some ++ List.replicate (n - ws.length) none) with
  | .nx ρ => .ok (.dat .none) (outs io ρ)
  | .ret w ρ => .ok w (outs io ρ)
  | .exc c ρ => .exc c (outs io ρ)
  | _ => .stk
theorem outs_len : ∀ (io : List Bool) (ρ : Rho), (outs io ρ).length = io.length
  | [], _ => rfl
  | b :: io, [] => by simp [outs, outs_len io []]
  | b :: io, r :: ρ => by simp [outs, outs_len io ρ]
theorem outs_at : ∀ {io : List Bool} {ρ : Rho} {i : Nat} {w : Vl}, (outs io ρ)[i]? = some (some w) → ioAt io i = true ∧ ρ[i]? = some (some w)
  | [], _, _, _, h => by simp [outs] at h
  | b :: io, [], 0, _, h => by simp [outs] at h
  | b :: io, [], i + 1, _, h => by
    have := outs_at (io := io) (ρ := []) (i := i) (by simpa [outs] using h)
    simp at this
  | b :: io, r :: ρ, 0, w, h => by
    cases b with
    | false => simp [outs] at h
    | true => exact ⟨rfl, by simpa [outs] using h⟩
  | b :: io, r :: ρ, i + 1, w, h => by
    have := outs_at (io := io) (ρ := ρ) (i := i) (by simpa [outs] using h)
    exact ⟨by rw [ioAt_cons]; exact this.1, by simpa using this.2⟩
/-- the environment at a call's end: what was lent alone -/
theorem now_end {G : Glb} {P H : Hp} {F : Nat → Ad} {σ' : L2.St} {ρ' : Rho} {io : List Bool} {vs : List V} (nw : Now G P H σ' ρ' F) (hp : ∀ j, ioAt io j = true → σ'[j]? = (vs.map some)[j]?) : Now G P H (vs.map some) (outs io ρ') (fun j b => ioAt io j = true ∧ F j b) :=
  ⟨nw.ex, fun i j a h1 h2 => nw.dj i j a h1.2 h2.2, fun i b h => nw.np i b h.2, fun i b h => nw.al i b h.2, fun i w h => by
    obtain ⟨h1, h2⟩ := outs_at h
    obtain ⟨v, h3, h4⟩ := nw.rd i w h2
    exact ⟨v, by rw [← hp i h1]; exact h3, h4.mono (Same.refl P) (fun _ _ _ q => q) fun b hb => ⟨h1, hb⟩⟩, fun i b u h e => nw.kd i b u h.2 e⟩
theorem stp_end {P0 H0 P H : Hp} {F0 F : Nat → Ad} {io : List Bool} (s : Stp P0 H0 F0 P H F) : Stp P0 H0 F0 P H (fun j b => ioAt io j = true ∧ F j b) := ⟨s.ex, s.fr, fun i b h => s.sub i b h.2, s.pn, s.al⟩
theorem ioAt_lt {io : List Bool} {j : Nat} (h : ioAt io j = true) : j < io.length := by
  unfold ioAt at h
  rw [List.getD_eq_getElem?_getD] at h
  by_cases q : j < io.length
  · exact q
  · rw [List.getElem?_eq_none (by omega)] at h; cases h
/-- a def keeps its promise -/
theorem fn_def {P : Program} {w : World} {G : Glb} {mg : Str → Option Value} {base : Heap} {k : Nat} {f : Addr} {name qual : Str} {st : Stmt} {fd : FuncData} {N ps : List Str} {io : List Bool} {n : Nat} {fs : FS}
    (Fn : Fun G.K name qual st f fd) (S : FnScope N ps (defScope st)) (hio : io.length = ps.length) (hn : N.length = n)
    (body : ∀ (cdv : Value) (A : Around) (outer : List Env) (s : Shared) (H : Hp) (E : XK), Cxt G (cxOf (L2N.CX P w) P w G.K mg base N qual (defScope st) f cdv A outer s H E) (fun cls d _ H => E cls d H) k →
      PSs (cxOf (L2N.CX P w) P w G.K mg base N qual (defScope st) f cdv A outer s H E) (defBody st) (tS G (fun cls d _ H => E cls d H) n io fs)) :
    FnG P w G.K mg base (k + 1) f fd ps (spV G io (specOf io n fs)) := by
  obtain ⟨oc, od, kV, doc, pm, an, cdv, ct, osl, rfl, lk, hcd⟩ := Fn.ex
  refine fn_ofG lk hcd S (fun vs H Q E h => (spV_len h).trans hio) fun A outer s H vs Q E room h => ?_
  have cx : Cxt G (cxOf (L2N.CX P w) P w G.K mg base N qual (defScope st) f cdv A outer s H E) (fun cls d _ H => E cls d H) k := ⟨rfl, rfl, room.rm, room.gd, L2N.takes_of rfl rfl rfl rfl, S.nd⟩
  refine ⟨_, body cdv A outer s H E cx, ?_⟩
  obtain ⟨ws, P0, F0, l1, l2, nw, hF, h⟩ := h
  have hps : ps.length ≤ N.length := by
    have := congrArg List.length S.pre
    rw [List.length_take] at this
    omega
  have start_len : (L2.start N vs).length = n := by
    unfold L2.start
    rw [List.length_append, List.length_map, List.length_replicate]
    omega
  have start_at : ∀ j, j < vs.length → (L2.start N vs)[j]? = (vs.map some)[j]? := fun j hj => by
    unfold L2.start
    rw [List.getElem?_append_left (by simpa using hj)]
  refine ⟨ws.map some ++ List.replicate (n - ws.length) none, P0, F0, ⟨nw.ex, nw.dj, nw.np, nw.al, fun i w' e => ?_, nw.kd⟩, start_len, ?_⟩
  · by_cases hi : i < ws.length
    · rw [List.getElem?_append_left (by simpa using hi)] at e
      obtain ⟨v, h1, h2⟩ := nw.rd i w' e
      exact ⟨v, by rw [start_at i (by omega)]; exact h1, h2⟩
    · rw [List.getElem?_append_right (by simpa using hi), List.getElem?_replicate] at e
      split at e <;> cases e
  · unfold specOf at h
    have pin : ∀ {σ' : L2.St}, Kp n io (L2.start N vs) σ' → ∀ j, ioAt io j = true → σ'[j]? = (vs.map some)[j]? := fun {σ'} kp j hj => by
      rw [kp.pin j hj]
      exact start_at j (by have := ioAt_lt hj; omega)
    cases e : fs (ws.map some ++ List.replicate (n - ws.length) none) with
    | stk => rw [e] at h; exact h.elim
    | bk ρ' => rw [e] at h; exact h.elim
    | ct ρ' => rw [e] at h; exact h.elim
    | nx ρ' =>
      simp only [e] at h
      exact fun σ' P' H' F' n1 s1 k1 => h .non P' H' _ nobody (now_end n1 (pin k1)) (fun j b q => q.1) (stp_end s1) ⟨.non, fun _ z => z.elim, fun _ z => z.elim, fun _ z => z.elim, fun _ _ z => z.elim⟩ (fun _ z => z.elim) (outs_len _ _)
    | exc c ρ' =>
      simp only [e] at h
      exact fun σ' P' H' F' n1 s1 k1 => h P' H' _ (now_end n1 (pin k1)) (fun j b q => q.1) (stp_end s1) (outs_len _ _)
    | ret w' ρ' =>
      simp only [e] at h
      exact fun v σ' P' H' F' S n1 s1 k1 t src => h v P' H' _ S (now_end n1 (pin k1)) (fun j b q => q.1) (stp_end s1) ⟨t.ow, t.np, t.al, fun b hb i q => t.dj b hb i q.2, t.kd⟩ src (outs_len _ _)
/-- another word for the same promise -/
theorem spec_imp {P : Program} {w : World} {G : Glb} {mg : Str → Option Value} {base : Heap} {k : Nat} {f : Addr} {fd : FuncData} {ps : List Str} {io : List Bool} {s s' : CSpec} (F : FnG P w G.K mg base k f fd ps (spV G io s)) (h : ∀ ws, s' ws ≠ .stk → s ws = s' ws) : FnG P w G.K mg base k f fd ps (spV G io s') :=
  F.imp fun vs H Q E ⟨ws, P0, F0, l1, l2, nw, hF, q⟩ => ⟨ws, P0, F0, l1, l2, nw, hF, by
    have hn : s' ws ≠ .stk := fun e => by rw [e] at q; exact q
    rw [h ws hn]
    exact q⟩
end Mi
end
section
set_option Elab.async false
set_option linter.all false
set_option maxRecDepth 100000
/-! Ev18: names of defs and classes; raise; try .. except .. as -/
namespace Mi
open PySem PySem.Spec PyProof.Rows L2

/-- a def of the module, by its name -/
structure Cal (P : Program) (G : Glb) (mg : Str → Option Value) (base : Heap) (k : Nat) (name : Str) (io : List Bool) (spec : CSpec) : Prop where
  ex : ∃ (f : Addr) (fd : FuncData) (ps : List Str), FnG P G.w G.K mg base k f fd ps (spV G io spec) ∧ mg name = some (.ref f) ∧ PySem.W.keepIn G.K (.ref f) = true ∧ Binds G.K fd ps []
section
variable {P : Program} {G : Glb} {mg : Str → Option Value} {base : Heap} {k j : Nat} {name : Str} {io : List Bool} {spec spec' : CSpec}
theorem Cal.mono (c : Cal P G mg base j name io spec) (h : j ≤ k) : Cal P G mg base k name io spec := by
  obtain ⟨f, fd, ps, F, r⟩ := c.ex
  exact ⟨f, fd, ps, F.mono h, r⟩
theorem Cal.imp (c : Cal P G mg base k name io spec) (h : ∀ ws, spec' ws ≠ .stk → spec ws = spec' ws) : Cal P G mg base k name io spec' := by
  obtain ⟨f, fd, ps, F, r⟩ := c.ex
  exact ⟨f, fd, ps, spec_imp F h, r⟩
end
/-- what stands in the module of a def -/
structure Def (G : Glb) (mg : Str → Option Value) (name : Str) (st : Stmt) (ps : List Str) : Prop where
  ex : ∃ (f : Addr) (fd : FuncData), Fun G.K name name st f fd ∧ mg name = some (.ref f) ∧ PySem.W.keepIn G.K (.ref f) = true ∧ Binds G.K fd ps []
theorem Def.cal {P : Program} {G : Glb} {mg : Str → Option Value} {base : Heap} {k n : Nat} {name : Str} {st : Stmt} {N ps : List Str} {io : List Bool} {fs : FS} (d : Def G mg name st ps) (S : FnScope N ps (defScope st)) (hio : io.length = ps.length) (hn : N.length = n)
    (body : ∀ (f : Addr) (cdv : Value) (A : Around) (outer : List Env) (s : Shared) (H : Hp) (E : XK), Cxt G (cxOf (L2N.CX P G.w) P G.w G.K mg base N name (defScope st) f cdv A outer s H E) (fun cls d _ H => E cls d H) k →
      PSs (cxOf (L2N.CX P G.w) P G.w G.K mg base N name (defScope st) f cdv A outer s H E) (defBody st) (tS G (fun cls d _ H => E cls d H) n io fs)) :
    Cal P G mg base (k + 1) name io (specOf io n fs) := by
  obtain ⟨f, fd, Fn, hm, hk, hb⟩ := d.ex
  exact ⟨f, fd, ps, fn_def Fn S hio hn (body f), hm, hk, hb⟩

abbrev bmV : List Value := [.type "ValueError", .type "Exception", .type "BaseException", .type "object"]
/-- a class of errors -/
structure Exc1 (K : PySem.W.Frag) (mg : Str → Option Value) (name : Str) (C : Addr) : Prop where
  g : mg name = some (.ref C)
  x : PySem.W.excIn K C bmV "ValueError.__new__" = true
  k : PySem.W.keepIn K (.ref C) = true
  b : PySem.W.subIn K (.ref C) (.type "BaseException") = some true
  t : PySem.W.typeIn K (.ref C) = some (.type "type")
/-- what a name of the builtins stands for: nothing of the module's -/
structure NoG (mg : Str → Option Value) (l : List Str) : Prop where
  n : ∀ x, l.contains x = true → mg x = none
section
variable {X : Cx} {G : Glb} {W : WX} {k j n i : Nat} {π : List Bool} {x m : Str} {e : Expr} {es : List Expr} {p p2 pos np pos' : Pos} {fa : FA} {io : List Bool} {spec : CSpec} {c : Nat}
theorem e_callC (cx : Cxt G X W k) (c : Cal X.prog G X.mg X.base j x io spec) (hw : X.w = G.w) (hj : j ≤ k) (ha : PA X (e :: es) (tA G W fa)) (hg : Gl X x := by rfl) (hdb : (x == ("__debug__" : Str)) = false := by decide)
    (he : starEach (e :: es) X.env = (false, eval e X.env) :: starEach es X.env := by rfl) (hpl : (backTo pos (starEach es X.env)).any (·.1) = false := by rfl) :
    PE X (.Call (.Name x p) (e :: es) [] pos) (tE G W (fCall io spec fa)) := by
  obtain ⟨f, fd, ps, F, hm, hk, hb⟩ := c.ex
  exact e_call (ps := ps) (fd := fd) (f := f) cx (by rw [hw, cx.K]; exact F.mono hj) hm (by rw [cx.K]; exact hk) (by rw [cx.K]; exact hb) ha hg hdb he hpl
theorem def1C (cx : Cxt G X W k) (c : Cal X.prog G X.mg X.base j x io spec) (hw : X.w = G.w) (hj : j ≤ k) (hg : Gl X x := by rfl) (hd : (x == ("__debug__" : Str)) = false := by decide) : Def1 G X k io (.Name x p) spec := by
  obtain ⟨f, fd, ps, F, hm, hk, hb⟩ := c.ex
  exact def1 (ps := ps) (fd := fd) (f := f) (by rw [hw, cx.K]; exact F.mono hj) hm (by rw [cx.K]; exact hk) (by rw [cx.K]; exact hb) hg hd
theorem s_raiseX {q : Nat} (cx : Cxt G X W k) (T : Exc1 G.K X.mg x (G.ea c)) (hg : Gl X x := by rfl) (hdb : (x == ("__debug__" : Str)) = false := by decide) :
    PS X (.Raise (some (.Call (.Name x p) [.Constant (.str m) q p2] [] pos')) none pos) (tS G W n π (sRaise c)) :=
  s_raise cx (L2N.pmk_own PySem.F.excBase_ValueError (by rw [cx.K]; exact T.x) T.g (by rw [cx.K]; exact T.k) (raises_own (by rw [cx.K]; exact T.b) (by rw [cx.K]; exact T.t)) hg hdb)

/-! ### try .. except .. as -/
/-- what the suite's def does with the exception: a text by the class's number -/
structure ErrF (P : Program) (G : Glb) (mg : Str → Option Value) (base : Heap) (k : Nat) (name : Str) (r : Nat → Option Str) : Prop where
  ex : ∃ (f : Addr) (fd : FuncData) (y : Str), mg name = some (.ref f) ∧ PySem.W.keepIn G.K (.ref f) = true ∧ Binds G.K fd [y] [] ∧
    ∀ (A : Around) (outer : List Env) (s : Shared) (H : Hp) (args : Args) (Q : VK) (E : XK) (p : Addr × Obj) (c : Nat) (t : Str), L2H.RoomH k A → L2H.Hot1 A p → L2H.PinOk outer H s p → Env0 P G.w G.K mg base A outer s H → BindsTo s fd args ([y].zip [.ref p.1]) →
      L2N.Zn (.ref (G.ea c)) none p.2 → r c = some t → (∀ H', Same H H' → Q (.str t) H') → codeAny (model P G.w) A (.call (.ref f) args) (CR (L2N.CX P G.w) outer P G.w H s Q E) s
def sTry (r : Nat → Option Str) (fb : FS) : FS := fun ρ => match fb ρ with
  | .exc c ρ1 => match r c with
    | some t => .ret (.dat (.str t)) ρ1
    | none => .stk
  | z => z
theorem Cxt.tr (cx : Cxt G X W k) {W' : WX} {pn : List (Addr × Obj)} {xe : Value → Shared → Prop} (tk : L2N.Takes (X.tr pn xe) W') : Cxt G (X.tr pn xe) W' k := ⟨cx.K, cx.calm, cx.room, cx.gd, tk, cx.nd⟩
theorem s_try {M : Str} {C : Value} {b : List Stmt} {fb : FS} {r : Nat → Option Str} {nm : Str} {np2 np3 cp rp : Pos} (cx : Cxt G X W k) (hs : X.stack = X.env :: X.outer) (hf : X.env.frame = some X.env.locals) (hi : X.N[i]? = some x) (hln : X.env.kindOf x = some .local) (hin : i < n) (hpi : ioAt π i = false)
    (hC : Names X M C) (hsub : ∀ c t, r c = some t → PySem.W.exmOne G.K (.ref (G.ea c)) C = some true) (hw : X.w = G.w) (er : ErrF X.prog G X.mg X.base j nm r) (hj : j ≤ k)
    (hb : ∀ (W' : WX) (pn : List (Addr × Obj)) (xe : Value → Shared → Prop), Cxt G (X.tr pn xe) W' k → PassesOwn (model X.prog X.w) X.A X.env xe → PSs (X.tr pn xe) b (tS G W' n π fb))
    (hg : Gl X nm := by rfl) (hdb : (nm == ("__debug__" : Str)) = false := by decide) (hxd : (x == ("__debug__" : Str)) = false := by decide) (hcd : (x == ("__classdict__" : Str)) = false := by decide) :
    PS X (.Try b [.ExceptHandler (some (.Name M np)) (some x) [.Return (some (.Call (.Name nm np2) [.Name x np3] [] cp)) rp] pos'] [] [] pos) (tS G W n π (sTry r fb)) := by
  obtain ⟨f, fd, y, hm, hk, hbd, run⟩ := er.ex
  refine PS.imp (L2N.ps_try_as (Wout := W) (i := i) (c := C) (tb := fun W' => tS G W' n π fb)
    (ts := fun a cls d D σ H => ∃ c t, cls = .ref (G.ea c) ∧ d = none ∧ r c = some t ∧ σ[i]? = some (some (.ref a)) ∧ ∀ H', Same H H' → D.rt (.str t) H')
    hs hf cx.nd hi hln hC cx.tk (fun W' pn xe tk po => hb W' pn xe (cx.tr tk) po) (fun a oe cls d pn hz hvs => ?_)) fun D σ H ⟨ρ, P, F, nw, hl, h⟩ => ?_
  · refine pss_one ⟨fun pins s σ H D I ⟨c, t, hc, hd, hr, hsi, hq⟩ => ?_⟩
    subst hc hd
    have var : PE (X.suite a ((a, oe) :: pn)) (.Name x np3) (tVar i) := pe_var hi (.inl hln) hxd hcd
    have pa : PA (X.suite a ((a, oe) :: pn)) [.Name x np3] (tCons (tVar i) tNil) := pa_cons var pa_nil rfl
    refine wpAny_Return_some (wpAny_Call_Name_kw (ld_glob I hg hm (PySem.W.callWith_K (h₀ := X.base) (K := X.K) I.ok.mod.kin (by rw [cx.K]; exact hk) (thn (pa.run cp pins s σ H (fun vs H1 => vs = [V.ref a] ∧ H = H1) I ⟨_, hsi, rfl, rfl⟩) fun us s1 ⟨vs, H1, I1, r1, ev, eH⟩ => ?_) rfl rfl) hdb))
    subst ev eH
    refine ⟨I1.kIn, ?_⟩
    obtain rfl := Vals.ref1 r1
    show wpAny _ _ (call (.ref f) [.ref a]) _ _ _
    have hp : (a, oe) ∈ ((a, oe) :: pn) ++ pins := List.mem_append_left _ List.mem_cons_self
    have P1 := I1.pin (a, oe) hp
    have hpin : L2H.PinOk X.stack H s1 (a, oe) := ⟨P1.1, P1.2.1, fun hm' => (List.mem_cons.mp (I1.stkSub a hm')).elim P1.2.2.1 P1.2.2.2.1, P1.2.2.2.2⟩
    obtain ⟨vs, hvs⟩ := hvs
    have hot : L2H.Hot1 (X.A.mark (some (.ref a))) (a, oe) := ⟨rfl, vs, hvs, hz.2.2 vs hvs⟩
    have bd := hbd s1 [.ref a] (by rw [← cx.K]; exact I1.kIn) rfl
    rw [List.append_nil] at bd
    have e0 : Env0 X.prog G.w G.K X.mg X.base (X.A.mark (some (.ref a))) X.stack s1 H := by
      have := I1.env0
      rw [← hw, ← cx.K]
      exact this
    refine wpAny_call (codeAny_mono (by rw [hw]; exact run (X.A.mark (some (.ref a))) X.stack s1 H ⟨[.ref a], []⟩ D.rt (fun _ _ _ => False) (a, oe) c t ⟨((L2H.roomH_of cx.room).mono hj).dp, ((L2H.roomH_of cx.room).mono hj).un⟩ hot hpin e0 bd hz hr hq) fun res s2 out => ?_)
    rw [← hw] at out
    match res, out with
    | .error e, out =>
      obtain ⟨_, _, _, _, _, _, _, _, _, _, _, _, z⟩ := out
      exact z.elim
    | .ok (.ret u), out =>
      obtain ⟨v, H', I2, rv, q⟩ := I1.after (X := X.suite a ((a, oe) :: pn)) out
      exact ⟨v, σ, H', I2, rv, q⟩
  · refine ⟨ρ, P, F, nw, hl, ?_⟩
    unfold sTry at h
    cases e : fb ρ with
    | nx ρ1 => rw [e] at h; exact h
    | bk ρ1 => rw [e] at h; exact h
    | ct ρ1 => rw [e] at h; exact h
    | ret w ρ1 => rw [e] at h; exact h
    | stk => rw [e] at h; exact h.elim
    | exc c ρ1 =>
      simp only [e] at h
      cases hr : r c with
      | none => rw [hr] at h; exact h.elim
      | some t =>
        rw [hr] at h
        intro σ' P' H' F' n1 s1 k1
        refine ⟨true, by rw [cx.K]; exact hsub c t hr, fun _ a na => ⟨c, t, rfl, rfl, hr, List.getElem?_set_self (by rw [k1.len]; exact hin), fun H2 hs2 => ?_⟩, fun z => nomatch z⟩
        have al : Alc P' H' P' H2 nobody := ⟨Same.refl _, hs2, n1.ex.trans hs2, fun _ q => .inl q, fun _ z => z.elim, fun _ _ z => z.elim⟩
        exact h (.str t) σ' P' H2 F' nobody (al.now n1) (s1.trans al.stp) k1 ⟨.str _, fun _ z => z.elim, fun _ z => z.elim, fun _ z => z.elim, fun _ _ z => z.elim⟩ fun _ z => z.elim
end
end Mi
end
section
set_option Elab.async false
set_option linter.all false
set_option maxRecDepth 100000
/-! Ev19: name op= e -/
namespace Mi
open PySem PySem.Spec PyProof.Rows L2
structure IpV (G : Glb) (X : Cx) (op : Operator) (g : Vl → Vl → Option Vl) : Prop where
  ex : ∃ r : R2, OpR X (inplaceOp op) r ∧ OpOk G r g
section
variable {X : Cx} {G : Glb} {W : WX} {n i : Nat} {π : List Bool} {x : Str} {e : Expr} {fe : FE} {op : Operator} {g : Vl → Vl → Option Vl} {pos p2 : Pos}
theorem q_add : IpV G X .Add (iop tt2 fun i j => .int (i + j)) := ⟨_, iop_add, okI0 fun _ _ _ _ => .int _⟩
theorem q_sub : IpV G X .Sub gSub := ⟨_, iop_sub, okI0 fun _ _ _ _ => .int _⟩
theorem q_mul : IpV G X .Mult gMulI := ⟨_, iop_mul, okI fun _ _ _ _ => .int _⟩
theorem q_fdiv : IpV G X .FloorDiv gFDiv := ⟨_, iop_fdiv, okI fun _ _ _ _ => .int _⟩
theorem q_mod : IpV G X .Mod gMod := ⟨_, iop_mod, okI fun _ _ _ _ => .int _⟩
theorem q_shl : IpV G X .LShift gShl := ⟨_, iop_shl, okI fun _ _ _ _ => .int _⟩
theorem q_shr : IpV G X .RShift gShr := ⟨_, iop_shr, okI fun _ _ _ _ => .int _⟩
theorem q_and : IpV G X .BitAnd gAnd := ⟨_, iop_and, okI0 fun _ _ _ _ => .int _⟩
theorem q_or : IpV G X .BitOr gOr := ⟨_, iop_or, okI0 fun _ _ _ _ => .int _⟩
theorem q_xor : IpV G X .BitXor gXor := ⟨_, iop_xor, okI0 fun _ _ _ _ => .int _⟩
def augO (i : Nat) (g : Vl → Vl → Option Vl) (d0 : PyData) (o : Opd) (ρ : Rho) : SO := match (look ρ o).bind (g (.dat d0)) with
  | some w => .nx (ρ.set i (some w))
  | none => .stk
def sAug (i : Nat) (g : Vl → Vl → Option Vl) (fe : FE) : FS := fun ρ => match look ρ (.brw i) with
  | some (.dat d0) => (fe ρ).bindS fun o ρ1 => augO i g d0 o ρ1
  | _ => .stk
theorem s_aug (q : IpV G X op g) (hN : X.N.Nodup) (hi : X.N[i]? = some x) (hx : Loc X.env.scope x) (hn : i < n) (hp : ioAt π i = false) (he : PE X e (tE G W fe))
    (hf : X.fn x = true ∨ X.env.scope.names.lookup x = some .local := by first | exact .inl rfl | exact .inr rfl | assumption) : PS X (.AugAssign (.Name x p2) op e pos) (tS G W n π (sAug i g fe)) := by
  obtain ⟨r, ho, ok⟩ := q.ex
  refine PS.imp (ps_aug hN hi hx he (ti := r) ho hf) fun D σ H ⟨ρ, P, F, nw, hl, h⟩ => ?_
  unfold sAug at h
  split at h
  · rename_i d0 e0
    obtain ⟨v, h1, h2⟩ := nw.rd i _ (join_some e0)
    have h2 : Dp G.K P v d0 := h2
    refine ⟨v, h1, tE_bindS nw hl h fun o ρ1 y P1 H1 F1 S h3 n1 s1 hy q1 _ => ?_⟩
    unfold augO at h3
    cases el : look ρ1 o with
    | none => rw [el] at h3; exact h3.elim
    | some a =>
      rw [el] at h3
      cases eg : g (.dat d0) a with
      | none => simp only [Option.bind_some, eg] at h3; exact h3.elim
      | some w =>
        simp only [Option.bind_some, eg] at h3
        refine ok P1 H1 v y (.dat d0) a w _ n1.ex ⟨nobody, dp_mono s1.ex _ _ h2⟩ (hy.look n1 el) eg fun z P2 H2 S2 al o2 => ?_
        exact h3 _ P2 H2 _ (now_set (al.now n1) (al.tmp n1 o2) (by omega)) (stp_set al.stp fun b hb => .inr (al.new b hb).1) (Kp.set hl hp)
  · exact h.elim
end
end Mi
end
section
set_option Elab.async false
set_option linter.all false
set_option maxRecDepth 100000
/-! Ev21: the law's own call -/
namespace Mi
open PySem PySem.Spec PyProof.Rows L2

theorem callerG {k : Nat} (h : Room k callerA) : RoomG k callerA := ⟨h, rfl⟩
/-- the abstract heap at the law's entry -/
structure Entry (K : PySem.W.Frag) (P : Program) (w : World) (H : Hp) (h : Heap) (a : Addr) (ns : List Int) : Prop where
  only : ∀ b, H b = none ∨ (b = a ∧ K.lookup a = none ∧ ∃ o xs, H b = some (.frz o (.lst xs)))
  seq : SqL K H a (ns.map V.int)
  ok : HOk P w H h
theorem entry_of {K : PySem.W.Frag} {P : Program} {w : World} {h : Heap} {a : Addr} {vs : List Value} {ns : List Int} (KX : K.In h) (ha : h.get? a = some { cls := .type "list", data := .seq vs.toArray }) (hi : IntsAre vs ns) (hl : ns.length ≤ sizeLine) :
    ∃ H, Entry K P w H h a ns := by
  have rv := vals_ints hi
  have lenV := hi.length
  cases hk : K.lookup a with
  | some o =>
    have e := KX a o hk
    rw [ha] at e
    cases e
    exact ⟨fun _ => none, fun _ => .inl rfl, .inr ⟨_, vs.toArray, _, hk, rfl, rfl, rfl, by rw [List.size_toArray, lenV]; exact hl, by simpa using rv⟩, fun b u z => by cases (show (none : Option HO) = some u from z)⟩
  | none =>
    classical
    have hz : (ns.map V.int).length ≤ sizeLine := by rw [List.length_map]; exact hl
    refine ⟨fun b => if b = a then some (.frz { cls := .type "list", data := .seq vs.toArray } (.lst (ns.map V.int))) else none, fun b => ?_, .inl (.inr ⟨_, if_pos rfl⟩), fun b u z => ?_⟩
    · by_cases hb : b = a
      · exact .inr ⟨hb, hk, _, _, if_pos hb⟩
      · exact .inl (if_neg hb)
    · by_cases hb : b = a
      · cases (if_pos hb).symm.trans z
        subst hb
        exact ⟨ha, hz, vs, _, rv, ha⟩
      · cases (if_neg hb).symm.trans z
theorem law_callG {P : Program} {w : World} {K : PySem.W.Frag} {mg mb : Str → Option Value} {k : Nat} {fa a : Addr} {fd : FuncData} {x : Str} {sp : Sp} {s1 : Shared} {vs : List Value} {ns : List Int}
    (KX : K.In s1.heap) (hns : s1.heap.Ns mainGlobals mg) (hb : s1.heap.Ns builtinsNs mb) (hbb : ∀ x : Str, x ≠ "__name__" → mb x = bootBuiltins x) (hlim : s1.heap.NoLimit) (hg : s1.gens = #[])
    (ha : s1.heap.get? a = some { cls := .type "list", data := .seq vs.toArray }) (hi : IntsAre vs ns) (hl : ns.length ≤ sizeLine) (hr : Room k callerA)
    (F : ∀ base : Heap, K.In base → base.Ns mainGlobals mg → FnG P w K mg base k fa fd [x] sp) (hbind : ∀ (s : Shared) (u : Value), BindsTo s fd ⟨[u], []⟩ [(x, u)])
    (hsp : ∀ H : Hp, SqL K H a (ns.map V.int) → sp [.ref a] H (fun v _ => v = .bl true) fun _ _ _ => False) :
    codeAny (model P w) callerA (.call (.ref fa) ⟨[.ref a], []⟩) (fun r s' => r = .ok (.ret (.bool true)) ∧ OldK s1.heap s'.heap ∧ s'.os = s1.os ∧ AllBare s'.gens) s1 := by
  obtain ⟨H, only, seq, ok⟩ := entry_of (P := P) (w := w) KX ha hi hl
  -- what is no list stays in sight
  have seen : ∀ {b : Addr} {o : Obj}, s1.heap.get? b = some o → (b = a → K.lookup a = none → False) → (hidT s1.heap H).get? b = some o := fun {b o} e q => hidT_get e ((only b).elim id fun z => (q z.1 z.2.1).elim)
  have ns2 : ∀ {b : Addr} {m : Str → Option Value}, s1.heap.Ns b m → (hidT s1.heap H).Ns b m := fun {b m} ⟨o, es, ep, e, d, r⟩ => ⟨o, es, ep, seen e (fun z _ => by
    rw [z, ha] at e
    cases e
    have d : Data.seq vs.toArray _ = Data.dict es ep := d
    cases d), d, r⟩
  have Kin : K.In (hidT s1.heap H) := fun b o e => seen (KX b o e) (fun z q => by rw [z, q] at e; cases e)
  obtain ⟨mc, lim1, lim2⟩ := hlim
  have M : Mod K mg (hidT s1.heap H) := ⟨Kin, ns2 hns, ⟨mb, ns2 hb, hbb⟩, mc, ns2 lim1, lim2⟩
  have noFr : ∀ b ∈ frs ([] : List Env), H b = none := fun b z => nomatch z
  have E0 : Env0 P w K mg (hidT s1.heap H) callerA [] s1 H := ⟨rfl, M, fun b o e => of_hidT e, Nat.le_of_eq (hidT_size _ _), trivial, noFr, ok, .of_eq hg⟩
  have run := (F _ Kin (ns2 hns)).run callerA [] s1 H _ [.ref a] [.ref a] _ _ (callerG hr) E0 (hbind s1 (.ref a)) (.cons rfl .nil) (hsp H seq)
  refine codeAny_mono run ?_
  intro r s2 out
  cases r with
  | error e =>
    obtain ⟨_, _, _, _, _, _, _, _, _, _, _, _, z⟩ := out
    exact z.elim
  | ok fl =>
    cases fl with
    | next => exact out.elim
    | brk => exact out.elim
    | cont => exact out.elim
    | ret u =>
    obtain ⟨v, H2, os, bare, un, ok2, rel, q⟩ := out
    have q : v = V.bl true := q
    subst q
    obtain rfl : u = Value.bool true := rel
    refine ⟨rfl, OldK.of_keep fun b o e => ?_, os, bare⟩
    rcases only b with z | ⟨_, _, ob, xs, z⟩
    · exact un.keep b o e z (fun q => nomatch q) (fun q => nomatch q)
    · have e1 := (ok b _ z).1
      have e2 := (ok2 b _ (un.frzs b ob _ z)).1
      rw [e] at e1
      cases e1
      exact e2
/-- the goal of the head, by the law's def -/
theorem walk_G {l : PySem.W.OpenLaw} {k : Nat} {q : Program} {loose : List Str} {XP : (Str → Option Value) → Heap → Prop} {YP : World → Heap → Prop} {d : DefRec} {K : Params → PySem.W.Frag} {ea cl : Params → Nat → Addr} {x : Str} {S : CSpec}
    (hn : l.most = some 63) (hdf : d.params.defaults = []) (hr : Room k callerA) (hY : ∀ (w : World) (h : Heap), YP w h → (K w.params).In h)
    (F : ∀ (w : World) (mg : Str → Option Value) (fa : Addr) (h : Heap), (K w.params).In h → h.Ns mainGlobals mg → mg d.name = some (.ref fa) →
      ∃ fd : FuncData, (∀ (s : Shared) (u : Value), BindsTo s fd ⟨[u], []⟩ [(x, u)]) ∧ ∀ base : Heap, (K w.params).In base → base.Ns mainGlobals mg → FnG l.prog w (K w.params) mg base k fa fd [x] (spV ⟨K w.params, w, ea w.params, cl w.params⟩ [false] S))
    (hS : ∀ ns : List Int, ns.length ≤ 63 → ∃ o, S [.dat (.list (ns.map .int))] = .ok (vB true) o) :
    PySem.W.WalkO q loose XP YP l.row.toRowW d [] (fun f vs => PySem.call f vs) := by
  refine Att.attach_call hn hdf fun w s0 s1 mg mb fa o pm cd doc a vs ns G Y ho hd hcd hmg hobj hints hlen hg => ?_
  have KX := hY w _ Y
  obtain ⟨fd, bd, prom⟩ := F w mg fa _ KX G.T.g hmg
  refine law_callG KX G.T.g G.T.b G.T.builtins G.T.nolimit hg hobj hints (by rw [sizeLine_eq]; omega) hr prom bd fun H sq => ?_
  obtain ⟨o, e⟩ := hS ns hlen
  refine ⟨[.dat (.list (ns.map .int))], H, fun _ => nobody, rfl, rfl, ⟨Same.refl H, fun _ _ _ z => z.elim, fun _ _ z => z.elim, fun _ _ z => z.elim, fun i w' h => ?_, fun _ _ _ z => z.elim⟩, fun _ _ z => z.elim, ?_⟩
  · cases i with
    | zero =>
      have h : some (some (Vl.dat (.list (ns.map .int)))) = some (some w') := h
      cases h
      exact ⟨_, rfl, Dp.lst sq ints_dpa⟩
    | succ i => simp at h
  · rw [e]
    intro v P' H' F' S n1 h2 s1 t src hl
    have h : Dp _ P' v (.bool true) := t.ow
    cases h
    rfl
end Mi
end
section
set_option Elab.async false
set_option linter.all false
set_option maxRecDepth 100000
set_option maxHeartbeats 2000000
/-! Ev20: walks of lists while an exception is handled -/
namespace MiH
open PySem PySem.Spec PyProof.Rows HotX
section
variable {prog : Program} {w : World} {A : Around} {E : Value → Shared → Prop} {s : Shared}
/-- the end of a list's walk, while x1 is handled -/
theorem list_end_hot {it l x1 : Addr} {i : Nat} {items : Array Value} {Q : Option Value → Shared → Prop} (hot : HotAt A x1 s.heap) (hne : x1 ≠ it) (hit : s.heap.IsListIter it l i) (hl : s.heap.IsList l items) (hx : items[i]? = none)
    (hQ : ∀ h', (∀ b o, b ≠ it → s.heap.get? b = some o → h'.get? b = some o) → Q none { s with heap := h' }) : wpAny (model prog w) A (pyNext (.ref it)) Q E s := by
  obtain ⟨o, ho, hc, hd⟩ := id hit
  obtain ⟨ol, hol, _, nl, hdl⟩ := hl
  obtain ⟨hh, o1, vs1, h1, d1, c1⟩ := hot
  have k0 : ∀ b u, b ≠ it → s.heap.get? b = some u → (s.heap.update it (Obj.mapFields (·.setIfInBounds 0 .none))).get? b = some u := fun b u hb e => (Heap.get?_update_other _ _ (Ne.symm hb)).trans e
  unfold pyNext
  refine wpAny_bind (wpAny_attempt (wpAny_callSpecial?_slot (name := Str.ofString "__next__") hit.typeIs slot_listiter_next (wpAny_call_entry slot_listiter_next hit.typeIs entry_listiter_next ?_ (args_listiter_next _))))
  show wpAny _ _ (field (.ref it) 0 >>= _) _ _ s
  refine wpAny_bind (wpAny_field ho hd (x := .ref l) rfl ?_)
  show wpAny _ _ (if (Value.ref l == Value.none) = true then _ else _) _ _ s
  rw [if_neg (show ¬ ((Value.ref l == Value.none) = true) from Bool.false_ne_true)]
  show wpAny _ _ (field (.ref it) 1 >>= _) _ _ s
  refine wpAny_bind (wpAny_field ho hd (x := .int i 0) rfl ?_)
  show wpAny _ _ (seqItems? (.ref l) >>= _) _ _ s
  refine wpAny_bind (wpAny_seqItems hol hdl ?_)
  simp only [Int.toNat_natCast, hx]
  refine wpAny_bind (wpAny_rule (wpAny_bind (wpAny_setField ho hd (by simp) ?_)))
  show wpAny _ _ (newExc (.type "StopIteration") [] >>= _) _ _ _
  refine wpAny_bind ?_
  simp only [newExc, newTuple]
  refine wpAny_bind (wpAny_newObj_type ?_ (by size_fits))
  refine wpAny_bind (m := firstArgMember _ _) (wpAny_of_eq (a := Value.none) (by first | rfl | (simp only [firstArgMember]; rfl)) ?_)
  refine wpAny_newObj_type ?_ (by size_fits)
  have g1 := Heap.get?_push_of_some (h := s.heap.update it (Obj.mapFields (·.setIfInBounds 0 .none))) { cls := .type "tuple", data := .seq #[] } (k0 x1 o1 hne h1)
  refine raiseNew_hot ⟨hh, o1, vs1, Heap.get?_push_of_some _ g1, d1, c1⟩ (Nat.ne_of_lt (Heap.lt_size g1)) (Heap.get?_push_size _ rfl) rfl (by first | (simp; done) | (simp; omega) | (simp only [Array.size_append]; simp; omega)) ?_
  refine wpAny_bind (wpAny_isInstance (T := "StopIteration") (b := true) ⟨_, Heap.get?_update_self _ (Heap.get?_push_size _ rfl) rfl, rfl⟩ isSubtype_stop ?_)
  refine wpAny_pure (hQ _ fun b o hb e => ?_)
  have g2 := Heap.get?_push_of_some (h := s.heap.update it (Obj.mapFields (·.setIfInBounds 0 .none))) { cls := .type "tuple", data := .seq #[] } (k0 b o hb e)
  rw [Heap.get?_update_other _ _ (Nat.ne_of_gt (Heap.lt_size g2))]
  exact Heap.get?_push_of_some _ g2
theorem walks_hot {x1 it l : Addr} (hne : l ≠ it) (hx : x1 ≠ it) (items : Array Value) :
    Walks prog w A it [it, l, x1] [it] items.size (fun i v => items[i]? = some v) (fun i h => h.IsListIter it l i ∧ h.IsList l items ∧ HotAt A x1 h) where
  sub := fun b hb => by simp at hb; simp [hb]
  frame := fun i h h' ⟨a, b, c⟩ k => ⟨a.at fun o e => k it (by simp) o e, b.at fun o e => k l (by simp) o e, c.1, by
    obtain ⟨o, vs, e, r⟩ := c.2
    exact ⟨o, vs, k x1 (by simp) o e, r⟩⟩
  item := fun i s Q E hi ⟨a, b, c⟩ hQ => by
    refine wpAny_pyNext_list_item a b (x := items[i]) (by simp [hi]) fun h' hit' hs' => ?_
    refine hQ _ h' s.toks (by simp [hi]) ⟨hit', b.extBut hs'.extBut hne, c.1, ?_⟩ fun b o hb e => hs'.extBut b o (fun h => hb (by simp [h])) e
    obtain ⟨o, vs, e, r⟩ := c.2
    exact ⟨o, vs, hs'.extBut x1 o hx e, r⟩
  done := fun s Q E ⟨a, b, c⟩ hQ => list_end_hot c hx a b (by simp) fun h' he' => hQ h' s.toks fun b o hb e => he' b o (fun h => hb (by simp [h])) e
  self := fun _ _ _ _ ⟨a, _⟩ hQ => wpAny_pyIter_listiter a hQ
theorem sum_hot {x1 l : Addr} {its : List Value} {ns : List Int} {Q : Value → Shared → Prop} (hot : HotAt A x1 s.heap) (hl : s.heap.IsList l its.toArray) (hi : IntsAre its ns)
    (h : ∀ h' tk t', (∀ b o, s.heap.get? b = some o → h'.get? b = some o) → Q (.int ns.sum t') { s with heap := h', toks := tk }) : wpAny (model prog w) A (call (.builtin "sum") [.ref l]) Q E s := by
  obtain ⟨xs, e⟩ := hi.allInts.items
  have hn : numsOf (intItems xs).toList = ns := by rw [← e]; exact hi.numsOf
  rw [nums_intItems] at hn
  rw [e] at hl
  refine call_sum_walkG (iter_intList hl fun s2 es st hfp hlI => ?_)
  subst es
  obtain ⟨hh, o1, vs1, h1, r1⟩ := hot
  have nx : x1 ≠ s.heap.objs.size := Nat.ne_of_lt (Heap.lt_size h1)
  refine ⟨_, _, _, _, _, _, numAt xs, rfl, walks_hot (A := A.in1) hlI nx (intItems xs), ⟨st.1, st.2, hh, o1, vs1, Heap.get?_push_of_some _ h1, r1⟩, fun b hb => ?_, (fun _ _ => intItems_at), fun h' tk t' hk => ?_⟩
  · rcases List.mem_cons.mp hb with rfl | hb
    · exact hfp _ (by simp)
    · rcases List.mem_cons.mp hb with rfl | hb
      · exact hfp _ (by simp)
      · obtain rfl : b = x1 := by simpa using hb
        rw [Heap.size_push]
        exact Nat.lt_succ_of_lt (Heap.lt_size h1)
  · have q := h h' tk t' (old_kept hk)
    have es : preSum (numAt xs) (intItems xs).size = ns.sum := by
      have : (intItems xs).size = xs.size := by simp [intItems]
      rw [this, preSum_eq, List.take_of_length_le (by simp), hn]
    rw [es]
    exact q
end
end MiH
end
section
set_option Elab.async false
set_option linter.all false
set_option maxRecDepth 100000
set_option maxHeartbeats 2000000
/-! Ev22: a list comprehension over a list while an exception is handled -/
namespace Mi
open PySem PySem.Spec PyProof.Rows L2
section
variable {X : Cx}
/-- what one item becomes -/
abbrev Each (te : TE) (k : Nat) (xs ys : List V) : Prop := xs.length = ys.length ∧ ∀ (i : Nat) (x y : V), xs[i]? = some x → ys[i]? = some y → ∀ (σ : L2.St) (H : Hp) (Q : VK), σ[k]? = some (some x) → Q y H → te σ H Q
theorem pe_lcHot {elt iter : Expr} {x : Str} {xp pos : Pos} {scope : Scope} {own : List (Str × Nat)} {k : Nat} {ti te : TE} (hot : L2H.HotC X) (hN : X.N.Nodup) (ok : BlkOk X.N X.env.scope scope own) (hk : k ∈ own.map (·.2)) (hkl : k < X.N.length) (hi : PE X iter ti)
    (hg : ∀ (s : Shared) (H : Hp) (C : Addr) (cl : List (Str × Addr)) (fp : List Addr), PG (X.blk s H scope (compEnvC scope cl C X.env) fp) (.Name x xp) (gName k))
    (he : ∀ (s : Shared) (H : Hp) (C : Addr) (cl : List (Str × Addr)) (fp : List Addr), PE (X.blk s H scope (compEnvC scope cl C X.env) fp) elt te) (hs : ∀ v, foldedSetIterable iter X.env v = pure v := by intro _; rfl) :
    PE X (.ListComp elt [⟨.Name x xp, iter, [], 0⟩] scope pos) (fun σ H Q => ti σ H fun v H1 => ∃ a xs ys, v = .ref a ∧ H1 a = some (.lst xs) ∧ Each te k xs ys ∧ xs.length ≤ 1000 ∧ ∀ p, H1 p = none → Q (.ref p) (upd H1 p (.lst ys))) := by
  constructor
  intro pins s σ H Q I h
  rw [eval_ListComp]
  have hfree : ∀ y ∈ scope.names, y.2 = .free → ∃ c, X.env.cells.lookup y.1 = some c := fun y hy e => (ok.free y hy e).elim (fun z => I.ok.has _ (.inl z)) fun z => I.ok.has _ (.inr z)
  refine wpAny_comprehension_free (use := none) rfl hs (closure_ok hfree) ok.kind (fun y hy e => by rw [ok.uniq y hy, e]) (thn (hi.run pins s σ H _ I h) ?_)
  rintro v1 s1 ⟨v, H1, I1, r1, a, xs, ys, rfl, hHa, ⟨hlen, hte⟩, hz, hq⟩
  obtain rfl : v1 = Value.ref a := r1
  obtain ⟨its, rv, pl, _⟩ := I1.list (SqL.of hHa)
  refine wpAny_pyIter_list pl.isList ?_
  generalize hIt : s1.heap.objs.size = it
  obtain ⟨p, ⟨hh, pv, pd, pc⟩, hp⟩ := id hot
  have P1 := I1.pin p (List.mem_append_left _ hp)
  have I2 : Inv X pins σ H1 { s1 with heap := s1.heap.push { cls := .type "list_iterator", data := .fields #[.ref a, .int 0 0] } } := I1.kept (t' := s1.toks) fun b o e => Heap.get?_push_of_some _ e
  have st2 : (s1.heap.push { cls := .type "list_iterator", data := .fields #[.ref a, .int 0 0] }).IsListIter it a 0 := ⟨_, by rw [← hIt]; exact Heap.get?_push_size _ rfl, rfl, rfl⟩
  have nIt : H1 it = none := by rw [← hIt]; exact I1.hok.fresh (Nat.le_refl _)
  have fIt : FpOk X pins H1 it := by rw [← hIt]; exact I1.fpOk (Nat.le_refl _) (I1.hok.fresh (Nat.le_refl _))
  have pIt : p.1 ≠ it := by rw [← hIt]; exact Nat.ne_of_lt (Heap.lt_size P1.1)
  have hsz : (s1.heap.push { cls := .type "list_iterator", data := .fields #[.ref a, .int 0 0] }).objs.size = it + 1 := by rw [Heap.size_push, hIt]
  generalize hs2 : ({ s1 with heap := s1.heap.push { cls := .type "list_iterator", data := .fields #[.ref a, .int 0 0] } } : Shared) = s2 at I2 ⊢
  have e2 : s2.heap = s1.heap.push { cls := .type "list_iterator", data := .fields #[.ref a, .int 0 0] } := by rw [← hs2]
  rw [← e2] at st2 hsz
  refine wpAny_newObj_type (newEnv_comp ?_) (by show 0 ≤ sizeLine; decide)
  generalize hD : s2.heap.objs.size = D
  have nD : H1 D = none := I2.hok.fresh (Nat.le_of_eq hD)
  have dIt : it ≠ D := by rw [← hD, hsz]; exact Nat.ne_of_lt (Nat.lt_succ_self _)
  have aD : a ≠ D := fun e => by rw [e, nD] at hHa; cases hHa
  generalize hs3 : ({ s2 with heap := s2.heap.push { cls := .type "list", data := .seq ([] : List Value).toArray } } : Shared) = s3
  have e3 : s3.heap = s2.heap.push { cls := .type "list", data := .seq ([] : List Value).toArray } := by rw [← hs3]
  have I3 : Inv X pins σ (upd H1 D (.lst [])) s3 := by
    rw [← hs3]
    exact I2.laid (t' := s2.toks) (fun b o e => Heap.get?_push_of_some _ e) (Nat.le_of_eq hD) ⟨Nat.zero_le _, [], 0, .nil, by rw [← hD]; exact Heap.get?_push_size _ rfl⟩
  have fp3 : ∀ b ∈ [it], FpOk X pins (upd H1 D (.lst [])) b ∧ b < s3.heap.objs.size := fun b hb => by
    obtain rfl : b = it := by simpa using hb
    refine ⟨⟨by rw [upd_ne dIt]; exact nIt, fIt.2⟩, by rw [e3, Heap.size_push, hsz]; omega⟩
  have I4 := block_start I3 ok hN fp3
  have pg := hg s3 (upd H1 D (.lst [])) s3.heap.objs.size (cellsFrom (s3.heap.objs.size + 1) scope.names (cloFrom X.env.cells scope.names [])) [it]
  have pe := he s3 (upd H1 D (.lst [])) s3.heap.objs.size (cellsFrom (s3.heap.objs.size + 1) scope.names (cloFrom X.env.cells scope.names [])) [it]
  have P3 := I3.pin p (List.mem_append_left _ hp)
  have pFr : p.1 ∉ frs X.stack := fun hm => (List.mem_cons.mp (I3.stkSub p.1 hm)).elim P3.2.2.1 P3.2.2.2.1
  show codeAny _ _ (.compStart (.ListComp elt [⟨.Name x xp, iter, [], 0⟩] scope pos) 0 (.ref it) (.ref D) (compEnvC scope (cellsFrom (s3.heap.objs.size + 1) scope.names (cloFrom X.env.cells scope.names [])) s3.heap.objs.size X.env)) (compPost (model X.prog X.w) X.A X.xe none (EP X pins σ Q) (.ref D) s3.heap.objs.size) { s3 with heap := pushCells (s3.heap.push { cls := .type "dict", data := .dict #[] }) scope.names }
  generalize hce : compEnvC scope (cellsFrom (s3.heap.objs.size + 1) scope.names (cloFrom X.env.cells scope.names [])) s3.heap.objs.size X.env = ce at I4 pg pe ⊢
  have cL : ce.locals = s3.heap.objs.size := by subst hce; rfl
  generalize hs4 : ({ s3 with heap := pushCells (s3.heap.push { cls := .type "dict", data := .dict #[] }) scope.names } : Shared) = s4 at I4 ⊢
  have st4 : s4.heap.IsListIter it a 0 := by
    rw [← hs4]
    exact st2.at fun o e => pushCells_keeps _ _ _ _ (Heap.get?_push_of_some _ (by rw [e3]; exact Heap.get?_push_of_some _ e))
  have hl : its.length = xs.length := rv.length.symm
  -- the list stays through the block
  have lst : ∀ (n : Nat), upd H1 D (.lst (ys.take n)) a = some (.lst xs) := fun n => by rw [upd_ne aD]; exact hHa
  have hotIn : ∀ {σ' : L2.St} {H' : Hp} {s' : Shared} {q : List (Addr × Obj)}, Inv (X.blk s3 (upd H1 D (.lst [])) scope ce [it]) q σ' H' s' → HotX.HotAt X.A p.1 s'.heap := fun {σ' H' s' q} J =>
    ⟨hh, p.2, pv, J.base.keep p.1 p.2 P3.1 P3.2.1 pFr (fun m => pIt (by simpa using m)), pd, pc⟩
  have stat : ∀ {σ' : L2.St} {H' : Hp} {s' : Shared}, Inv (X.blk s3 (upd H1 D (.lst [])) scope ce [it]) [] σ' H' s' → H' it = none → FpOk (X.blk s3 (upd H1 D (.lst [])) scope ce [it]) [] H' it := fun {σ' H' s'} J hn =>
    ⟨hn, (J.ok.exf it (by exact List.mem_cons_self)).1, J.ok.exfs it (by exact List.mem_cons_self), .inl (by exact List.mem_cons_self), fun y c e => (J.ok.exf it (by exact List.mem_cons_self)).2 y c e, fun q hq => absurd (show q ∈ ([] : List (Addr × Obj)) ++ [] from hq) (by simp)⟩
  have loop : codeAny (model X.prog X.w) X.A (.compLoop (.ListComp elt [⟨.Name x xp, iter, [], 0⟩] scope pos) 0 (.ref it) (.ref D) ce) (compPost (model X.prog X.w) X.A X.xe none (EP X pins σ Q) (.ref D) s3.heap.objs.size) s4 := by
    refine compLoop_any (fun n s' => ∃ i, n = xs.length - i ∧ i ≤ xs.length ∧ Inv (X.blk s3 (upd H1 D (.lst [])) scope ce [it]) [] (wipe σ (own.map (·.2))) (upd H1 D (.lst (ys.take i))) s' ∧ s'.heap.IsListIter it a i) ?_ xs.length ⟨0, rfl, Nat.zero_le _, by simpa using I4, st4⟩
    rintro n s5 ⟨i, rfl, hi, I5, st5⟩
    have itN : ∀ m, upd H1 D (.lst (ys.take m)) it = none := fun m => by rw [upd_ne dIt]; exact nIt
    obtain ⟨its5, rv5, pl5, _⟩ := I5.list (SqL.of (lst i))
    obtain ⟨f0, f1, f2, f3, f4, f5⟩ := stat I5 (itN i)
    by_cases hlt : i < xs.length
    · have hx : xs[i]? = some xs[i] := List.getElem?_eq_getElem hlt
      have hy : ys[i]? = some ys[i] := List.getElem?_eq_getElem (by omega)
      obtain ⟨u, hu, ru⟩ := rv5.get hx
      refine wpAny_pyNext_list_item st5 pl5.isList (x := u) (by simpa using hu) fun h' st' sb => ?_
      have I6 : Inv (X.blk s3 (upd H1 D (.lst [])) scope ce [it]) [] (wipe σ (own.map (·.2))) (upd H1 D (.lst (ys.take i))) { s5 with heap := h' } := I5.turned (t' := s5.toks) (fun b o hb e => (sb.2 b hb).trans e) f0 f1 f3 f4 f5
      obtain ⟨o', eo', c', d'⟩ := id st'
      refine go_of (s := { s5 with heap := h' }) eo' c' d' (by decide) ?_
      have I6' : Inv (X.blk s3 (upd H1 D (.lst [])) scope ce [it]) ([(it, o')]) (wipe σ (own.map (·.2))) (upd H1 D (.lst (ys.take i))) { s5 with heap := h' } := I6.pins_of fun q hq => by
        obtain rfl : q = (it, o') := by simpa using hq
        exact ⟨eo', f0, f1, f2, fun v z => by rw [d'] at z; cases z⟩
      refine thnF (pg.run _ _ _ _ xs[i] u _ I6' ru (by exact ⟨rfl, rfl⟩ : gName k xs[i] (wipe σ (own.map (·.2))) (upd H1 D (.lst (ys.take i))) fun σ2 H2 => σ2 = (wipe σ (own.map (·.2))).set k (some xs[i]) ∧ H2 = upd H1 D (.lst (ys.take i)))) ?_
      rintro _ s8 ⟨σ8, H8, I8, rfl, rfl⟩
      refine thnF (pts_nil.run (X := X.blk s3 (upd H1 D (.lst [])) scope ce [it]) _ s8 _ _ (fun b H' => b = true ∧ H' = upd H1 D (.lst (ys.take i))) I8 ⟨rfl, rfl⟩) ?_
      rintro b s9 ⟨H9, I9, rfl, rfl⟩
      rw [if_pos rfl]
      have kW : k < (wipe σ (own.map (·.2))).length := by rw [wipe_length, I.len]; exact hkl
      have rd := hte i xs[i] ys[i] hx hy _ (upd H1 D (.lst (ys.take i))) (fun v H' => v = ys[i] ∧ H' = upd H1 D (.lst (ys.take i))) (List.getElem?_set_self (l := wipe σ (own.map (·.2))) (a := some xs[i]) kW) ⟨rfl, rfl⟩
      refine thnF (pe.run _ s9 _ _ _ I9 rd) ?_
      rintro z s10 ⟨yv, H10, I10, r10, rfl, rfl⟩
      refine app_ok (X := X.blk s3 (upd H1 D (.lst [])) scope ce [it]) I10 upd_same (by rw [List.length_take, sizeLine_eq]; omega) r10 fun s11 I11 => ?_
      refine ⟨xs.length - (i + 1), by omega, i + 1, rfl, hlt, ?_, st'.at fun o e => ?_⟩
      · have e1 : upd (upd H1 D (.lst (ys.take i))) D (.lst (ys.take i ++ [ys[i]])) = upd H1 D (.lst (ys.take (i + 1))) := by
          rw [upd_upd, List.take_append_getElem]
        rw [e1] at I11
        refine (I11.pins_of (pins' := []) fun q hq => nomatch hq).weak (by rw [List.length_set]) fun j v e => ?_
        by_cases hj : k = j
        · subst hj
          have := (wipe_some e).2
          exact (this hk).elim
        · rw [List.getElem?_set_ne hj]; exact e
      · have := (I11.pin (it, o') (List.mem_append_right _ (by exact List.mem_cons_self))).1
        have e' : h'.get? it = some o := e
        rw [eo'] at e'
        cases e'
        exact this
    · have e : i = xs.length := by omega
      subst e
      refine MiH.list_end_hot (hotIn I5) pIt st5 pl5.isList (by have := rv5.length; simp; omega) fun h' eb => ?_
      have I6 : Inv (X.blk s3 (upd H1 D (.lst [])) scope ce [it]) [] (wipe σ (own.map (·.2))) (upd H1 D (.lst (ys.take xs.length))) { s5 with heap := h' } := I5.turned (t' := s5.toks) (fun b o hb e => eb b o hb e) f0 f1 f3 f4 f5
      have I7 : Inv X pins σ (upd H1 D (.lst (ys.take xs.length))) { s5 with heap := h' } := I3.call' (ch := [it]) I6.os I6.base I6.hok I6.bare fun b hb => ⟨(fp3 b hb).1.2.2.2.1, (fp3 b hb).1.2.1, (fp3 b hb).1.2.2.2.2.1, (fp3 b hb).1.2.2.2.2.2⟩
      obtain ⟨m, hn, _⟩ := I6.loc
      have hn : h'.Ns ce.locals m := hn
      rw [cL] at hn
      have fC := I3.fpOk (Nat.le_refl _) (show upd H1 D (.lst (ys.take xs.length)) s3.heap.objs.size = none by
        have z : upd H1 D (.lst (ys.take xs.length)) ce.locals = none := I6.free
        rw [cL] at z
        exact z)
      obtain ⟨g0, g1, g2, g3, g4, g5⟩ := fC
      refine ⟨m, hn, fun h2 sb2 => ⟨.ref D, _, I7.turned (s := { s5 with heap := h' }) (t' := s5.toks) (fun b o hb e => (sb2.2 b hb).trans e) g0 g1 g3 g4 g5, rfl, ?_⟩⟩
      have := hq D nD
      rw [List.take_of_length_le (by omega)]
      exact this
  exact codeAny_compStart_list loop (wpAny_pyIter_listiter st4 loop)
end
end Mi
end
section
set_option Elab.async false
set_option linter.all false
set_option maxRecDepth 100000
set_option maxHeartbeats 2000000
/-! Ev23: the def that names an exception -/
namespace Mi
open PySem PySem.Spec PyProof.Rows L2
theorem err_def {P : Program} {G : Glb} {mg : Str → Option Value} {base : Heap} {k : Nat} {nm y : Str} {st : Stmt} {N : List Str} {r : Nat → Option Str} (d : Def G mg nm st [y]) (S : FnScope N [y] (defScope st))
    (body : ∀ (f : Addr) (cdv : Value) (A : Around) (outer : List Env) (s : Shared) (H : Hp) (E : XK) (Q : VK) (p : Addr × Obj) (c : Nat) (t : Str), L2H.RoomH k (A.deeper (envOfC nm (defScope st) s.heap.objs.size f cdv)) → L2H.Hot1 A p → L2N.Zn (.ref (G.ea c)) none p.2 → r c = some t → (∀ H', Same H H' → Q (.str t) H') →
      ∃ tt, PSs (L2H.cxH (L2N.CX P G.w) P G.w G.K mg base N nm (defScope st) f cdv A outer s H E p) (defBody st) tt ∧ tt { nx := fun _ H' => Q .non H', rt := Q } (L2.start N [.ref p.1]) H) : ErrF P G mg base (k + 1) nm r := by
  obtain ⟨f, fd, Fn, hm, hk, hb⟩ := d.ex
  obtain ⟨oc, od, kV, doc, pm, an, cdv, ct, osl, rfl, lk, hcd⟩ := Fn.ex
  refine ⟨f, _, y, hm, hk, hb, ?_⟩
  intro A outer s H args Q E p c t room hot pin env bind hz hr hq
  have keepB : ∀ b o, base.get? b = some o → s.heap.get? b = some o := fun b o q => (env.bs b o q).1
  have KH : G.K.In s.heap := env.mod.kin.keeps keepB
  have noLim : s.heap.NoLimit := env.mod.nolimit.keeps keepB
  have kinds : ∀ z ∈ [y].zip [Value.ref p.1], (defScope st).names.lookup z.1 = some .local ∨ ((defScope st).names.lookup z.1 = some .cell ∧ ((cellsFrom (s.heap.objs.size + 1) (defScope st).names []).lookup z.1).isSome = true) := by
    rintro ⟨m, v⟩ hy
    rcases S.par m (List.of_mem_zip hy).1 with q | q
    · exact .inl q
    · exact .inr ⟨q, PySem.W.cellsFrom_some _ _ _ (.inl q)⟩
  refine codeAny_call_function room.depth (KH _ _ lk) rfl S.co S.gen rfl (PySem.W.codeRec_of KH hcd) ?_
  refine bind _ _ _ _ (wpAny_newFunctionEnv_cells S.kind kinds ?_)
  rintro _ rfl s1 x
  refine ⟨noLim.keeps x.toInCall.keep, codeAny_func ?_⟩
  obtain ⟨tt, bodyOk, rd⟩ := body f cdv A outer s H E Q p c t (room.deeper _) hot hz hr hq
  have I0 := L2H.inv_startH (CX := L2N.CX P G.w) (E := E) (mg := mg) (cd := cdv) (qual := nm) (f := f) (vs := [V.ref p.1]) S pin env rfl (.cons rfl .nil) x
  refine wpAny_mono (bodyOk.run [] s1 _ H _ I0 rd) (fun fl s' out => ?_) fun _ _ z => z
  cases fl with
  | brk => obtain ⟨_, _, _, z⟩ := out; exact z.elim
  | cont => obtain ⟨_, _, _, z⟩ := out; exact z.elim
  | next =>
    obtain ⟨σ', H', J, q⟩ := out
    exact ⟨V.non, H', J.os, J.bare, J.base, J.hok, rfl, q⟩
  | ret u =>
    obtain ⟨v, σ', H', J, rel, q⟩ := out
    exact ⟨v, H', J.os, J.bare, J.base, J.hok, rel, q⟩
section
variable {X : Cx}
theorem hotC_of {A : Around} {p : Addr × Obj} (hot : L2H.Hot1 A p) (hA : X.A.handled = A.handled) (hp : p ∈ X.pn) : L2H.HotC X := ⟨p, ⟨by rw [hA]; exact hot.1, hot.2⟩, hp⟩
theorem cr_isH {p : Addr × Obj} {D : Addr} (hp : p ∈ X.pn) (C : ExcC X.K D) (hz : L2N.Zn (.ref D) none p.2) (hf : ∃ vs, p.2.data = .fields vs) : CallR X (.builtin "isinstance") (rIsE X.K D p.1) := by
  intro pins s σ H xs us Q I r h
  obtain ⟨c, cv, b, rfl, hcv, e, q⟩ := h
  obtain ⟨u, u', rfl, ru, ru'⟩ := Vals.two r
  obtain rfl : u = Value.ref p.1 := ru
  obtain rfl := hcv _ ru'
  have hget := (I.pin p (List.mem_append_left _ hp)).1
  obtain ⟨vs, hv⟩ := hf
  have J : PySem.W.InstAt s.heap p.1 p.2 D none := by
    obtain ⟨pa, oc, od, oda, osl⟩ := p
    obtain ⟨h1, h2, _⟩ := hz
    dsimp only at h1 h2 hv
    subst h1 h2 hv
    exact ⟨hget, rfl, rfl, trivial⟩
  exact PySem.W.kia_one (PySem.W.handS_kitx_exc C.hg C.hk C.hs C.hd C.ha C.hn C.ht C.hm) I.kIn J e (fun z => nomatch z) fun tk => ⟨.bl b, H, I.kept (t' := tk) fun _ _ z => z, rfl, q⟩
theorem cr_sumH (hot : L2H.HotC X) : CallR X (.builtin "sum") (rSum X.K) := by
  intro pins s σ H vs us Q I r h
  obtain ⟨a, ns, rfl, hs, q⟩ := h
  obtain ⟨its, rv, hl, _⟩ := I.list hs
  obtain ⟨x1, at1⟩ := hot.at I
  rw [Vals.ref1 r]
  exact MiH.sum_hot at1 hl.isList rv.ints fun h' tk t' hk => ⟨.int _, H, I.kept hk, ⟨_, rfl⟩, q⟩
end
/-- the text of the class with the number c -/
def errR : Nat → Option Str
  | 1 => some "refused"
  | 2 => some "form"
  | 3 => some "missing"
  | 4 => some "alike"
  | 5 => some "wrong"
  | _ => none
def rInt1 : List V → Hp → VK → Prop := fun xs H Q => (∃ i, xs = [.int i] ∧ Q (.int i) H) ∨ ∃ k, xs = [.bl k] ∧ Q (.int (if k then 1 else 0)) H
abbrev tIs (K : PySem.W.Frag) (D a C : Addr) : TE := tCB (rIsE K D a) (tCons (tVar 0) (tCons (tC (.ref C)) tNil))
theorem is_rd {K : PySem.W.Frag} {D a C : Addr} {b : Bool} {σ : L2.St} {H : Hp} {Q : VK} (hs : σ[0]? = some (some (.ref a))) (e : PySem.W.kitOne K (.ref D) (.ref C) = some b) (q : Q (.bl b) H) : tIs K D a C σ H Q :=
  ⟨_, hs, _, _, b, rfl, fun _ r => r, e, q⟩
theorem err_rd {K : PySem.W.Frag} {ea : Nat → Addr} {a : Addr} {c : Nat} {t : Str} {H : Hp} {D : Ends} (hr : errR c = some t) (e : ∀ i j, i < 6 → j < 6 → 0 < i → 0 < j → PySem.W.kitOne K (.ref (ea i)) (.ref (ea j)) = some (decide (i = j))) (hq : ∀ H', Same H H' → D.rt (.str t) H') :
    tSeq (tAsg (tLst (tCons (tIs K (ea c) a (ea 1)) (tCons (tIs K (ea c) a (ea 3)) (tCons (tIs K (ea c) a (ea 5)) (tCons (tIs K (ea c) a (ea 2)) (tCons (tIs K (ea c) a (ea 4)) tNil)))))) (gName 1))
      (tSeq (tIfS (tTest (tOp rNe (tCB (rSum K) (tCons (fun σ H Q => tVar 1 σ H fun v H1 => ∃ a xs ys, v = .ref a ∧ H1 a = some (.lst xs) ∧ Each (tCB rInt1 (tCons (tVar 2) tNil)) 2 xs ys ∧ xs.length ≤ 1000 ∧ ∀ p, H1 p = none → Q (.ref p) (upd H1 p (.lst ys))) tNil)) (tC (.int 1)))) (tRet (tC (.str "odd"))) tNext)
        (tRet (tOp (rIxL K) (tLst (tCons (tC (.str "refused")) (tCons (tC (.str "missing")) (tCons (tC (.str "wrong")) (tCons (tC (.str "form")) (tCons (tC (.str "alike")) tNil)))))) (tBM K "list" (rIndex K) (tVar 1) (tCons (tC (.bl true)) tNil))))) D [some (.ref a), none, none] H := by
  have hc : c < 6 ∧ 0 < c := by
    unfold errR at hr
    split at hr <;> first | exact ⟨by decide, by decide⟩ | cases hr
  refine is_rd rfl (e c 1 hc.1 (by decide) hc.2 (by decide)) (is_rd rfl (e c 3 hc.1 (by decide) hc.2 (by decide)) (is_rd rfl (e c 5 hc.1 (by decide) hc.2 (by decide)) (is_rd rfl (e c 2 hc.1 (by decide) hc.2 (by decide)) (is_rd rfl (e c 4 hc.1 (by decide) hc.2 (by decide)) ⟨by simp [sizeLine_eq], fun l hl => ?_⟩))))
  refine ⟨.ref l, rfl, l, _, ([decide (c = 1), decide (c = 3), decide (c = 5), decide (c = 2), decide (c = 4)].map fun b : Bool => V.int (if b then 1 else 0)), rfl, upd_same, ⟨rfl, fun i x y h1 h2 σ' H' Q' h3 h4 => ?_⟩, by simp, fun m hm => ?_⟩
  · have hx : ∃ b : Bool, x = V.bl b ∧ y = V.int (if b then 1 else 0) := by
      match i, h1, h2 with
      | 0, h1, h2 => exact ⟨_, (Option.some.inj h1).symm, (Option.some.inj h2).symm⟩
      | 1, h1, h2 => exact ⟨_, (Option.some.inj h1).symm, (Option.some.inj h2).symm⟩
      | 2, h1, h2 => exact ⟨_, (Option.some.inj h1).symm, (Option.some.inj h2).symm⟩
      | 3, h1, h2 => exact ⟨_, (Option.some.inj h1).symm, (Option.some.inj h2).symm⟩
      | 4, h1, h2 => exact ⟨_, (Option.some.inj h1).symm, (Option.some.inj h2).symm⟩
    obtain ⟨b, rfl, rfl⟩ := hx
    exact ⟨_, h3, .inr ⟨b, rfl, h4⟩⟩
  · have ne : l ≠ m := fun z => by rw [← z, upd_same] at hm; cases hm
    have hm0 : H m = none := by rw [upd_ne (Ne.symm ne)] at hm; exact hm
    refine ⟨m, [decide (c = 1), decide (c = 3), decide (c = 5), decide (c = 2), decide (c = 4)].map fun b : Bool => if b then 1 else 0, rfl, SqL.of (by rw [upd_same]; rfl), ?_⟩
    have sum1 : ([decide (c = 1), decide (c = 3), decide (c = 5), decide (c = 2), decide (c = 4)].map fun b : Bool => (if b then 1 else 0 : Int)).sum = 1 := by
      have : c = 1 ∨ c = 2 ∨ c = 3 ∨ c = 4 ∨ c = 5 := by omega
      rcases this with rfl | rfl | rfl | rfl | rfl <;> decide
    rw [sum1]
    refine ⟨rfl, _, rfl, ?_⟩
    have eB : (!decide (V.int 1 = V.int 1)) = false := by simp
    rw [eB]
    dsimp only []
    rw [if_neg Bool.false_ne_true]
    refine ⟨by simp [sizeLine_eq], fun n hn => ?_⟩
    have s1 : Same H (upd (upd (upd H l (.lst [.bl (decide (c = 1)), .bl (decide (c = 3)), .bl (decide (c = 5)), .bl (decide (c = 2)), .bl (decide (c = 4))])) m (.lst ([decide (c = 1), decide (c = 3), decide (c = 5), decide (c = 2), decide (c = 4)].map fun b : Bool => V.int (if b then 1 else 0)))) n (.lst [.str "refused", .str "missing", .str "wrong", .str "form", .str "alike"])) :=
      ((same_upd hl).trans (same_upd hm)).trans (same_upd hn)
    have hlm : (upd (upd (upd H l (.lst [.bl (decide (c = 1)), .bl (decide (c = 3)), .bl (decide (c = 5)), .bl (decide (c = 2)), .bl (decide (c = 4))])) m (.lst ([decide (c = 1), decide (c = 3), decide (c = 5), decide (c = 2), decide (c = 4)].map fun b : Bool => V.int (if b then 1 else 0)))) n (.lst [.str "refused", .str "missing", .str "wrong", .str "form", .str "alike"])) l = some (.lst [.bl (decide (c = 1)), .bl (decide (c = 3)), .bl (decide (c = 5)), .bl (decide (c = 2)), .bl (decide (c = 4))]) :=
      same_upd hn l _ (same_upd hm l _ upd_same)
    refine ⟨.ref l, rfl, .inl ⟨rfl, _, SqL.of hlm⟩, ?_⟩
    have fin : ∀ (j : Nat) (s : Str), ([.str "refused", .str "missing", .str "wrong", .str "form", .str "alike"] : List V)[j]? = some (.str s) → j < 5 → s = t →
        rIxL K (.ref n) (.int (j : Nat)) (upd (upd (upd H l (.lst [.bl (decide (c = 1)), .bl (decide (c = 3)), .bl (decide (c = 5)), .bl (decide (c = 2)), .bl (decide (c = 4))])) m (.lst ([decide (c = 1), decide (c = 3), decide (c = 5), decide (c = 2), decide (c = 4)].map fun b : Bool => V.int (if b then 1 else 0)))) n (.lst [.str "refused", .str "missing", .str "wrong", .str "form", .str "alike"])) D.rt := fun j s hj hlt hs => by
      refine ⟨n, _, (j : Nat), .str s, rfl, rfl, SqL.of upd_same, ?_, by rw [hs]; exact hq _ s1⟩
      have e5 : ixN 5 (j : Int) = some j := by
        unfold ixN
        rw [if_pos (Int.natCast_nonneg _), if_pos (by omega), Int.toNat_natCast]
      unfold atI
      show (ixN 5 (j : Int)).bind _ = _
      rw [e5]
      exact hj
    have : c = 1 ∨ c = 2 ∨ c = 3 ∨ c = 4 ∨ c = 5 := by omega
    rcases this with rfl | rfl | rfl | rfl | rfl
    · cases hr; exact ⟨l, _, .bl true, 0, .bl true, rfl, rfl, SqL.of hlm, rfl, rfl, rfl, rfl, fun q z h => by omega, fin 0 _ rfl (by decide) rfl⟩
    · cases hr; exact ⟨l, _, .bl true, 3, .bl true, rfl, rfl, SqL.of hlm, rfl, rfl, rfl, rfl, fun q z h e => by
        match q, h, e with
        | 0, _, e => cases e; rfl
        | 1, _, e => cases e; rfl
        | 2, _, e => cases e; rfl, fin 3 _ rfl (by decide) rfl⟩
    · cases hr; exact ⟨l, _, .bl true, 1, .bl true, rfl, rfl, SqL.of hlm, rfl, rfl, rfl, rfl, fun q z h e => by
        match q, h, e with
        | 0, _, e => cases e; rfl, fin 1 _ rfl (by decide) rfl⟩
    · cases hr; exact ⟨l, _, .bl true, 4, .bl true, rfl, rfl, SqL.of hlm, rfl, rfl, rfl, rfl, fun q z h e => by
        match q, h, e with
        | 0, _, e => cases e; rfl
        | 1, _, e => cases e; rfl
        | 2, _, e => cases e; rfl
        | 3, _, e => cases e; rfl, fin 4 _ rfl (by decide) rfl⟩
    · cases hr; exact ⟨l, _, .bl true, 2, .bl true, rfl, rfl, SqL.of hlm, rfl, rfl, rfl, rfl, fun q z h e => by
        match q, h, e with
        | 0, _, e => cases e; rfl
        | 1, _, e => cases e; rfl, fin 2 _ rfl (by decide) rfl⟩
end Mi
end
section
set_option Elab.async false
set_option linter.all false
set_option maxRecDepth 100000
/-! Ev24: from the facts of the head to defs and classes -/
namespace Mi
open PySem PySem.Spec PyProof.Rows L2
section
variable {K : PySem.W.Frag} {h : Heap} {mg : Str → Option Value} {G : Glb}
theorem def_in {name : Str} {st : Stmt} {ps : List Str} {f : Addr} {oc kV doc pm cdv ct : Value} {od an : Option Addr} {osl : Array (Option Value)} (KX : G.K.In h) (NS : h.Ns mainGlobals mg) (a : PySem.W.nsIn G.K mainGlobals name = some (some (.ref f)))
    (l : G.K.lookup f = some ⟨oc, od, .func (PySem.W.fnOf name name (defArgs st) (defBody st) (defScope st) .none kV doc pm an cdv ct), osl⟩) (c : PySem.W.codeIn G.K cdv name = true) (k : PySem.W.keepIn G.K (.ref f) = true)
    (b : ∀ (kV doc pm : Value) (an : Option Addr) (cdv ct : Value) (us : List Value), us.length = ps.length → bindArgs (PySem.W.fnOf name name (defArgs st) (defBody st) (defScope st) .none kV doc pm an cdv ct) ⟨us, []⟩ = pure (ps.zip us)) : Def G mg name st ps :=
  ⟨f, _, fun_mk l c k, PySem.W.mg_of KX NS a, k, (fun_mk l c k).binds b⟩
/-- the classes' places -/
def eaOf (a b c d e f : Addr) : Nat → Addr
  | 0 => a
  | 1 => b
  | 2 => c
  | 3 => d
  | 4 => e
  | _ => f
theorem exc_in {x : Str} {C : Addr} (KX : K.In h) (NS : h.Ns mainGlobals mg) (a : PySem.W.nsIn K mainGlobals x = some (some (.ref C))) (e : PySem.W.excIn K C bmV "ValueError.__new__" = true) (k : PySem.W.keepIn K (.ref C) = true)
    (b : PySem.W.subIn K (.ref C) (.type "BaseException") = some true) (t : PySem.W.typeIn K (.ref C) = some (.type "type")) : Exc1 K mg x C := ⟨PySem.W.mg_of KX NS a, e, k, b, t⟩
theorem kit_same {t : Value} : PySem.W.kitOne K t t = some true := by
  unfold PySem.W.kitOne
  rw [if_pos (beq_self_eq_true t)]
/-- the names that stand for built-ins -/
theorem nog_in {l : List Str} (KX : K.In h) (NS : h.Ns mainGlobals mg) (z : ∀ x, l.contains x = true → PySem.W.nsIn K mainGlobals x = some none) : NoG mg l := ⟨fun x hx => PySem.W.mg_none_of KX NS (z x hx)⟩
theorem nog_nil {P : Str → Prop} : ∀ x, ([] : List Str).contains x = true → P x := fun x h => by simp at h
theorem nog_cons {P : Str → Prop} {y : Str} {l : List Str} (h : P y) (t : ∀ x, l.contains x = true → P x) : ∀ x, (y :: l).contains x = true → P x := fun x hx => by
  rw [List.contains_cons, Bool.or_eq_true] at hx
  rcases hx with e | e
  · rw [beq_iff_eq.mp e]; exact h
  · exact t x e
end
end Mi
namespace Mi
open PySem PySem.Spec PyProof.Rows L2
theorem kit_no {K : PySem.W.Frag} {C D : Addr} (ne : C ≠ D) (hd : PySem.W.hasDictIn K D = true) (t : PySem.W.typeIn K (.ref D) = some (.type "type")) (s : PySem.W.subIn K (.ref C) (.ref D) = some false) : PySem.W.kitOne K (.ref C) (.ref D) = some false := by
  obtain ⟨cd, hc, _⟩ := PySem.W.any_some hd
  have e1 : (Value.ref C == Value.ref D) = false := beq_eq_false_iff_ne.mpr fun e => ne (Value.ref.inj e)
  have e2 : ((PySem.W.clsIn K D).isSome && PySem.W.typeIn K (.ref D) == some (.type "type")) = true := by rw [hc, t]; rfl
  unfold PySem.W.kitOne
  rw [e1, if_neg Bool.false_ne_true]
  show (if ((PySem.W.clsIn K D).isSome && PySem.W.typeIn K (.ref D) == some (.type "type")) = true then PySem.W.subIn K (.ref C) (.ref D) else none) = some false
  rw [if_pos e2]
  exact s
end Mi
namespace Mi
open PySem
theorem nd_ne {l : List Addr} (h : l.Nodup) (i j : Nat) {a b : Addr} (ha : l[i]? = some a) (hb : l[j]? = some b) (ne : i ≠ j) : a ≠ b := fun e => by
  subst e
  obtain ⟨h1, e1⟩ := List.getElem?_eq_some_iff.mp ha
  obtain ⟨h2, e2⟩ := List.getElem?_eq_some_iff.mp hb
  exact ne ((List.getElem_inj h).mp (e1.trans e2.symm))
end Mi
end
section
set_option Elab.async false
set_option linter.all false
set_option maxRecDepth 100000
/-! Ev30: how an evaluator is evaluated -/
namespace Mi
open PySem
section
variable {α β : Type} {a : α} {ρ : Rho} {c i n : Nat} {w : Vl} {d : PyData} {ws : List Vl}
theorem bind_ok {k : α → Rho → Out β} : (Out.ok a ρ).bind k = k a ρ := rfl
theorem bind_exc {k : α → Rho → Out β} : (Out.exc c ρ : Out α).bind k = .exc c ρ := rfl
theorem bind_stk {k : α → Rho → Out β} : (Out.stk : Out α).bind k = .stk := rfl
theorem bindS_ok {k : α → Rho → SO} : (Out.ok a ρ).bindS k = k a ρ := rfl
theorem bindS_exc {k : α → Rho → SO} : (Out.exc c ρ : Out α).bindS k = .exc c ρ := rfl
theorem bindS_stk {k : α → Rho → SO} : (Out.stk : Out α).bindS k = .stk := rfl
theorem ret_some : Mi.ret ρ (some w) = .ok (.val w) ρ := rfl
theorem look_val : look ρ (.val w) = some w := rfl
theorem look_brw : look ρ (.brw i) = (ρ[i]?).join := rfl
theorem fC_ev : fC d ρ = .ok (.val (.dat d)) ρ := rfl
theorem fV_dat (h : ρ[i]? = some (some (.dat d))) : fV i ρ = .ok (.val (.dat d)) ρ := by unfold fV; rw [h]; rfl
theorem setO_val : setO i (.val w) ρ = .nx (ρ.set i (some w)) := rfl
theorem retO_val : retO (.val w) ρ = .ret w ρ := rfl
theorem aNil_ev : aNil ρ = .ok [] ρ := rfl
theorem cT_ev : cT ρ = .ok true ρ := rfl
theorem sSeq_ev {f g : FS} : sSeq f g ρ = match f ρ with
  | .nx ρ1 => g ρ1
  | r => r := rfl
theorem gd_true {p : Prop} (h : p) : gd p w = some w := gd_pos h
theorem iop_ev {C : Int → Int → Prop} {g : Int → Int → PyData} {i j : Int} (h : C i j) : iop C g (.dat (.int i)) (.dat (.int j)) = some (.dat (g i j)) := gd_pos h
theorem boO_ev {b : Bool} : boO ρ (.val (vB b)) = .ok b ρ := rfl
theorem frz1_dat : frz1 ρ (.val (.dat d)) = some (d, ρ) := rfl
theorem frz1_ml {ds : List PyData} : frz1 ρ (.val (.ml ds)) = some (.list ds, ρ) := rfl
theorem bN_ev : bN i d ρ = some (ρ.set i (some (.dat d))) := rfl
theorem gEq_of {a b : Vl} {d e : PyData} (h1 : viewD a = some d) (h2 : viewD b = some e) (s1 : shp d) (s2 : shp e) : gEq a b = some (vB (PyData.eqv d e)) := by
  unfold gEq orG
  have hD : gEqD a b = some (vB (PyData.eqv d e)) := by
    unfold gEqD
    rw [h1, h2]
    exact gd_pos ⟨s1, s2⟩
  cases q : gEqS a b with
  | none => exact hD
  | some w =>
    unfold gEqS at q
    split at q
    · cases q
      cases h1
      cases h2
      rename_i i j
      simp [PyData.eqv, Bool.beq_eq_decide_eq]
    · cases q
theorem gNe_of {a b : Vl} {d e : PyData} (h1 : viewD a = some d) (h2 : viewD b = some e) (s1 : shp d) (s2 : shp e) : gNe a b = some (vB (!PyData.eqv d e)) := by
  unfold gNe orG
  have hD : gNeD a b = some (vB (!PyData.eqv d e)) := by
    unfold gNeD
    rw [h1, h2]
    exact gd_pos ⟨s1, s2⟩
  cases q : gNeS a b with
  | none => exact hD
  | some w =>
    unfold gNeS at q
    split at q
    · cases q
      cases h1
      cases h2
      rename_i i j
      simp [PyData.eqv, Bool.beq_eq_decide_eq]
    · cases q
theorem gEq_int {i j : Int} : gEq (.dat (.int i)) (.dat (.int j)) = some (vB (decide (i = j))) := by
  rw [gEq_of (d := .int i) (e := .int j) rfl rfl rfl rfl]
  simp [PyData.eqv, Bool.beq_eq_decide_eq]
theorem gNe_int {i j : Int} : gNe (.dat (.int i)) (.dat (.int j)) = some (vB (!decide (i = j))) := by
  rw [gNe_of (d := .int i) (e := .int j) rfl rfl rfl rfl]
  simp [PyData.eqv, Bool.beq_eq_decide_eq]
theorem gEq_str {i j : PySem.Str} : gEq (.dat (.str i)) (.dat (.str j)) = some (vB (decide (i = j))) := rfl
theorem gNe_str {i j : PySem.Str} : gNe (.dat (.str i)) (.dat (.str j)) = some (vB (!decide (i = j))) := rfl
theorem int_view {i : Int} : viewD (.dat (.int i)) = some (.int i) := rfl
end
end Mi
end
section
set_option Elab.async false
set_option linter.all false
set_option maxRecDepth 100000
/-! Ev31: loops and comprehensions, evaluated -/
namespace Mi
open PySem
section
variable {b : FB} {body : FS} {c : FT}
theorem forL_step {d : PyData} {ds : List PyData} {ρ ρ1 : Rho} (e1 : b d ρ = some ρ1) : forL b body (d :: ds) ρ = match body ρ1 with
      | .nx ρ2 => forL b body ds ρ2
      | .ct ρ2 => forL b body ds ρ2
      | .bk ρ2 => .nx ρ2
      | .ret w ρ2 => .ret w ρ2
      | .exc c ρ2 => .exc c ρ2
      | .stk => .stk := by
  show (match b d ρ with
    | none => SO.stk
    | some ρ1 => _) = _
  rw [e1]
  all_goals rfl
theorem forL_inv (Inv : Nat → Rho → Prop) (Post : Rho → Prop) {ds : List PyData} {ρ : Rho} (h : Inv 0 ρ)
    (st : ∀ (k : Nat) (d : PyData) (ρ : Rho), ds[k]? = some d → Inv k ρ → ∃ ρ1, b d ρ = some ρ1 ∧ ((∃ ρ2, (body ρ1 = .nx ρ2 ∨ body ρ1 = .ct ρ2) ∧ Inv (k + 1) ρ2) ∨ ∃ ρ2, body ρ1 = .bk ρ2 ∧ Post ρ2)) :
    ∃ ρ', forL b body ds ρ = .nx ρ' ∧ (Inv ds.length ρ' ∨ Post ρ') := by
  have go : ∀ (es : List PyData) (k : Nat) (ρ : Rho), Inv k ρ → (∀ j, es[j]? = ds[k + j]?) → ∃ ρ', forL b body es ρ = .nx ρ' ∧ (Inv (k + es.length) ρ' ∨ Post ρ') := by
    intro es
    induction es with
    | nil => intro k ρ h _; exact ⟨ρ, rfl, .inl h⟩
    | cons d es ih =>
      intro k ρ h e
      obtain ⟨ρ1, e1, r⟩ := st k d ρ (by have := e 0; simpa using this.symm) h
      have unf := forL_step (body := body) (ds := es) e1
      rcases r with ⟨ρ2, e2, i2⟩ | ⟨ρ2, e2, p2⟩
      · obtain ⟨ρ', e3, r3⟩ := ih (k + 1) ρ2 i2 fun j => by have := e (j + 1); rw [show k + 1 + j = k + (j + 1) from by omega]; simpa using this
        refine ⟨ρ', ?_, ?_⟩
        · rw [unf]
          rcases e2 with e2 | e2 <;> rw [e2] <;> exact e3
        · rw [List.length_cons]
          rcases r3 with r3 | r3
          · exact .inl (by rw [show k + (es.length + 1) = k + 1 + es.length from by omega]; exact r3)
          · exact .inr r3
      · exact ⟨ρ2, by rw [unf, e2], .inr p2⟩
  obtain ⟨ρ', h1, h2⟩ := go ds 0 ρ h fun j => by rw [Nat.zero_add]
  exact ⟨ρ', h1, by simpa using h2⟩
/-- without a way out -/
theorem forL_all (Inv : Nat → Rho → Prop) {ds : List PyData} {ρ : Rho} (h : Inv 0 ρ) (st : ∀ (k : Nat) (d : PyData) (ρ : Rho), ds[k]? = some d → Inv k ρ → ∃ ρ1 ρ2, b d ρ = some ρ1 ∧ (body ρ1 = .nx ρ2 ∨ body ρ1 = .ct ρ2) ∧ Inv (k + 1) ρ2) :
    ∃ ρ', forL b body ds ρ = .nx ρ' ∧ Inv ds.length ρ' := by
  have go : ∀ (es : List PyData) (k : Nat) (ρ : Rho), Inv k ρ → (∀ j, es[j]? = ds[k + j]?) → ∃ ρ', forL b body es ρ = .nx ρ' ∧ Inv (k + es.length) ρ' := by
    intro es
    induction es with
    | nil => intro k ρ h _; exact ⟨ρ, rfl, h⟩
    | cons d es ih =>
      intro k ρ h e
      obtain ⟨ρ1, ρ2, e1, e2, i2⟩ := st k d ρ (by have := e 0; simpa using this.symm) h
      obtain ⟨ρ', e3, i3⟩ := ih (k + 1) ρ2 i2 fun j => by have := e (j + 1); rw [show k + 1 + j = k + (j + 1) from by omega]; simpa using this
      refine ⟨ρ', ?_, by rw [List.length_cons, show k + (es.length + 1) = k + 1 + es.length from by omega]; exact i3⟩
      rw [forL_step e1]
      rcases e2 with e2 | e2 <;> rw [e2] <;> exact e3
  obtain ⟨ρ', h1, h2⟩ := go ds 0 ρ h fun j => by rw [Nat.zero_add]
  exact ⟨ρ', h1, by simpa using h2⟩
theorem sFor_ev {fi : FI} {ρ ρ1 : Rho} {ds : List PyData} (h : fi ρ = .ok ds ρ1) : sFor fi b body ρ = forL b body ds ρ1 := by
  unfold sFor
  rw [h]
  rfl
/-- while, by a measure -/
theorem sWh_inv (Inv : Nat → Rho → Prop) (Post : Rho → Prop) (st : ∀ (m : Nat) (ρ : Rho), Inv m ρ → (∃ ρ1, c ρ = .ok false ρ1 ∧ Post ρ1) ∨ ∃ ρ1 ρ2 m', c ρ = .ok true ρ1 ∧ (body ρ1 = .nx ρ2 ∨ body ρ1 = .ct ρ2) ∧ m' < m ∧ Inv m' ρ2) {m : Nat} {ρ : Rho} (h : Inv m ρ) :
    ∃ ρ', sWh c body ρ = .nx ρ' ∧ Post ρ' := by
  have go : ∀ (m : Nat) (ρ : Rho), Inv m ρ → ∃ k ρ', whN c body k ρ = .nx ρ' ∧ Post ρ' := by
    intro m
    induction m using Nat.strongRecOn with
    | ind m ih =>
      intro ρ h
      rcases st m ρ h with ⟨ρ1, e1, p1⟩ | ⟨ρ1, ρ2, m', e1, e2, lt, i2⟩
      · refine ⟨1, ρ1, ?_, p1⟩
        unfold whN
        rw [e1]
        rfl
      · obtain ⟨k, ρ', e3, p3⟩ := ih m' lt ρ2 i2
        refine ⟨k + 1, ρ', ?_, p3⟩
        unfold whN
        rw [e1]
        simp only [bindS_ok, if_true]
        rcases e2 with e2 | e2 <;> rw [e2] <;> exact e3
  obtain ⟨k, ρ', e, p⟩ := go m ρ h
  exact ⟨ρ', by rw [sWh_eq (k := k) (by rw [e]; exact fun z => nomatch z), e], p⟩
end

/-! ### comprehensions -/
theorem wipeR_length (ρ : Rho) : ∀ vs : List Nat, (wipeR ρ vs).length = ρ.length
  | [] => rfl
  | v :: vs => by unfold wipeR; rw [List.length_set, wipeR_length ρ vs]
theorem wipeR_out {ρ : Rho} {j : Nat} : ∀ {vs : List Nat}, j ∉ vs → (wipeR ρ vs)[j]? = ρ[j]?
  | [], _ => rfl
  | v :: vs, h => by
    unfold wipeR
    rw [List.getElem?_set_ne (fun e => h (by rw [e]; exact List.mem_cons_self))]
    exact wipeR_out fun m => h (List.mem_cons_of_mem _ m)
theorem restR_length (ρ0 ρ : Rho) : ∀ vs : List Nat, (restR ρ0 ρ vs).length = ρ.length
  | [] => rfl
  | v :: vs => by unfold restR; rw [List.length_set, restR_length ρ0 ρ vs]
theorem restR_out {ρ0 ρ : Rho} {j : Nat} : ∀ {vs : List Nat}, j ∉ vs → (restR ρ0 ρ vs)[j]? = ρ[j]?
  | [], _ => rfl
  | v :: vs, h => by
    unfold restR
    rw [List.getElem?_set_ne (fun e => h (by rw [e]; exact List.mem_cons_self))]
    exact restR_out fun m => h (List.mem_cons_of_mem _ m)
theorem restR_at {ρ0 ρ : Rho} {j : Nat} : ∀ {vs : List Nat}, j ∈ vs → j < ρ.length → (restR ρ0 ρ vs)[j]? = some (ρ0[j]?).join
  | [], h, _ => by simp at h
  | v :: vs, h, hl => by
    unfold restR
    by_cases e : v = j
    · subst e
      rw [List.getElem?_set_self (by rw [restR_length]; exact hl)]
    · rw [List.getElem?_set_ne e]
      rcases List.mem_cons.mp h with q | q
      · exact (e q.symm).elim
      · exact restR_at q hl
theorem restR_same {ρ0 ρ : Rho} {vs : List Nat} (h : wipeR ρ vs = wipeR ρ0 vs) : restR ρ0 ρ vs = ρ0 := by
  have hl : ρ.length = ρ0.length := by
    have := congrArg List.length h
    rw [wipeR_length, wipeR_length] at this
    exact this
  apply List.ext_getElem?
  intro j
  by_cases hj : j ∈ vs
  · by_cases hlt : j < ρ.length
    · rw [restR_at hj hlt]
      have : j < ρ0.length := by omega
      rw [List.getElem?_eq_getElem this]
      rfl
    · rw [List.getElem?_eq_none (by rw [restR_length]; omega), List.getElem?_eq_none (by omega)]
  · rw [restR_out hj, ← wipeR_out hj, h, wipeR_out hj]
section
variable {vs : List Nat} {fi : FI} {b : FB} {c : FT} {e : FE} {α : Type}
/-- a comprehension whose turns leave the environment as it is -/
theorem compL_pure {ι : α → PyData} {p : α → Bool} {g : α → PyData} {ρw : Rho} : ∀ (xs : List α) (ρ : Rho), wipeR ρ vs = ρw →
    (∀ x ∈ xs, ∃ ρ1, b (ι x) ρw = some ρ1 ∧ wipeR ρ1 vs = ρw ∧ c ρ1 = .ok (p x) ρ1 ∧ (p x = true → ∃ w, e ρ1 = .ok (.val w) ρ1 ∧ viewD w = some (g x))) →
    ∃ ρ', compL vs b c e (xs.map ι) ρ = .ok ((xs.filter p).map g) ρ' ∧ wipeR ρ' vs = ρw
  | [], ρ, h, _ => ⟨ρ, rfl, h⟩
  | x :: xs, ρ, h, st => by
    obtain ⟨ρ1, e1, h1, e2, e3⟩ := st x (by simp)
    have ih : ∀ ρ, wipeR ρ vs = ρw → ∃ ρ', compL vs b c e (xs.map ι) ρ = .ok ((xs.filter p).map g) ρ' ∧ wipeR ρ' vs = ρw := fun ρ hρ => compL_pure xs ρ hρ fun y hy => st y (List.mem_cons_of_mem _ hy)
    rw [List.map_cons]
    unfold compL
    rw [h, e1]
    simp only [e2]
    cases hp : p x with
    | false =>
      obtain ⟨ρ', q1, q2⟩ := ih ρ1 h1
      exact ⟨ρ', by rw [List.filter_cons_of_neg (by rw [hp]; decide)]; exact q1, q2⟩
    | true =>
      obtain ⟨w, e4, e5⟩ := e3 hp
      obtain ⟨ρ', q1, q2⟩ := ih ρ1 h1
      refine ⟨ρ', ?_, q2⟩
      have e6 : frz1 ρ1 (.val w) = some (g x, ρ1) := by
        show (viewD w).map (fun d => (d, ρ1)) = _
        rw [e5]; rfl
      simp only [e4, e6, q1]
      rw [List.filter_cons_of_pos hp]
      rfl
theorem fComp_pure {ι : α → PyData} {p : α → Bool} {g : α → PyData} {ρ ρ1 : Rho} (xs : List α) (hfi : fi ρ = .ok (xs.map ι) ρ1) (hl : xs.length ≤ 100000)
    (st : ∀ x ∈ xs, ∃ ρ2, b (ι x) (wipeR ρ1 vs) = some ρ2 ∧ wipeR ρ2 vs = wipeR ρ1 vs ∧ c ρ2 = .ok (p x) ρ2 ∧ (p x = true → ∃ w, e ρ2 = .ok (.val w) ρ2 ∧ viewD w = some (g x))) :
    fComp vs fi b c e ρ = .ok (.val (.ml ((xs.filter p).map g))) ρ1 := by
  obtain ⟨ρ', e1, e2⟩ := compL_pure (ι := ι) (p := p) (g := g) xs ρ1 rfl st
  unfold fComp
  rw [hfi]
  simp only [bind_ok]
  rw [e1]
  show (if (xs.map ι).length ≤ 100000 then Out.ok (Opd.val (Vl.ml ((xs.filter p).map g))) (restR ρ1 ρ' vs) else Out.stk) = _
  rw [List.length_map, if_pos hl, restR_same e2]
/-- without a test -/
theorem fComp_map {ι : α → PyData} {g : α → PyData} {ρ ρ1 : Rho} (xs : List α) (hfi : fi ρ = .ok (xs.map ι) ρ1) (hl : xs.length ≤ 100000)
    (st : ∀ x ∈ xs, ∃ ρ2 w, b (ι x) (wipeR ρ1 vs) = some ρ2 ∧ wipeR ρ2 vs = wipeR ρ1 vs ∧ e ρ2 = .ok (.val w) ρ2 ∧ viewD w = some (g x)) :
    fComp vs fi b cT e ρ = .ok (.val (.ml (xs.map g))) ρ1 := by
  have := fComp_pure (c := cT) (p := fun _ => true) (g := g) (e := e) (vs := vs) (b := b) xs hfi hl fun x hx => by
    obtain ⟨ρ2, w, h1, h2, h3, h4⟩ := st x hx
    exact ⟨ρ2, h1, h2, rfl, fun _ => ⟨w, h3, h4⟩⟩
  rw [this, List.filter_eq_self.mpr fun _ _ => rfl]
/-- a comprehension whose turns change the environment -/
theorem compL_inv (Inv : Nat → Rho → Prop) (Pd : PyData → Prop) {ds : List PyData} {ρ : Rho} (h : Inv 0 ρ)
    (st : ∀ (k : Nat) (d : PyData) (ρ : Rho), ds[k]? = some d → Inv k ρ → ∃ ρ1 ρ2 o ρ3 d' ρ4, b d (wipeR ρ vs) = some ρ1 ∧ c ρ1 = .ok true ρ2 ∧ e ρ2 = .ok o ρ3 ∧ frz1 ρ3 o = some (d', ρ4) ∧ Pd d' ∧ Inv (k + 1) ρ4) :
    ∃ ds' ρ', compL vs b c e ds ρ = .ok ds' ρ' ∧ ds'.length = ds.length ∧ (∀ d ∈ ds', Pd d) ∧ Inv ds.length ρ' := by
  have go : ∀ (es : List PyData) (k : Nat) (ρ : Rho), Inv k ρ → (∀ j, es[j]? = ds[k + j]?) → ∃ ds' ρ', compL vs b c e es ρ = .ok ds' ρ' ∧ ds'.length = es.length ∧ (∀ d ∈ ds', Pd d) ∧ Inv (k + es.length) ρ' := by
    intro es
    induction es with
    | nil => intro k ρ h _; exact ⟨[], ρ, rfl, rfl, fun _ z => by simp at z, h⟩
    | cons d es ih =>
      intro k ρ h ej
      obtain ⟨ρ1, ρ2, o, ρ3, d', ρ4, e1, e2, e3, e4, pd, i4⟩ := st k d ρ (by have := ej 0; simpa using this.symm) h
      obtain ⟨ds', ρ', e5, e6, e7, e8⟩ := ih (k + 1) ρ4 i4 fun j => by have := ej (j + 1); rw [show k + 1 + j = k + (j + 1) from by omega]; simpa using this
      refine ⟨d' :: ds', ρ', ?_, by simp [e6], fun y hy => ?_, ?_⟩
      · unfold compL
        rw [e1]
        simp only [e2, e3, e4, e5]
      · rcases List.mem_cons.mp hy with rfl | hy
        · exact pd
        · exact e7 y hy
      · rw [List.length_cons, show k + (es.length + 1) = k + 1 + es.length from by omega]
        exact e8
  obtain ⟨ds', ρ', h1, h2, h3, h4⟩ := go ds 0 ρ h fun j => by rw [Nat.zero_add]
  exact ⟨ds', ρ', h1, h2, h3, by simpa using h4⟩
theorem fComp_ev {fi : FI} {ρ ρ1 ρ2 : Rho} {ds ds' : List PyData} (hfi : fi ρ = .ok ds ρ1) (hl : ds.length ≤ 100000) (h : compL vs b c e ds ρ1 = .ok ds' ρ2) : fComp vs fi b c e ρ = .ok (.val (.ml ds')) (restR ρ1 ρ2 vs) := by
  unfold fComp
  rw [hfi]
  simp only [bind_ok]
  rw [h]
  exact if_pos hl
end
end Mi
end
section
set_option Elab.async false
set_option linter.all false
set_option maxRecDepth 100000
/-! Ev32: the defs that all laws have -/
namespace Mi
open PySem (PyData)
noncomputable def F__law_same : FS := (sRet (bin gEq (callB (g1 gRepr) (aCons (fLst (aCons (fV 0) aNil)) aNil)) (callB (g1 gRepr) (aCons (fLst (aCons (fV 1) aNil)) aNil))))
noncomputable def S__law_same : CSpec := specOf [false, false] 2 F__law_same
theorem e__law_same : ∀ ws, S__law_same ws ≠ .stk → specOf [false, false] 2 F__law_same ws = S__law_same ws := fun _ _ => rfl
noncomputable def F__law_stream : FS := (sSeq (sSet 1 (fLst aNil))
  (sSeq (sFor (iE (fSl (fV 0) pNo (pSo (fC (.int 63))))) (bN 2) (sSeq (sSet 3 (callB (g1 gAbs) (aCons (callB (g1 gInt) (aCons (fV 2) aNil)) aNil)))
  (sIf (tBo (bin gGe (fV 3) (bin gPow (fC (.int 10)) (fC (.int 18))))) (sFor (iR1 (aCons (fC (.int 60)) aNil)) (bN 4) (sSeq (sDrop (fApp 1 (bin gMod (callB (g1 gInt) (aCons (fV 3) aNil)) (fC (.int 1009)))))
  (sSeq (sSet 3 (bin gFDiv (fV 3) (fC (.int 1009))))
  (sIf (tBo (bin gEq (fV 3) (fC (.int 0)))) sBrk sNext)))) (sSeq (sSet 5 (bin gMod (callB (g1 gInt) (aCons (fV 3) aNil)) (fC (.int 2147483647))))
  (sFor (iR1 (aCons (fC (.int 10)) aNil)) (bN 4) (sSeq (sSet 5 (bin gMod (callB (g1 gInt) (aCons (bin gAdd (bin gAdd (bin gMul (fV 5) (fC (.int 48271))) (bin gMul (fC (.int 7)) (fV 4))) (fC (.int 11))) aNil)) (fC (.int 2147483647))))
  (sDrop (fApp 1 (bin gMod (bin gMod (callB (g1 gInt) (aCons (bin gAdd (bin gMul (fV 5) (fC (.int 69621))) (fV 4)) aNil)) (fC (.int 2147483629))) (fC (.int 1009)))))))))))
  (sSeq (sIf (tBo (bin gEq (callB (g1 gLen) (aCons (fV 1) aNil)) (fC (.int 0)))) (sDrop (fApp 1 (fC (.int 0)))) sNext)
  (sRet (fV 1)))))
noncomputable def S__law_stream : CSpec := specOf [false] 6 F__law_stream
theorem e__law_stream : ∀ ws, S__law_stream ws ≠ .stk → specOf [false] 6 F__law_stream ws = S__law_stream ws := fun _ _ => rfl
noncomputable def F__law_next : FS := (sSeq (sSetItem 0 (fC (.int 1)) (bin gAdd (bin gIx (fV 0) (fC (.int 1))) (fC (.int 1))))
  (sSeq (sSet 2 (bin gFDiv (bin gIx (fV 0) (fC (.int 1))) (callB (g1 gLen) (aCons (bin gIx (fV 0) (fC (.int 0))) aNil))))
  (sRet (bin gMod (callB (g1 gInt) (aCons (bin gAdd (bin gAdd (bin gIx (bin gIx (fV 0) (fC (.int 0))) (bin gMod (bin gIx (fV 0) (fC (.int 1))) (callB (g1 gLen) (aCons (bin gIx (fV 0) (fC (.int 0))) aNil)))) (bin gMul (fV 2) (fC (.int 389)))) (bin gMul (bin gMul (bin gIx (fV 0) (fC (.int 1))) (fV 2)) (fC (.int 17)))) aNil)) (fV 1)))))
noncomputable def S__law_next : CSpec := specOf [true, false] 3 F__law_next
theorem e__law_next : ∀ ws, S__law_next ws ≠ .stk → specOf [true, false] 3 F__law_next ws = S__law_next ws := fun _ _ => rfl

/-- a list of ints, as a stream -/
structure Nums (ns : List Int) (N : Nat) : Prop where
  len : ns.length ≤ N
  all : ∀ x ∈ ns, 0 ≤ x ∧ x < 1009
theorem Nums.add {ns : List Int} {N : Nat} (h : Nums ns N) {x : Int} (h1 : 0 ≤ x) (h2 : x < 1009) : Nums (ns ++ [x]) (N + 1) :=
  ⟨by rw [List.length_append, List.length_singleton]; have := h.len; omega, fun y hy => by
    rcases List.mem_append.mp hy with q | q
    · exact h.all y q
    · obtain rfl : y = x := by simpa using q
      exact ⟨h1, h2⟩⟩
theorem map_snoc (ns : List Int) (x : Int) : ns.map PyData.int ++ [PyData.int x] = (ns ++ [x]).map PyData.int := by simp
theorem next_ev (nums : List Int) (c m : Int) (hL : 0 < nums.length) (hL2 : nums.length < 10000) (hc : 0 ≤ c) (hc2 : c < 1000000) (hm : 0 < m) :
    ∃ r, S__law_next [.ml [.list (nums.map .int), .int c], .dat (.int m)] = .ok (.dat (.int r)) [some (.ml [.list (nums.map .int), .int (c + 1)]), none] ∧ 0 ≤ r ∧ r < m := by
  have hLi : (0 : Int) < (nums.length : Int) := by omega
  have h1 : L2.CDiv (c + 1) (nums.length : Int) := ⟨by omega, by omega⟩
  have h2 := Int.emod_nonneg (c + 1) (b := (nums.length : Int)) (by omega)
  have h3 := Int.emod_lt_of_pos (c + 1) (b := (nums.length : Int)) (by omega)
  have hi : ((c + 1) % (nums.length : Int)).toNat < nums.length := by omega
  have e1 := List.getElem?_eq_getElem hi
  have h4 : ∀ i : Int, L2.CMul i 389 := fun i => .inr ⟨by decide, by decide⟩
  have h5 : ∀ i : Int, L2.CMul i 17 := fun i => .inr ⟨by decide, by decide⟩
  have h6 : ∀ i : Int, L2.CMul (c + 1) i := fun i => .inl ⟨by omega, by omega⟩
  refine ⟨(nums[((c + 1) % (nums.length : Int)).toNat] + (c + 1) / (nums.length : Int) * 389 + (c + 1) * ((c + 1) / (nums.length : Int)) * 17) % m, ?_, Int.emod_nonneg _ (by omega), Int.emod_lt_of_pos _ hm⟩
  unfold S__law_next F__law_next
  simp [specOf, outs, sSeq_ev, sSet, sRet, sRetN, sIf, sDrop, sRaise, sNext, sBrk, sCnt, sSetItem, sAug, augO, setItemO, setO_val, retO_val, bind_ok, bind_exc, bind_stk, bindS_ok, bindS_exc, bindS_stk, ret_some, look_val, look_brw, fC_ev, fV, bin, una, chain, tBo, tTr, tNotV, tAndV, tOrV, fAnd, fOr, fNot, fIf, boO_ev, trO, tru, aNil_ev, aCons, cT_ev, callB, looks, g1, frz1_dat, frz1_ml, bN_ev, fTup, fLst, mkT, mkL, frzL, iE, seqO, iR1, iR2, rg1, rg2, gAdd, gMul, gSub, gFDiv, gMod, gPow, gShl, gShr, gAnd, gOr, gXor, gLt, gLe, gGt, gGe, gAddI, gMulI, gU, gIx, gLen, gInt, gAbs, gList, gTuple, iop, tt2, orG, viewD, asL, asT, fApp, appO, isMl, fExt, extO, fSl, pNo, pSo, gSl, L2.atI, L2.ixN, gd, gEq_int, gNe_int, gEq_str, gNe_str, gd, h1, h2, h3, h4, h5, h6, e1, hm, hL, hLi]
theorem range_at {lo hi : Int} {k : Nat} {d : PyData} (h : (rangeD lo hi)[k]? = some d) : d = .int (lo + k) ∧ (k : Int) < hi - lo := by
  unfold rangeD at h
  obtain ⟨hk, e⟩ := List.getElem?_eq_some_iff.mp h
  simp at hk e
  exact ⟨e.symm, by omega⟩
theorem range_len (lo hi : Int) : (rangeD lo hi).length = (hi - lo).toNat := by unfold rangeD; simp
noncomputable abbrev B1 : FS := sSeq (sDrop (fApp 1 (bin gMod (callB (g1 gInt) (aCons (fV 3) aNil)) (fC (.int 1009))))) (sSeq (sSet 3 (bin gFDiv (fV 3) (fC (.int 1009)))) (sIf (tBo (bin gEq (fV 3) (fC (.int 0)))) sBrk sNext))
noncomputable abbrev B2 : FS := sSeq (sSet 5 (bin gMod (callB (g1 gInt) (aCons (bin gAdd (bin gAdd (bin gMul (fV 5) (fC (.int 48271))) (bin gMul (fC (.int 7)) (fV 4))) (fC (.int 11))) aNil)) (fC (.int 2147483647))))
  (sDrop (fApp 1 (bin gMod (bin gMod (callB (g1 gInt) (aCons (bin gAdd (bin gMul (fV 5) (fC (.int 69621))) (fV 4)) aNil)) (fC (.int 2147483629))) (fC (.int 1009)))))
theorem inner1 (sc : Option Vl) (nums : List Int) (N : Nat) (cell rest : Int) (x4 x5 : Option Vl) (hN : Nums nums N) (hb : N ≤ 5000) (hr : 0 ≤ rest) :
    ∃ (nums' : List Int) (rest' : Int) (x4' : Option Vl), forL (bN 4) B1 (rangeD 0 60) [sc, some (.ml (nums.map .int)), some (vI cell), some (vI rest), x4, x5] = .nx [sc, some (.ml (nums'.map .int)), some (vI cell), some (vI rest'), x4', x5] ∧ Nums nums' (N + 60) := by
  have st : ∀ (k : Nat) (d : PyData) (ρ : Rho), (rangeD 0 60)[k]? = some d → (∃ (nums' : List Int) (rest' : Int) (x4' : Option Vl), ρ = [sc, some (.ml (nums'.map .int)), some (vI cell), some (vI rest'), x4', x5] ∧ Nums nums' (N + k) ∧ 0 ≤ rest') →
      ∃ ρ1, bN 4 d ρ = some ρ1 ∧ ((∃ ρ2, (B1 ρ1 = .nx ρ2 ∨ B1 ρ1 = .ct ρ2) ∧ ∃ (nums' : List Int) (rest' : Int) (x4' : Option Vl), ρ2 = [sc, some (.ml (nums'.map .int)), some (vI cell), some (vI rest'), x4', x5] ∧ Nums nums' (N + (k + 1)) ∧ 0 ≤ rest') ∨
        ∃ ρ2, B1 ρ1 = .bk ρ2 ∧ ∃ (nums' : List Int) (rest' : Int) (x4' : Option Vl), ρ2 = [sc, some (.ml (nums'.map .int)), some (vI cell), some (vI rest'), x4', x5] ∧ Nums nums' (N + 60)) := by
    rintro k d ρ hd ⟨n', r', x', rfl, q, hr'⟩
    obtain ⟨rfl, hk⟩ := range_at hd
    have hl := q.len
    have c1 : L2.CDiv r' 1009 := ⟨by decide, by decide⟩
    have m1 := Int.emod_nonneg r' (b := 1009) (by decide)
    have m2 := Int.emod_lt_of_pos r' (b := 1009) (by decide)
    have q2 := q.add m1 m2
    have hlen : n'.length ≤ 100000 := by omega
    have d1 : 0 ≤ r' / 1009 := Int.ediv_nonneg hr' (by decide)
    have se : ∀ z : Int, shp (.int z) := fun z => rfl
    refine ⟨_, rfl, ?_⟩
    by_cases hz : r' / 1009 = 0
    · refine .inr ⟨[sc, some (.ml ((n' ++ [r' % 1009]).map .int)), some (vI cell), some (vI (r' / 1009)), some (vI (0 + (k : Int))), x5], ?_, _, _, _, rfl, ⟨by have := q2.len; omega, q2.all⟩⟩
      simp [B1, specOf, outs, sSeq_ev, sSet, sRet, sRetN, sIf, sDrop, sRaise, sNext, sBrk, sCnt, sSetItem, sAug, augO, setItemO, setO_val, retO_val, bind_ok, bind_exc, bind_stk, bindS_ok, bindS_exc, bindS_stk, ret_some, look_val, look_brw, fC_ev, fV, bin, una, chain, tBo, tTr, tNotV, tAndV, tOrV, fAnd, fOr, fNot, fIf, boO_ev, trO, tru, aNil_ev, aCons, cT_ev, callB, looks, g1, frz1_dat, frz1_ml, bN_ev, fTup, fLst, mkT, mkL, frzL, iE, seqO, iR1, iR2, rg1, rg2, gAdd, gMul, gSub, gFDiv, gMod, gPow, gShl, gShr, gAnd, gOr, gXor, gLt, gLe, gGt, gGe, gAddI, gMulI, gU, gIx, gLen, gInt, gAbs, gList, gTuple, iop, tt2, orG, viewD, asL, asT, fApp, appO, isMl, fExt, extO, fSl, pNo, pSo, gSl, L2.atI, L2.ixN, gd, gEq_int, gNe_int, gEq_str, gNe_str, gd, c1, hlen, hz]
    · refine .inl ⟨[sc, some (.ml ((n' ++ [r' % 1009]).map .int)), some (vI cell), some (vI (r' / 1009)), some (vI (0 + (k : Int))), x5], .inl ?_, _, _, _, rfl, q2, d1⟩
      simp [B1, specOf, outs, sSeq_ev, sSet, sRet, sRetN, sIf, sDrop, sRaise, sNext, sBrk, sCnt, sSetItem, sAug, augO, setItemO, setO_val, retO_val, bind_ok, bind_exc, bind_stk, bindS_ok, bindS_exc, bindS_stk, ret_some, look_val, look_brw, fC_ev, fV, bin, una, chain, tBo, tTr, tNotV, tAndV, tOrV, fAnd, fOr, fNot, fIf, boO_ev, trO, tru, aNil_ev, aCons, cT_ev, callB, looks, g1, frz1_dat, frz1_ml, bN_ev, fTup, fLst, mkT, mkL, frzL, iE, seqO, iR1, iR2, rg1, rg2, gAdd, gMul, gSub, gFDiv, gMod, gPow, gShl, gShr, gAnd, gOr, gXor, gLt, gLe, gGt, gGe, gAddI, gMulI, gU, gIx, gLen, gInt, gAbs, gList, gTuple, iop, tt2, orG, viewD, asL, asT, fApp, appO, isMl, fExt, extO, fSl, pNo, pSo, gSl, L2.atI, L2.ixN, gd, gEq_int, gNe_int, gEq_str, gNe_str, gd, c1, hlen, hz]
  obtain ⟨ρ', h1, h2⟩ := forL_inv _ _ ⟨nums, rest, x4, rfl, hN, hr⟩ st
  rcases h2 with ⟨n', r', x', e, q, _⟩ | ⟨n', r', x', e, q⟩
  · exact ⟨n', r', x', by rw [h1, e], by rw [range_len] at q; exact q⟩
  · exact ⟨n', r', x', by rw [h1, e], q⟩
theorem inner2 (sc : Option Vl) (nums : List Int) (N : Nat) (cell rest mixed : Int) (x4 : Option Vl) (hN : Nums nums N) (hb : N ≤ 5000) :
    ∃ (nums' : List Int) (mixed' : Int) (x4' : Option Vl), forL (bN 4) B2 (rangeD 0 10) [sc, some (.ml (nums.map .int)), some (vI cell), some (vI rest), x4, some (vI mixed)] = .nx [sc, some (.ml (nums'.map .int)), some (vI cell), some (vI rest), x4', some (vI mixed')] ∧ Nums nums' (N + 10) ∧ (0 < nums'.length) := by
  have st : ∀ (k : Nat) (d : PyData) (ρ : Rho), (rangeD 0 10)[k]? = some d → (∃ (nums' : List Int) (mixed' : Int) (x4' : Option Vl), ρ = [sc, some (.ml (nums'.map .int)), some (vI cell), some (vI rest), x4', some (vI mixed')] ∧ Nums nums' (N + k) ∧ k ≤ nums'.length) →
      ∃ ρ1 ρ2, bN 4 d ρ = some ρ1 ∧ (B2 ρ1 = .nx ρ2 ∨ B2 ρ1 = .ct ρ2) ∧ ∃ (nums' : List Int) (mixed' : Int) (x4' : Option Vl), ρ2 = [sc, some (.ml (nums'.map .int)), some (vI cell), some (vI rest), x4', some (vI mixed')] ∧ Nums nums' (N + (k + 1)) ∧ k + 1 ≤ nums'.length := by
    rintro k d ρ hd ⟨n', r', x', rfl, q, hlk⟩
    obtain ⟨rfl, hk⟩ := range_at hd
    have hl := q.len
    have c1 : ∀ i : Int, L2.CMul i 48271 := fun i => .inr ⟨by decide, by decide⟩
    have c2 : ∀ i : Int, L2.CMul 7 i := fun i => .inl ⟨by decide, by decide⟩
    have c3 : ∀ i : Int, L2.CMul i 69621 := fun i => .inr ⟨by decide, by decide⟩
    generalize hm : (r' * 48271 + 7 * (0 + (k : Int)) + 11) % 2147483647 = m2
    have q2 := q.add (x := (m2 * 69621 + (0 + (k : Int))) % 2147483629 % 1009) (Int.emod_nonneg _ (by decide)) (Int.emod_lt_of_pos _ (by decide))
    have hlen : n'.length ≤ 100000 := by omega
    refine ⟨_, [sc, some (.ml ((n' ++ [(m2 * 69621 + (0 + (k : Int))) % 2147483629 % 1009]).map .int)), some (vI cell), some (vI rest), some (vI (0 + (k : Int))), some (vI m2)], rfl, .inl ?_, _, _, _, rfl, q2, by rw [List.length_append, List.length_singleton]; omega⟩
    rw [Int.zero_add] at hm ⊢
    simp [B2, specOf, outs, sSeq_ev, sSet, sRet, sRetN, sIf, sDrop, sRaise, sNext, sBrk, sCnt, sSetItem, sAug, augO, setItemO, setO_val, retO_val, bind_ok, bind_exc, bind_stk, bindS_ok, bindS_exc, bindS_stk, ret_some, look_val, look_brw, fC_ev, fV, bin, una, chain, tBo, tTr, tNotV, tAndV, tOrV, fAnd, fOr, fNot, fIf, boO_ev, trO, tru, aNil_ev, aCons, cT_ev, callB, looks, g1, frz1_dat, frz1_ml, bN_ev, fTup, fLst, mkT, mkL, frzL, iE, seqO, iR1, iR2, rg1, rg2, gAdd, gMul, gSub, gFDiv, gMod, gPow, gShl, gShr, gAnd, gOr, gXor, gLt, gLe, gGt, gGe, gAddI, gMulI, gU, gIx, gLen, gInt, gAbs, gList, gTuple, iop, tt2, orG, viewD, asL, asT, fApp, appO, isMl, fExt, extO, fSl, pNo, pSo, gSl, L2.atI, L2.ixN, gd, gEq_int, gNe_int, gEq_str, gNe_str, gd, c1, c2, c3, hlen, hm]
  obtain ⟨ρ', h1, n', r', x', e, q, hl⟩ := forL_all _ ⟨nums, mixed, x4, rfl, hN, Nat.zero_le _⟩ st
  exact ⟨n', r', x', by rw [h1, e], by rw [range_len] at q; exact q, by
    rw [range_len] at hl
    have : (10 - 0 : Int).toNat = 10 := by decide
    omega⟩
noncomputable abbrev B3 : FS := sSeq (sSet 3 (callB (g1 gAbs) (aCons (callB (g1 gInt) (aCons (fV 2) aNil)) aNil)))
  (sIf (tBo (bin gGe (fV 3) (bin gPow (fC (.int 10)) (fC (.int 18))))) (sFor (iR1 (aCons (fC (.int 60)) aNil)) (bN 4) B1) (sSeq (sSet 5 (bin gMod (callB (g1 gInt) (aCons (fV 3) aNil)) (fC (.int 2147483647)))) (sFor (iR1 (aCons (fC (.int 10)) aNil)) (bN 4) B2)))
theorem rng1 {ρ : Rho} {n : Int} (h1 : -(2 ^ 62) ≤ n) (h2 : n < 2 ^ 62) : iR1 (aCons (fC (.int n)) aNil) ρ = .ok (rangeD 0 n) ρ := by
  unfold iR1 aCons aNil
  show rg1 ρ [.val (.dat (.int n))] = _
  unfold rg1
  show (if -(2 ^ 62) ≤ n ∧ n < 2 ^ 62 then _ else _) = _
  rw [if_pos ⟨h1, h2⟩]
theorem cell_ev (sc : Option Vl) (nums : List Int) (N : Nat) (z : Int) (x3 x4 x5 : Option Vl) (hN : Nums nums N) (hb : N ≤ 4900) :
    ∃ (nums' : List Int) (x3' x4' x5' : Option Vl), B3 [sc, some (.ml (nums.map .int)), some (vI z), x3, x4, x5] = .nx [sc, some (.ml (nums'.map .int)), some (vI z), x3', x4', x5'] ∧ Nums nums' (N + 60) := by
  obtain ⟨a, ha, ha0⟩ : ∃ a : Int, (if z < 0 then -z else z) = a ∧ 0 ≤ a := ⟨_, rfl, by split <;> omega⟩
  have pw : L2.CPow 10 18 := ⟨by decide, by decide, by decide⟩
  have e0 : ∀ ρ : Rho, iR1 (aCons (fC (.int 60)) aNil) ρ = .ok (rangeD 0 60) ρ := fun ρ => rng1 (by decide) (by decide)
  have e1 : ∀ ρ : Rho, iR1 (aCons (fC (.int 10)) aNil) ρ = .ok (rangeD 0 10) ρ := fun ρ => rng1 (by decide) (by decide)
  obtain ⟨n1, r1, y1, h1, q1⟩ := inner1 sc nums N z a x4 x5 hN (by omega) ha0
  obtain ⟨n2, r2, y2, h2, q2, _⟩ := inner2 sc nums N z a (a % 2147483647) x4 hN (by omega)
  rw [← sFor_ev (e0 _)] at h1
  rw [← sFor_ev (e1 _)] at h2
  unfold B3
  revert h1 h2
  generalize sFor (iR1 (aCons (fC (.int 60)) aNil)) (bN 4) B1 = F1
  generalize sFor (iR1 (aCons (fC (.int 10)) aNil)) (bN 4) B2 = F2
  intro h1 h2
  by_cases hb2 : (1000000000000000000 : Int) ≤ a
  · refine ⟨n1, some (vI r1), y1, x5, ?_, q1⟩
    rw [← h1]
    simp [specOf, outs, sSeq_ev, sSet, sRet, sRetN, sIf, sDrop, sRaise, sNext, sBrk, sCnt, sSetItem, sAug, augO, setItemO, setO_val, retO_val, bind_ok, bind_exc, bind_stk, bindS_ok, bindS_exc, bindS_stk, ret_some, look_val, look_brw, fC_ev, fV, bin, una, chain, tBo, tTr, tNotV, tAndV, tOrV, fAnd, fOr, fNot, fIf, boO_ev, trO, tru, aNil_ev, aCons, cT_ev, callB, looks, g1, frz1_dat, frz1_ml, bN_ev, fTup, fLst, mkT, mkL, frzL, iE, seqO, iR1, iR2, rg1, rg2, gAdd, gMul, gSub, gFDiv, gMod, gPow, gShl, gShr, gAnd, gOr, gXor, gLt, gLe, gGt, gGe, gAddI, gMulI, gU, gIx, gLen, gInt, gAbs, gList, gTuple, iop, tt2, orG, viewD, asL, asT, fApp, appO, isMl, fExt, extO, fSl, pNo, pSo, gSl, L2.atI, L2.ixN, gd, gEq_int, gNe_int, gEq_str, gNe_str, gd, pw, ha, hb2]
  · refine ⟨n2, some (vI a), y2, some (vI r2), ?_, ⟨by have := q2.len; omega, q2.all⟩⟩
    rw [← h2]
    simp [specOf, outs, sSeq_ev, sSet, sRet, sRetN, sIf, sDrop, sRaise, sNext, sBrk, sCnt, sSetItem, sAug, augO, setItemO, setO_val, retO_val, bind_ok, bind_exc, bind_stk, bindS_ok, bindS_exc, bindS_stk, ret_some, look_val, look_brw, fC_ev, fV, bin, una, chain, tBo, tTr, tNotV, tAndV, tOrV, fAnd, fOr, fNot, fIf, boO_ev, trO, tru, aNil_ev, aCons, cT_ev, callB, looks, g1, frz1_dat, frz1_ml, bN_ev, fTup, fLst, mkT, mkL, frzL, iE, seqO, iR1, iR2, rg1, rg2, gAdd, gMul, gSub, gFDiv, gMod, gPow, gShl, gShr, gAnd, gOr, gXor, gLt, gLe, gGt, gGe, gAddI, gMulI, gU, gIx, gLen, gInt, gAbs, gList, gTuple, iop, tt2, orG, viewD, asL, asT, fApp, appO, isMl, fExt, extO, fSl, pNo, pSo, gSl, L2.atI, L2.ixN, gd, gEq_int, gNe_int, gEq_str, gNe_str, gd, pw, ha, hb2]
/-- the stream -/
theorem stream_ev (ns : List Int) (hn : ns.length ≤ 63) : ∃ nums : List Int, S__law_stream [.dat (.list (ns.map .int))] = .ok (.ml (nums.map .int)) [none] ∧ 0 < nums.length ∧ nums.length < 10000 ∧ ∀ x ∈ nums, 0 ≤ x ∧ x < 1009 := by
  have hit : iE (fSl (fV 0) pNo (pSo (fC (.int 63)))) [some (.dat (.list (ns.map .int))), some (.ml []), none, none, none, none] = .ok (ns.map .int) [some (.dat (.list (ns.map .int))), some (.ml []), none, none, none, none] := by
    have e : cutD (ns.map PyData.int) none (some 63) = ns.map PyData.int := whole_cut ⟨rfl, by
      have : ∀ n : Nat, n ≤ 63 → HT.sIx n n (some 63) = n := fun n h => by unfold HT.sIx; simp; omega
      exact this _ (by rw [List.length_map]; exact hn)⟩
    simp [specOf, outs, sSeq_ev, sSet, sRet, sRetN, sIf, sDrop, sRaise, sNext, sBrk, sCnt, sSetItem, sAug, augO, setItemO, setO_val, retO_val, bind_ok, bind_exc, bind_stk, bindS_ok, bindS_exc, bindS_stk, ret_some, look_val, look_brw, fC_ev, fV, bin, una, chain, tBo, tTr, tNotV, tAndV, tOrV, fAnd, fOr, fNot, fIf, boO_ev, trO, tru, aNil_ev, aCons, cT_ev, callB, looks, g1, frz1_dat, frz1_ml, bN_ev, fTup, fLst, mkT, mkL, frzL, iE, seqO, iR1, iR2, rg1, rg2, gAdd, gMul, gSub, gFDiv, gMod, gPow, gShl, gShr, gAnd, gOr, gXor, gLt, gLe, gGt, gGe, gAddI, gMulI, gU, gIx, gLen, gInt, gAbs, gList, gTuple, iop, tt2, orG, viewD, asL, asT, fApp, appO, isMl, fExt, extO, fSl, pNo, pSo, gSl, L2.atI, L2.ixN, gd, gEq_int, gNe_int, gEq_str, gNe_str, e]
  have st : ∀ (k : Nat) (d : PyData) (ρ : Rho), (ns.map PyData.int)[k]? = some d → (∃ (nums' : List Int) (x2 x3 x4 x5 : Option Vl), ρ = [some (.dat (.list (ns.map .int))), some (.ml (nums'.map .int)), x2, x3, x4, x5] ∧ Nums nums' (60 * k)) →
      ∃ ρ1 ρ2, bN 2 d ρ = some ρ1 ∧ (B3 ρ1 = .nx ρ2 ∨ B3 ρ1 = .ct ρ2) ∧ ∃ (nums' : List Int) (x2 x3 x4 x5 : Option Vl), ρ2 = [some (.dat (.list (ns.map .int))), some (.ml (nums'.map .int)), x2, x3, x4, x5] ∧ Nums nums' (60 * (k + 1)) := by
    rintro k d ρ hd ⟨n', x2, x3, x4, x5, rfl, q⟩
    have hk : k < 63 := by
      have := (List.getElem?_eq_some_iff.mp hd).1
      rw [List.length_map] at this; omega
    obtain ⟨z, rfl⟩ : ∃ z, d = PyData.int z := by
      rw [List.getElem?_map] at hd
      obtain ⟨z, _, e⟩ := Option.map_eq_some_iff.mp hd
      exact ⟨z, e.symm⟩
    obtain ⟨n2, y3, y4, y5, h, q2⟩ := cell_ev (some (.dat (.list (ns.map .int)))) n' (60 * k) z x3 x4 x5 q (by omega)
    exact ⟨_, _, rfl, .inl h, n2, _, y3, y4, y5, rfl, ⟨by have := q2.len; omega, q2.all⟩⟩
  obtain ⟨ρ', h1, n', x2, x3, x4, x5, rfl, q⟩ := forL_all _ ⟨[], none, none, none, none, rfl, ⟨by simp, fun x hx => by simp at hx⟩⟩ st
  have h2 := (sFor_ev (body := B3) (b := bN 2) hit).trans h1
  rw [List.length_map] at q
  have hql := q.len
  unfold S__law_stream F__law_stream
  revert h2
  generalize hF : sFor (iE (fSl (fV 0) pNo (pSo (fC (.int 63))))) (bN 2) B3 = F1
  intro h2
  by_cases hz : n'.length = 0
  · have hz' : n' = [] := List.length_eq_zero_iff.mp hz
    subst hz'
    refine ⟨[0], ?_, by simp, by simp, by simp⟩
    simp at h2
    simp [specOf, outs, sSeq_ev, sSet, sRet, sRetN, sIf, sDrop, sRaise, sNext, sBrk, sCnt, sSetItem, sAug, augO, setItemO, setO_val, retO_val, bind_ok, bind_exc, bind_stk, bindS_ok, bindS_exc, bindS_stk, ret_some, look_val, look_brw, fC_ev, fV, bin, una, chain, tBo, tTr, tNotV, tAndV, tOrV, fAnd, fOr, fNot, fIf, boO_ev, trO, tru, aNil_ev, aCons, cT_ev, callB, looks, g1, frz1_dat, frz1_ml, bN_ev, fTup, fLst, mkT, mkL, frzL, iE, seqO, iR1, iR2, rg1, rg2, gAdd, gMul, gSub, gFDiv, gMod, gPow, gShl, gShr, gAnd, gOr, gXor, gLt, gLe, gGt, gGe, gAddI, gMulI, gU, gIx, gLen, gInt, gAbs, gList, gTuple, iop, tt2, orG, viewD, asL, asT, fApp, appO, isMl, fExt, extO, fSl, pNo, pSo, gSl, L2.atI, L2.ixN, gd, gEq_int, gNe_int, gEq_str, gNe_str, h2, retO, own]
  · refine ⟨n', ?_, by omega, by omega, q.all⟩
    simp [specOf, outs, sSeq_ev, sSet, sRet, sRetN, sIf, sDrop, sRaise, sNext, sBrk, sCnt, sSetItem, sAug, augO, setItemO, setO_val, retO_val, bind_ok, bind_exc, bind_stk, bindS_ok, bindS_exc, bindS_stk, ret_some, look_val, look_brw, fC_ev, fV, bin, una, chain, tBo, tTr, tNotV, tAndV, tOrV, fAnd, fOr, fNot, fIf, boO_ev, trO, tru, aNil_ev, aCons, cT_ev, callB, looks, g1, frz1_dat, frz1_ml, bN_ev, fTup, fLst, mkT, mkL, frzL, iE, seqO, iR1, iR2, rg1, rg2, gAdd, gMul, gSub, gFDiv, gMod, gPow, gShl, gShr, gAnd, gOr, gXor, gLt, gLe, gGt, gGe, gAddI, gMulI, gU, gIx, gLen, gInt, gAbs, gList, gTuple, iop, tt2, orG, viewD, asL, asT, fApp, appO, isMl, fExt, extO, fSl, pNo, pSo, gSl, L2.atI, L2.ixN, gd, gEq_int, gNe_int, gEq_str, gNe_str, h2, retO, own, hz]
end Mi
end
section
set_option Elab.async false
set_option linter.all false
set_option maxRecDepth 100000
/-! Ev33: small data: what may be compared, shown -/
namespace Mi
open PySem PySem.PyData
/-- small data: of depth k at most, of weight N at most -/
structure Sm (k N : Nat) (d : PyData) : Prop where
  lay : d.canLay0 = true
  dep : d.depth ≤ k
  wei : d.weight ≤ N
  sho : d.intsShort 13 = true
  vis : d.showable = true
theorem Sm.mono {k k' N N' : Nat} {d : PyData} (h : Sm k N d) (a : k ≤ k') (b : N ≤ N') : Sm k' N' d := ⟨h.lay, Nat.le_trans h.dep a, Nat.le_trans h.wei b, h.sho, h.vis⟩
theorem log_small {i : Int} (h : i.natAbs < 10 ^ 12) : i.natAbs.log2 ≤ 40 := by
  by_cases z : i.natAbs = 0
  · rw [z]; decide
  · have : i.natAbs.log2 < 41 := (Nat.log2_lt z).mpr (Nat.lt_trans h (by decide))
    omega
theorem sm_int {i : Int} (h : i.natAbs < 10 ^ 12) : Sm 0 41 (.int i) := by
  have hl := log_small h
  refine ⟨rfl, Nat.le_refl _, ?_, ?_, ?_⟩
  · unfold weight
    split <;> omega
  · have := intsShortAll_ints [i] (by simpa using h)
    simpa [intsShortAll] using this
  · unfold showable
    exact decide_eq_true (by omega)
theorem sm_bool {b : Bool} : Sm 0 0 (.bool b) := ⟨rfl, Nat.le_refl _, Nat.le_refl _, rfl, rfl⟩
theorem sm_none : Sm 0 0 .none := ⟨rfl, Nat.le_refl _, Nat.le_refl _, rfl, rfl⟩
theorem sm_str {s : Str} {n : Nat} (h : strOk s = true) (hn : s.cps.size ≤ n) : Sm 0 n (.str s) := ⟨h, Nat.le_refl _, hn, rfl, rfl⟩
structure SmAll (k N : Nat) (ds : List PyData) : Prop where
  lay : canLayAll0 ds = true
  dep : depthAll ds ≤ k
  wei : weightAll ds ≤ N
  sho : intsShortAll 13 ds = true
  vis : showableAll ds = true
theorem sm_nil {k N : Nat} : SmAll k N [] := ⟨rfl, Nat.zero_le _, Nat.zero_le _, rfl, rfl⟩
theorem sm_cons {k N M : Nat} {d : PyData} {ds : List PyData} (h : Sm k N d) (t : SmAll k M ds) : SmAll k (N + 1 + M) (d :: ds) := by
  refine ⟨?_, ?_, ?_, ?_, ?_⟩
  · unfold canLayAll0; rw [h.lay, t.lay]; rfl
  · unfold depthAll; have := h.dep; have := t.dep; omega
  · unfold weightAll; have := h.wei; have := t.wei; omega
  · unfold intsShortAll; rw [h.sho, t.sho]; rfl
  · unfold showableAll; rw [h.vis, t.vis]; rfl
theorem SmAll.mono {k k' N N' : Nat} {ds : List PyData} (h : SmAll k N ds) (a : k ≤ k') (b : N ≤ N') : SmAll k' N' ds := ⟨h.lay, Nat.le_trans h.dep a, Nat.le_trans h.wei b, h.sho, h.vis⟩
theorem sm_all {k N : Nat} : ∀ {ds : List PyData}, (∀ d ∈ ds, Sm k N d) → SmAll k (ds.length * (N + 1)) ds
  | [], _ => sm_nil
  | d :: ds, h => (sm_cons (h d (by simp)) (sm_all fun x hx => h x (List.mem_cons_of_mem _ hx))).mono (Nat.le_refl _) (by rw [List.length_cons, Nat.succ_mul]; omega)
theorem sm_tup {k N : Nat} {ds : List PyData} (h : SmAll k N ds) : Sm (k + 1) N (.tuple ds) := by
  refine ⟨?_, ?_, ?_, ?_, ?_⟩
  · unfold canLay0; exact h.lay
  · unfold depth; have := h.dep; omega
  · unfold weight; exact h.wei
  · unfold intsShort; exact h.sho
  · unfold showable; exact h.vis
theorem sm_lst {k N : Nat} {ds : List PyData} (h : SmAll k N ds) : Sm (k + 1) N (.list ds) := by
  refine ⟨?_, ?_, ?_, ?_, ?_⟩
  · unfold canLay0; exact h.lay
  · unfold depth; have := h.dep; omega
  · unfold weight; exact h.wei
  · unfold intsShort; exact h.sho
  · unfold showable; exact h.vis
theorem sm_ints {ns : List Int} (h : ∀ x ∈ ns, x.natAbs < 10 ^ 12) : SmAll 0 (ns.length * 42) (ns.map .int) := by
  have := sm_all (ds := ns.map PyData.int) (k := 0) (N := 41) fun d hd => by
    obtain ⟨x, hx, rfl⟩ := List.mem_map.mp hd
    exact sm_int (h x hx)
  rw [List.length_map] at this
  exact this
theorem Sm.shp {k N : Nat} {d : PyData} (h : Sm k N d) (hk : k ≤ 64) : shp d := by
  show (d.canLay0 && decide (d.depth ≤ 64)) = true
  rw [h.lay, decide_eq_true (Nat.le_trans h.dep hk)]
  rfl
theorem Sm.rok {k N : Nat} {d : PyData} (h : Sm k N d) (hk : k ≤ 64) (hN : N ≤ 2 ^ 20) : Rok d := by
  refine ⟨h.vis, PyData.hasDict_of_canLay _ h.lay, Nat.le_trans h.dep hk, ?_⟩
  refine shown_fits_of_layable0 (B := 13) (by decide) (by decide) ?_ h.sho
  unfold layable0
  rw [h.lay, decide_eq_true (Nat.le_trans h.dep hk), decide_eq_true (Nat.le_trans h.wei hN)]
  rfl
theorem canLay_ints : ∀ ns : List Int, canLayAll0 (ns.map .int) = true
  | [] => rfl
  | n :: ns => by show (canLay0 (.int n) && canLayAll0 (ns.map .int)) = true; rw [canLay_ints ns]; rfl
theorem depth_ints : ∀ ns : List Int, depthAll (ns.map .int) = 0
  | [] => rfl
  | n :: ns => by show max (depth (.int n)) (depthAll (ns.map .int)) = 0; rw [depth_ints ns]; rfl
theorem shp_tupI (ns : List Int) : shp (.tuple (ns.map .int)) := by
  show (canLayAll0 (ns.map .int) && decide (depthAll (ns.map .int) + 1 ≤ 64)) = true
  rw [canLay_ints, depth_ints]; rfl
theorem shp_lstI (ns : List Int) : shp (.list (ns.map .int)) := by
  show (canLayAll0 (ns.map .int) && decide (depthAll (ns.map .int) + 1 ≤ 64)) = true
  rw [canLay_ints, depth_ints]; rfl
theorem eqvAll_ints : ∀ ns ms : List Int, PyData.eqvAll (ns.map .int) (ms.map .int) = decide (ns = ms)
  | [], [] => rfl
  | [], m :: ms => rfl
  | n :: ns, [] => rfl
  | n :: ns, m :: ms => by
    show (PyData.eqv (.int n) (.int m) && PyData.eqvAll (ns.map .int) (ms.map .int)) = _
    rw [eqvAll_ints ns ms]
    show ((n == m) && decide (ns = ms)) = _
    by_cases h : n = m <;> by_cases h2 : ns = ms <;> simp [h, h2]
theorem eqv_tupI (ns ms : List Int) : PyData.eqv (.tuple (ns.map .int)) (.tuple (ms.map .int)) = decide (ns = ms) := eqvAll_ints ns ms
theorem eqv_lstI (ns ms : List Int) : PyData.eqv (.list (ns.map .int)) (.list (ms.map .int)) = decide (ns = ms) := eqvAll_ints ns ms
theorem gEq_tupI (ns ms : List Int) : gEq (.dat (.tuple (ns.map .int))) (.dat (.tuple (ms.map .int))) = some (vB (decide (ns = ms))) := by
  rw [gEq_of (d := .tuple (ns.map .int)) (e := .tuple (ms.map .int)) rfl rfl (shp_tupI _) (shp_tupI _), eqv_tupI]
theorem gNe_tupI (ns ms : List Int) : gNe (.dat (.tuple (ns.map .int))) (.dat (.tuple (ms.map .int))) = some (vB (!decide (ns = ms))) := by
  rw [gNe_of (d := .tuple (ns.map .int)) (e := .tuple (ms.map .int)) rfl rfl (shp_tupI _) (shp_tupI _), eqv_tupI]
theorem gNe_mlI (ns ms : List Int) : gNe (.ml (ns.map .int)) (.ml (ms.map .int)) = some (vB (!decide (ns = ms))) := by
  rw [gNe_of (d := .list (ns.map .int)) (e := .list (ms.map .int)) rfl rfl (shp_lstI _) (shp_lstI _), eqv_lstI]
theorem gEq_mlI (ns ms : List Int) : gEq (.ml (ns.map .int)) (.ml (ms.map .int)) = some (vB (decide (ns = ms))) := by
  rw [gEq_of (d := .list (ns.map .int)) (e := .list (ms.map .int)) rfl rfl (shp_lstI _) (shp_lstI _), eqv_lstI]
/-- told and due are the same -/
theorem same_ev {d : PyData} (h : Rok (.list [d])) : S__law_same [.dat d, .dat d] = .ok (vB true) [none, none] := by
  have hr : gRepr (.ml [d]) = some (.dat (.str (PyData.shown (.list [d])))) := gd_pos ⟨h, rfl⟩
  unfold S__law_same F__law_same
  simp [specOf, sRet, bin, callB, g1, fLst, aCons, aNil, fV, bind_ok, bindS_ok, mkL, frzL, frz1, viewD, looks, look, hr, ret_some, gEq_str, retO_val, outs, List.replicate]
/-- sorted ints -/
theorem srt_ints (ns : List Int) : Srt (ns.map .int) := by
  refine ⟨fun d hd d' hd' => ?_, .inr fun d hd => ?_, fun d hd => ?_⟩
  · obtain ⟨x, _, rfl⟩ := List.mem_map.mp hd
    obtain ⟨y, _, rfl⟩ := List.mem_map.mp hd'
    rfl
  · obtain ⟨x, _, rfl⟩ := List.mem_map.mp hd
    exact ⟨(fun z => nomatch z), (fun _ z => nomatch z)⟩
  · obtain ⟨x, _, rfl⟩ := List.mem_map.mp hd
    exact Nat.zero_le _
def sortI (ns : List Int) : List Int := ns.mergeSort fun a b => decide (a ≤ b)
theorem sortD_ints (ns : List Int) : sortD false (ns.map .int) = (sortI ns).map .int := by
  unfold sortD sortI
  have e : ∀ a b : Int, PySem.W.dataLe false id (PyData.int a) (PyData.int b) = decide (a ≤ b) := fun a b => by
    have := congrFun (congrFun (PySem.W.dataLe_int (β := Int) id) a) b
    exact this
  rw [List.map_mergeSort (r := fun a b => decide (a ≤ b)) (s := PySem.W.dataLe false id) (f := PyData.int) fun a _ b _ => (e a b).symm]
theorem perm_sortI (ns : List Int) : (sortI ns).Perm ns := List.mergeSort_perm ..
theorem pw_sortI (ns : List Int) : (sortI ns).Pairwise (· ≤ ·) := by
  have := List.pairwise_mergeSort (le := fun a b : Int => decide (a ≤ b)) (fun a b c h1 h2 => by simp at *; omega) (fun a b => by simp; omega) ns
  exact this.imp fun h => by simpa using h
theorem asc_sortI {ns : List Int} (h : ns.Nodup) : (sortI ns).Pairwise (· < ·) := by
  have h1 := pw_sortI ns
  have h2 : (sortI ns).Nodup := (perm_sortI ns).nodup_iff.mpr h
  exact (h1.and h2).imp fun ⟨a, b⟩ => by omega
theorem gSorted_ml (ns : List Int) : gSorted (.ml (ns.map .int)) = some (.ml ((sortI ns).map .int)) := by
  have e : gSorted (.ml (ns.map .int)) = some (.ml (sortD false (ns.map .int))) := gd_pos (srt_ints ns)
  rw [e, sortD_ints]
end Mi
end
section
set_option Elab.async false
set_option linter.all false
set_option maxRecDepth 100000
/-! Tw1: the plain twin of an evaluator: judgements for expressions -/
namespace Mi
open PySem
/-! ### codes: data of a kind -/
abbrev eT {α : Type} (e : α → PyData) (l : List α) : PyData := .tuple (l.map e)
abbrev eL {α : Type} (e : α → PyData) (l : List α) : PyData := .list (l.map e)
abbrev eP {α β : Type} (e : α → PyData) (f : β → PyData) (p : α × β) : PyData := .tuple [e p.1, f p.2]
abbrev eP3 {α β γ : Type} (e : α → PyData) (f : β → PyData) (g : γ → PyData) (p : α × β × γ) : PyData := .tuple [e p.1, f p.2.1, g p.2.2]
abbrev eP4 {α β γ δ : Type} (e : α → PyData) (f : β → PyData) (g : γ → PyData) (h : δ → PyData) (p : α × β × γ × δ) : PyData := .tuple [e p.1, f p.2.1, g p.2.2.1, h p.2.2.2]
structure Cod {α : Type} [DecidableEq α] (k : Nat) (e : α → PyData) : Prop where
  eqv : ∀ a b, PyData.eqv (e a) (e b) = decide (a = b)
  lay : ∀ a, (e a).canLay0 = true
  dep : ∀ a, (e a).depth ≤ k
section
variable {α β γ δ : Type} [DecidableEq α] [DecidableEq β] [DecidableEq γ] [DecidableEq δ] {k : Nat} {e : α → PyData} {f : β → PyData} {g : γ → PyData} {h : δ → PyData}
theorem cod_int : Cod 0 PyData.int := ⟨fun a b => by unfold PyData.eqv; simp [Bool.beq_eq_decide_eq], fun _ => rfl, fun _ => Nat.le_refl _⟩
theorem cod_bool : Cod 0 PyData.bool := ⟨fun a b => by cases a <;> cases b <;> rfl, fun _ => rfl, fun _ => Nat.le_refl _⟩
theorem Cod.mono {j : Nat} (h : Cod k e) (i : k ≤ j) : Cod j e := ⟨h.eqv, h.lay, fun a => Nat.le_trans (h.dep a) i⟩
theorem cod_eqAll (h : Cod k e) : ∀ a b : List α, PyData.eqvAll (a.map e) (b.map e) = decide (a = b)
  | [], [] => rfl
  | [], _ :: _ => rfl
  | _ :: _, [] => rfl
  | x :: xs, y :: ys => by
    show (PyData.eqv (e x) (e y) && PyData.eqvAll (xs.map e) (ys.map e)) = _
    rw [h.eqv, cod_eqAll h xs ys]
    by_cases q : x = y <;> by_cases r : xs = ys <;> simp [q, r]
theorem cod_layAll (h : Cod k e) : ∀ a : List α, PyData.canLayAll0 (a.map e) = true
  | [] => rfl
  | x :: xs => by
    show ((e x).canLay0 && PyData.canLayAll0 (xs.map e)) = true
    rw [h.lay, cod_layAll h xs]; rfl
theorem cod_depAll (h : Cod k e) : ∀ a : List α, PyData.depthAll (a.map e) ≤ k
  | [] => Nat.zero_le _
  | x :: xs => by
    show max (e x).depth (PyData.depthAll (xs.map e)) ≤ k
    have := h.dep x
    have := cod_depAll h xs
    omega
theorem cod_tup (h : Cod k e) : Cod (k + 1) (eT e) := ⟨fun a b => cod_eqAll h a b, fun a => cod_layAll h a, fun a => by
  have := cod_depAll h a
  show PyData.depthAll (a.map e) + 1 ≤ _
  omega⟩
theorem cod_lst (h : Cod k e) : Cod (k + 1) (eL e) := ⟨fun a b => cod_eqAll h a b, fun a => cod_layAll h a, fun a => by
  have := cod_depAll h a
  show PyData.depthAll (a.map e) + 1 ≤ _
  omega⟩
theorem cod_p (h1 : Cod k e) (h2 : Cod k f) : Cod (k + 1) (eP e f) := ⟨fun a b => by
    show (PyData.eqv (e a.1) (e b.1) && (PyData.eqv (f a.2) (f b.2) && true)) = _
    rw [h1.eqv, h2.eqv]
    obtain ⟨a1, a2⟩ := a
    obtain ⟨b1, b2⟩ := b
    by_cases q : a1 = b1 <;> by_cases r : a2 = b2 <;> simp [q, r], fun a => by
    show ((e a.1).canLay0 && ((f a.2).canLay0 && true)) = true
    rw [h1.lay, h2.lay]; rfl, fun a => by
    show max (e a.1).depth (max (f a.2).depth 0) + 1 ≤ _
    have := h1.dep a.1
    have := h2.dep a.2
    omega⟩
theorem cod_p3 (h1 : Cod k e) (h2 : Cod k f) (h3 : Cod k g) : Cod (k + 1) (eP3 e f g) := ⟨fun a b => by
    show (PyData.eqv (e a.1) (e b.1) && (PyData.eqv (f a.2.1) (f b.2.1) && (PyData.eqv (g a.2.2) (g b.2.2) && true))) = _
    rw [h1.eqv, h2.eqv, h3.eqv]
    obtain ⟨a1, a2, a3⟩ := a
    obtain ⟨b1, b2, b3⟩ := b
    by_cases q : a1 = b1 <;> by_cases r : a2 = b2 <;> by_cases s : a3 = b3 <;> simp [q, r, s], fun a => by
    show ((e a.1).canLay0 && ((f a.2.1).canLay0 && ((g a.2.2).canLay0 && true))) = true
    rw [h1.lay, h2.lay, h3.lay]; rfl, fun a => by
    show max (e a.1).depth (max (f a.2.1).depth (max (g a.2.2).depth 0)) + 1 ≤ _
    have := h1.dep a.1
    have := h2.dep a.2.1
    have := h3.dep a.2.2
    omega⟩
theorem cod_p4 (h1 : Cod k e) (h2 : Cod k f) (h3 : Cod k g) (h4 : Cod k h) : Cod (k + 1) (eP4 e f g h) := ⟨fun a b => by
    show (PyData.eqv (e a.1) (e b.1) && (PyData.eqv (f a.2.1) (f b.2.1) && (PyData.eqv (g a.2.2.1) (g b.2.2.1) && (PyData.eqv (h a.2.2.2) (h b.2.2.2) && true)))) = _
    rw [h1.eqv, h2.eqv, h3.eqv, h4.eqv]
    obtain ⟨a1, a2, a3, a4⟩ := a
    obtain ⟨b1, b2, b3, b4⟩ := b
    by_cases q : a1 = b1 <;> by_cases r : a2 = b2 <;> by_cases s : a3 = b3 <;> by_cases t : a4 = b4 <;> simp [q, r, s, t], fun a => by
    show ((e a.1).canLay0 && ((f a.2.1).canLay0 && ((g a.2.2.1).canLay0 && ((h a.2.2.2).canLay0 && true)))) = true
    rw [h1.lay, h2.lay, h3.lay, h4.lay]; rfl, fun a => by
    show max (e a.1).depth (max (f a.2.1).depth (max (g a.2.2.1).depth (max (h a.2.2.2).depth 0))) + 1 ≤ _
    have := h1.dep a.1
    have := h2.dep a.2.1
    have := h3.dep a.2.2.1
    have := h4.dep a.2.2.2
    omega⟩
theorem Cod.shp (h : Cod k e) (hk : k ≤ 64) (a : α) : shp (e a) := by
  show ((e a).canLay0 && decide ((e a).depth ≤ 64)) = true
  rw [h.lay, decide_eq_true (Nat.le_trans (h.dep a) hk)]; rfl
theorem cod_any (h : Cod k e) (a : α) (l : List α) : ((l.map e).any fun z => PyData.eqv z (e a)) = decide (a ∈ l) := by
  rw [List.any_map]
  rw [show ((fun z => PyData.eqv z (e a)) ∘ e) = fun z => decide (z = a) from funext fun z => h.eqv z a]
  induction l with
  | nil => rfl
  | cons x xs ih =>
    rw [List.any_cons, ih]
    by_cases q : x = a
    · subst q; simp
    · have : ¬ a = x := fun z => q z.symm
      simp [q, this]
end
/-! ### expressions -/
/-- f, at ρ, gives w and leaves ρ' -/
def Pv (f : FE) (ρ : Rho) (w : Vl) (ρ' : Rho) : Prop := f ρ = .ok (.val w) ρ'
/-- .. or the slot that holds it -/
def Pl (f : FE) (ρ : Rho) (w : Vl) (ρ' : Rho) : Prop := ∃ o, f ρ = .ok o ρ' ∧ look ρ' o = some w
def Tv (t : FT) (ρ : Rho) (b : Bool) (ρ' : Rho) : Prop := t ρ = .ok b ρ'
def Iv (f : FI) (ρ : Rho) (ds : List PyData) (ρ' : Rho) : Prop := f ρ = .ok ds ρ'
/-- arguments, looked at -/
def Al (f : FA) (ρ : Rho) (ws : List Vl) (ρ' : Rho) : Prop := ∃ os, f ρ = .ok os ρ' ∧ looks ρ' os = some ws
/-- arguments, all of them values: their data -/
def Av (f : FA) (ρ : Rho) (ds : List PyData) (ρ' : Rho) : Prop := ∃ ws : List Vl, f ρ = .ok (ws.map .val) ρ' ∧ ws.map viewD = ds.map some
/-- arguments, values or slots: their data -/
def Ab (f : FA) (ρ : Rho) (ds : List PyData) (ρ' : Rho) : Prop := ∃ os, f ρ = .ok os ρ' ∧ os.map (fun o => (look ρ' o).bind viewD) = ds.map some
section
variable {f g h fa fb fc : FE} {t u : FT} {F : FA} {ρ ρ1 ρ2 ρ3 : Rho} {w a b c : Vl} {ws : List Vl} {d : PyData} {ds : List PyData} {i : Nat} {k l : Bool}
theorem Pv.lk (h : Pv f ρ w ρ1) : Pl f ρ w ρ1 := ⟨_, h, rfl⟩
theorem pv_c : Pv (fC d) ρ (.dat d) ρ := rfl
theorem pv_v (h : (ρ[i]?).join = some (.dat d) := by rfl) : Pv (fV i) ρ (.dat d) ρ := by
  unfold Pv fV; rw [h]
theorem pl_v (h : (ρ[i]?).join = some w := by rfl) : Pl (fV i) ρ w ρ := by
  unfold Pl fV; rw [h]
  cases w with
  | dat d => exact ⟨_, rfl, rfl⟩
  | ml _ => exact ⟨_, rfl, h⟩
  | mml _ => exact ⟨_, rfl, h⟩
  | ob _ _ => exact ⟨_, rfl, h⟩
  | st _ => exact ⟨_, rfl, h⟩
theorem pv_bin {G : Vl → Vl → Option Vl} (ha : Pv fa ρ a ρ1) (hb : Pl fb ρ1 b ρ2) (hg : G a b = some w) : Pv (bin G fa fb) ρ w ρ2 := by
  obtain ⟨o, e, l⟩ := hb
  unfold Pv at ha ⊢
  unfold bin
  rw [ha, bind_ok, e, bind_ok, look_val, l]
  show Mi.ret ρ2 (G a b) = _
  rw [hg, ret_some]
theorem pl_bin {G : Vl → Vl → Option Vl} (ha : Pl fa ρ a ρ) (hb : Pl fb ρ b ρ) (hg : G a b = some w) : Pv (bin G fa fb) ρ w ρ := by
  obtain ⟨o, e, l⟩ := hb
  obtain ⟨o1, e1, l1⟩ := ha
  unfold Pv
  unfold bin
  rw [e1, bind_ok, e, bind_ok, l1, l]
  show Mi.ret ρ (G a b) = _
  rw [hg, ret_some]
theorem pv_una {G : Vl → Option Vl} (ha : Pl fa ρ a ρ1) (hg : G a = some w) : Pv (una G fa) ρ w ρ1 := by
  obtain ⟨o, e, l⟩ := ha
  unfold Pv una
  rw [e, bind_ok, l]
  show Mi.ret ρ1 (G a) = _
  rw [hg, ret_some]
theorem pv_chain {G G' : Vl → Vl → Option Vl} (ha : Pl fa ρ a ρ) (hb : Pl fb ρ b ρ) (hg : G a b = some (vB k)) (hc : k = true → Pl fc ρ c ρ ∧ G' b c = some (vB l)) : Pv (chain G G' fa fb fc) ρ (vB (k && l)) ρ := by
  obtain ⟨o, e, lo⟩ := hb
  obtain ⟨o1, e1, l1⟩ := ha
  unfold Pv chain
  rw [e1, bind_ok, e, bind_ok, l1, lo]
  simp only [Option.bind_some, hg]
  cases k with
  | false => rfl
  | true =>
    obtain ⟨⟨o2, e2, l2⟩, h2⟩ := hc rfl
    simp only [e2, bind_ok, l2, lo, Option.bind_some, h2, ret_some]
    cases l <;> rfl
/-! tests -/
theorem tv_bo (h : Pl f ρ (vB k) ρ1) : Tv (tBo f) ρ k ρ1 := by
  obtain ⟨o, e, l⟩ := h
  unfold Tv tBo
  rw [e, bind_ok]
  unfold boO
  rw [l]
theorem tv_tr (h : Pl f ρ w ρ1) (ht : tru w = some k) : Tv (tTr f) ρ k ρ1 := by
  obtain ⟨o, e, l⟩ := h
  unfold Tv tTr
  rw [e, bind_ok]
  unfold trO
  rw [l]
  simp only [Option.bind_some, ht]
theorem tv_and (h1 : Tv t ρ k ρ) (h2 : k = true → Tv u ρ l ρ) : Tv (tAndV t u) ρ (k && l) ρ := by
  unfold Tv tAndV at *
  rw [h1, bind_ok]
  cases k with
  | false => rfl
  | true => exact (h2 rfl).trans (by simp)
theorem tv_andC (h1 : Tv t ρ k ρ1) (h2 : k = true → Tv u ρ1 l ρ2) (h3 : k = false → ρ1 = ρ2) : Tv (tAndV t u) ρ (k && l) ρ2 := by
  unfold Tv tAndV at *
  rw [h1, bind_ok]
  cases k with
  | false => rw [h3 rfl]; rfl
  | true => exact (h2 rfl).trans (by simp)
theorem tv_or (h1 : Tv t ρ k ρ) (h2 : k = false → Tv u ρ l ρ) : Tv (tOrV t u) ρ (k || l) ρ := by
  unfold Tv tOrV at *
  rw [h1, bind_ok]
  cases k with
  | true => rfl
  | false => exact (h2 rfl).trans (by simp)
theorem tv_orC (h1 : Tv t ρ k ρ1) (h2 : k = false → Tv u ρ1 l ρ2) (h3 : k = true → ρ1 = ρ2) : Tv (tOrV t u) ρ (k || l) ρ2 := by
  unfold Tv tOrV at *
  rw [h1, bind_ok]
  cases k with
  | true => rw [h3 rfl]; rfl
  | false => exact (h2 rfl).trans (by simp)
theorem tv_not (h1 : Tv t ρ k ρ1) : Tv (tNotV t) ρ (!k) ρ1 := by
  unfold Tv tNotV at *
  rw [h1, bind_ok]
/-! and, or, not, if .. else as values -/
theorem pv_andB (h1 : Pv f ρ (vB k) ρ) (h2 : k = true → Pv g ρ (vB l) ρ) : Pv (fAnd f g) ρ (vB (k && l)) ρ := by
  unfold Pv fAnd at *
  rw [h1, bind_ok]
  unfold trO
  simp only [look_val, Option.bind_some, tru, bind_ok]
  cases k with
  | false => rfl
  | true => exact (h2 rfl).trans (by simp)
theorem pv_orB (h1 : Pv f ρ (vB k) ρ) (h2 : k = false → Pv g ρ (vB l) ρ) : Pv (fOr f g) ρ (vB (k || l)) ρ := by
  unfold Pv fOr at *
  rw [h1, bind_ok]
  unfold trO
  simp only [look_val, Option.bind_some, tru, bind_ok]
  cases k with
  | true => rfl
  | false => exact (h2 rfl).trans (by simp)
/-- x or y, any values -/
theorem pv_orG (h1 : Pv f ρ a ρ1) (ht : tru a = some k) (h2 : k = false → Pv g ρ1 w ρ2) (h3 : k = true → a = w ∧ ρ1 = ρ2) : Pv (fOr f g) ρ w ρ2 := by
  unfold Pv fOr at *
  rw [h1, bind_ok]
  unfold trO
  simp only [look_val, Option.bind_some, ht, bind_ok]
  cases k with
  | true => obtain ⟨rfl, rfl⟩ := h3 rfl; rfl
  | false => exact h2 rfl
theorem pv_not (h1 : Pl f ρ w ρ1) (ht : tru w = some k) : Pv (fNot f) ρ (vB (!k)) ρ1 := by
  obtain ⟨o, e, l⟩ := h1
  unfold Pv fNot at *
  rw [e, bind_ok]
  unfold trO
  simp only [l, Option.bind_some, ht, bind_ok]
theorem pv_if {α : Type} {en : α → Vl} {x y : α} (h1 : Tv t ρ k ρ1) (h2 : k = true → Pv f ρ1 (en x) ρ2) (h3 : k = false → Pv g ρ1 (en y) ρ2) : Pv (fIf t f g) ρ (en (if k = true then x else y)) ρ2 := by
  unfold Pv fIf Tv at *
  rw [h1, bind_ok]
  cases k with
  | true => exact h2 rfl
  | false => exact h3 rfl
/-! arguments -/
theorem al_nil : Al aNil ρ [] ρ := ⟨[], rfl, rfl⟩
theorem al_cons (h1 : Pv f ρ w ρ1) (h2 : Al F ρ1 ws ρ2) : Al (aCons f F) ρ (w :: ws) ρ2 := by
  obtain ⟨os, e, l⟩ := h2
  unfold Pv at h1
  refine ⟨.val w :: os, ?_, ?_⟩
  · unfold aCons; rw [h1, bind_ok, e, bind_ok]
  · simp [looks, look_val, l]
theorem al_consL (h1 : Pl f ρ w ρ) (h2 : Al F ρ ws ρ) : Al (aCons f F) ρ (w :: ws) ρ := by
  obtain ⟨os, e, l⟩ := h2
  obtain ⟨o, e1, l1⟩ := h1
  refine ⟨o :: os, ?_, ?_⟩
  · unfold aCons; rw [e1, bind_ok, e, bind_ok]
  · simp [looks, l1, l]
theorem av_nil : Av aNil ρ [] ρ := ⟨[], rfl, rfl⟩
theorem av_cons (h1 : Pv f ρ w ρ1) (hd : viewD w = some d := by rfl) (h2 : Av F ρ1 ds ρ2) : Av (aCons f F) ρ (d :: ds) ρ2 := by
  obtain ⟨os, e, l⟩ := h2
  unfold Pv at h1
  refine ⟨w :: os, ?_, ?_⟩
  · unfold aCons; rw [h1, bind_ok, e, bind_ok]; rfl
  · simp [hd, l]
theorem ab_nil : Ab aNil ρ [] ρ := ⟨[], rfl, rfl⟩
theorem ab_cons (h1 : Pl f ρ w ρ) (hd : viewD w = some d := by rfl) (h2 : Ab F ρ ds ρ) : Ab (aCons f F) ρ (d :: ds) ρ := by
  obtain ⟨os, e, l⟩ := h2
  obtain ⟨o, e1, l1⟩ := h1
  refine ⟨o :: os, ?_, ?_⟩
  · unfold aCons; rw [e1, bind_ok, e, bind_ok]
  · simp [hd, l, l1]
/-- a value first -/
theorem ab_consV (h1 : Pv f ρ w ρ1) (hd : viewD w = some d := by rfl) (h2 : Ab F ρ1 ds ρ2) : Ab (aCons f F) ρ (d :: ds) ρ2 := by
  obtain ⟨os, e, l⟩ := h2
  unfold Pv at h1
  refine ⟨.val w :: os, ?_, ?_⟩
  · unfold aCons; rw [h1, bind_ok, e, bind_ok]
  · simp [hd, l, look_val]
theorem pv_callB {G : List Vl → Option Vl} (h1 : Al F ρ ws ρ1) (hg : G ws = some w) : Pv (callB G F) ρ w ρ1 := by
  obtain ⟨os, e, l⟩ := h1
  unfold Pv callB
  rw [e, bind_ok, l]
  show Mi.ret ρ1 (G ws) = _
  rw [hg, ret_some]
/-! calls of defs -/
theorem argW_fal : ∀ {os : List Opd} {ds : List PyData}, os.map (fun o => (look ρ o).bind viewD) = ds.map some → argW ρ (List.replicate ds.length false) os = some (ds.map .dat)
  | [], [], _ => rfl
  | o :: os, d :: ds, h => by
    simp only [List.map_cons, List.cons.injEq] at h
    show (((look ρ o).bind viewD).bind fun d => (argW ρ (List.replicate ds.length false) os).map fun ws => Vl.dat d :: ws) = _
    rw [h.1, Option.bind_some, argW_fal h.2]
    rfl
  | [], _ :: _, h => by simp at h
  | _ :: _, [], h => by simp at h
theorem zip_fal {n : Nat} {os : List Opd} {p : Bool × Opd} (h : p ∈ (List.replicate n false).zip os) : p.1 = false := List.eq_of_mem_replicate (List.of_mem_zip (a := p.1) (b := p.2) h).1
theorem ioC_fal {n : Nat} {os : List Opd} : ioC (List.replicate n false) os = true := by
  unfold ioC
  rw [List.all_eq_true]
  intro p hp
  rw [zip_fal hp]
  rfl
theorem setIO_fal : ∀ {n : Nat} {os : List Opd} {outs : List (Option Vl)}, setIO ρ (List.replicate n false) os outs = ρ
  | 0, os, outs => by cases os <;> cases outs <;> rfl
  | n + 1, [], [] => rfl
  | n + 1, [], _ :: _ => rfl
  | n + 1, o :: os, [] => rfl
  | n + 1, o :: os, w :: outs => setIO_fal (n := n) (os := os) (outs := outs)
theorem noBor_val : ∀ {io : List Bool} {ws : List Vl}, noBor io (ws.map .val) = true
  | [], _ => rfl
  | _ :: _, [] => rfl
  | b :: io, w :: ws => by
    have := noBor_val (io := io) (ws := ws)
    unfold noBor at this ⊢
    simp only [List.map_cons, List.zip_cons_cons, List.all_cons, this, Bool.and_true, Bool.or_true]
theorem av_ab (h : Av F ρ ds ρ1) : Ab F ρ ds ρ1 := by
  obtain ⟨ws, e, l⟩ := h
  refine ⟨_, e, ?_⟩
  rw [List.map_map, ← l]
  rfl
theorem clean_nones : ∀ n : Nat, (List.replicate n (none : Option Vl)).all cleanO = true
  | 0 => rfl
  | n + 1 => by rw [List.replicate_succ, List.all_cons, clean_nones n]; rfl
theorem pv_call {S : CSpec} {n : Nat} (h1 : Av F ρ ds ρ1) (hs : S (ds.map .dat) = .ok w (List.replicate n none)) (hn : ds.length = n := by rfl) : Pv (fCall (List.replicate n false) S F) ρ w ρ1 := by
  obtain ⟨ws, e, l⟩ := id h1
  obtain ⟨os, e', l'⟩ := av_ab h1
  rw [e] at e'
  cases e'
  subst hn
  unfold Pv fCall
  rw [e, bind_ok, if_pos ioC_fal, argW_fal l']
  simp only [hs, noBor_val, Bool.true_or, if_true, setIO_fal]
theorem pv_callL {S : CSpec} {n : Nat} (h1 : Ab F ρ ds ρ1) (hs : S (ds.map .dat) = .ok w (List.replicate n none)) (hc : clean w = true) (hn : ds.length = n := by rfl) : Pv (fCall (List.replicate n false) S F) ρ w ρ1 := by
  obtain ⟨os, e, l⟩ := id h1
  subst hn
  unfold Pv fCall
  rw [e, bind_ok, if_pos ioC_fal, argW_fal l]
  simp only [hs, hc, clean_nones, Bool.true_and, Bool.or_true, if_true, setIO_fal]
/-- .. that raises -/
theorem px_call {S : CSpec} {n c : Nat} (h1 : Ab F ρ ds ρ1) (hs : S (ds.map .dat) = .exc c (List.replicate n none)) (hn : ds.length = n := by rfl) : fCall (List.replicate n false) S F ρ = .exc c ρ1 := by
  obtain ⟨os, e, l⟩ := id h1
  subst hn
  unfold fCall
  rw [e, bind_ok, if_pos ioC_fal, argW_fal l]
  simp only [hs, clean_nones, Bool.or_true, if_true, setIO_fal]
/-- a call that is lent the slot j -/
theorem argW_lend {w0 : Vl} {j n : Nat} {os : List Opd} (hj : (ρ[j]?).join = some w0) (h : os.map (fun o => (look ρ o).bind viewD) = ds.map some) (hn : ds.length = n) : argW ρ (true :: List.replicate n false) (.brw j :: os) = some (w0 :: ds.map .dat) := by
  subst hn
  show ((ρ[j]?).join.bind fun w => (argW ρ (List.replicate ds.length false) os).map fun ws => w :: ws) = _
  rw [hj, Option.bind_some, argW_fal h]
  rfl
theorem countP_val {j : Nat} : ∀ ws : List Vl, (ws.map Opd.val).countP (isB j) = 0
  | [] => rfl
  | w :: ws => by rw [List.map_cons, List.countP_cons, countP_val ws]; rfl
theorem pv_callS {S : CSpec} {n j : Nat} {w0 w1 w9 : Vl} (hj0 : ((ρ[j]?).join = some w9 ∧ ∀ d, w9 ≠ .dat d) := by exact ⟨rfl, fun _ z => nomatch z⟩) (h1 : Av F ρ ds ρ1) (hj : (ρ1[j]?).join = some w0 := by rfl) (hs : S (w0 :: ds.map .dat) = .ok w (some w1 :: List.replicate n none)) (hr : ρ1.set j (some w1) = ρ2 := by rfl) (hn : ds.length = n := by rfl) :
    Pv (fCall (true :: List.replicate n false) S (aCons (fV j) F)) ρ w ρ2 := by
  obtain ⟨ws, e, l⟩ := id h1
  obtain ⟨os, e', l'⟩ := av_ab h1
  rw [e] at e'
  cases e'
  have ev : fV j ρ = .ok (.brw j) ρ := by
    unfold fV
    rw [hj0.1]
    cases w9 with
    | dat d => exact (hj0.2 d rfl).elim
    | ml _ => rfl
    | mml _ => rfl
    | ob _ _ => rfl
    | st _ => rfl
  have ei : ioC (true :: List.replicate n false) (.brw j :: ws.map .val) = true := by
    unfold ioC
    rw [List.all_eq_true]
    intro p hp
    rw [List.zip_cons_cons] at hp
    rcases List.mem_cons.mp hp with rfl | hp
    · simp [List.countP_cons, countP_val, isB]
    · rw [zip_fal hp]; rfl
  have en : noBor (true :: List.replicate n false) (.brw j :: ws.map .val) = true := by
    have := noBor_val (io := List.replicate n false) (ws := ws)
    unfold noBor at this ⊢
    simp only [List.zip_cons_cons, List.all_cons, this, Bool.and_true, Bool.true_or]
  unfold Pv fCall aCons
  rw [ev, bind_ok, e, bind_ok, bind_ok, if_pos ei, argW_lend hj l' hn]
  simp only [hs, en, Bool.true_or, if_true]
  show Out.ok _ (setIO (ρ1.set j (some w1)) (List.replicate n false) _ (List.replicate n none)) = _
  rw [setIO_fal, hr]
end
end Mi
end
section
set_option Elab.async false
set_option linter.all false
set_option maxRecDepth 100000
/-! Tw2: the plain twin: iteration, comprehensions, statements -/
namespace Mi
open PySem
/-! ### results -/
inductive R (α : Type) where
  | ok (a : α)
  | exc (c : Nat)
  | stk
def R.bind {α β : Type} (r : R α) (k : α → R β) : R β := match r with
  | .ok a => k a
  | .exc c => .exc c
  | .stk => .stk
noncomputable def gdR {α : Type} (p : Prop) (r : R α) : R α := by classical exact if p then r else .stk
theorem gdR_pos {α : Type} {p : Prop} {r : R α} (h : p) : gdR p r = r := if_pos h
theorem R.ok_bind {α β : Type} (a : α) (k : α → R β) : (R.ok a).bind k = k a := rfl
theorem R.exc_bind {α β : Type} (c : Nat) (k : α → R β) : (R.exc c : R α).bind k = .exc c := rfl
theorem R.bind_bind {α β γ : Type} (r : R α) (k : α → R β) (l : β → R γ) : (r.bind k).bind l = r.bind fun a => (k a).bind l := by cases r <;> rfl
inductive Fl (β γ : Type) where
  | nx (b : β)
  | ct (b : β)
  | bk (b : β)
  | ret (g : γ)
/-- a condition that must hold, else c is raised -/
noncomputable def chk (p : Prop) (c : Nat) : R Unit := by classical exact if p then .ok () else .exc c
theorem chk_pos {p : Prop} {c : Nat} (h : p) : chk p c = .ok () := if_pos h
theorem chk_neg {p : Prop} {c : Nat} (h : ¬ p) : chk p c = .exc c := if_neg h
/-! ### loops -/
def forR {α β : Type} (f : α → β → R β) : List α → β → R β
  | [], b => .ok b
  | x :: xs, b => (f x b).bind (forR f xs)
def forF {α β γ : Type} (f : α → β → R (Fl β γ)) : List α → β → R (Fl β γ)
  | [], b => .ok (.nx b)
  | x :: xs, b => (f x b).bind fun r => match r with
    | .nx b' => forF f xs b'
    | .ct b' => forF f xs b'
    | .bk b' => .ok (.nx b')
    | .ret g => .ok (.ret g)
def whN' {β γ : Type} (c : β → R Bool) (f : β → R (Fl β γ)) : Nat → β → R (Fl β γ)
  | 0, _ => .stk
  | k + 1, b => (c b).bind fun t => if t = true then (f b).bind fun r => match r with
    | .nx b' => whN' c f k b'
    | .ct b' => whN' c f k b'
    | .bk b' => .ok (.nx b')
    | .ret g => .ok (.ret g)
    else .ok (.nx b)
noncomputable def whF {β γ : Type} (c : β → R Bool) (f : β → R (Fl β γ)) (b : β) : R (Fl β γ) := by
  classical exact if h : ∃ k, whN' c f k b ≠ .stk then whN' c f h.choose b else .stk
theorem forR_inv {α β : Type} {f : α → β → R β} (I : Nat → β → Prop) {xs : List α} {b : β} (h : I 0 b) (st : ∀ (k : Nat) (x : α) (b : β), xs[k]? = some x → I k b → ∃ b', f x b = .ok b' ∧ I (k + 1) b') : ∃ b', forR f xs b = .ok b' ∧ I xs.length b' := by
  have go : ∀ (ys : List α) (k : Nat) (b : β), I k b → (∀ j, ys[j]? = xs[k + j]?) → ∃ b', forR f ys b = .ok b' ∧ I (k + ys.length) b' := by
    intro ys
    induction ys with
    | nil => intro k b h _; exact ⟨b, rfl, h⟩
    | cons y ys ih =>
      intro k b h e
      obtain ⟨b1, e1, i1⟩ := st k y b (by have := e 0; simpa using this.symm) h
      obtain ⟨b', e2, i2⟩ := ih (k + 1) b1 i1 fun j => by have := e (j + 1); rw [show k + 1 + j = k + (j + 1) from by omega]; simpa using this
      refine ⟨b', ?_, by rw [List.length_cons, show k + (ys.length + 1) = k + 1 + ys.length from by omega]; exact i2⟩
      show (f y b).bind _ = _
      rw [e1]; exact e2
  obtain ⟨b', h1, h2⟩ := go xs 0 b h fun j => by rw [Nat.zero_add]
  exact ⟨b', h1, by simpa using h2⟩
theorem forR_fold {α β : Type} {f : α → β → R β} (g : α → β → β) : ∀ {xs : List α} {b : β}, (∀ x ∈ xs, ∀ b, f x b = .ok (g x b)) → forR f xs b = .ok (xs.foldl (fun b x => g x b) b)
  | [], _, _ => rfl
  | x :: xs, b, h => by
    show (f x b).bind _ = _
    rw [h x (by simp), R.ok_bind]
    exact forR_fold g fun y hy => h y (List.mem_cons_of_mem _ hy)
theorem whF_eq {β γ : Type} {c : β → R Bool} {f : β → R (Fl β γ)} {b : β} {k : Nat} {r : R (Fl β γ)} (e : whN' c f k b = r) (h : r ≠ .stk) : whF c f b = r := by
  have up : ∀ k b, whN' c f k b ≠ .stk → whN' c f (k + 1) b = whN' c f k b := by
    intro k
    induction k with
    | zero => intro b h; exact (h rfl).elim
    | succ k ih =>
      intro b h
      show (c b).bind _ = (c b).bind _
      have h' : (c b).bind (fun t => if t = true then (f b).bind fun r => match r with
        | .nx b' => whN' c f k b'
        | .ct b' => whN' c f k b'
        | .bk b' => .ok (.nx b')
        | .ret g => .ok (.ret g)
        else .ok (.nx b)) ≠ .stk := h
      cases ec : c b with
      | stk => rfl
      | exc _ => rfl
      | ok t =>
        rw [ec, R.ok_bind] at h'
        rw [R.ok_bind, R.ok_bind]
        cases t with
        | false => rfl
        | true =>
          simp only [if_true] at h' ⊢
          cases ef : f b with
          | stk => rfl
          | exc _ => rfl
          | ok r =>
            rw [ef, R.ok_bind] at h'
            rw [R.ok_bind, R.ok_bind]
            cases r with
            | nx b' => exact ih b' h'
            | ct b' => exact ih b' h'
            | bk b' => rfl
            | ret g => rfl
  have le : ∀ k b j, whN' c f k b ≠ .stk → whN' c f (k + j) b = whN' c f k b := by
    intro k b j h
    induction j with
    | zero => rfl
    | succ j ih =>
      show whN' c f (k + j + 1) b = _
      rw [up _ _ (by rw [ih]; exact h), ih]
  have hx : ∃ k, whN' c f k b ≠ .stk := ⟨k, by rw [e]; exact h⟩
  unfold whF
  rw [dif_pos hx]
  have h1 := hx.choose_spec
  have a := le k b hx.choose (by rw [e]; exact h)
  have d := le hx.choose b k h1
  rw [Nat.add_comm] at d
  rw [← d, a, e]
/-- while, by a measure -/
theorem whF_inv {β γ : Type} {c : β → R Bool} {f : β → R (Fl β γ)} (I : Nat → β → Prop) (Post : β → Prop) (st : ∀ (m : Nat) (b : β), I m b → (c b = .ok false ∧ Post b) ∨ ∃ b' m', c b = .ok true ∧ (f b = .ok (.nx b') ∨ f b = .ok (.ct b')) ∧ m' < m ∧ I m' b') {m : Nat} {b : β} (h : I m b) : ∃ b', whF c f b = .ok (.nx b') ∧ Post b' := by
  have go : ∀ (m : Nat) (b : β), I m b → ∃ k b', whN' c f k b = .ok (.nx b') ∧ Post b' := by
    intro m
    induction m using Nat.strongRecOn with
    | ind m ih =>
      intro b h
      rcases st m b h with ⟨e1, p1⟩ | ⟨b1, m', e1, e2, lt, i2⟩
      · refine ⟨1, b, ?_, p1⟩
        show (c b).bind _ = _
        rw [e1]; rfl
      · obtain ⟨k, b', e3, p3⟩ := ih m' lt b1 i2
        refine ⟨k + 1, b', ?_, p3⟩
        show (c b).bind _ = _
        rw [e1, R.ok_bind, if_pos rfl]
        rcases e2 with e2 | e2 <;> rw [e2] <;> exact e3
  obtain ⟨k, b', e, p⟩ := go m b h
  exact ⟨b', whF_eq e (fun z => nomatch z), p⟩
/-! ### what is walked -/
section
variable {f g h fa fb fc e : FE} {t c : FT} {F : FA} {ρ ρ1 ρ2 ρ3 : Rho} {w : Vl} {d : PyData} {ds : List PyData} {i j : Nat} {k l : Bool} {vs : List Nat} {fi : FI} {bnd : FB}
theorem iv_tup (h : Pv f ρ (.dat (.tuple ds)) ρ1) : Iv (iE f) ρ ds ρ1 := by
  unfold Pv at h
  unfold Iv iE
  rw [h]; rfl
theorem iv_lst (h : Pv f ρ (.dat (.list ds)) ρ1) : Iv (iE f) ρ ds ρ1 := by
  unfold Pv at h
  unfold Iv iE
  rw [h]; rfl
theorem iv_ml (h : Pv f ρ (.ml ds) ρ1) : Iv (iE f) ρ ds ρ1 := by
  unfold Pv at h
  unfold Iv iE
  rw [h]; rfl
/-- an own list of a slot: it is frozen -/
theorem iv_own (h : (ρ[i]?).join = some (.ml ds) := by rfl) (hr : ρ.set i (some (.dat (.list ds))) = ρ1 := by rfl) : Iv (iE (fV i)) ρ ds ρ1 := by
  unfold Iv iE fV
  rw [h]
  show seqO ρ (.brw i) = _
  have : frz1 ρ (.brw i) = some (.list ds, ρ1) := by
    show ((look ρ (.brw i)).bind viewD).map _ = _
    rw [look_brw, h, ← hr]; rfl
  unfold seqO
  rw [this]
def irange (lo hi : Int) : List Int := (List.range (hi - lo).toNat).map fun k : Nat => lo + (k : Int)
theorem rangeD_eq (lo hi : Int) : rangeD lo hi = (irange lo hi).map .int := by
  unfold rangeD irange
  rw [List.map_map]; rfl
theorem mem_irange {lo hi x : Int} : x ∈ irange lo hi ↔ lo ≤ x ∧ x < hi := by
  unfold irange
  rw [List.mem_map]
  constructor
  · rintro ⟨k, hk, rfl⟩
    have := List.mem_range.mp hk
    omega
  · rintro ⟨h1, h2⟩
    exact ⟨(x - lo).toNat, List.mem_range.mpr (by omega), by omega⟩
theorem len_irange (lo hi : Int) : (irange lo hi).length = (hi - lo).toNat := by unfold irange; simp
abbrev rOk (n : Int) : Prop := -(2 ^ 62) ≤ n ∧ n < 2 ^ 62
theorem iv_r1 {n : Int} (h : Al F ρ [vI n] ρ1) (hn : rOk n) : Iv (iR1 F) ρ ((irange 0 n).map .int) ρ1 := by
  obtain ⟨os, e, l⟩ := h
  unfold Iv iR1
  rw [e, bind_ok]
  unfold rg1
  rw [l]
  show (if _ then _ else _) = _
  rw [if_pos hn, rangeD_eq]
theorem iv_r2 {m n : Int} (h : Al F ρ [vI m, vI n] ρ1) (hm : rOk m) (hn : rOk n) : Iv (iR2 F) ρ ((irange m n).map .int) ρ1 := by
  obtain ⟨os, e, l⟩ := h
  unfold Iv iR2
  rw [e, bind_ok]
  unfold rg2
  rw [l]
  show (if _ then _ else _) = _
  rw [if_pos ⟨hm.1, hm.2, hn.1, hn.2⟩, rangeD_eq]
/-! ### comprehensions -/
theorem tv_cT : Tv cT ρ true ρ := rfl
theorem pv_comp {α β : Type} {ι : α → PyData} {en : β → PyData} {p : α → Bool} {v : α → β} {xs : List α} (hi : Iv fi ρ (xs.map ι) ρ1) (hl : xs.length ≤ 100000)
    (st : ∀ x ∈ xs, ∃ ρ2 ρ3, bnd (ι x) (wipeR ρ1 vs) = some ρ2 ∧ wipeR ρ2 vs = wipeR ρ1 vs ∧ Tv c ρ2 (p x) ρ2 ∧ (p x = true → ∃ w, Pv e ρ2 w ρ3 ∧ wipeR ρ3 vs = wipeR ρ1 vs ∧ viewD w = some (en (v x)))) :
    Pv (fComp vs fi bnd c e) ρ (.ml (((xs.filter p).map v).map en)) ρ1 := by
  have go : ∀ (ys : List α) (ρ0 : Rho), (∀ x ∈ ys, x ∈ xs) → wipeR ρ0 vs = wipeR ρ1 vs → ∃ ρ', compL vs bnd c e (ys.map ι) ρ0 = .ok (((ys.filter p).map v).map en) ρ' ∧ wipeR ρ' vs = wipeR ρ1 vs := by
    intro ys
    induction ys with
    | nil => intro ρ0 _ h; exact ⟨ρ0, rfl, h⟩
    | cons y ys ih =>
      intro ρ0 hm hw
      obtain ⟨ρ2, ρ3, e1, e2, e3, e4⟩ := st y (hm y (by simp))
      unfold Tv at e3
      have unf : compL vs bnd c e (ι y :: ys.map ι) ρ0 = (match bnd (ι y) (wipeR ρ0 vs) with
        | none => .stk
        | some ρ1 => match c ρ1 with
          | .ok true ρ2 => match e ρ2 with
            | .ok o ρ3 => match frz1 ρ3 o with
              | some (d', ρ4) => match compL vs bnd c e (ys.map ι) ρ4 with
                | .ok ds' ρ5 => .ok (d' :: ds') ρ5
                | .exc _ _ => .stk
                | .stk => .stk
              | none => .stk
            | .exc _ _ => .stk
            | .stk => .stk
          | .ok false ρ2 => compL vs bnd c e (ys.map ι) ρ2
          | .exc _ _ => .stk
          | .stk => .stk) := rfl
      rw [List.map_cons, unf, hw, e1]
      simp only [e3]
      cases hp : p y with
      | false =>
        obtain ⟨ρ', h1, h2⟩ := ih ρ2 (fun x hx => hm x (List.mem_cons_of_mem _ hx)) e2
        refine ⟨ρ', ?_, h2⟩
        rw [List.filter_cons_of_neg (by simp [hp])]
        exact h1
      | true =>
        obtain ⟨w, h3, h4, h5⟩ := e4 hp
        unfold Pv at h3
        obtain ⟨ρ', h1, h2⟩ := ih ρ3 (fun x hx => hm x (List.mem_cons_of_mem _ hx)) h4
        refine ⟨ρ', ?_, h2⟩
        rw [List.filter_cons_of_pos (by simp [hp])]
        simp only [h3]
        have : frz1 ρ3 (.val w) = some (en (v y), ρ3) := by show (viewD w).map _ = _; rw [h5]; rfl
        simp only [this, h1]
        rfl
  obtain ⟨ρ', h1, h2⟩ := go xs ρ1 (fun x h => h) rfl
  unfold Iv at hi
  unfold Pv fComp
  rw [hi, bind_ok, h1]
  show (if (xs.map ι).length ≤ 100000 then _ else _) = _
  rw [List.length_map, if_pos hl, restR_same h2]
theorem pv_map {α β : Type} {ι : α → PyData} {en : β → PyData} {v : α → β} {xs : List α} (hi : Iv fi ρ (xs.map ι) ρ1) (hl : xs.length ≤ 100000)
    (st : ∀ x ∈ xs, ∃ ρ2 ρ3 w, bnd (ι x) (wipeR ρ1 vs) = some ρ2 ∧ Pv e ρ2 w ρ3 ∧ wipeR ρ3 vs = wipeR ρ1 vs ∧ viewD w = some (en (v x))) :
    Pv (fComp vs fi bnd cT e) ρ (.ml ((xs.map v).map en)) ρ1 := by
  have go : ∀ (ys : List α) (ρ0 : Rho), (∀ x ∈ ys, x ∈ xs) → wipeR ρ0 vs = wipeR ρ1 vs → ∃ ρ', compL vs bnd cT e (ys.map ι) ρ0 = .ok ((ys.map v).map en) ρ' ∧ wipeR ρ' vs = wipeR ρ1 vs := by
    intro ys
    induction ys with
    | nil => intro ρ0 _ h; exact ⟨ρ0, rfl, h⟩
    | cons y ys ih =>
      intro ρ0 hm hw
      obtain ⟨ρ2, ρ3, w, e1, h3, h4, h5⟩ := st y (hm y (by simp))
      unfold Pv at h3
      have unf : compL vs bnd cT e (ι y :: ys.map ι) ρ0 = (match bnd (ι y) (wipeR ρ0 vs) with
        | none => .stk
        | some ρ1 => match e ρ1 with
            | .ok o ρ3 => match frz1 ρ3 o with
              | some (d', ρ4) => match compL vs bnd cT e (ys.map ι) ρ4 with
                | .ok ds' ρ5 => .ok (d' :: ds') ρ5
                | .exc _ _ => .stk
                | .stk => .stk
              | none => .stk
            | .exc _ _ => .stk
            | .stk => .stk) := rfl
      obtain ⟨ρ', h1, h2⟩ := ih ρ3 (fun x hx => hm x (List.mem_cons_of_mem _ hx)) h4
      refine ⟨ρ', ?_, h2⟩
      rw [List.map_cons, unf, hw, e1]
      have : frz1 ρ3 (.val w) = some (en (v y), ρ3) := by show (viewD w).map _ = _; rw [h5]; rfl
      simp only [h3, this, h1]
      rfl
  obtain ⟨ρ', h1, h2⟩ := go xs ρ1 (fun x h => h) rfl
  unfold Iv at hi
  unfold Pv fComp
  rw [hi, bind_ok, h1]
  show (if (xs.map ι).length ≤ 100000 then _ else _) = _
  rw [List.length_map, if_pos hl, restR_same h2]
/-- .. whose turns draw: rc c is the environment at the counter c -/
def mapC {α β : Type} (f : α → Int → β × Int) : List α → Int → List β × Int
  | [], c => ([], c)
  | x :: xs, c => ((f x c).1 :: (mapC f xs (f x c).2).1, (mapC f xs (f x c).2).2)
def filterC {α β : Type} (p : α → Int → Bool × Int) (v : α → β) : List α → Int → List β × Int
  | [], c => ([], c)
  | x :: xs, c => if (p x c).1 = true then (v x :: (filterC p v xs (p x c).2).1, (filterC p v xs (p x c).2).2) else filterC p v xs (p x c).2
def allC {α : Type} (G : α → Int → Prop) (f : α → Int → Int) : List α → Int → Prop
  | [], _ => True
  | x :: xs, c => G x c ∧ allC G f xs (f x c)
theorem pv_mapC {α β : Type} {ι : α → PyData} {en : β → PyData} {v : α → Int → β × Int} {rc : Int → Rho} {c0 : Int} {xs : List α} {G : α → Int → Prop} (hi : Iv fi ρ (xs.map ι) (rc c0)) (hl : xs.length ≤ 100000) (hg : allC G (fun x c => (v x c).2) xs c0)
    (st : ∀ x ∈ xs, ∀ c, G x c → ∃ ρ2 ρ3 w, bnd (ι x) (wipeR (rc c) vs) = some ρ2 ∧ Pv e ρ2 w ρ3 ∧ wipeR ρ3 vs = wipeR (rc (v x c).2) vs ∧ viewD w = some (en (v x c).1))
    (hrc : ∀ c ρ', wipeR ρ' vs = wipeR (rc c) vs → restR (rc c0) ρ' vs = rc c) :
    Pv (fComp vs fi bnd cT e) ρ (.ml ((mapC v xs c0).1.map en)) (rc (mapC v xs c0).2) := by
  have go : ∀ (ys : List α) (c : Int) (ρ0 : Rho), (∀ x ∈ ys, x ∈ xs) → allC G (fun x c => (v x c).2) ys c → wipeR ρ0 vs = wipeR (rc c) vs → ∃ ρ', compL vs bnd cT e (ys.map ι) ρ0 = .ok ((mapC v ys c).1.map en) ρ' ∧ wipeR ρ' vs = wipeR (rc (mapC v ys c).2) vs := by
    intro ys
    induction ys with
    | nil => intro c ρ0 _ _ h; exact ⟨ρ0, rfl, h⟩
    | cons y ys ih =>
      intro c ρ0 hm hg hw
      obtain ⟨ρ2, ρ3, w, e1, h3, h4, h5⟩ := st y (hm y (by simp)) c hg.1
      unfold Pv at h3
      have unf : compL vs bnd cT e (ι y :: ys.map ι) ρ0 = (match bnd (ι y) (wipeR ρ0 vs) with
        | none => .stk
        | some ρ1 => match e ρ1 with
            | .ok o ρ3 => match frz1 ρ3 o with
              | some (d', ρ4) => match compL vs bnd cT e (ys.map ι) ρ4 with
                | .ok ds' ρ5 => .ok (d' :: ds') ρ5
                | .exc _ _ => .stk
                | .stk => .stk
              | none => .stk
            | .exc _ _ => .stk
            | .stk => .stk) := rfl
      obtain ⟨ρ', h1, h2⟩ := ih _ ρ3 (fun x hx => hm x (List.mem_cons_of_mem _ hx)) hg.2 h4
      refine ⟨ρ', ?_, h2⟩
      rw [List.map_cons, unf, hw, e1]
      have : frz1 ρ3 (.val w) = some (en (v y c).1, ρ3) := by show (viewD w).map _ = _; rw [h5]; rfl
      simp only [h3, this, h1]
      rfl
  obtain ⟨ρ', h1, h2⟩ := go xs c0 (rc c0) (fun x h => h) hg rfl
  unfold Iv at hi
  unfold Pv fComp
  rw [hi, bind_ok, h1]
  show (if (xs.map ι).length ≤ 100000 then _ else _) = _
  rw [List.length_map, if_pos hl, hrc _ _ h2]
theorem pv_filterC {α β : Type} {ι : α → PyData} {en : β → PyData} {p : α → Int → Bool × Int} {v : α → β} {rc : Int → Rho} {c0 : Int} {xs : List α} {G : α → Int → Prop} (hi : Iv fi ρ (xs.map ι) (rc c0)) (hl : xs.length ≤ 100000) (hg : allC G (fun x c => (p x c).2) xs c0)
    (st : ∀ x ∈ xs, ∀ c, G x c → ∃ ρ2 ρ3, bnd (ι x) (wipeR (rc c) vs) = some ρ2 ∧ Tv t ρ2 (p x c).1 ρ3 ∧ wipeR ρ3 vs = wipeR (rc (p x c).2) vs ∧ ((p x c).1 = true → ∃ w, Pv e ρ3 w ρ3 ∧ viewD w = some (en (v x))))
    (hrc : ∀ c ρ', wipeR ρ' vs = wipeR (rc c) vs → restR (rc c0) ρ' vs = rc c) :
    Pv (fComp vs fi bnd t e) ρ (.ml ((filterC p v xs c0).1.map en)) (rc (filterC p v xs c0).2) := by
  have go : ∀ (ys : List α) (c : Int) (ρ0 : Rho), (∀ x ∈ ys, x ∈ xs) → allC G (fun x c => (p x c).2) ys c → wipeR ρ0 vs = wipeR (rc c) vs → ∃ ρ', compL vs bnd t e (ys.map ι) ρ0 = .ok ((filterC p v ys c).1.map en) ρ' ∧ wipeR ρ' vs = wipeR (rc (filterC p v ys c).2) vs := by
    intro ys
    induction ys with
    | nil => intro c ρ0 _ _ h; exact ⟨ρ0, rfl, h⟩
    | cons y ys ih =>
      intro c ρ0 hm hg hw
      obtain ⟨ρ2, ρ3, e1, e3, e2, e4⟩ := st y (hm y (by simp)) c hg.1
      unfold Tv at e3
      have unf : compL vs bnd t e (ι y :: ys.map ι) ρ0 = (match bnd (ι y) (wipeR ρ0 vs) with
        | none => .stk
        | some ρ1 => match t ρ1 with
          | .ok true ρ2 => match e ρ2 with
            | .ok o ρ3 => match frz1 ρ3 o with
              | some (d', ρ4) => match compL vs bnd t e (ys.map ι) ρ4 with
                | .ok ds' ρ5 => .ok (d' :: ds') ρ5
                | .exc _ _ => .stk
                | .stk => .stk
              | none => .stk
            | .exc _ _ => .stk
            | .stk => .stk
          | .ok false ρ2 => compL vs bnd t e (ys.map ι) ρ2
          | .exc _ _ => .stk
          | .stk => .stk) := rfl
      obtain ⟨ρ', h1, h2⟩ := ih _ ρ3 (fun x hx => hm x (List.mem_cons_of_mem _ hx)) hg.2 e2
      rw [List.map_cons, unf, hw, e1]
      simp only [e3]
      unfold filterC
      cases hp : (p y c).1 with
      | false => exact ⟨ρ', by simp only [h1, if_neg (fun z : false = true => nomatch z)], by simpa using h2⟩
      | true =>
        obtain ⟨w, h3, h5⟩ := e4 hp
        unfold Pv at h3
        have : frz1 ρ3 (.val w) = some (en (v y), ρ3) := by show (viewD w).map _ = _; rw [h5]; rfl
        refine ⟨ρ', ?_, by simpa using h2⟩
        simp only [h3, this, h1, if_true]
        rfl
  obtain ⟨ρ', h1, h2⟩ := go xs c0 (rc c0) (fun x h => h) hg rfl
  unfold Iv at hi
  unfold Pv fComp
  rw [hi, bind_ok, h1]
  show (if (xs.map ι).length ≤ 100000 then _ else _) = _
  rw [List.length_map, if_pos hl, hrc _ _ h2]
end
end Mi
end
section
set_option Elab.async false
set_option linter.all false
set_option maxRecDepth 100000
/-! Tw3: the plain twin: statements -/
namespace Mi
open PySem
/-- what the statement came to, by the twin's result; Φ: what a plain result means -/
def Gn {δ : Type} (s : SO) (t : R δ) (Φ : δ → SO → Prop) : Prop := match t with
  | .ok d => Φ d s
  | .exc c => ∃ ρ', s = .exc c ρ'
  | .stk => True
/-- falls through -/
def fNx {β : Type} (E : β → Rho → Prop) : β → SO → Prop := fun b s => ∃ ρ', s = .nx ρ' ∧ E b ρ'
/-- a loop's turn -/
def fLp {β : Type} (E : β → Rho → Prop) : β → SO → Prop := fun b s => ∃ ρ', (s = .nx ρ' ∨ s = .ct ρ') ∧ E b ρ'
/-- .. with ways out -/
def fFl {β γ : Type} (E : β → Rho → Prop) (Er : γ → SO → Prop) : Fl β γ → SO → Prop := fun r s => match r with
  | .nx b => ∃ ρ', s = .nx ρ' ∧ E b ρ'
  | .ct b => ∃ ρ', s = .ct ρ' ∧ E b ρ'
  | .bk b => ∃ ρ', s = .bk ρ' ∧ E b ρ'
  | .ret g => Er g s
/-- returns -/
def fRt {γ : Type} (wr : γ → Vl) (E : γ → Rho → Prop) : γ → SO → Prop := fun g s => ∃ ρ', s = .ret (wr g) ρ' ∧ E g ρ'
abbrev anyE {γ : Type} : γ → Rho → Prop := fun _ _ => True
/-- a procedure's end -/
def fPr (E : Rho → Prop) : Unit → SO → Prop := fun _ s => ∃ ρ', (s = .nx ρ' ∨ s = .ret (.dat .none) ρ') ∧ E ρ'
section
variable {δ β γ α : Type} {Φ : δ → SO → Prop} {f a b A B body : FS} {fe : FE} {c : FT} {F : FA} {ρ ρ1 ρ2 : Rho} {w : Vl} {t t1 t2 : R δ} {p : Prop} {i : Nat} {k : Bool} {s : SO} {fi : FI} {bnd : FB}
theorem g_gd (h : p → Gn s t Φ) : Gn s (gdR p t) Φ := by
  classical
  unfold gdR
  split
  · rename_i q; exact h q
  · trivial
theorem g_one (h : Gn (sSeq f sNext ρ) t Φ) : Gn (f ρ) t Φ := by
  have : sSeq f sNext ρ = f ρ := by
    unfold sSeq
    cases f ρ <;> rfl
  rw [this] at h; exact h
theorem seq_assoc : sSeq (sSeq a b) f ρ = sSeq a (sSeq b f) ρ := by
  show (match (match a ρ with | .nx ρ1 => b ρ1 | r => r) with | .nx ρ1 => f ρ1 | r => r) = match a ρ with | .nx ρ1 => (match b ρ1 with | .nx ρ1 => f ρ1 | r => r) | r => r
  cases a ρ <;> rfl
theorem g_assoc (h : Gn (sSeq a (sSeq b f) ρ) t Φ) : Gn (sSeq (sSeq a b) f ρ) t Φ := by rw [seq_assoc]; exact h
theorem g_skip (h : Gn (f ρ) t Φ) : Gn (sSeq sNext f ρ) t Φ := h
theorem seq_nx' (e : a ρ = .nx ρ1) : sSeq a f ρ = f ρ1 := by unfold sSeq; rw [e]
theorem g_step (e : a ρ = .nx ρ1) (h : Gn (f ρ1) t Φ) : Gn (sSeq a f ρ) t Φ := by rw [seq_nx' e]; exact h
theorem ev_set (h : Pv fe ρ w ρ1) (hr : ρ1.set i (some w) = ρ2 := by rfl) : sSet i fe ρ = .nx ρ2 := by
  unfold Pv at h
  unfold sSet
  rw [h, bindS_ok, setO_val, hr]
theorem ev_drop (h : Pl fe ρ w ρ1) : sDrop fe ρ = .nx ρ1 := by
  obtain ⟨o, e, l⟩ := h
  unfold sDrop
  rw [e]; rfl
theorem g_set (h : Pv fe ρ w ρ1) (hr : ρ1.set i (some w) = ρ2) (g : Gn (f ρ2) t Φ) : Gn (sSeq (sSet i fe) f ρ) t Φ := g_step (ev_set h hr) g
theorem g_drop (h : Pl fe ρ w ρ1) (g : Gn (f ρ1) t Φ) : Gn (sSeq (sDrop fe) f ρ) t Φ := g_step (ev_drop h) g
/-- an own list moves to another slot -/
theorem g_move {j : Nat} (hw : (ρ[j]?).join = some w) (hn : ∀ d, w ≠ .dat d) (hr : (ρ.set j none).set i (some w) = ρ2) (g : Gn (f ρ2) t Φ) : Gn (sSeq (sSet i (fV j)) f ρ) t Φ := by
  refine g_step (ρ1 := ρ2) ?_ g
  have ev : fV j ρ = .ok (.brw j) ρ := by
    unfold fV
    rw [hw]
    cases w with
    | dat d => exact (hn d rfl).elim
    | ml _ => rfl
    | mml _ => rfl
    | ob _ _ => rfl
    | st _ => rfl
  unfold sSet
  rw [ev, bindS_ok]
  have : own ρ (.brw j) = some (w, ρ.set j none) := by
    show (look ρ (.brw j)).map _ = _
    rw [look_brw, hw]; rfl
  unfold setO
  rw [this, ← hr]
theorem g_ret {g : γ} {wr : γ → Vl} {E : γ → Rho → Prop} (h : Pv fe ρ (wr g) ρ1) (hE : E g ρ1) : Gn (sSeq (sRet fe) f ρ) (.ok g) (fRt wr E) := by
  unfold Pv at h
  refine ⟨ρ1, ?_, hE⟩
  have e : sRet fe ρ = .ret (wr g) ρ1 := by
    unfold sRet
    rw [h, bindS_ok, retO_val]
  unfold sSeq
  rw [e]
theorem ret_own {j : Nat} (hw : (ρ[j]?).join = some w) (hn : ∀ d, w ≠ .dat d) : sRet (fV j) ρ = .ret w (ρ.set j none) := by
  have ev : fV j ρ = .ok (.brw j) ρ := by
    unfold fV
    rw [hw]
    cases w with
    | dat d => exact (hn d rfl).elim
    | ml _ => rfl
    | mml _ => rfl
    | ob _ _ => rfl
    | st _ => rfl
  unfold sRet
  rw [ev, bindS_ok]
  have : own ρ (.brw j) = some (w, ρ.set j none) := by
    show (look ρ (.brw j)).map _ = _
    rw [look_brw, hw]; rfl
  unfold retO
  rw [this]
/-- an own list is returned -/
theorem g_retM {g : γ} {wr : γ → Vl} {E : γ → Rho → Prop} {j : Nat} (hw : (ρ[j]?).join = some (wr g)) (hn : ∀ d, wr g ≠ .dat d) (hr : ρ.set j none = ρ1) (hE : E g ρ1) : Gn (sSeq (sRet (fV j)) f ρ) (.ok g) (fRt wr E) := by
  refine ⟨ρ1, ?_, hE⟩
  unfold sSeq
  rw [ret_own hw hn, hr]
/-- .. in a loop -/
theorem g_retF {β : Type} {g : γ} {E : β → Rho → Prop} {Er : γ → SO → Prop} (h : Gn (sSeq (sRet fe) f ρ) (.ok g) Er) : Gn (sSeq (sRet fe) f ρ) (.ok (Fl.ret g)) (fFl E Er) := h
theorem g_retN {E : Rho → Prop} (h : E ρ) : Gn (sSeq sRetN f ρ) (.ok ()) (fPr E) := ⟨ρ, .inr rfl, h⟩
theorem g_retP {E : Rho → Prop} (h : E ρ) : Gn (sNext ρ) (.ok ()) (fPr E) := ⟨ρ, .inl rfl, h⟩
theorem g_raise {c : Nat} : Gn (sSeq (sRaise c) f ρ) (.exc c : R δ) Φ := ⟨ρ, rfl⟩
theorem g_nx {E : β → Rho → Prop} {b : β} (h : E b ρ) : Gn (sNext ρ) (.ok b) (fNx E) := ⟨ρ, rfl, h⟩
theorem g_lp {E : β → Rho → Prop} {b : β} (h : E b ρ) : Gn (sNext ρ) (.ok b) (fLp E) := ⟨ρ, .inl rfl, h⟩
theorem g_lpC {E : β → Rho → Prop} {b : β} (h : E b ρ) : Gn (sSeq sCnt f ρ) (.ok b) (fLp E) := ⟨ρ, .inr rfl, h⟩
theorem g_fn {E : β → Rho → Prop} {Er : γ → SO → Prop} {b : β} (h : E b ρ) : Gn (sNext ρ) (.ok (Fl.nx b)) (fFl E Er) := ⟨ρ, rfl, h⟩
theorem g_fc {E : β → Rho → Prop} {Er : γ → SO → Prop} {b : β} (h : E b ρ) : Gn (sSeq sCnt f ρ) (.ok (Fl.ct b)) (fFl E Er) := ⟨ρ, rfl, h⟩
theorem g_fb {E : β → Rho → Prop} {Er : γ → SO → Prop} {b : β} (h : E b ρ) : Gn (sSeq sBrk f ρ) (.ok (Fl.bk b)) (fFl E Er) := ⟨ρ, rfl, h⟩
/-- if; what comes behind goes into both ways -/
theorem g_if (hc : Tv c ρ k ρ1) (h1 : k = true → Gn (sSeq A f ρ1) t1 Φ) (h2 : k = false → Gn (sSeq B f ρ1) t2 Φ) : Gn (sSeq (sIf c A B) f ρ) (if k = true then t1 else t2) Φ := by
  unfold Tv at hc
  have e : sIf c A B ρ = if k = true then A ρ1 else B ρ1 := by
    unfold sIf
    rw [hc, bindS_ok]
  unfold sSeq at h1 h2 ⊢
  rw [e]
  cases k with
  | true => exact h1 rfl
  | false => exact h2 rfl
/-- if, joined behind -/
theorem g_ifJ {E : β → Rho → Prop} {tj : R β} {tk : β → R δ} (hj : Gn (sIf c A B ρ) tj (fNx E)) (h : ∀ b ρ', E b ρ' → Gn (f ρ') (tk b) Φ) : Gn (sSeq (sIf c A B) f ρ) (tj.bind tk) Φ := by
  cases tj with
  | stk => trivial
  | exc c0 =>
    obtain ⟨ρ', e⟩ := hj
    exact ⟨ρ', by unfold sSeq; rw [e]⟩
  | ok b0 =>
    obtain ⟨ρ', e, hE⟩ := hj
    have := h b0 ρ' hE
    show Gn _ (tk b0) Φ
    rw [seq_nx' e]; exact this
/-- a block, then what comes behind: loops and the like -/
theorem g_seqJ {E : β → Rho → Prop} {tj : R β} {tk : β → R δ} (hj : Gn (a ρ) tj (fNx E)) (h : ∀ b ρ', E b ρ' → Gn (f ρ') (tk b) Φ) : Gn (sSeq a f ρ) (tj.bind tk) Φ := by
  cases tj with
  | stk => trivial
  | exc c0 =>
    obtain ⟨ρ', e⟩ := hj
    exact ⟨ρ', by unfold sSeq; rw [e]⟩
  | ok b0 =>
    obtain ⟨ρ', e, hE⟩ := hj
    have := h b0 ρ' hE
    show Gn _ (tk b0) Φ
    rw [seq_nx' e]; exact this
/-- .. that may return -/
theorem g_seqF {E : β → Rho → Prop} {Er : γ → SO → Prop} {tj : R (Fl β γ)} {tk : β → R δ} {hr : γ → δ} (hj : Gn (a ρ) tj (fFl E Er)) (hret : ∀ g w ρ', Er g (.ret w ρ') → Φ (hr g) (.ret w ρ')) (hEr : ∀ g s, Er g s → ∃ w ρ', s = .ret w ρ') (hnb : ∀ b, tj ≠ .ok (.bk b)) (hnc : ∀ b, tj ≠ .ok (.ct b)) (h : ∀ b ρ', E b ρ' → Gn (f ρ') (tk b) Φ) :
    Gn (sSeq a f ρ) (tj.bind fun r => match r with
      | .nx b => tk b
      | .ct b => tk b
      | .bk b => tk b
      | .ret g => .ok (hr g)) Φ := by
  cases tj with
  | stk => trivial
  | exc c0 =>
    obtain ⟨ρ', e⟩ := hj
    exact ⟨ρ', by unfold sSeq; rw [e]⟩
  | ok r =>
    cases r with
    | nx b0 =>
      obtain ⟨ρ', e, hE⟩ := hj
      have := h b0 ρ' hE
      show Gn _ (tk b0) Φ
      rw [seq_nx' e]; exact this
    | ct b0 => exact (hnc b0 rfl).elim
    | bk b0 => exact (hnb b0 rfl).elim
    | ret g =>
      obtain ⟨w, ρ', e⟩ := hEr g _ hj
      have hj' : Er g (a ρ) := hj
      rw [e] at hj'
      show Φ (hr g) _
      have : sSeq a f ρ = .ret w ρ' := by unfold sSeq; rw [e]
      rw [this]
      exact hret g w ρ' hj'
/-- for -/
theorem ev_for {ι : α → PyData} {xs : List α} {Inv : β → Rho → Prop} {b0 : β} {tb : α → β → R β} (hi : Iv fi ρ (xs.map ι) ρ1) (h0 : Inv b0 ρ1) (hb : ∀ x ∈ xs, ∀ b ρ', Inv b ρ' → ∃ ρ2, bnd (ι x) ρ' = some ρ2 ∧ Gn (body ρ2) (tb x b) (fLp Inv)) :
    Gn (sFor fi bnd body ρ) (forR tb xs b0) (fNx Inv) := by
  unfold Iv at hi
  rw [sFor_ev hi]
  clear hi
  induction xs generalizing b0 ρ1 with
  | nil => exact ⟨ρ1, rfl, h0⟩
  | cons x xs ih =>
    obtain ⟨ρ2, e1, g1⟩ := hb x (by simp) b0 ρ1 h0
    rw [List.map_cons, forL_step e1]
    show Gn _ ((tb x b0).bind (forR tb xs)) _
    cases ht : tb x b0 with
    | stk => trivial
    | exc c0 =>
      rw [ht] at g1
      obtain ⟨ρ', e⟩ := g1
      exact ⟨ρ', by rw [e]⟩
    | ok b1 =>
      rw [ht] at g1
      obtain ⟨ρ', e, hI⟩ := g1
      have := ih hI fun y hy => hb y (List.mem_cons_of_mem _ hy)
      rcases e with e | e <;> rw [e] <;> exact this
/-- for, with ways out -/
theorem ev_forF {ι : α → PyData} {xs : List α} {Inv : β → Rho → Prop} {Er : γ → SO → Prop} {b0 : β} {tb : α → β → R (Fl β γ)} (hEr : ∀ g s, Er g s → ∃ w ρ', s = .ret w ρ') (hi : Iv fi ρ (xs.map ι) ρ1) (h0 : Inv b0 ρ1) (hb : ∀ x ∈ xs, ∀ b ρ', Inv b ρ' → ∃ ρ2, bnd (ι x) ρ' = some ρ2 ∧ Gn (body ρ2) (tb x b) (fFl Inv Er)) :
    Gn (sFor fi bnd body ρ) (forF tb xs b0) (fFl Inv Er) := by
  unfold Iv at hi
  rw [sFor_ev hi]
  clear hi
  induction xs generalizing b0 ρ1 with
  | nil => exact ⟨ρ1, rfl, h0⟩
  | cons x xs ih =>
    obtain ⟨ρ2, e1, g1⟩ := hb x (by simp) b0 ρ1 h0
    rw [List.map_cons, forL_step e1]
    show Gn _ ((tb x b0).bind _) _
    cases ht : tb x b0 with
    | stk => trivial
    | exc c0 =>
      rw [ht] at g1
      obtain ⟨ρ', e⟩ := g1
      exact ⟨ρ', by rw [e]⟩
    | ok r =>
      rw [ht] at g1
      cases r with
      | nx b1 =>
        obtain ⟨ρ', e, hI⟩ := g1
        have := ih hI fun y hy => hb y (List.mem_cons_of_mem _ hy)
        rw [e]; exact this
      | ct b1 =>
        obtain ⟨ρ', e, hI⟩ := g1
        have := ih hI fun y hy => hb y (List.mem_cons_of_mem _ hy)
        rw [e]; exact this
      | bk b1 =>
        obtain ⟨ρ', e, hI⟩ := g1
        rw [e]; exact ⟨ρ', rfl, hI⟩
      | ret g =>
        have g1' : Er g _ := g1
        obtain ⟨w, ρ', e⟩ := hEr g _ g1'
        rw [e] at g1' ⊢
        exact g1'
theorem forF_noB {f : α → β → R (Fl β γ)} : ∀ (xs : List α) (b : β), (∀ b', forF f xs b ≠ .ok (.bk b')) ∧ ∀ b', forF f xs b ≠ .ok (.ct b')
  | [], b => ⟨(fun _ z => nomatch z), (fun _ z => nomatch z)⟩
  | x :: xs, b => by
    show (∀ b', (f x b).bind _ ≠ _) ∧ ∀ b', (f x b).bind _ ≠ _
    cases f x b with
    | stk => exact ⟨(fun _ z => nomatch z), (fun _ z => nomatch z)⟩
    | exc _ => exact ⟨(fun _ z => nomatch z), (fun _ z => nomatch z)⟩
    | ok r =>
      rw [R.ok_bind]
      cases r with
      | nx b' => exact forF_noB xs b'
      | ct b' => exact forF_noB xs b'
      | bk b' => exact ⟨(fun _ z => nomatch z), (fun _ z => nomatch z)⟩
      | ret g => exact ⟨(fun _ z => nomatch z), (fun _ z => nomatch z)⟩
theorem whN_noB {c : β → R Bool} {f : β → R (Fl β γ)} : ∀ (k : Nat) (b : β), (∀ b', whN' c f k b ≠ .ok (.bk b')) ∧ ∀ b', whN' c f k b ≠ .ok (.ct b')
  | 0, b => ⟨(fun _ z => nomatch z), (fun _ z => nomatch z)⟩
  | k + 1, b => by
    show (∀ b', (c b).bind _ ≠ _) ∧ ∀ b', (c b).bind _ ≠ _
    cases c b with
    | stk => exact ⟨(fun _ z => nomatch z), (fun _ z => nomatch z)⟩
    | exc _ => exact ⟨(fun _ z => nomatch z), (fun _ z => nomatch z)⟩
    | ok t =>
      rw [R.ok_bind]
      cases t with
      | false => exact ⟨(fun _ z => nomatch z), (fun _ z => nomatch z)⟩
      | true =>
        simp only [if_true]
        cases f b with
        | stk => exact ⟨(fun _ z => nomatch z), (fun _ z => nomatch z)⟩
        | exc _ => exact ⟨(fun _ z => nomatch z), (fun _ z => nomatch z)⟩
        | ok r =>
          rw [R.ok_bind]
          cases r with
          | nx b' => exact whN_noB k b'
          | ct b' => exact whN_noB k b'
          | bk b' => exact ⟨(fun _ z => nomatch z), (fun _ z => nomatch z)⟩
          | ret g => exact ⟨(fun _ z => nomatch z), (fun _ z => nomatch z)⟩
theorem whF_noB {c : β → R Bool} {f : β → R (Fl β γ)} (b : β) : (∀ b', whF c f b ≠ .ok (.bk b')) ∧ ∀ b', whF c f b ≠ .ok (.ct b') := by
  classical
  unfold whF
  split
  · exact whN_noB _ _
  · exact ⟨(fun _ z => nomatch z), (fun _ z => nomatch z)⟩
/-- while -/
def GT (t : Out Bool) (r : R Bool) (E : Rho → Prop) : Prop := match r with
  | .ok k => ∃ ρ', t = .ok k ρ' ∧ E ρ'
  | .exc _ => False
  | .stk => True
theorem gt_gd {t : Out Bool} {r : R Bool} {E : Rho → Prop} (h : p → GT t r E) : GT t (gdR p r) E := by
  classical
  unfold gdR
  split
  · rename_i q; exact h q
  · trivial
theorem gt_ok {E : Rho → Prop} (h : Tv c ρ k ρ1) (hE : E ρ1) : GT (c ρ) (.ok k) E := ⟨ρ1, h, hE⟩
theorem ev_whF {Inv : β → Rho → Prop} {Er : γ → SO → Prop} {b0 : β} {tc : β → R Bool} {tb : β → R (Fl β γ)} (hEr : ∀ g s, Er g s → ∃ w ρ', s = .ret w ρ') (h0 : Inv b0 ρ) (hc : ∀ b ρ', Inv b ρ' → GT (c ρ') (tc b) (Inv b)) (hb : ∀ b ρ', Inv b ρ' → Gn (body ρ') (tb b) (fFl Inv Er)) :
    Gn (sWh c body ρ) (whF tc tb b0) (fFl Inv Er) := by
  have go : ∀ (n : Nat) (b : β) (ρ : Rho), Inv b ρ → whN' tc tb n b ≠ .stk → ∃ m, whN c body m ρ ≠ .stk ∧ Gn (whN c body m ρ) (whN' tc tb n b) (fFl Inv Er) := by
    intro n
    induction n with
    | zero => intro b ρ _ h; exact (h rfl).elim
    | succ n ih =>
      intro b ρ hI h
      have unf : ∀ m, whN c body (m + 1) ρ = (c ρ).bindS fun t ρ1 => if t = true then
          match body ρ1 with
          | .nx ρ2 => whN c body m ρ2
          | .ct ρ2 => whN c body m ρ2
          | .bk ρ2 => .nx ρ2
          | .ret w ρ2 => .ret w ρ2
          | .exc c ρ2 => .exc c ρ2
          | .stk => .stk
        else .nx ρ1 := fun _ => rfl
      have h' : (tc b).bind (fun t => if t = true then (tb b).bind fun r => match r with
        | .nx b' => whN' tc tb n b'
        | .ct b' => whN' tc tb n b'
        | .bk b' => .ok (.nx b')
        | .ret g => .ok (.ret g)
        else .ok (.nx b)) ≠ .stk := h
      show ∃ m, _ ∧ Gn _ ((tc b).bind (fun t => if t = true then (tb b).bind fun r => match r with
        | .nx b' => whN' tc tb n b'
        | .ct b' => whN' tc tb n b'
        | .bk b' => .ok (.nx b')
        | .ret g => .ok (.ret g)
        else .ok (.nx b))) _
      have c1 := hc b ρ hI
      cases ec : tc b with
      | stk => rw [ec] at h'; exact (h' rfl).elim
      | exc _ => rw [ec] at c1; exact c1.elim
      | ok t =>
        rw [ec] at c1 h'
        rw [R.ok_bind] at h' ⊢
        obtain ⟨ρ1, e1, hI1⟩ := c1
        cases t with
        | false => exact ⟨1, by rw [unf 0, e1]; exact (fun z => nomatch z), by rw [unf 0, e1]; exact ⟨ρ1, rfl, hI1⟩⟩
        | true =>
          simp only [if_true] at h' ⊢
          have b1 := hb b ρ1 hI1
          cases eb : tb b with
          | stk => rw [eb] at h'; exact (h' rfl).elim
          | exc c0 =>
            rw [eb] at b1
            obtain ⟨ρ2, e2⟩ := b1
            exact ⟨1, by rw [unf 0, e1, bindS_ok, if_pos rfl, e2]; exact (fun z => nomatch z), by rw [unf 0, e1, bindS_ok, if_pos rfl, e2]; exact ⟨ρ2, rfl⟩⟩
          | ok r =>
            rw [eb] at b1 h'
            rw [R.ok_bind] at h' ⊢
            cases r with
            | nx b' =>
              obtain ⟨ρ2, e2, hI2⟩ := b1
              obtain ⟨m, q1, q2⟩ := ih b' ρ2 hI2 h'
              exact ⟨m + 1, by rw [unf m, e1, bindS_ok, if_pos rfl, e2]; exact q1, by rw [unf m, e1, bindS_ok, if_pos rfl, e2]; exact q2⟩
            | ct b' =>
              obtain ⟨ρ2, e2, hI2⟩ := b1
              obtain ⟨m, q1, q2⟩ := ih b' ρ2 hI2 h'
              exact ⟨m + 1, by rw [unf m, e1, bindS_ok, if_pos rfl, e2]; exact q1, by rw [unf m, e1, bindS_ok, if_pos rfl, e2]; exact q2⟩
            | bk b' =>
              obtain ⟨ρ2, e2, hI2⟩ := b1
              exact ⟨1, by rw [unf 0, e1, bindS_ok, if_pos rfl, e2]; exact (fun z => nomatch z), by rw [unf 0, e1, bindS_ok, if_pos rfl, e2]; exact ⟨ρ2, rfl, hI2⟩⟩
            | ret g =>
              have b1' : Er g _ := b1
              obtain ⟨w, ρ2, e2⟩ := hEr g _ b1'
              rw [e2] at b1'
              exact ⟨1, by rw [unf 0, e1, bindS_ok, if_pos rfl, e2]; exact (fun z => nomatch z), by rw [unf 0, e1, bindS_ok, if_pos rfl, e2]; exact b1'⟩
  classical
  unfold whF
  split
  · rename_i hx
    obtain ⟨m, q1, q2⟩ := go _ b0 ρ h0 hx.choose_spec
    rw [sWh_eq q1]; exact q2
  · trivial
/-! calls at statement's place, with raises -/
/-- what an expression comes to -/
def Gx (o : Out Opd) (t : R γ) (wr : γ → Vl) (E : γ → Rho → Prop) : Prop := match t with
  | .ok g => ∃ ρ', o = .ok (.val (wr g)) ρ' ∧ E g ρ'
  | .exc c => ∃ ρ', o = .exc c ρ'
  | .stk => True
theorem g_dropX {wr : γ → Vl} {E : γ → Rho → Prop} {r : R γ} {tk : γ → R δ} (h : Gx (fe ρ) r wr E) (g : ∀ x ρ', E x ρ' → Gn (f ρ') (tk x) Φ) : Gn (sSeq (sDrop fe) f ρ) (r.bind tk) Φ := by
  cases r with
  | stk => trivial
  | exc c0 =>
    obtain ⟨ρ', e⟩ := h
    refine ⟨ρ', ?_⟩
    unfold sSeq sDrop
    rw [e]; rfl
  | ok x =>
    obtain ⟨ρ', e, hE⟩ := h
    have := g x ρ' hE
    show Gn _ (tk x) _
    rw [seq_nx' (show sDrop fe ρ = .nx ρ' by unfold sDrop; rw [e]; rfl)]
    exact this
theorem g_setX {wr : γ → Vl} {E : γ → Rho → Prop} {r : R γ} {tk : γ → R δ} (h : Gx (fe ρ) r wr E) (g : ∀ x ρ', E x ρ' → Gn (f (ρ'.set i (some (wr x)))) (tk x) Φ) : Gn (sSeq (sSet i fe) f ρ) (r.bind tk) Φ := by
  cases r with
  | stk => trivial
  | exc c0 =>
    obtain ⟨ρ', e⟩ := h
    refine ⟨ρ', ?_⟩
    unfold sSeq sSet
    rw [e]; rfl
  | ok x =>
    obtain ⟨ρ', e, hE⟩ := h
    have := g x ρ' hE
    show Gn _ (tk x) _
    rw [seq_nx' (show sSet i fe ρ = .nx (ρ'.set i (some (wr x))) by unfold sSet; rw [e]; rfl)]
    exact this
theorem g_retX {wr : γ → Vl} {E : γ → Rho → Prop} {r : R γ} (h : Gx (fe ρ) r wr E) : Gn (sSeq (sRet fe) f ρ) r (fRt wr E) := by
  cases r with
  | stk => trivial
  | exc c0 =>
    obtain ⟨ρ', e⟩ := h
    refine ⟨ρ', ?_⟩
    unfold sSeq sRet
    rw [e]; rfl
  | ok x =>
    obtain ⟨ρ', e, hE⟩ := h
    refine ⟨ρ', ?_, hE⟩
    unfold sSeq sRet
    rw [e]; rfl
/-- what a def's call comes to: S at the arguments is r -/
def SpR {γ : Type} (S : CSpec) (ds : List PyData) (r : R γ) (wr : γ → Vl) : Prop := match r with
  | .ok g => S (ds.map .dat) = .ok (wr g) (List.replicate ds.length none)
  | .exc c => S (ds.map .dat) = .exc c (List.replicate ds.length none)
  | .stk => True
theorem gx_call {S : CSpec} {n : Nat} {ds : List PyData} {r : R γ} {wr : γ → Vl} (h1 : Av F ρ ds ρ1) (hs : SpR S ds r wr) (hn : ds.length = n := by rfl) : Gx (fCall (List.replicate n false) S F ρ) r wr (fun _ ρ' => ρ' = ρ1) := by
  subst hn
  cases r with
  | stk => trivial
  | exc c0 => exact ⟨ρ1, px_call (av_ab h1) hs rfl⟩
  | ok x => exact ⟨ρ1, pv_call h1 hs rfl, rfl⟩
theorem gx_callL {S : CSpec} {n : Nat} {ds : List PyData} {r : R γ} {wr : γ → Vl} (h1 : Ab F ρ ds ρ1) (hs : SpR S ds r wr) (hc : ∀ g, clean (wr g) = true) (hn : ds.length = n := by rfl) : Gx (fCall (List.replicate n false) S F ρ) r wr (fun _ ρ' => ρ' = ρ1) := by
  subst hn
  cases r with
  | stk => trivial
  | exc c0 => exact ⟨ρ1, px_call h1 hs rfl⟩
  | ok x => exact ⟨ρ1, pv_callL h1 hs (hc x) rfl, rfl⟩
/-! the whole def -/
theorem outs_fal : ∀ (n : Nat) (ρ : Rho), outs (List.replicate n false) ρ = List.replicate n none
  | 0, _ => rfl
  | n + 1, [] => by
    show none :: outs (List.replicate n false) [] = _
    rw [outs_fal n]; rfl
  | n + 1, r :: ρ => by
    show none :: outs (List.replicate n false) ρ = _
    rw [outs_fal n]; rfl
theorem sp_fun {n m : Nat} {fs : FS} {ds : List PyData} {r : R γ} {wr : γ → Vl} {E : γ → Rho → Prop} (hn : ds.length = n := by rfl) (h : Gn (fs ((ds.map .dat).map some ++ List.replicate (m - n) none)) r (fRt wr E)) : SpR (specOf (List.replicate n false) m fs) ds r wr := by
  subst hn
  have hl : (ds.map Vl.dat).length = ds.length := List.length_map _
  cases r with
  | stk => trivial
  | exc c0 =>
    obtain ⟨ρ', e⟩ := h
    show specOf _ _ _ _ = _
    unfold specOf
    rw [hl, e]
    show COut.exc c0 (outs _ ρ') = _
    rw [outs_fal]
  | ok x =>
    obtain ⟨ρ', e, _⟩ := h
    show specOf _ _ _ _ = _
    unfold specOf
    rw [hl, e]
    show COut.ok _ (outs _ ρ') = _
    rw [outs_fal]
theorem sp_proc {n m : Nat} {fs : FS} {ds : List PyData} {r : R Unit} {E : Rho → Prop} (hn : ds.length = n := by rfl) (h : Gn (fs ((ds.map .dat).map some ++ List.replicate (m - n) none)) r (fPr E)) : SpR (specOf (List.replicate n false) m fs) ds r (fun _ => .dat .none) := by
  subst hn
  have hl : (ds.map Vl.dat).length = ds.length := List.length_map _
  cases r with
  | stk => trivial
  | exc c0 =>
    obtain ⟨ρ', e⟩ := h
    show specOf _ _ _ _ = _
    unfold specOf
    rw [hl, e]
    show COut.exc c0 (outs _ ρ') = _
    rw [outs_fal]
  | ok x =>
    obtain ⟨ρ', e, _⟩ := h
    show specOf _ _ _ _ = _
    unfold specOf
    rcases e with e | e
    · rw [hl, e]
      show COut.ok _ (outs _ ρ') = _
      rw [outs_fal]
    · rw [hl, e]
      show COut.ok _ (outs _ ρ') = _
      rw [outs_fal]
end
end Mi
end
section
set_option Elab.async false
set_option linter.all false
set_option maxRecDepth 100000
/-! Tw4: facts of operators and built-ins, by kinds -/
namespace Mi
open PySem
instance : Inhabited PyData := ⟨.none⟩
def letR {α β : Type} (a : α) (k : α → R β) : R β := k a
theorem letR_eq {α β : Type} (a : α) (k : α → R β) : letR a k = k a := rfl
def inR (n : Nat) (i : Int) : Prop := -(n : Int) ≤ i ∧ i < n
def ix {α : Type} [Inhabited α] (xs : List α) (i : Int) : α := if 0 ≤ i then xs.getD i.toNat default else xs.getD (i + xs.length).toNat default
section
variable {α β : Type} {e : α → PyData} {f : β → PyData} {a b w : Vl} {xs ys : List α} {x y : α} {i j : Int} {k l : Bool} {d d' : PyData} {ds : List PyData} {n : Nat}
theorem y_add : gAdd (vI i) (vI j) = some (vI (i + j)) := by
  have h : gAddI (vI i) (vI j) = some (vI (i + j)) := gd_pos trivial
  unfold gAdd orG
  rw [h]
theorem y_addI : iop tt2 (fun i j => .int (i + j)) (vI i) (vI j) = some (vI (i + j)) := gd_pos trivial
theorem y_sub : gSub (vI i) (vI j) = some (vI (i - j)) := gd_pos trivial
theorem y_mul (h : L2.CMul i j) : gMul (vI i) (vI j) = some (vI (i * j)) := by
  have h' : gMulI (vI i) (vI j) = some (vI (i * j)) := gd_pos h
  unfold gMul orG
  rw [h']
theorem y_mulI (h : L2.CMul i j) : gMulI (vI i) (vI j) = some (vI (i * j)) := gd_pos h
theorem y_fdiv (h : L2.CDiv i j) : gFDiv (vI i) (vI j) = some (vI (i / j)) := gd_pos h
theorem y_mod (h : 0 < j) : gMod (vI i) (vI j) = some (vI (i % j)) := gd_pos h
theorem y_pow (h : L2.CPow i j) : gPow (vI i) (vI j) = some (vI (i ^ j.toNat)) := gd_pos h
theorem y_shl (h : L2.CPow i j) : gShl (vI i) (vI j) = some (vI (i * 2 ^ j.toNat)) := gd_pos h
theorem y_shr (h : 0 ≤ j) : gShr (vI i) (vI j) = some (vI (i / 2 ^ j.toNat)) := gd_pos h
theorem y_and : gAnd (vI i) (vI j) = some (vI (Builtin.bitAnd i j)) := gd_pos trivial
theorem y_or : gOr (vI i) (vI j) = some (vI (Builtin.bitOr i j)) := gd_pos trivial
theorem y_xor : gXor (vI i) (vI j) = some (vI (Builtin.bitXor i j)) := gd_pos trivial
theorem y_lt : gLt (vI i) (vI j) = some (vB (decide (i < j))) := gd_pos trivial
theorem y_le : gLe (vI i) (vI j) = some (vB (decide (i ≤ j))) := gd_pos trivial
theorem y_gt : gGt (vI i) (vI j) = some (vB (decide (j < i))) := gd_pos trivial
theorem y_ge : gGe (vI i) (vI j) = some (vB (decide (j ≤ i))) := gd_pos trivial
theorem y_neg : gU (fun i => -i) (vI i) = some (vI (-i)) := rfl
theorem y_inv : gU Builtin.bitNot (vI i) = some (vI (Builtin.bitNot i)) := rfl
theorem y_eq [DecidableEq α] {n : Nat} (h : Cod n e) (hn : n ≤ 64 := by decide) (ha : viewD a = some (e x) := by rfl) (hb : viewD b = some (e y) := by rfl) : gEq a b = some (vB (decide (x = y))) := by
  rw [gEq_of ha hb (h.shp hn x) (h.shp hn y), h.eqv]
theorem y_ne [DecidableEq α] {n : Nat} (h : Cod n e) (hn : n ≤ 64 := by decide) (ha : viewD a = some (e x) := by rfl) (hb : viewD b = some (e y) := by rfl) : gNe a b = some (vB (!decide (x = y))) := by
  rw [gNe_of ha hb (h.shp hn x) (h.shp hn y), h.eqv]
theorem y_eqS {s t : Str} : gEq (.dat (.str s)) (.dat (.str t)) = some (vB (decide (s = t))) := rfl
theorem y_neS {s t : Str} : gNe (.dat (.str s)) (.dat (.str t)) = some (vB (!decide (s = t))) := rfl
theorem y_eqD (ha : viewD a = some d := by rfl) (hb : viewD b = some d' := by rfl) (h : shp d ∧ shp d') : gEq a b = some (vB (PyData.eqv d d')) := gEq_of ha hb h.1 h.2
theorem y_neD (ha : viewD a = some d := by rfl) (hb : viewD b = some d' := by rfl) (h : shp d ∧ shp d') : gNe a b = some (vB (!PyData.eqv d d')) := gNe_of ha hb h.1 h.2
theorem y_in [DecidableEq α] {n : Nat} (h : Cod n e) (hn : n ≤ 63 := by decide) (ha : viewD a = some (e x) := by rfl) (hb : viewD b = some (.list (xs.map e)) ∨ viewD b = some (.tuple (xs.map e)) := by first | exact .inl rfl | exact .inr rfl) : gIn a b = some (vB (decide (x ∈ xs))) := by
  have s1 := h.shp (by omega) x
  unfold gIn
  rw [ha, Option.bind_some]
  rcases hb with hb | hb
  · rw [hb, Option.bind_some]
    show gd _ _ = _
    rw [gd_pos ⟨s1, (cod_lst h).shp (by omega) xs⟩, cod_any h]
  · rw [hb, Option.bind_some]
    show gd _ _ = _
    rw [gd_pos ⟨s1, (cod_tup h).shp (by omega) xs⟩, cod_any h]
theorem y_notIn [DecidableEq α] {n : Nat} (h : Cod n e) (hn : n ≤ 63 := by decide) (ha : viewD a = some (e x) := by rfl) (hb : viewD b = some (.list (xs.map e)) ∨ viewD b = some (.tuple (xs.map e)) := by first | exact .inl rfl | exact .inr rfl) : gNotIn a b = some (vB (!decide (x ∈ xs))) := by
  have s1 := h.shp (by omega) x
  unfold gNotIn
  rw [ha, Option.bind_some]
  rcases hb with hb | hb
  · rw [hb, Option.bind_some]
    show gd _ _ = _
    rw [gd_pos ⟨s1, (cod_lst h).shp (by omega) xs⟩, cod_any h]
  · rw [hb, Option.bind_some]
    show gd _ _ = _
    rw [gd_pos ⟨s1, (cod_tup h).shp (by omega) xs⟩, cod_any h]
/-! lists, tuples -/
abbrev szOk (n : Nat) : Prop := n ≤ 16777216
theorem szl {n : Nat} (h : szOk n) : n ≤ sizeLine := by
  have : sizeLine = 16777216 := by unfold sizeLine; decide
  omega
theorem notI_L {ds : List PyData} (h : asL a = some ds) (C : Int → Int → Prop) (g : Int → Int → PyData) : iop C g a b = none := by
  unfold iop
  split
  · cases h
  · rfl
theorem notI_T {ds : List PyData} (h : asT a = some ds) (C : Int → Int → Prop) (g : Int → Int → PyData) : iop C g a b = none := by
  unfold iop
  split
  · cases h
  · rfl
theorem y_catL (h : szOk (xs.length + ys.length)) (ha : asL a = some (xs.map e) := by rfl) (hb : asL b = some (ys.map e) := by rfl) : gAdd a b = some (.ml ((xs ++ ys).map e)) := by
  unfold gAdd gAddI
  unfold orG
  rw [notI_L ha]
  unfold gCatL
  simp only [ha, hb, Option.bind_some]
  rw [gd_pos (by rw [List.length_map, List.length_map]; exact szl h), List.map_append]
theorem y_catT (h : szOk (xs.length + ys.length)) (ha : asT a = some (xs.map e) := by rfl) (hb : asT b = some (ys.map e) := by rfl) : gAdd a b = some (.dat (.tuple ((xs ++ ys).map e))) := by
  unfold gAdd gAddI
  unfold orG
  rw [notI_T ha]
  have : gCatL a b = none := by
    unfold gCatL
    rw [asT_eq ha]; rfl
  rw [this]
  unfold gCatT
  simp only [ha, hb, Option.bind_some]
  rw [gd_pos (by rw [List.length_map, List.length_map]; exact szl h), List.map_append]
theorem atI_ix [Inhabited α] (h : inR xs.length i) : L2.atI (xs.map e) i = some (e (ix xs i)) := by
  obtain ⟨h1, h2⟩ := h
  unfold L2.atI L2.ixN ix
  rw [List.length_map]
  by_cases h0 : 0 ≤ i
  · rw [if_pos h0, if_pos h2, if_pos h0]
    show (xs.map e)[i.toNat]? = _
    have : i.toNat < xs.length := by omega
    simp [List.getD, this]
  · rw [if_neg h0, if_pos h1, if_neg h0]
    show (xs.map e)[(i + xs.length).toNat]? = _
    have : (i + xs.length).toNat < xs.length := by omega
    simp [List.getD, this]
theorem y_ix [Inhabited α] (h : inR xs.length i) (ha : asL a = some (xs.map e) ∨ asT a = some (xs.map e) := by first | exact .inl rfl | exact .inr rfl) : gIx a (vI i) = some (.dat (e (ix xs i))) := by
  unfold gIx
  rcases ha with ha | ha
  · simp only [ha, atI_ix h]; rfl
  · rw [asT_eq ha]
    show ((L2.atI (xs.map e) i).map Vl.dat) = _
    rw [atI_ix h]; rfl
/-- the place of a written tuple -/
theorem y_ixF {i : Int} (h : L2.atI ds i = some d := by rfl) (ha : asL a = some ds ∨ asT a = some ds := by first | exact .inl rfl | exact .inr rfl) : gIx a (vI i) = some (.dat d) := by
  unfold gIx
  rcases ha with ha | ha
  · simp only [ha, h]; rfl
  · rw [asT_eq ha]
    show ((L2.atI ds i).map Vl.dat) = _
    rw [h]; rfl
/-- data: the place in a tuple or list -/
def ixD (d : PyData) (i : Int) : PyData := match d with
  | .tuple ds => ix ds i
  | .list ds => ix ds i
  | _ => .none
def inD (d : PyData) (i : Int) : Prop := match d with
  | .tuple ds => inR ds.length i
  | .list ds => inR ds.length i
  | _ => False
theorem y_ixD (h : inD d i) : gIx (.dat d) (vI i) = some (.dat (ixD d i)) := by
  unfold inD at h
  unfold ixD
  split at h
  · rename_i ds
    have := atI_ix (e := fun d => d) h
    rw [show ds.map (fun d => d) = ds from List.map_id' ds] at this
    exact y_ixF this (.inr rfl)
  · rename_i ds
    have := atI_ix (e := fun d => d) h
    rw [show ds.map (fun d => d) = ds from List.map_id' ds] at this
    exact y_ixF this (.inl rfl)
  · exact h.elim
theorem y_len (ha : viewD a = some (.list (xs.map e)) ∨ viewD a = some (.tuple (xs.map e)) := by first | exact .inl rfl | exact .inr rfl) : g1 gLen [a] = some (vI (xs.length : Int)) := by
  show gLen a = _
  unfold gLen
  rcases ha with ha | ha <;> rw [ha] <;> simp [Option.bind_some]
theorem y_intI : g1 gInt [vI i] = some (vI i) := rfl
def bI (k : Bool) : Int := if k = true then 1 else 0
theorem y_intB : g1 gInt [vB k] = some (vI (bI k)) := by cases k <;> rfl
theorem y_abs : g1 gAbs [vI i] = some (vI (if i < 0 then -i else i)) := rfl
theorem y_sum {ns : List Int} (ha : asL a = some (ns.map .int) := by rfl) : g1 gSum [a] = some (vI ns.sum) := by
  show gSum a = _
  unfold gSum
  rw [ha, Option.bind_some, asInts_map]; rfl
theorem y_any1 {bs : List Bool} (ha : asL a = some (bs.map .bool) := by rfl) : g1 gAny [a] = some (vB (bs.any id)) := by
  show gAny a = _
  unfold gAny
  rw [ha, Option.bind_some, asBools_map]; rfl
theorem y_all1 {bs : List Bool} (ha : asL a = some (bs.map .bool) := by rfl) : g1 gAll [a] = some (vB (bs.all id)) := by
  show gAll a = _
  unfold gAll
  rw [ha, Option.bind_some, asBools_map]; rfl
theorem y_max1 {ns : List Int} (h : 0 < ns.length) (ha : asL a = some (ns.map .int) := by rfl) : g1 gMax1 [a] = some (vI (maxI ns)) := by
  show gMax1 a = _
  unfold gMax1
  rw [ha, Option.bind_some, asInts_map, Option.bind_some, gd_pos h]
theorem y_min1 {ns : List Int} (h : 0 < ns.length) (ha : asL a = some (ns.map .int) := by rfl) : g1 gMin1 [a] = some (vI (minI ns)) := by
  show gMin1 a = _
  unfold gMin1
  rw [ha, Option.bind_some, asInts_map, Option.bind_some, gd_pos h]
theorem y_2I {g : Int → Int → Int} : g2I g [vI i, vI j] = some (vI (g i j)) := rfl
theorem y_list (ha : asL a = some (xs.map e) ∨ asT a = some (xs.map e) := by first | exact .inl rfl | exact .inr rfl) : g1 gList [a] = some (.ml (xs.map e)) := by
  show gList a = _
  unfold gList
  rcases ha with ha | ha
  · rw [ha]
  · rw [asT_eq ha]; rfl
theorem y_tuple (ha : asL a = some (xs.map e) ∨ asT a = some (xs.map e) := by first | exact .inl rfl | exact .inr rfl) : g1 gTuple [a] = some (.dat (.tuple (xs.map e))) := by
  show gTuple a = _
  unfold gTuple
  rcases ha with ha | ha
  · rw [ha]
  · rw [asT_eq ha]; rfl
theorem y_set {ns : List Int} (h : ns.length < 4000) (ha : asL a = some (ns.map .int) ∨ asT a = some (ns.map .int) := by first | exact .inl rfl | exact .inr rfl) : g1 gSet [a] = some (.st ns) := by
  show gSet a = _
  unfold gSet
  have : ((asL a).orElse fun _ => asT a) = some (ns.map .int) := by
    rcases ha with ha | ha
    · rw [ha]; rfl
    · rw [asT_eq ha]; rfl
  rw [this, Option.bind_some, asInts_map, Option.bind_some, gd_pos h]
theorem y_sortS {ns : List Int} : orC (g1 gSortS) (g1 gSorted) [.st ns] = some (.ml ((sortSet ns).map .int)) := rfl
theorem y_sortI {ns : List Int} : orC (g1 gSortS) (g1 gSorted) [.ml (ns.map .int)] = some (.ml ((sortI ns).map .int)) := gSorted_ml ns
theorem y_repr (h : Rok d ∧ isRef d = true) (ha : viewD a = some d := by rfl) : g1 gRepr [a] = some (.dat (.str d.shown)) := by
  show gRepr a = _
  unfold gRepr
  rw [ha, Option.bind_some, gd_pos h]
/-! truth -/
theorem y_truI : tru (vI i) = some (i != 0) := rfl
theorem y_truL (ha : asL a = some (xs.map e) ∨ asT a = some (xs.map e) := by first | exact .inl rfl | exact .inr rfl) : tru a = some (!xs.isEmpty) := by
  have h2 : (xs.map e).isEmpty = xs.isEmpty := by cases xs <;> rfl
  rcases ha with ha | ha
  · unfold asL at ha
    split at ha
    · cases ha; show some (!(xs.map e).isEmpty) = _; rw [h2]
    · cases ha; show some (!(xs.map e).isEmpty) = _; rw [h2]
    · cases ha
  · rw [asT_eq ha]; show some (!(xs.map e).isEmpty) = _; rw [h2]
/-! slices -/
theorem cutD_map {lo hi : Option Int} : cutD (xs.map e) lo hi = (cutD xs lo hi).map e := by
  unfold cutD
  rw [List.length_map, List.map_take, List.map_drop]
theorem y_slL {lo hi : Option Int} (ha : asL a = some (xs.map e) := by rfl) : gSl a lo hi = some (.ml ((cutD xs lo hi).map e)) := by
  unfold gSl
  rw [ha, ← cutD_map]
theorem y_slT {lo hi : Option Int} (ha : asT a = some (xs.map e) := by rfl) : gSl a lo hi = some (.dat (.tuple ((cutD xs lo hi).map e))) := by
  unfold gSl
  rw [asT_eq ha, ← cutD_map]; rfl
end
/-! ### more expressions -/
section
variable {f g : FE} {F : FA} {ρ ρ1 ρ2 ρ3 ρ4 : Rho} {w a : Vl} {ds : List PyData} {d : PyData} {i : Nat} {os : List Opd} {c : Nat}
/-- a part of a slice -/
def Sv (f : FP) (ρ : Rho) (i : Option Int) (ρ' : Rho) : Prop := f ρ = .ok i ρ'
theorem sv_no : Sv pNo ρ none ρ := rfl
theorem sv_so {i : Int} (h : Pl f ρ (vI i) ρ1) : Sv (pSo f) ρ (some i) ρ1 := by
  obtain ⟨o, e, l⟩ := h
  unfold Sv pSo
  rw [e, bind_ok, l]
theorem pv_sl {fl fh : FP} {lo hi : Option Int} (h : Pl f ρ a ρ) (hl : Sv fl ρ lo ρ) (hh : Sv fh ρ hi ρ) (hg : gSl a lo hi = some w) : Pv (fSl f fl fh) ρ w ρ := by
  obtain ⟨o, e, l⟩ := h
  unfold Sv at hl hh
  unfold Pv fSl
  rw [e, bind_ok, hl, bind_ok, hh, bind_ok, l]
  show Mi.ret ρ (gSl a lo hi) = _
  rw [hg, ret_some]
/-- displays of values -/
theorem frzL_val : ∀ {ws : List Vl} {ds : List PyData}, ws.map viewD = ds.map some → frzL ρ (ws.map Opd.val) = some (ds, ρ)
  | [], [], _ => rfl
  | w :: ws, d :: ds, h => by
    simp only [List.map_cons, List.cons.injEq] at h
    show (((viewD w).map fun d => (d, ρ)).bind fun p => (frzL p.2 (ws.map Opd.val)).map fun q => (p.1 :: q.1, q.2)) = _
    rw [h.1]
    show ((frzL ρ (ws.map Opd.val)).map fun q => (d :: q.1, q.2)) = _
    rw [frzL_val h.2]; rfl
  | [], _ :: _, h => by simp at h
  | _ :: _, [], h => by simp at h
theorem pv_tup (h : Av F ρ ds ρ1) (hl : ds.length ≤ 100000 := by first | decide | exact Nat.le_of_ble_eq_true rfl) : Pv (fTup F) ρ (.dat (.tuple ds)) ρ1 := by
  obtain ⟨ws, e, l⟩ := h
  unfold Pv fTup
  rw [e, bind_ok]
  unfold mkT
  rw [frzL_val l]
  show (if ds.length ≤ 100000 then Out.ok (Opd.val (.dat (.tuple ds))) ρ1 else .stk) = _
  rw [if_pos hl]
theorem pv_lst (h : Av F ρ ds ρ1) (hl : ds.length ≤ 100000 := by first | decide | exact Nat.le_of_ble_eq_true rfl) : Pv (fLst F) ρ (.ml ds) ρ1 := by
  obtain ⟨ws, e, l⟩ := h
  unfold Pv fLst
  rw [e, bind_ok]
  unfold mkL
  rw [frzL_val l]
  show (if ds.length ≤ 100000 then Out.ok (Opd.val (.ml ds)) ρ1 else .stk) = _
  rw [if_pos hl]
/-- x.append(e) -/
theorem pv_app (hm : (ρ[i]?).join = some (.ml ds) := by rfl) (h : Pv f ρ w ρ1) (hd : viewD w = some d := by rfl) (hm1 : (ρ1[i]?).join = some (.ml ds) := by rfl) (hl : ds.length ≤ 100000) (hr : ρ1.set i (some (.ml (ds ++ [d]))) = ρ2) : Pv (fApp i f) ρ (.dat .none) ρ2 := by
  unfold Pv at h
  unfold Pv fApp
  have : isMl ρ i = true := by unfold isMl; rw [look_brw, hm]
  rw [if_pos this, h, bind_ok]
  have hf : frz1 ρ1 (.val w) = some (d, ρ1) := by show (viewD w).map _ = _; rw [hd]; rfl
  unfold appO
  rw [hf]
  show (match look ρ1 (.brw i) with
    | some (.ml ds) => if ds.length ≤ 100000 then Out.ok (Opd.val (.dat .none)) (ρ1.set i (some (.ml (ds ++ [d])))) else .stk
    | _ => .stk) = _
  rw [look_brw, hm1]
  show (if ds.length ≤ 100000 then _ else _) = _
  rw [if_pos hl, hr]
theorem pv_ext {es : List PyData} (hm : (ρ[i]?).join = some (.ml ds) := by rfl) (h : Pv f ρ (.ml es) ρ1) (hm1 : (ρ1[i]?).join = some (.ml ds) := by rfl) (hl : ds.length + es.length ≤ 100000) (hr : ρ1.set i (some (.ml (ds ++ es))) = ρ2) : Pv (fExt i f) ρ (.dat .none) ρ2 := by
  unfold Pv at h
  unfold Pv fExt
  have : isMl ρ i = true := by unfold isMl; rw [look_brw, hm]
  rw [if_pos this, h, bind_ok]
  show (match look ρ1 (.brw i) with
    | some (.ml ds) => if ds.length + es.length ≤ 100000 then Out.ok (Opd.val (.dat .none)) (ρ1.set i (some (.ml (ds ++ es)))) else .stk
    | _ => .stk) = _
  rw [look_brw, hm1]
  show (if ds.length + es.length ≤ 100000 then _ else _) = _
  rw [if_pos hl, hr]
theorem pv_pop (hm : (ρ[i]?).join = some (.ml ds) := by rfl) (hl : ds.getLast? = some d) (hr : ρ.set i (some (.ml ds.dropLast)) = ρ1) : Pv (fPop i) ρ (.dat d) ρ1 := by
  unfold Pv fPop
  rw [look_brw, hm]
  simp only [hl, hr]
/-- x[j] = e -/
theorem ev_setItem {fi fe : FE} {j : Int} {m : Nat} (h : Pv fe ρ w ρ1) (hd : viewD w = some d := by rfl) (hm : (ρ1[i]?).join = some (.ml ds) := by rfl) (hi : Pv fi ρ1 (vI j) ρ2) (hm2 : (ρ2[i]?).join = some (.ml ds) := by rfl) (hj : L2.ixN ds.length j = some m) (hr : ρ2.set i (some (.ml (ds.set m d))) = ρ3) : sSetItem i fi fe ρ = .nx ρ3 := by
  unfold Pv at h hi
  unfold sSetItem
  have hf : frz1 ρ1 (.val w) = some (d, ρ1) := by show (viewD w).map _ = _; rw [hd]; rfl
  have : isMl ρ1 i = true := by unfold isMl; rw [look_brw, hm]
  rw [h, bindS_ok, hf]
  show (if isMl ρ1 i = true then (fi ρ1).bindS fun oi ρ3 => setItemO i d oi ρ3 else .stk) = _
  rw [if_pos this, hi, bindS_ok]
  unfold setItemO
  rw [look_val]
  show (match look ρ2 (.brw i) with
    | some (.ml ds) => match L2.ixN ds.length j with
      | some m => SO.nx (ρ2.set i (some (.ml (ds.set m d))))
      | none => .stk
    | _ => .stk) = _
  rw [look_brw, hm2]
  simp only [hj, hr]
theorem ev_aug {g : Vl → Vl → Option Vl} {b : Vl} (h0 : (ρ[i]?).join = some (.dat d) := by rfl) (h : Pl f ρ b ρ1) (hg : g (.dat d) b = some w) (hr : ρ1.set i (some w) = ρ2) : sAug i g f ρ = .nx ρ2 := by
  obtain ⟨o, e, l⟩ := h
  unfold sAug
  rw [look_brw, h0]
  show (f ρ).bindS _ = _
  rw [e, bindS_ok]
  unfold augO
  rw [l, Option.bind_some, hg]
  show SO.nx _ = _
  rw [hr]
/-- the def of a list's place -/
theorem pick_call {io : List Bool} {ss : List CSpec} {s : CSpec} {fe : FE} {fa : FA} {k : Int} (he : Pv fe ρ (vI k) ρ) (ha : L2.atI ss k = some s) : fPick io ss fe fa ρ = fCall io s fa ρ := by
  unfold Pv at he
  unfold fPick
  rw [he, bind_ok]
  unfold pickO
  rw [look_val]
  simp only [ha]
end
section
variable {δ α : Type} {Φ : δ → SO → Prop} {f : FS} {fe : FE} {ρ ρ1 ρ2 : Rho} {i : Nat} {w : Vl} {v : α} {t : α → R δ}
/-- a slot is set; behind it its value is any -/
theorem g_setL {en : α → Vl} (h : Pv fe ρ (en v) ρ1) (g : ∀ x, Gn (f (ρ1.set i (some (en x)))) (t x) Φ) : Gn (sSeq (sSet i fe) f ρ) (letR v t) Φ := g_set h rfl (g v)
theorem g_setC {en : α → Vl} {rc : Int → Rho} {c : Int} {t : α → Int → R δ} (h : Pv fe ρ (en v) (rc c)) (g : ∀ x c, Gn (f ((rc c).set i (some (en x)))) (t x c) Φ) : Gn (sSeq (sSet i fe) f ρ) (letR v fun x => letR c fun c => t x c) Φ := g_set h rfl (g v c)
theorem g_nxt {s : FS} (e : s ρ = .nx ρ1) {t : R δ} (g : Gn (f ρ1) t Φ) : Gn (sSeq s f ρ) t Φ := g_step e g
end
end Mi
end
section
set_option Elab.async false
set_option linter.all false
set_option maxRecDepth 100000
set_option maxHeartbeats 1000000
/-! Ev40: enumerate, zip of two and three, over lists and tuples in any mix -/
namespace Mi
open PySem PySem.Spec PyProof.Rows L2

theorem meets_enumerate_new1 {v : Value} {o : Obj} {H : Heap → Prop} (B : Begins v o H) :
    Meets (Builtin.«enumerate.__new__» ⟨[.type "enumerate", v], []⟩) (fun _ R s => H s.heap ∧
      R (.ok (.ret (.ref (s.heap.push o).objs.size))) { s with heap := (s.heap.push o).push { cls := .type "enumerate", data := .fields #[.none, .bool false, .ref s.heap.objs.size, rawInt 0, .none, .none] } }) :=
  .of_wp fun prog w A R s h => by
    obtain ⟨hp, g, d, tk, os⟩ := s; obtain ⟨h1, h⟩ := h
    have hsub := sub_enumerate
    have q1 : ∀ {A' : Around} {E : Value → Shared → Prop} {Q : Value → Shared → Prop}, Q (.ref hp.objs.size) ⟨hp.push o, g, d, tk, os⟩ → wpAny (model prog w) A' (pyIter v) Q E ⟨hp, g, d, tk, os⟩ :=
      fun q => B.iter prog w _ _ ⟨hp, g, d, tk, os⟩ _ h1 q
    wp_walk using q1
    refine wpAny_stack_any fun st => wpAny_pure ?_
    split
    · rename_i c _ _ _ _ _
      cases (c == Value.type "enumerate")
      · wp_walk using q1
        exact ⟨_, rfl, h⟩
      · wp_walk using q1
        exact ⟨_, rfl, h⟩
    · wp_walk using q1
      exact ⟨_, rfl, h⟩
section
variable {prog : Program} {w : World} {A : Around} {E : Value → Shared → Prop} {s : Shared}
theorem enum_begins1 {v : Value} {o : Obj} {H : Heap → Prop} {Q : Value → Shared → Prop} (B : Begins v o H) (h1 : H s.heap)
    (h : ∀ h', IsEnum h' (s.heap.objs.size + 1) s.heap.objs.size 0 .none → h'.get? s.heap.objs.size = some o → h'.objs.size = s.heap.objs.size + 2 →
      (∀ b o, s.heap.get? b = some o → h'.get? b = some o) → Q (.ref (s.heap.objs.size + 1)) { s with heap := h' }) :
    wpAny (model prog w) A (call (.type "enumerate") [v]) Q E s := by
  refine callType_new F.called_enumerate (by decide) (F.typeCall_enumerate_1 _) (F.newCall_enumerate_1 _) (fun obj => F.args_object_init_2 obj _) F.entry_enumerate_new
    (meets_enumerate_new1 B) ⟨h1, ?_⟩
  have hz : (s.heap.push o).objs.size = s.heap.objs.size + 1 := Heap.size_push ..
  show _ ∧ _
  rw [hz]
  have he : IsEnum ((s.heap.push o).push { cls := .type "enumerate", data := .fields #[.none, .bool false, .ref s.heap.objs.size, rawInt 0, .none, .none] }) (s.heap.objs.size + 1) s.heap.objs.size 0 .none := by
    have := Heap.get?_push_size (s.heap.push o) (o := { cls := .type "enumerate", data := .fields #[.none, .bool false, .ref s.heap.objs.size, rawInt 0, .none, .none] }) rfl
    rw [hz] at this; exact this
  refine ⟨⟨_, he, rfl⟩, h _ he (Heap.get?_push_of_some _ (Heap.get?_push_size _ B.free)) (by rw [Heap.size_push, hz]) fun b o x => Heap.get?_push_of_some _ (Heap.get?_push_of_some _ x)⟩
end

/-! ### a source: a list or a tuple -/
structure Src where
  tup : Bool
  a : Addr
def Src.si (z : Src) (h : Heap) (it : Addr) (i : Nat) : Prop := if z.tup = true then h.IsTupleIter it z.a i else h.IsListIter it z.a i
def Src.sq (z : Src) (h : Heap) (its : Array Value) : Prop := if z.tup = true then h.IsTuple z.a its else h.IsList z.a its
def Src.ob (z : Src) : Obj := if z.tup = true then { cls := .type "tuple_iterator", data := .fields #[.ref z.a, .int 0 0] } else { cls := .type "list_iterator", data := .fields #[.ref z.a, .int 0 0] }
def Src.at (z : Src) (K : PySem.W.Frag) (H : Hp) (xs : List V) : Prop := if z.tup = true then SqT K H z.a xs else SqL K H z.a xs
theorem Src.begins (z : Src) (its : Array Value) : Begins (.ref z.a) z.ob fun h => z.sq h its := by
  obtain ⟨t, a⟩ := z
  cases t
  · exact begins_list a its
  · exact begins_tuple a its
theorem Src.si0 (z : Src) {h : Heap} {it : Addr} (e : h.get? it = some z.ob) : z.si h it 0 := by
  obtain ⟨t, a⟩ := z
  cases t <;> exact ⟨_, e, rfl, rfl⟩
theorem Src.si_at (z : Src) {h h' : Heap} {it : Addr} {i : Nat} (q : z.si h it i) (k : ∀ o, h.get? it = some o → h'.get? it = some o) : z.si h' it i := by
  obtain ⟨t, a⟩ := z
  cases t
  · exact Heap.IsListIter.at q k
  · exact Heap.IsTupleIter.at q k
theorem Src.si_ob (z : Src) {h : Heap} {it : Addr} {i : Nat} (q : z.si h it i) : ∃ o vs, h.get? it = some o ∧ o.data = .fields vs := by
  obtain ⟨t, a⟩ := z
  cases t
  · obtain ⟨o, e, _, d⟩ := q; exact ⟨o, _, e, d⟩
  · obtain ⟨o, e, _, d⟩ := q; exact ⟨o, _, e, d⟩
theorem Src.sq_ob (z : Src) {h : Heap} {its : Array Value} (q : z.sq h its) : ∃ o n, h.get? z.a = some o ∧ o.data = .seq its n := by
  obtain ⟨t, a⟩ := z
  cases t
  · obtain ⟨o, e, _, n, d⟩ := q; exact ⟨o, n, e, d⟩
  · obtain ⟨o, e, _, n, d⟩ := q; exact ⟨o, n, e, d⟩
theorem Src.ne (z : Src) {h : Heap} {its : Array Value} (q : z.sq h its) {b : Addr} {o : Obj} {vs : Array Value} (e : h.get? b = some o) (d : o.data = .fields vs) : z.a ≠ b := fun y => by
  obtain ⟨o', n, e', d'⟩ := z.sq_ob q
  rw [y, e] at e'
  cases e'
  rw [d] at d'
  cases d'
section
variable {prog : Program} {w : World} {A : Around}
theorem Src.draws (z : Src) (hh : A.handled = none) (it : Addr) (hne : z.a ≠ it) (its : Array Value) : Draws prog w A it [it, z.a] its.size (fun i v => its[i]? = some v) (fun i h => z.si h it i ∧ z.sq h its) := by
  obtain ⟨t, a⟩ := z
  cases t
  · exact Draws.list hh it a hne its
  · exact Draws.tuple hh it a hne its
/-- beyond the end -/
theorem Src.drawsE (z : Src) (hh : A.handled = none) (it : Addr) (hne : z.a ≠ it) (its : Array Value) (n : Nat) (hn : its.size ≤ n) : Draws prog w A it [it, z.a] n (fun _ _ => False) (fun i h => i = n ∧ z.si h it i ∧ z.sq h its) where
  live := fun i h ⟨_, q, _⟩ => by obtain ⟨o, _, e, _⟩ := z.si_ob q; exact ⟨o, e⟩
  frame := fun i h h' ⟨e, q1, q2⟩ k => ⟨e, z.si_at q1 fun o e => k it (by simp) o e, by
    obtain ⟨t, a⟩ := z
    cases t
    · exact Heap.IsList.at q2 fun o e => k a (by simp) o e
    · exact Heap.IsTuple.at q2 fun o e => k a (by simp) o e⟩
  item := fun i s Q E hi ⟨e, _⟩ => by omega
  done := fun s Q E ⟨_, q1, q2⟩ hE => by
    obtain ⟨t, a⟩ := z
    cases t
    · exact wpAny_nextOf_list_end hh q1 q2 (by rw [Array.getElem?_eq_none]; exact hn) hE
    · exact wpAny_nextOf_tuple_end hh q1 q2 (by rw [Array.getElem?_eq_none]; exact hn) hE
end
section
variable {X : Cx} {pins : List (Addr × Obj)} {σ : L2.St} {H : Hp} {s : Shared}
theorem Src.inv (z : Src) (I : L2.Inv X pins σ H s) {xs : List V} (h : z.at X.K H xs) : ∃ its : List Value, Vals xs its ∧ z.sq s.heap its.toArray ∧ xs.length ≤ sizeLine := by
  obtain ⟨t, a⟩ := z
  cases t
  · obtain ⟨its, rv, p, hz⟩ := I.list h
    exact ⟨its, rv, p.isList, hz⟩
  · obtain ⟨its, rv, p, hz⟩ := I.tuple h
    exact ⟨its, rv, p, hz⟩
theorem Src.inj (z : Src) (I : L2.Inv X pins σ H s) {xs ys : List V} (h : z.at X.K H xs) (h' : z.at X.K H ys) : xs = ys := by
  obtain ⟨t, a⟩ := z
  cases t
  · exact I.list_inj h h'
  · exact I.tuple_inj h h'
theorem Src.sq_lt (z : Src) {h : Heap} {its : Array Value} (q : z.sq h its) : z.a < h.objs.size := by
  obtain ⟨o, n, e, _⟩ := z.sq_ob q
  exact Heap.lt_size e
end
/-- what a walk's next does, for Turn -/
theorem turn_of {P : Program} {w : World} {K : PySem.W.Frag} {elts : List Expr} {kk : Nat} {tpos : Pos} {J : It} {fp : List Addr} {I0 : Addr} {tn : Nat → Heap → Prop} (mem : I0 ∈ fp)
    (obj : ∀ i h, tn i h → ∀ b ∈ fp, ∃ o, h.get? b = some o ∧ ∀ v, o.data ≠ .cell v)
    (keep : ∀ i h h', tn i h → (∀ b ∈ fp, ∀ o, h.get? b = some o → h'.get? b = some o) → tn i h')
    (item : ∀ (X : Cx), X.prog = P → X.w = w → X.K = K → X.A.handled = none → ∀ (i : Nat) (pins : List (Addr × Obj)) (s : Shared) (σ : L2.St) (H : Hp), L2.Inv X pins σ H s → tn i s.heap → J.go i H →
      ∃ (fp' wr : List Addr) (n : Nat) (Y : Nat → Heap → Value → Heap → Prop) (S : Nat → Heap → Prop), GoesN P w X.A (.Tuple elts kk tpos) I0 fp' wr n Y S ∧ i < n ∧ S i s.heap ∧ (∀ b ∈ wr, b ∈ fp) ∧ (∀ h', S (i + 1) h' → tn (i + 1) h') ∧
        ∀ u h', Y i s.heap u h' → ∃ (T : Addr) (us : List Value) (xs : List V), u = .ref T ∧ s.heap.objs.size ≤ T ∧ h'.IsTuple T us.toArray ∧ Vals xs us ∧ xs.length ≤ sizeLine ∧ (H T = none → J.yld i H (.ref T) (upd H T (.tup xs))))
    (done : ∀ (X : Cx), X.prog = P → X.w = w → X.K = K → X.A.handled = none → ∀ (i : Nat) (pins : List (Addr × Obj)) (s : Shared) (σ : L2.St) (H : Hp), L2.Inv X pins σ H s → tn i s.heap → J.stop i H →
      ∃ (fp' wr : List Addr) (Y : Nat → Heap → Value → Heap → Prop) (S : Nat → Heap → Prop), GoesN P w X.A (.Tuple elts kk tpos) I0 fp' wr i Y S ∧ S i s.heap ∧ (∀ b ∈ wr, b ∈ fp))
    (self : ∀ (A : Around) (i : Nat) (s : Shared) (Q : Value → Shared → Prop) (E : Value → Shared → Prop), tn i s.heap → Q (.ref I0) s → wpAny (model P w) A (pyIter (.ref I0)) Q E s) :
    Turn P w K (.Tuple elts kk tpos) J fp I0 tn where
  mem := mem
  obj := obj
  keep := keep
  item := by
    intro X hP hw hK hc i pins s σ H E I hf st hg
    obtain ⟨fp', wr, n, Y, S, W, hi, hS, hwr, hn, hY⟩ := item X hP hw hK (I.ok.hd hc) i pins s σ H I st hg
    refine W.goes i s _ E hi hS fun v h' tk hy hS' hk htk => ?_
    obtain ⟨T, us, xs, rfl, hT, hget, hv, hl, hyl⟩ := hY v h' hy
    have hTn : H T = none := I.hok.fresh hT
    have new : ObjOk X.prog X.w (upd H T (.tup xs)) h' T (.tup xs) := ⟨hl, us, hv, hget⟩
    have I1 : Inv X pins σ (upd H T (.tup xs)) { s with heap := h', toks := tk } :=
      I.turnedNew (ch := fp) (fun b o hb e => hk b o (fun q => hb (hwr b q)) e) hf hT new
    refine ⟨.ref T, _, I1, rfl, hyl hTn, hn _ hS', fun b hb => ?_⟩
    have hbT : b ≠ T := fun q => by
      obtain ⟨o, e, _⟩ := obj i _ st b hb
      exact Nat.not_lt.mpr hT (q ▸ Heap.lt_size e)
    rw [upd_ne hbT]
    exact (hf b hb).1
  done := by
    intro X hP hw hK hc i pins s σ H E I hf st hg
    obtain ⟨fp', wr, Y, S, W, hS, hwr⟩ := done X hP hw hK (I.ok.hd hc) i pins s σ H I st hg
    refine W.stops s _ E hS fun h' tk hk htk => ?_
    exact I.turnedL (ch := fp) (fun b o hb e => hk b o (fun q => hb (hwr b q)) e) hf
  self := self
/-! ### enumerate -/
def JEn (K : PySem.W.Frag) (z : Src) : It :=
  ⟨fun i H => ∃ (xs : List V) (x : V), z.at K H xs ∧ xs[i]? = some x, fun i H v H' => ∃ T x, v = .ref T ∧ H T = none ∧ H' = upd H T (.tup [.int (i : Nat), x]) ∧ ∀ xs, z.at K H xs → xs[i]? = some x, fun i H => ∃ xs : List V, z.at K H xs ∧ xs.length ≤ i⟩
theorem turn_en {P : Program} {w : World} {K : PySem.W.Frag} {elts : List Expr} {kk : Nat} {tpos : Pos} (z : Src) (e it : Addr) (hne : e ≠ it) :
    Turn P w K (.Tuple elts kk tpos) (JEn K z) [e, it] e (fun i h => (∃ old, IsEnum h e it ((i : Nat) : Int) old) ∧ z.si h it i) := by
  refine turn_of (by simp) (fun i h st b hb => ?_) (fun i h h' st k => ?_) ?_ ?_ (fun A i s Q E st h => let ⟨⟨_, he⟩, _⟩ := st; wpAny_pyIter_enum he h)
  · obtain ⟨⟨old, he⟩, hi⟩ := st
    have e' : b = e ∨ b = it := by simpa using hb
    rcases e' with q | q
    · rw [q]; exact ⟨_, he, fun v q => nomatch q⟩
    · obtain ⟨o, vs, e1, d⟩ := z.si_ob hi
      rw [q]; exact ⟨o, e1, fun v q => by rw [d] at q; cases q⟩
  · obtain ⟨⟨old, he⟩, hi⟩ := st
    exact ⟨⟨old, k e (by simp) _ he⟩, z.si_at hi fun o q => k it (by simp) o q⟩
  · intro X hP hw hK hh i pins s σ H I st hg
    subst hP hw hK
    obtain ⟨⟨old, he⟩, hi⟩ := st
    obtain ⟨xs, x, hq, hx⟩ := hg
    obtain ⟨its, rv, sq, hz⟩ := z.inv I hq
    obtain ⟨o, vs, ei, di⟩ := z.si_ob hi
    have ne1 : z.a ≠ it := z.ne sq ei di
    have ne2 : z.a ≠ e := z.ne sq he rfl
    have hl := rv.length
    have hlt : i < its.length := by
      have := (List.getElem?_eq_some_iff.mp hx).1
      omega
    refine ⟨_, _, _, _, _, GoesN.enumFrom 0 (z.draws (A := X.A.in1) (show X.A.in1.handled = none from hh) it ne1 its.toArray) e hne (by simp [hne]; exact Ne.symm ne2) (by simp), by simpa using hlt, ⟨⟨old, by simpa using he⟩, hi, sq⟩, fun b hb => hb, fun h' ⟨⟨o2, h1⟩, h2, _⟩ => ⟨⟨o2, by simpa using h1⟩, h2⟩, ?_⟩
    rintro u h' ⟨T, t, y, rfl, hT, hy, hTup⟩
    obtain ⟨u1, hu1, ru1⟩ := rv.get hx
    have : y = u1 := by
      have h2 : its.toArray[i]? = some u1 := by simpa using hu1
      rw [h2] at hy
      cases hy; rfl
    subst this
    exact ⟨T, [.int (0 + (i : Int)) t, y], [.int (i : Nat), x], rfl, hT, hTup, .cons ⟨_, by rw [Int.zero_add]⟩ (.cons ru1 .nil), (by show 2 ≤ sizeLine; decide), fun hn => ⟨T, x, rfl, hn, rfl, fun ys hy => by rw [z.inj I hy hq]; exact hx⟩⟩
  · intro X hP hw hK hh i pins s σ H I st hg
    subst hP hw hK
    obtain ⟨⟨old, he⟩, hi⟩ := st
    obtain ⟨xs, hq, hx⟩ := hg
    obtain ⟨its, rv, sq, hz⟩ := z.inv I hq
    obtain ⟨o, vs, ei, di⟩ := z.si_ob hi
    have ne1 : z.a ≠ it := z.ne sq ei di
    have ne2 : z.a ≠ e := z.ne sq he rfl
    have hl := rv.length
    exact ⟨_, _, _, _, GoesN.enumFrom 0 (z.drawsE (A := X.A.in1) (show X.A.in1.handled = none from hh) it ne1 its.toArray i (by simp; omega)) e hne (by simp [hne]; exact Ne.symm ne2) (by simp), ⟨⟨old, by simpa using he⟩, rfl, hi, sq⟩, fun b hb => hb⟩
/-- enumerate(e) -/
def iEn (K : PySem.W.Frag) (ta : TA) : TI := fun σ H R => ta σ H fun vs H1 => ∃ (z : Src) (xs : List V), vs = [.ref z.a] ∧ z.at K H1 xs ∧ R (JEn K z) H1
theorem pi_en {X : Cx} {e : Expr} {ta : TA} {p pos tpos : Pos} {elts : List Expr} {kk : Nat} (hg : Gl X "enumerate") (hm : X.mg "enumerate" = none) (ha : PA X [e] ta) (hs : starEach [e] X.env = [(false, eval e X.env)] := by rfl) :
    PI X (.Tuple elts kk tpos) (.Call (.Name "enumerate" p) [e] [] pos) (iEn X.K ta) := by
  refine ⟨fun pins s σ H R I h => ?_⟩
  refine Call_ (ld_blt I hg hm boot_enumerate (PyProof.Rows.callWith_type1 (thn (ha.run pos pins s σ H _ I h) fun us s1 ⟨vs, H1, I1, r1, q1⟩ => ?_) hs rfl))
  obtain ⟨z, xs, ex, hq, q⟩ := q1
  subst ex
  cases r1 with
  | cons r rr =>
    cases rr
    cases r
    obtain ⟨its, rv, sq, hz⟩ := z.inv I1 hq
    refine enum_begins1 (z.begins its.toArray) sq fun h' he hit hsz hk => wpAny_pyIter_enum he ?_
    have I2 : Inv X pins σ H1 { s1 with heap := h' } := I1.kept (t' := s1.toks) hk
    refine ⟨s1.heap.objs.size + 1, [s1.heap.objs.size + 1, s1.heap.objs.size], _, _, H1, rfl, I2, turn_en z (s1.heap.objs.size + 1) s1.heap.objs.size (Nat.succ_ne_self _), ⟨⟨.none, he⟩, z.si0 hit⟩, fun b hb => ?_, q⟩
    have e' : b = s1.heap.objs.size + 1 ∨ b = s1.heap.objs.size := by simpa using hb
    have hle : s1.heap.objs.size ≤ b := by
      rcases e' with z | z
      · rw [z]; exact Nat.le_add_right _ _
      · rw [z]; exact Nat.le_refl _
    exact I1.fpOk hle (I1.hok.fresh hle)
/-! ### zip of two -/
def JZ2 (K : PySem.W.Frag) (z1 z2 : Src) : It :=
  ⟨fun i H => ∃ (xs ys : List V) (x y : V), z1.at K H xs ∧ z2.at K H ys ∧ xs[i]? = some x ∧ ys[i]? = some y,
    fun i H v H' => ∃ T x y, v = .ref T ∧ H T = none ∧ H' = upd H T (.tup [x, y]) ∧ (∀ xs, z1.at K H xs → xs[i]? = some x) ∧ ∀ ys, z2.at K H ys → ys[i]? = some y,
    fun i H => ∃ xs ys : List V, z1.at K H xs ∧ z2.at K H ys ∧ (xs.length ≤ i ∨ ys.length ≤ i)⟩
theorem turn_z2 {P : Program} {w : World} {K : PySem.W.Frag} {elts : List Expr} {kk : Nat} {tpos : Pos} (z1 z2 : Src) (N : Addr) (l1 : z1.a < N) (l2 : z2.a < N) :
    Turn P w K (.Tuple elts kk tpos) (JZ2 K z1 z2) [N + 4, N + 2, N + 3, N, N + 1] (N + 4) (fun i h => IsZip h (N + 4) (N + 2) (N + 3) .none ∧ IsTupOf2 h (N + 2) (.ref N) (.ref (N + 1)) ∧ (∃ a1 a2, IsTupOf2 h (N + 3) a1 a2) ∧ z1.si h N i ∧ z2.si h (N + 1) i) := by
  have S : ZipSep2 (N + 4) (N + 2) (N + 3) N (N + 1) [N, z1.a] [N + 1, z2.a] := zip_sep2 (fp1 := [z1.a]) (fp2 := [z2.a]) (by simpa using l1) (by simpa using l2)
  have n1 : z1.a ≠ N := Nat.ne_of_lt l1
  have n2 : z2.a ≠ N + 1 := Nat.ne_of_lt (Nat.lt_succ_of_lt l2)
  refine turn_of (by simp) (fun i h st b hb => ?_) (fun i h h' st k => ?_) ?_ ?_ (fun A i s Q E st h => wpAny_pyIter_zip st.1 h)
  · obtain ⟨hz, hTI, ⟨x, y, hTO⟩, h1, h2⟩ := st
    have e' : b = N + 4 ∨ b = N + 2 ∨ b = N + 3 ∨ b = N ∨ b = N + 1 := by simpa using hb
    rcases e' with q | q | q | q | q
    · rw [q]; exact ⟨_, hz, fun v q => nomatch q⟩
    · rw [q]; exact ⟨_, hTI, fun v q => nomatch q⟩
    · rw [q]; exact ⟨_, hTO, fun v q => nomatch q⟩
    · obtain ⟨o, vs, e1, d⟩ := z1.si_ob h1
      rw [q]; exact ⟨o, e1, fun v q => by rw [d] at q; cases q⟩
    · obtain ⟨o, vs, e1, d⟩ := z2.si_ob h2
      rw [q]; exact ⟨o, e1, fun v q => by rw [d] at q; cases q⟩
  · obtain ⟨hz, hTI, ⟨x, y, hTO⟩, h1, h2⟩ := st
    exact ⟨k _ (by simp) _ hz, k _ (by simp) _ hTI, ⟨x, y, k _ (by simp) _ hTO⟩, z1.si_at h1 fun o q => k _ (by simp) o q, z2.si_at h2 fun o q => k _ (by simp) o q⟩
  · intro X hP hw hK hh i pins s σ H I st hg
    subst hP hw hK
    obtain ⟨hz, hTI, hTO, h1, h2⟩ := st
    obtain ⟨xs, ys, x, y, hq1, hq2, hx, hy⟩ := hg
    obtain ⟨its1, rv1, sq1, hz1⟩ := z1.inv I hq1
    obtain ⟨its2, rv2, sq2, hz2⟩ := z2.inv I hq2
    have hl1 := rv1.length
    have hl2 := rv2.length
    have hlt1 := (List.getElem?_eq_some_iff.mp hx).1
    have hlt2 := (List.getElem?_eq_some_iff.mp hy).1
    have hh1 : X.A.in1.handled = none := hh
    refine ⟨_, _, _, _, _, GoesN.zip2 S (z1.draws hh1 N n1 its1.toArray) (z2.draws hh1 (N + 1) n2 its2.toArray), by simp; omega, ⟨hz, hTI, hTO, ⟨h1, sq1⟩, h2, sq2⟩, fun b hb => ?_, fun h' ⟨q1, q2, q3, q4, q5⟩ => ⟨q1, q2, q3, q4.1, q5.1⟩, ?_⟩
    · simp at hb ⊢; rcases hb with q | q | q | q <;> simp [q]
    rintro u h' ⟨T, u1, u2, rfl, hT, p1, p2, hTup⟩
    obtain ⟨v1, hv1, rv1'⟩ := rv1.get hx
    obtain ⟨v2, hv2, rv2'⟩ := rv2.get hy
    have e1 : u1 = v1 := by
      have h2 : its1.toArray[i]? = some v1 := by simpa using hv1
      rw [h2] at p1; cases p1; rfl
    have e2 : u2 = v2 := by
      have h2 : its2.toArray[i]? = some v2 := by simpa using hv2
      rw [h2] at p2; cases p2; rfl
    subst e1 e2
    exact ⟨T, [u1, u2], [x, y], rfl, hT, hTup, .cons rv1' (.cons rv2' .nil), (by show 2 ≤ sizeLine; decide), fun hn => ⟨T, x, y, rfl, hn, rfl, (fun l hl => by rw [z1.inj I hl hq1]; exact hx), fun l hl => by rw [z2.inj I hl hq2]; exact hy⟩⟩
  · intro X hP hw hK hh i pins s σ H I st hg
    subst hP hw hK
    obtain ⟨hz, hTI, hTO, h1, h2⟩ := st
    obtain ⟨xs, ys, hq1, hq2, hend⟩ := hg
    obtain ⟨its1, rv1, sq1, hz1⟩ := z1.inv I hq1
    obtain ⟨its2, rv2, sq2, hz2⟩ := z2.inv I hq2
    have hl1 := rv1.length
    have hl2 := rv2.length
    have hh1 : X.A.in1.handled = none := hh
    have wr : ∀ b ∈ [N + 4, N + 3, N, N + 1], b ∈ [N + 4, N + 2, N + 3, N, N + 1] := fun b hb => by
      simp at hb ⊢; rcases hb with q | q | q | q <;> simp [q]
    by_cases b1 : its1.length ≤ i <;> by_cases b2 : its2.length ≤ i
    · have W := GoesN.zip2 (elts := elts) (x1 := kk) (pos := tpos) (prog := X.prog) (w := X.w) (A := X.A) S (z1.drawsE hh1 N n1 its1.toArray i (by simpa using b1)) (z2.drawsE hh1 (N + 1) n2 its2.toArray i (by simpa using b2))
      rw [Nat.min_self] at W
      exact ⟨_, _, _, _, W, ⟨hz, hTI, hTO, ⟨rfl, h1, sq1⟩, rfl, h2, sq2⟩, wr⟩
    · have W := GoesN.zip2 (elts := elts) (x1 := kk) (pos := tpos) (prog := X.prog) (w := X.w) (A := X.A) S (z1.drawsE hh1 N n1 its1.toArray i (by simpa using b1)) (z2.draws hh1 (N + 1) n2 its2.toArray)
      rw [Nat.min_eq_left (by simp; omega)] at W
      exact ⟨_, _, _, _, W, ⟨hz, hTI, hTO, ⟨rfl, h1, sq1⟩, h2, sq2⟩, wr⟩
    · have W := GoesN.zip2 (elts := elts) (x1 := kk) (pos := tpos) (prog := X.prog) (w := X.w) (A := X.A) S (z1.draws hh1 N n1 its1.toArray) (z2.drawsE hh1 (N + 1) n2 its2.toArray i (by simpa using b2))
      rw [Nat.min_eq_right (by simp; omega)] at W
      exact ⟨_, _, _, _, W, ⟨hz, hTI, hTO, ⟨h1, sq1⟩, rfl, h2, sq2⟩, wr⟩
    · exfalso
      rcases hend with q | q <;> omega
def iZ2 (K : PySem.W.Frag) (ta : TA) : TI := fun σ H R => ta σ H fun vs H1 => ∃ (z1 z2 : Src) (xs ys : List V), vs = [.ref z1.a, .ref z2.a] ∧ z1.at K H1 xs ∧ z2.at K H1 ys ∧ R (JZ2 K z1 z2) H1
theorem pi_z2 {X : Cx} {e e2 : Expr} {ta : TA} {p pos tpos : Pos} {elts : List Expr} {kk : Nat} (hg : Gl X "zip") (hm : X.mg "zip" = none) (ha : PA X [e, e2] ta)
    (hs : starEach [e, e2] X.env = (false, eval e X.env) :: starEach [e2] X.env := by rfl) (hpl : (backTo pos (starEach [e2] X.env)).any (·.1) = false := by rfl) :
    PI X (.Tuple elts kk tpos) (.Call (.Name "zip" p) [e, e2] [] pos) (iZ2 X.K ta) := by
  refine ⟨fun pins s σ H R I h => ?_⟩
  refine Call_ (ld_blt I hg hm PyProof.Rows.boot_zip (PyProof.Rows.callWith_type1 (thn (ha.run pos pins s σ H _ I h) fun us s1 ⟨vs, H1, I1, r1, q1⟩ => ?_) hs hpl))
  obtain ⟨z1, z2, xs, ys, ex, hq1, hq2, q⟩ := q1
  subst ex
  cases r1 with
  | cons r rr =>
    cases rr with
    | cons r' rr =>
      cases rr
      cases r
      cases r'
      obtain ⟨its1, rv1, sq1, hz1⟩ := z1.inv I1 hq1
      obtain ⟨its2, rv2, sq2, hz2⟩ := z2.inv I1 hq2
      refine zip_begins2 (z1.begins its1.toArray) (z2.begins its2.toArray) sq1 sq2 fun h' hz hTI hTO g1 g2 hsz hk => wpAny_pyIter_zip hz ?_
      have I2 : Inv X pins σ H1 { s1 with heap := h' } := I1.kept (t' := s1.toks) hk
      refine ⟨s1.heap.objs.size + 4, [s1.heap.objs.size + 4, s1.heap.objs.size + 2, s1.heap.objs.size + 3, s1.heap.objs.size, s1.heap.objs.size + 1], _, _, H1, rfl, I2, turn_z2 z1 z2 s1.heap.objs.size (z1.sq_lt sq1) (z2.sq_lt sq2), ⟨hz, hTI, ⟨_, _, hTO⟩, z1.si0 g1, z2.si0 g2⟩, fun c hcm => ?_, q⟩
      have e' : c = s1.heap.objs.size + 4 ∨ c = s1.heap.objs.size + 2 ∨ c = s1.heap.objs.size + 3 ∨ c = s1.heap.objs.size ∨ c = s1.heap.objs.size + 1 := by simpa using hcm
      have hle : s1.heap.objs.size ≤ c := by
        rcases e' with z | z | z | z | z
        · rw [z]; exact Nat.le_add_right _ _
        · rw [z]; exact Nat.le_add_right _ _
        · rw [z]; exact Nat.le_add_right _ _
        · rw [z]; exact Nat.le_refl _
        · rw [z]; exact Nat.le_add_right _ _
      exact I1.fpOk hle (I1.hok.fresh hle)
end Mi
end
section
set_option Elab.async false
set_option linter.all false
set_option maxRecDepth 100000
set_option maxHeartbeats 1000000
/-! Ev41: enumerate, zip, stars, pairs assigned, isinstance, reverse, ranges with a step, a list walked while it is held -/
namespace Mi
open PySem PySem.Spec PyProof.Rows L2
section
variable {X : Cx} {tg e e2 a b c : Expr} {G : Glb} {W : WX} {f : FE} {fa : FA} {p p2 pos : Pos} {k n : Nat} {π : List Bool}
/-- a frozen sequence, as a source -/
theorem src_of {K : PySem.W.Frag} {P : Hp} {v : V} {d : PyData} {ds : List PyData} (h : Dp K P v d) (e : d = .list ds ∨ d = .tuple ds) : ∃ (z : Src) (xs : List V), v = .ref z.a ∧ z.at K P xs ∧ DpAll K P xs ds := by
  rcases e with rfl | rfl
  · cases h with
    | lst hs ha => exact ⟨⟨false, _⟩, _, rfl, hs, ha⟩
  · cases h with
    | tup hs ha => exact ⟨⟨true, _⟩, _, rfl, hs, ha⟩
theorem Src.mono (z : Src) {K : PySem.W.Frag} {P P' : Hp} {xs : List V} (h : z.at K P xs) (e : Same P P') : z.at K P' xs := by
  obtain ⟨t, a⟩ := z
  cases t
  · exact e.seq h
  · exact sqT_mono e h
/-- the items of a sequence -/
def seqOf : PyData → Option (List PyData)
  | .list ds => some ds
  | .tuple ds => some ds
  | _ => none
theorem seqOf_eq {d : PyData} {ds : List PyData} (h : seqOf d = some ds) : d = .list ds ∨ d = .tuple ds := by
  unfold seqOf at h
  split at h
  · cases h; exact .inl rfl
  · cases h; exact .inr rfl
  · cases h
/-! ### enumerate -/
def enD (ds : List PyData) : List PyData := (List.range ds.length).zipWith (fun i d => .tuple [.int (i : Nat), d]) ds
theorem enD_get {ds : List PyData} {i : Nat} {d : PyData} (h : ds[i]? = some d) : (enD ds)[i]? = some (.tuple [.int (i : Nat), d]) := by
  have hl := (List.getElem?_eq_some_iff.mp h).1
  unfold enD
  rw [List.getElem?_zipWith, h, List.getElem?_range hl]
theorem enD_len (ds : List PyData) : (enD ds).length = ds.length := by unfold enD; simp
noncomputable def en1 (ρ : Rho) (os : List Opd) : Out (List PyData) := match frzL ρ os with
  | some ([d], ρ2) => match seqOf d with
    | some ds => .ok (enD ds) ρ2
    | none => .stk
  | _ => .stk
noncomputable def iEnu (fa : FA) : FI := fun ρ => (fa ρ).bind fun os ρ1 => en1 ρ1 os
theorem same_at {P P1 : Hp} {T : Addr} {o : HO} (h : P T = none) : Same P (upd P T o) := same_upd h
theorem yl_en {P : Hp} {z : Src} {xs : List V} {ds : List PyData} (h : z.at G.K P xs) (hd : DpAll G.K P xs ds) : Yl G (JEn G.K z) P (enD ds) := fun i P1 H e1 e2 => by
  have hl := dpa_len _ _ hd
  have e := e1.trans e2
  rw [enD_len]
  refine ⟨fun hi => ⟨xs, z.mono h e, by omega⟩, fun hi => ?_⟩
  have hx : ds[i]? = some ds[i] := List.getElem?_eq_getElem hi
  obtain ⟨v, hv, hdv⟩ := dpa_get _ _ hd i _ hx
  refine ⟨⟨xs, v, z.mono h e, hv⟩, ?_⟩
  rintro x H' ⟨T, y, rfl, hT, rfl, hy⟩
  have := hy xs (z.mono h e)
  rw [hv] at this
  cases this
  have hP : P1 T = none := same_none e2 hT
  exact ⟨upd P1 T (.tup [.int (i : Nat), v]), _, Alc.tup e2 hT, enD_get hx, .tup (.inl (.inl upd_same)) (.cons (.int _) (.cons (dp_mono ((e1.trans (same_upd hP))) _ _ hdv) .nil))⟩
theorem i_Enu {elts : List Expr} {kk : Nat} {tpos : Pos} (hK : X.K = G.K) (hm : X.mg "enumerate" = none) (ha : PA X [e] (tA G W fa)) (hg : Gl X "enumerate" := by rfl) (hs : starEach [e] X.env = [(false, eval e X.env)] := by rfl) :
    PI X (.Tuple elts kk tpos) (.Call (.Name "enumerate" p) [e] [] pos) (tI G W (iEnu fa)) := PI.imp (pi_en hg hm ha hs) fun σ H R ⟨ρ, P, F, nw, h⟩ => by
  rw [hK]
  refine tA_bind (End := fun P H F => EndI G W P H F σ R) nw h (fun _ _ z => z) (fun z => z) fun os ρ1 vs P1 H1 F1 S e1 h1 n1 s1 hx q1 => ?_
  unfold en1 at h1
  split at h1
  · rename_i d ρ2 ef
    obtain ⟨P2, F2, n2, d2, z2⟩ := frzL_ok n1 hx ef
    cases d2 with
    | cons hd hn =>
      cases hn
      split at h1
      · rename_i ds es
        obtain ⟨z, xs, rfl, hz, hxs⟩ := src_of hd (seqOf_eq es)
        exact ⟨z, xs, rfl, z.mono hz n2.ex, h1 _ P2 H1 F2 n2 (z2.stp s1 fun b hb => (q1 b hb).2) (yl_en hz hxs)⟩
      · exact h1.elim
  · exact h1.elim
/-! ### zip of two -/
def z2D (ds es : List PyData) : List PyData := ds.zipWith (fun d e => .tuple [d, e]) es
theorem z2D_len (ds es : List PyData) : (z2D ds es).length = min ds.length es.length := by unfold z2D; simp
noncomputable def zp2 (ρ : Rho) (os : List Opd) : Out (List PyData) := match frzL ρ os with
  | some ([d, e], ρ2) => match seqOf d, seqOf e with
    | some ds, some es => .ok (z2D ds es) ρ2
    | _, _ => .stk
  | _ => .stk
noncomputable def iZip2 (fa : FA) : FI := fun ρ => (fa ρ).bind fun os ρ1 => zp2 ρ1 os
theorem yl_z2 {P : Hp} {z1 z2 : Src} {xs ys : List V} {ds es : List PyData} (h : z1.at G.K P xs) (hd : DpAll G.K P xs ds) (h2 : z2.at G.K P ys) (hd2 : DpAll G.K P ys es) : Yl G (JZ2 G.K z1 z2) P (z2D ds es) := fun i P1 H e1 e2 => by
  have hl := dpa_len _ _ hd
  have hl2 := dpa_len _ _ hd2
  have e := e1.trans e2
  rw [z2D_len]
  refine ⟨fun hi => ⟨xs, ys, z1.mono h e, z2.mono h2 e, by omega⟩, fun hi => ?_⟩
  have hx : ds[i]? = some ds[i] := List.getElem?_eq_getElem (by omega)
  have hy : es[i]? = some es[i] := List.getElem?_eq_getElem (by omega)
  obtain ⟨v, hv, hdv⟩ := dpa_get _ _ hd i _ hx
  obtain ⟨u, hu, hdu⟩ := dpa_get _ _ hd2 i _ hy
  refine ⟨⟨xs, ys, v, u, z1.mono h e, z2.mono h2 e, hv, hu⟩, ?_⟩
  rintro x H' ⟨T, a, b, rfl, hT, rfl, h3, h4⟩
  have q3 := h3 xs (z1.mono h e)
  rw [hv] at q3
  cases q3
  have q4 := h4 ys (z2.mono h2 e)
  rw [hu] at q4
  cases q4
  have hP : P1 T = none := same_none e2 hT
  have ee := e1.trans (same_upd (o := .tup [v, u]) hP)
  refine ⟨upd P1 T (.tup [v, u]), .tuple [ds[i], es[i]], Alc.tup e2 hT, ?_, .tup (.inl (.inl upd_same)) (.cons (dp_mono ee _ _ hdv) (.cons (dp_mono ee _ _ hdu) .nil))⟩
  unfold z2D
  rw [List.getElem?_zipWith, hx, hy]
theorem i_Zip2 {elts : List Expr} {kk : Nat} {tpos : Pos} (hK : X.K = G.K) (hm : X.mg "zip" = none) (ha : PA X [e, e2] (tA G W fa)) (hg : Gl X "zip" := by rfl) (hs : starEach [e, e2] X.env = (false, eval e X.env) :: starEach [e2] X.env := by rfl) (hpl : (backTo pos (starEach [e2] X.env)).any (·.1) = false := by rfl) :
    PI X (.Tuple elts kk tpos) (.Call (.Name "zip" p) [e, e2] [] pos) (tI G W (iZip2 fa)) := PI.imp (pi_z2 hg hm ha hs hpl) fun σ H R ⟨ρ, P, F, nw, h⟩ => by
  rw [hK]
  refine tA_bind (End := fun P H F => EndI G W P H F σ R) nw h (fun _ _ z => z) (fun z => z) fun os ρ1 vs P1 H1 F1 S e1 h1 n1 s1 hx q1 => ?_
  unfold zp2 at h1
  split at h1
  · rename_i d e' ρ2 ef
    obtain ⟨P2, F2, n2, d2, z2⟩ := frzL_ok n1 hx ef
    cases d2 with
    | cons hd hn =>
      cases hn with
      | cons hd2 hn =>
        cases hn
        split at h1
        · rename_i ds es e3 e4
          obtain ⟨z, xs, rfl, hz, hxs⟩ := src_of hd (seqOf_eq e3)
          obtain ⟨z', ys, rfl, hz', hys⟩ := src_of hd2 (seqOf_eq e4)
          exact ⟨z, z', xs, ys, rfl, z.mono hz n2.ex, z'.mono hz' n2.ex, h1 _ P2 H1 F2 n2 (z2.stp s1 fun b hb => (q1 b hb).2) (yl_z2 hz hxs hz' hys)⟩
        · exact h1.elim
  · exact h1.elim
/-! ### range with a step of -1 -/
def rangeDn (lo hi : Int) : List PyData := (List.range (lo - hi).toNat).map fun k => .int (lo - (k : Nat))
noncomputable def rg3 (ρ : Rho) (os : List Opd) : Out (List PyData) := match looks ρ os with
  | some [.dat (.int i), .dat (.int j), .dat (.int c)] => if -(2 ^ 62) ≤ i ∧ i < 2 ^ 62 ∧ -(2 ^ 62) ≤ j ∧ j < 2 ^ 62 ∧ c = -1 then .ok (rangeDn i j) ρ else .stk
  | _ => .stk
noncomputable def iR3 (f : FA) : FI := fun ρ => (f ρ).bind fun os ρ1 => rg3 ρ1 os
theorem yl_rng3 {P : Hp} {lo hi : Int} : Yl G (Itc lo (-1) (lo - hi).toNat) P (rangeDn lo hi) := fun i P1 H e1 e2 => by
  have hl : (rangeDn lo hi).length = (lo - hi).toNat := by unfold rangeDn; rw [List.length_map, List.length_range]
  rw [hl]
  refine ⟨fun h => h, fun hi => ⟨hi, ?_⟩⟩
  rintro x H' ⟨rfl, rfl⟩
  refine ⟨P1, .int (lo - (i : Nat)), Alc.refl e2, ?_, ?_⟩
  · unfold rangeDn
    rw [List.getElem?_map, List.getElem?_range (by omega)]
    rfl
  · have : lo + (i : Nat) * (-1 : Int) = lo - (i : Nat) := by omega
    rw [this]
    exact .int _
theorem i_R3 (hm : X.mg "range" = none) (ha : PA X [a, b, c] (tA G W fa)) (hg : Gl X "range" := by rfl) (hs : starEach [a, b, c] X.env = (false, eval a X.env) :: starEach [b, c] X.env := by rfl) (hpl : (backTo pos (starEach [b, c] X.env)).any (·.1) = false := by rfl) :
    PI X tg (.Call (.Name "range" p) [a, b, c] [] pos) (tI G W (iR3 fa)) := PI.imp (pi_range3 hg hm ha hs hpl) fun σ H R ⟨ρ, P, F, nw, h⟩ => by
  refine tA_bind (End := fun P H F => EndI G W P H F σ R) nw h (fun _ _ z => z) (fun z => z) fun os ρ1 vs P1 H1 F1 S e1 h1 n1 s1 hx q1 => ?_
  unfold rg3 at h1
  split at h1
  · rename_i i j c el
    split at h1
    · rename_i hj
      have hvs := hx.looks n1 el
      obtain ⟨a1, a2, a3, a4, rfl⟩ := hj
      match vs, hvs with
      | [v, u, z], ⟨hv, hu, hz, _⟩ =>
        exact ⟨i, j, -1, (i - j).toNat, by rw [ow_int hv, ow_int hu, ow_int hz], RgC.neg a1 a2 a3 a4, h1 _ P1 H1 F1 n1 s1 yl_rng3⟩
    · exact h1.elim
  · exact h1.elim
end
/-! ### stars in displays -/
section
variable {X : Cx} {e : Expr} {es : List Expr} {G : Glb} {W : WX} {f : FE} {g : FA} {p : Pos}
noncomputable def aStar (f : FE) (g : FA) : FA := fun ρ => (f ρ).bind fun o ρ1 => match frz1 ρ1 o with
  | some (d, ρ2) => match seqOf d with
    | some ds => (g ρ2).bind fun xs ρ3 => .ok (ds.map (fun d => .val (.dat d)) ++ xs) ρ3
    | none => .stk
  | none => .stk
theorem hasL_app {P H : Hp} {F : Nat → Ad} {σ : L2.St} {os : List Opd} {vs : List V} {S : Ad} (h : HasL G P H F σ S vs os) : ∀ {ds : List PyData} {xs : List V}, DpAll G.K P xs ds → HasL G P H F σ S (xs ++ vs) (ds.map (fun d => .val (.dat d)) ++ os)
  | [], _, hd => by cases hd; exact h
  | d :: ds, _, hd => by
    cases hd with
    | cons h1 h2 => exact ⟨nobody, S, ⟨h1, fun _ z => z.elim, fun _ z => z.elim, fun _ z => z.elim, fun _ _ z => z.elim⟩, hasL_app h h2, fun _ z => z.elim, fun _ z => z⟩
theorem pa_starV (hK : X.K = G.K) (he : PE X e (tE G W f)) (hr : PA X es (tA G W g)) (hs : starEach (.Starred e p :: es) X.env = (true, eval e X.env) :: starEach es X.env := by rfl) : PA X (.Starred e p :: es) (tA G W (aStar f g)) :=
  PA.imp (StX.pa_star he hr hs) fun σ H Q ⟨ρ, P, F, n, h⟩ => by
    refine tE_bind (End := fun P H F => EndA G W P H F σ Q) n h (fun _ _ z => z) (fun z => z) fun x ρ1 vx P1 H1 F1 S1 e1 h1 n1 s1 hx q1 => ?_
    split at h1
    · rename_i d ρ2 ef
      obtain ⟨P2, F2, n2, d2, z2⟩ := frz1_ok n1 hx ef
      have s2 := z2.stp s1 q1
      split at h1
      · rename_i ds es'
        obtain ⟨z, xs, rfl, hz, hxs⟩ := src_of d2 (seqOf_eq es')
        have hz1 : z.at X.K H1 xs := by rw [hK]; exact z.mono hz n2.ex
        refine ⟨z.a, xs, rfl, ?_, ρ2, P2, F2, n2, ?_⟩
        · obtain ⟨t, a⟩ := z
          cases t
          · exact .inr hz1
          · exact .inl hz1
        · cases e : g ρ2 with
          | stk => rw [e] at h1; exact h1.elim
          | exc c ρ3 =>
            rw [e] at h1
            exact fun P3 H3 F3 n3 s3 => h1 P3 H3 F3 n3 (s2.trans s3)
          | ok ys ρ3 =>
            rw [e] at h1
            intro vs P3 H3 F3 S3 n3 s3 hs3 q3
            refine h1 (xs ++ vs) P3 H3 F3 S3 n3 (s2.trans s3) (hasL_app hs3 (dpa_mono s3.ex _ _ hxs)) fun b hb => ⟨(q3 b hb).1, ?_⟩
            rcases (q3 b hb).2 with ⟨i, hi⟩ | z
            · exact s2.sub i b hi
            · exact .inr (Classical.byContradiction fun q => s2.al b q z)
      · exact h1.elim
    · exact h1.elim
end
/-! ### a, b = x, y; a, b = e -/
section
variable {X : Cx} {G : Glb} {W : WX} {n k i j : Nat} {π : List Bool} {x y : Str} {a b e tg : Expr} {fa : FA} {fe : FE} {bnd : FB} {px py pt pos : Pos}
theorem tA_bindS {P H : Hp} {F : Nat → Ad} {σ : L2.St} {ρ : Rho} {D : Ends} {Q : List V → Hp → Prop} {k : List Opd → Rho → SO} (nw : Now G P H σ ρ F) (hl : σ.length = n) (hE : EndS G W n π P H F σ D ((fa ρ).bindS k))
    (h : ∀ os ρ1 vs P1 H1 F1 S, EndS G W n π P1 H1 F1 σ D (k os ρ1) → Now G P1 H1 σ ρ1 F1 → Stp P H F P1 H1 F1 → HasL G P1 H1 F1 σ S vs os → (∀ b, S b → (P1 b = none ∧ H1 b ≠ none ∧ ∀ i, ¬ F1 i b) ∧ ((∃ i, F i b) ∨ H b = none)) → EndS G W n π P H F σ D (k os ρ1) → Q vs H1) : tA G W fa σ H Q := by
  refine ⟨ρ, P, F, nw, ?_⟩
  cases e : fa ρ with
  | ok os ρ1 =>
    rw [e] at hE
    exact fun vs P1 H1 F1 S n1 s1 h1 q1 => h os ρ1 vs P1 H1 F1 S (EndS.trans s1 (Kp.refl hl) hE) n1 s1 h1 q1 hE
  | exc c ρ' =>
    rw [e] at hE
    exact fun P1 H1 F1 n1 s1 => hE σ P1 H1 F1 n1 s1 (Kp.refl hl)
  | stk =>
    rw [e] at hE
    exact hE.elim
noncomputable def setO2 (i j : Nat) (os : List Opd) (ρ : Rho) : SO := match frzL ρ os with
  | some ([d, e], ρ1) => .nx ((ρ1.set i (some (.dat d))).set j (some (.dat e)))
  | _ => .stk
noncomputable def sPar (i j : Nat) (fa : FA) : FS := fun ρ => (fa ρ).bindS fun os ρ1 => setO2 i j os ρ1
theorem s_par {kt k2 pt2} (hc : X.calm = true) (hN : X.N.Nodup) (hi : X.N[i]? = some x) (hj : X.N[j]? = some y) (hij : i ≠ j) (hx : X.env.scope.names.lookup x = some .local) (hy : X.env.scope.names.lookup y = some .local) (hni : i < n) (hnj : j < n) (hpi : ioAt π i = false) (hpj : ioAt π j = false)
    (ha : PA X [a, b] (tA G W fa)) (hw : swappedStores [.Tuple [.Name x px, .Name y py] kt pt] (.Tuple [a, b] k2 pt2) X.env = pure (some [x, y]) := by rfl)
    (hs : swapsWithSole [.Tuple [.Name x px, .Name y py] kt pt] (.Tuple [a, b] k2 pt2) pos.line X.env = pure false := by rfl) :
    PS X (.Assign [.Tuple [.Name x px, .Name y py] kt pt] (.Tuple [a, b] k2 pt2) pos) (tS G W n π (sPar i j fa)) := PS.imp (ps_par hc hN hi hj hij hx hy ha hw hs) fun D σ H ⟨ρ, P, F, nw, hl, h⟩ => by
  refine tA_bindS nw hl h fun os ρ1 vs P1 H1 F1 S _ n1 s1 hs q1 h0 => ?_
  unfold setO2 at h0
  split at h0
  · rename_i d e ρ2 ef
    obtain ⟨P2, F2, n2, d2, z2⟩ := frzL_ok n1 hs ef
    have s2 := z2.stp s1 fun b hb => (q1 b hb).2
    cases d2 with
    | cons hd hn =>
      cases hn with
      | cons he hn =>
        cases hn
        refine ⟨_, _, rfl, ?_⟩
        have m1 := now_dat n2 hd (i := i) (by omega)
        have m2 := now_dat m1 he (i := j) (by rw [List.length_set]; omega)
        exact h0 _ P2 H1 _ m2 (stp_set (stp_set s2 fun _ z => z.elim) fun _ z => z.elim) ((Kp.set hl hpi).trans (Kp.set (by rw [List.length_set]; exact hl) hpj))
  · exact h0.elim
noncomputable def asgO (b : FB) (o : Opd) (ρ : Rho) : SO := match frz1 ρ o with
  | some (d, ρ1) => match b d ρ1 with
    | some ρ2 => .nx ρ2
    | none => .stk
  | none => .stk
noncomputable def sAsg (b : FB) (f : FE) : FS := fun ρ => (f ρ).bindS fun o ρ1 => asgO b o ρ1
theorem s_asg (he : PE X e (tE G W fe)) (hg : PG X tg (tG G n π bnd)) (hs : swapsWithSole [tg] e pos.line X.env = pure false := by rfl) (hw : swappedStores [tg] e X.env = pure none := by rfl) (h1 : (assignEach [tg] X.env).map (·.2) = [assign tg X.env] := by rfl) : PS X (.Assign [tg] e pos) (tS G W n π (sAsg bnd fe)) :=
  PS.imp (ps_asg he hg hs hw h1) fun D σ H ⟨ρ, P, F, nw, hl, h⟩ => by
    refine tE_bindS nw hl h fun o ρ1 v P1 H1 F1 S _ n1 s1 hs q1 h0 => ?_
    unfold asgO at h0
    split at h0
    · rename_i d ρ2 ef
      obtain ⟨P2, F2, n2, d2, z2⟩ := frz1_ok n1 hs ef
      have s2 := z2.stp s1 q1
      split at h0
      · rename_i ρ3 eb
        exact ⟨ρ2, P2, F2, d, ρ3, n2, hl, d2, eb, fun σ' F' n3 s3 k3 => h0 σ' P2 H1 F' n3 (s2.trans s3) k3⟩
      · exact h0.elim
    · exact h0.elim
end
/-! ### a list of a slot, walked while it is held -/
theorem Kp.mono {n : Nat} {π π' : List Bool} {σ σ' : L2.St} (h : Kp n π' σ σ') (e : ∀ j, ioAt π j = true → ioAt π' j = true) : Kp n π σ σ' := ⟨h.len, fun j hj => h.pin j (e j hj)⟩
noncomputable def forLB (i : Nat) (ds0 : List PyData) (b : FB) (body : FS) : List PyData → FS
  | [], ρ => .nx ρ
  | d :: ds, ρ => match b d ρ with
    | none => .stk
    | some ρ1 => match body ρ1 with
      | .nx ρ2 => by classical exact if look ρ2 (.brw i) = some (.ml ds0) then forLB i ds0 b body ds ρ2 else .stk
      | .ct ρ2 => by classical exact if look ρ2 (.brw i) = some (.ml ds0) then forLB i ds0 b body ds ρ2 else .stk
      | .bk ρ2 => .nx ρ2
      | .ret w ρ2 => .ret w ρ2
      | .exc c ρ2 => .exc c ρ2
      | .stk => .stk
noncomputable def sForB (i : Nat) (b : FB) (body : FS) : FS := fun ρ => match look ρ (.brw i) with
  | some (.ml ds) => forLB i ds b body ds ρ
  | _ => .stk
section
variable {X : Cx} {tg : Expr} {body : List Stmt} {G : Glb} {W : WX} {n i : Nat} {π π' : List Bool} {b : FB} {fb : FS} {pos p3 : Pos} {x : Str}
theorem s_forB (hp : PassesOwn (model X.prog X.w) X.A X.env X.xe) (hc : X.calm = true) (hK : X.K = G.K) (ho : PE X (.Name x p3) (tVar i)) (hpi : ioAt π' i = true) (hpp : ∀ j, ioAt π j = true → ioAt π' j = true)
    (hg : PG X tg (tG G n π' b)) (hb : PSs X body (tS G W n π' fb)) (hs : ∀ z, foldedSetIterable (.Name x p3) X.env z = pure z := by intro _; rfl) :
    PS X (.For tg (.Name x p3) body [] pos) (tS G W n π (sForB i b fb)) := PS.imp (ps_for hp hc (pi_sq ho) hg hb hs) fun D σ H ⟨ρ, P, F, nw, hl, h⟩ => by
  unfold sForB at h
  split at h
  rotate_left
  · exact h.elim
  rename_i ds hlk
  obtain ⟨a, xs0, hσ, hF, hH, hD⟩ := now_ml nw hlk
  have sq : ∀ {P2 H2 σ2 ρ2 F2}, Now G P2 H2 σ2 ρ2 F2 → look ρ2 (.brw i) = some (.ml ds) → σ2[i]? = some (some (.ref a)) → ∃ xs, SqL X.K H2 a xs ∧ DpAll G.K P2 xs ds := fun n2 l2 s2 => by
    obtain ⟨a', xs, h1, h2, h3, h4⟩ := now_ml n2 l2
    rw [s2] at h1
    cases h1
    exact ⟨xs, .inl (.inl h3), h4⟩
  refine ⟨.ref a, hσ, a, rfl, .inl ⟨?_, ?_⟩⟩
  · obtain ⟨xs, h1, _⟩ := sq nw hlk hσ
    exact ⟨xs, h1⟩
  refine ⟨fun j m σ' H' => m = ds.length - j ∧ j ≤ ds.length ∧ ∃ ρ' P' F', Now G P' H' σ' ρ' F' ∧ σ'.length = n ∧ look ρ' (.brw i) = some (.ml ds) ∧ σ'[i]? = some (some (.ref a)) ∧ EndS G W n π P' H' F' σ' D (forLB i ds b fb (ds.drop j) ρ'), ⟨_, rfl, Nat.zero_le _, ρ, P, F, nw, hl, hlk, hσ, h⟩, ?_⟩
  rintro j m σ2 H2 ⟨rfl, hj, ρ2, P2, F2, n2, l2, k2, a2, h2⟩
  obtain ⟨xs, hx, hxs⟩ := sq n2 k2 a2
  have hlen := dpa_len _ _ hxs
  by_cases hlt : j < ds.length
  · have hd : ds[j]? = some ds[j] := List.getElem?_eq_getElem hlt
    obtain ⟨v, hv, hdv⟩ := dpa_get _ _ hxs j _ hd
    refine .inr ⟨⟨xs, v, hx, hv⟩, fun σ' H' => j + 1 ≤ ds.length ∧ ∃ ρ' P' F', Now G P' H' σ' ρ' F' ∧ σ'.length = n ∧ look ρ' (.brw i) = some (.ml ds) ∧ σ'[i]? = some (some (.ref a)) ∧ EndS G W n π P' H' F' σ' D (forLB i ds b fb (ds.drop (j + 1)) ρ'), fun σ' H' ⟨q1, q2⟩ => ⟨_, by omega, rfl, q1, q2⟩, fun u H3 hy => ?_⟩
    obtain ⟨rfl, y⟩ := hy
    have := y xs hx
    rw [hv] at this
    cases this
    have ed : ds.drop j = ds[j] :: ds.drop (j + 1) := List.drop_eq_getElem_cons hlt
    rw [ed] at h2
    unfold forLB at h2
    cases eb : b ds[j] ρ2 with
    | none => rw [eb] at h2; exact h2.elim
    | some ρ3 =>
      simp only [eb] at h2
      refine ⟨ρ2, P2, F2, ds[j], ρ3, n2, l2, hdv, eb, fun σ4 F4 n4 s4 k4 => ⟨ρ3, P2, F4, n4, k4.len, ?_⟩⟩
      have h4 := EndS.trans s4 (k4.mono hpp) h2
      have pin4 : σ4[i]? = some (some (.ref a)) := by rw [k4.pin i hpi]; exact a2
      have next : ∀ {ρ5 : Rho}, EndS G W n π P2 H3 F4 σ4 D (by classical exact if look ρ5 (.brw i) = some (.ml ds) then forLB i ds b fb (ds.drop (j + 1)) ρ5 else .stk) → ∀ σ' P' H' F', Now G P' H' σ' ρ5 F' → Stp P2 H3 F4 P' H' F' → Kp n π' σ4 σ' →
          j + 1 ≤ ds.length ∧ ∃ ρ' P' F', Now G P' H' σ' ρ' F' ∧ σ'.length = n ∧ look ρ' (.brw i) = some (.ml ds) ∧ σ'[i]? = some (some (.ref a)) ∧ EndS G W n π P' H' F' σ' D (forLB i ds b fb (ds.drop (j + 1)) ρ') := fun {ρ5} h5 σ' P' H' F' n5 s5 k5 => by
        split at h5
        · rename_i q
          exact ⟨hlt, ρ5, P', F', n5, k5.len, q, by rw [k5.pin i hpi]; exact pin4, EndS.trans s5 (k5.mono hpp) h5⟩
        · exact h5.elim
      cases ef : fb ρ3 with
      | nx ρ5 => rw [ef] at h4; exact next h4
      | ct ρ5 => rw [ef] at h4; exact next h4
      | bk ρ5 => rw [ef] at h4; exact fun σ' P' H' F' n5 s5 k5 => h4 σ' P' H' F' n5 s5 (k5.mono hpp)
      | ret w ρ5 => rw [ef] at h4; exact fun v σ' P' H' F' S n5 s5 k5 => h4 v σ' P' H' F' S n5 s5 (k5.mono hpp)
      | exc c ρ5 => rw [ef] at h4; exact fun σ' P' H' F' n5 s5 k5 => h4 σ' P' H' F' n5 s5 (k5.mono hpp)
      | stk => rw [ef] at h4; exact h4.elim
  · have : j = ds.length := by omega
    subst this
    rw [List.drop_length] at h2
    exact .inl ⟨⟨xs, hx, by omega⟩, h2 σ2 P2 H2 F2 n2 Stp.refl (Kp.refl l2)⟩
end
/-! ### isinstance(x, tuple) -/
def isTup : PyData → Bool
  | .tuple _ => true
  | _ => false
def gIsT (a : Vl) : Option Vl := match viewD a with
  | some (.dict _) => none
  | some d => some (vB (isTup d))
  | none => none
section
variable {X : Cx} {G : Glb} {W : WX} {k n i : Nat} {π : List Bool} {e : Expr} {f : FE} {p p2 p3 pos : Pos}
theorem dp_ty {K : PySem.W.Frag} {H : Hp} {d : PyData} {v : V} (h : Dp K H v d) (hd : ∀ kvs, d ≠ .dict kvs) : ∃ T : String, TyX K H v (.type T) ∧ kitB T "tuple" = some (isTup d) := by
  cases d with
  | none => cases h; exact ⟨_, .base .non, by decide +kernel⟩
  | bool b => cases h; exact ⟨_, .base (.bl _), (by decide +kernel : kitB "bool" "tuple" = some false)⟩
  | int b => cases h; exact ⟨_, .base (.int _), (by decide +kernel : kitB "int" "tuple" = some false)⟩
  | str b => cases h; exact ⟨_, .base (.str _), (by decide +kernel : kitB "str" "tuple" = some false)⟩
  | list ds =>
    cases h with
    | lst hs ha =>
      refine ⟨"list", ?_, (by decide +kernel : kitB "list" "tuple" = some false)⟩
      rcases hs with (h | ⟨o, h⟩) | ⟨o, its, n, h, c, _⟩
      · exact .base (.lst h)
      · exact .base (.frz h)
      · exact .kList h c
  | tuple ds =>
    cases h with
    | tup hs ha =>
      refine ⟨"tuple", ?_, (by decide +kernel : kitB "tuple" "tuple" = some true)⟩
      rcases hs with (h | ⟨o, h⟩) | ⟨o, its, n, h, c, _⟩
      · exact .base (.tup h)
      · exact .fTuple h
      · exact .kTuple h c
  | dict kvs => exact (hd kvs rfl).elim
theorem e_isTup (hK : X.K = G.K) (hm : X.mg "isinstance" = none) (hm2 : X.mg "tuple" = none) (he : PE X e (tE G W f)) (hg : Gl X "isinstance" := by rfl) (hg2 : Gl X "tuple" := by rfl)
    (hs : starEach [e, .Name "tuple" p2] X.env = (false, eval e X.env) :: starEach [.Name "tuple" p2] X.env := by rfl) (hpl : (backTo pos (starEach [.Name "tuple" p2] X.env)).any (·.1) = false := by rfl) (hs2 : starEach [.Name "tuple" p2] X.env = (false, eval (.Name "tuple" p2) X.env) :: starEach [] X.env := by rfl) :
    PE X (.Call (.Name "isinstance" p) [e, .Name "tuple" p2] [] pos) (tE G W (una gIsT f)) :=
  PE.imp (pe_callB call_isi hg hm (by decide +kernel) (pa_cons he (pa_cons (pe_bltn (v := .ty "tuple") (u := .type "tuple") hg2 hm2 (by decide +kernel) rfl) pa_nil hs2) hs) (he := hs) (hpl := hpl)) fun σ H Q ⟨ρ, P, F, n, h⟩ => by
    refine tE_bind (End := fun P H F => EndO G W P H F σ Q) n h (fun _ _ z => z) (fun z => z) fun x ρ1 vx P1 H1 F1 S1 e1 h1 n1 s1 hx q1 => ?_
    obtain ⟨w, hw, h2⟩ := endO_val (EndO.trans s1 h1)
    cases ea : look ρ1 x with
    | none => rw [ea] at hw; cases hw
    | some a =>
      rw [ea] at hw
      have hw' : gIsT a = some w := hw
      unfold gIsT at hw'
      split at hw'
      · cases hw'
      · rename_i d hnd hd
        cases hw'
        have dp := (hx.look n1 ea).dp n1.ex hd
        obtain ⟨T, ty, kb⟩ := dp_ty dp hnd
        exact ⟨vx, .ty "tuple", .type T, .type "tuple", isTup d, rfl, .ty _, by rw [hK]; exact ty, kit_ty kb, h2.same n1 (Dp.bl _)⟩
      · cases hw'
/-! ### xs[::-1] -/
def gRev (a : Vl) : Option Vl := (asL a).map fun ds => .ml ds.reverse
theorem e_revL (hK : X.K = G.K) {k : Nat} {p1 : Pos} (he : PE X e (tE G W f)) : PE X (.Subscript e (.Slice none none (some (.UnaryOp .USub (.Constant (.int 1) k p1) p2)) p3) pos) (tE G W (una gRev f)) :=
  PE.imp (pe_revL he) fun σ H Q h => by
    rw [hK]
    refine una_ok (r := fun x H1 Q => ∃ a xs, x = .ref a ∧ SqL G.K H1 a xs ∧ ∀ p, H1 p = none → Q (.ref p) (upd H1 p (.lst xs.reverse))) (fun P H x a w Q e hx hw q => ?_) h
    unfold gRev at hw
    cases ea : asL a with
    | none => rw [ea] at hw; cases hw
    | some ds =>
      rw [ea] at hw
      cases hw
      obtain ⟨p, xs, rfl, hs, ha⟩ := hx.lst e ea
      exact ⟨p, xs, rfl, hs, fun l hl => q _ P _ _ (Alc.own e hl) ⟨l, _, rfl, rfl, upd_same, dpa_rev ha⟩⟩
/-! ### sorted(.., reverse=True) -/
def rSortR (K : PySem.W.Frag) (b : Bool) : List V → List V → Hp → VK → Prop := fun vs zs H Q => ∃ (P : Hp) (a : Addr) (xs : List V) (ds : List PyData), Same P H ∧ vs = [V.ref a] ∧ zs = [.bl b] ∧ SqL K H a xs ∧ DpAll K P xs ds ∧ Srt ds ∧
  ∀ (ys : List V) (p : Addr), DpAll K P ys (sortD b ds) → H p = none → Q (.ref p) (upd H p (.lst ys))
theorem cr_sortR {b : Bool} (c : Cxt G X W k) : CallRK X (.builtin "sorted") [Str.ofString "reverse"] (rSortR X.K b) := by
  intro pins s σ H vs zs us ws Q I r rz h
  obtain ⟨P, a, xs, ds, e, rfl, rfl, hs, ha, so, q⟩ := h
  obtain ⟨w1, rfl, e1⟩ := vals1 rz
  obtain rfl : w1 = Value.bool b := e1
  obtain ⟨its, rv, hl, hz⟩ := I.list hs
  rw [Vals.ref1 r]
  have hlen := rv.length
  have hlen2 := dpa_len _ _ ha
  have ed := eachD rv ha
  refine PySem.W.sorted_rev_data (b := b) (enc := id) hl.isList ed (eachReads I e ed) (by rw [List.map_id]; exact so.al) (by rw [List.map_id]; exact so.so) (by omega) (fun b hb => ?_) fun out ho eo => ?_
  · have := so.dp b hb
    have := c.room.un
    show X.A.units + 2 + b.depth < cLine
    omega
  · obtain ⟨ys, ry, dy⟩ := dOfEach eo
    obtain ⟨ep, he'⟩ := PyProof.Rows.sortedAll_at s.heap its out.toArray
    have hy := ry.length
    exact ⟨.ref _, upd H (s.heap.objs.size + 1) (.lst ys), I.laid (t' := s.toks) (fun _ _ => PyProof.Rows.sortedAll_old) (Nat.le_succ _) ⟨by omega, out, ep, ry, he'⟩, rfl, q ys _ dy (I.hok.fresh (Nat.le_succ _))⟩
noncomputable def gSortR (a : Vl) : Option Vl := (asL a).bind fun ds => gd (Srt ds) (.ml (sortD true ds))
theorem e_sortR (c : Cxt G X W k) (hm : X.mg "sorted" = none) {j : Nat} {kp kp2 : Pos} (he : PE X e (tE G W f)) (hg : Gl X "sorted" := by rfl)
    (hst : backTo pos (starEach [e] X.env) = (false, eval e X.env) :: backTo pos (starEach [] X.env) := by rfl) (hpl : (backTo pos (starEach [e] X.env)).any (·.1) = false := by rfl) (hs : starEach [e] X.env = (false, eval e X.env) :: starEach [] X.env := by rfl)
    (hall : (backToKw pos (keywordEach [⟨some "reverse", .Constant (.bool true) j kp, kp2⟩] X.env)).all (·.1.isSome) = true := by rfl) (hnone : (backToKw pos (keywordEach [⟨some "reverse", .Constant (.bool true) j kp, kp2⟩] X.env)).any (·.1.isNone) = false := by rfl) (hks : (backToKw pos (keywordEach [⟨some "reverse", .Constant (.bool true) j kp, kp2⟩] X.env)).filterMap (·.1) = [Str.ofString "reverse"] := by rfl) :
    PE X (.Call (.Name "sorted" p) [e] [⟨some "reverse", .Constant (.bool true) j kp, kp2⟩] pos) (tE G W (una gSortR f)) :=
  PE.imp (pe_callBK (cr_sortR (b := true) c) hg hm (by decide +kernel) (pa_cons he pa_nil hs) (pk_cons (pe_bl (b := true)) pk_nil) (he := hst) (hpl := hpl) (hall := hall) (hnone := hnone) (hks := hks)) fun σ H Q h => by
    rw [c.K]
    refine una_ok (r := fun x H1 Q => rSortR G.K true [x] [.bl true] H1 Q) (fun P H x a w Q e hx hw q => ?_) h
    unfold gSortR at hw
    obtain ⟨ds, hd, hw⟩ := Option.bind_eq_some_iff.mp hw
    obtain ⟨so, rfl⟩ := gd_some hw
    obtain ⟨p, xs, rfl, hs, ha⟩ := hx.lst e hd
    exact ⟨P, p, xs, ds, e, rfl, rfl, hs, ha, so, fun ys l dy hl => q _ P _ _ (Alc.own e hl) ⟨l, ys, rfl, rfl, upd_same, dy⟩⟩
end
end Mi
end
section
set_option Elab.async false
set_option linter.all false
set_option maxRecDepth 100000
set_option maxHeartbeats 1000000
/-! Ev42: t[::-1] of a tuple; a chain of three; freezing a slot -/
namespace Mi
open PySem PySem.Spec PyProof.Rows L2
section
variable {prog : Program} {w : World} {A : Around} {E : Value → Shared → Prop} {s : Shared}
theorem adjust_rev (n : Nat) : Builtin.Slice.sliceAdjust none none (-1) (n : Int) = ((n : Int) - 1, -1) := rfl
theorem places_rev (n : Nat) : Builtin.Slice.slicePlaces ((n : Int) - 1) (-1) (-1) = n := by
  unfold Builtin.Slice.slicePlaces
  have h1 : ¬ ((-1 : Int) > 0) := by decide
  simp only [h1, if_false]
  split
  · rw [show (- -1 : Int) = 1 by decide, Int.ediv_one]; omega
  · omega
theorem pick_rev (xs : Array Value) : ((List.range xs.size).filterMap fun (m : Nat) => xs[((xs.size : Int) - 1 + (m : Int) * (-1)).toNat]?).toArray = xs.toList.reverse.toArray := by
  have e : (List.range xs.size).filterMap (fun (m : Nat) => xs[((xs.size : Int) - 1 + (m : Int) * (-1)).toNat]?) = ((List.range xs.size).map fun k => xs.size - 1 - k).filterMap (xs[·]?) := by
    rw [List.filterMap_map]
    have cg : ∀ (l : List Nat), (∀ m ∈ l, m < xs.size) → l.filterMap (fun (m : Nat) => xs[((xs.size : Int) - 1 + (m : Int) * (-1)).toNat]?) = l.filterMap ((fun x => xs[x]?) ∘ fun k => xs.size - 1 - k) := by
      intro l
      induction l with
      | nil => intro _; rfl
      | cons m l ih =>
        intro hm
        have h1 := hm m (by simp)
        have e1 : ((xs.size : Int) - 1 + (m : Int) * (-1)).toNat = xs.size - 1 - m := by omega
        rw [List.filterMap_cons, List.filterMap_cons, ih fun k hk => hm k (List.mem_cons_of_mem _ hk)]
        simp only [Function.comp_apply, e1]
    exact cg _ fun m hm => List.mem_range.mp hm
  rw [e, PySem.W.krv_range, List.filterMap_reverse, PySem.W.krv_all]
theorem getItem_tuple_rev {t sl : Addr} {items : Array Value} {vs : Value} {Q : Value → Shared → Prop} (ht : IsTup s.heap t items) (hs : s.heap.IsSliceOf sl .none .none vs) (ps : IsPart vs (some (-1)))
    (h : Q (.ref s.heap.objs.size) { s with heap := s.heap.push { cls := .type "tuple", data := .seq items.toList.reverse.toArray } })
    (hsz : items.size ≤ sizeLine) : wpAny (model prog w) A (getItem (.ref t) (.ref sl)) Q E s := by
  have htake : sizeOk (.seq items.toList.reverse.toArray) := by
    show items.toList.reverse.toArray.size ≤ sizeLine
    rw [List.size_toArray, List.length_reverse, Array.length_toList]
    exact hsz
  obtain ⟨os, hos, hcs, hds⟩ := id hs
  have hTs : s.TypeIs (.ref sl) "slice" := ⟨os, hos, hcs⟩
  unfold getItem
  try with_reducible refine wpAny_holding ?_
  first | refine wpAny_bind (wpAny_pure ?_) | skip
  refine wpAny_bind (wpAny_sequenceKey ht.typeIs (by decide) ?_)
  refine wpAny_bind (wpAny_callSpecial?_slot (name := Str.ofString "__getitem__") ht.typeIs PyProof.Rows.slot_tuple_getitem
    (wpAny_call_entry PyProof.Rows.slot_tuple_getitem ht.typeIs entry_tuple_getitem ?_ (args_tuple_getitem _ _)))
  show wpAny _ _ (Builtin.Tuple.tupleItemsOf (.ref t) >>= _) _ _ s
  refine wpAny_bind (tupleItemsOf_ ht ?_)
  refine wpAny_bind (wpAny_typeOf hTs ?_)
  rw [if_pos (by decide)]
  refine wpAny_bind ?_
  unfold Builtin.Slice.sliceApplied Builtin.Slice.sliceFields
  refine wpAny_bind (wpAny_bind (wpAny_field hos hds (x := .none) rfl (wpAny_bind (wpAny_field hos hds (x := .none) rfl (wpAny_bind (wpAny_field hos hds (x := vs) rfl (wpAny_pure ?_)))))))
  refine wpAny_bind (HT.slicePart_ ps ?_)
  show wpAny _ _ (if ((-1 : Int) == 0) = true then _ else _) _ _ s
  rw [if_neg (by decide)]
  refine wpAny_bind (HT.slicePart_ .none (wpAny_bind (HT.slicePart_ .none (wpAny_bind (wpAny_pure ?_)))))
  show wpAny _ _ (match Builtin.Slice.sliceAdjust none none (-1) (items.size : Int) with | (lo, hi) => pure (lo, (-1 : Int), Builtin.Slice.slicePlaces lo hi (-1))) _ _ s
  rw [adjust_rev]
  show wpAny _ _ (pure ((items.size : Int) - 1, (-1 : Int), Builtin.Slice.slicePlaces ((items.size : Int) - 1) (-1) (-1))) _ _ s
  rw [places_rev]
  refine wpAny_pure ?_
  have hno : ¬ ((((items.size : Int) - 1) == 0 && (-1 : Int) == 1 && items.size == items.size) = true) := by
    intro q
    rw [Bool.and_eq_true, Bool.and_eq_true] at q
    exact absurd q.1.2 (by decide)
  show wpAny _ _ (if (((items.size : Int) - 1) == 0 && (-1 : Int) == 1 && items.size == items.size) = true then _ else _) _ _ s
  rw [if_neg hno, pick_rev]
  first
    | exact wpAny_bind (m := Builtin.Tuple.tupleExact _) (wpAny_newObj_type (wpAny_pure ⟨_, rfl, wpAny_pure h⟩) htake)
    | exact wpAny_bind (m := Builtin.Tuple.tupleExact _) (wpAny_newObj_type (wpAny_bind (wpAny_pure (wpAny_pure ⟨_, rfl, wpAny_pure h⟩))) htake)
    | exact wpAny_bind (wpAny_bind (m := Builtin.Tuple.tupleExact _) (wpAny_newObj_type (wpAny_pure (wpAny_pure ⟨_, rfl, wpAny_pure h⟩)) htake))
    | exact wpAny_bind (wpAny_bind (m := Builtin.Tuple.tupleExact _) (wpAny_newObj_type (wpAny_pure ⟨_, rfl, wpAny_pure h⟩) htake))
end
section
variable {X : Cx} {G : Glb} {W : WX} {k n i : Nat} {π : List Bool} {e : Expr} {f : FE} {p p2 p3 pos : Pos}
/-- xs[::-1], a list or a tuple -/
def tRevA (K : PySem.W.Frag) (te : TE) : TE := fun σ H Q => te σ H fun x H1 => ∃ a xs, x = .ref a ∧ ((SqL K H1 a xs ∧ ∀ p, H1 p = none → Q (.ref p) (upd H1 p (.lst xs.reverse))) ∨ (SqT K H1 a xs ∧ ∀ p, H1 p = none → Q (.ref p) (upd H1 p (.tup xs.reverse))))
theorem pe_revA {e : Expr} {te : TE} {k : Nat} {p1 p2 p3 pos : Pos} (he : PE X e te) : PE X (.Subscript e (.Slice none none (some (.UnaryOp .USub (.Constant (.int 1) k p1) p2)) p3) pos) (tRevA X.K te) := by
  refine ⟨fun pins s σ H Q I h => ?_⟩
  refine Subscript_ (thn (he.run pins s σ H _ I h) fun v s1 ⟨x, H1, I1, r1, q1⟩ => ?_)
  obtain ⟨a, xs, ex, q⟩ := q1
  subst ex
  cases r1
  have hst : PO X (some (.UnaryOp .USub (.Constant (.int 1) k p1) p2)) (tPart (tUn (rU fun i => .int (-i)) (tC (.int 1)))) := po_some (pe_un un_neg pe_int)
  refine wpAny_Slice (thn (po_none.run pins s1 σ H1 (fun o H2 => o = none ∧ H2 = H1) I1 ⟨rfl, rfl⟩) fun vl s2 ⟨l, H2, I2, pl, el, e2⟩ => ?_)
  subst el e2
  refine thn (po_none.run pins s2 σ H2 (fun o H3 => o = none ∧ H3 = H2) I2 ⟨rfl, rfl⟩) fun vu s3 ⟨u, H3, I3, pu, eu, e3⟩ => ?_
  subst eu e3
  refine thn (hst.run pins s3 σ H3 (fun o H4 => o = some (-1) ∧ H4 = H3) I3 ⟨1, rfl, -1, rfl, rfl, rfl⟩) fun vs s4 ⟨o, H4, I4, ps, eo, e4⟩ => ?_
  subst eo e4
  have I5 : Inv X pins σ H4 { s4 with heap := s4.heap.push { cls := .type "slice", data := .fields #[vl, vu, vs] } } := I4.kept (t' := s4.toks) fun b ob q => Heap.get?_push_of_some _ q
  have evl : vl = .none := by cases pl; rfl
  have evu : vu = .none := by cases pu; rfl
  subst evl evu
  show wpAny (model X.prog X.w) X.A (subscriptTail e (.Slice none none (some (.UnaryOp .USub (.Constant (.int 1) k p1) p2)) p3) (.ref a) (.ref s4.heap.objs.size)) (EP X pins σ Q) X.xe { s4 with heap := s4.heap.push { cls := .type "slice", data := .fields #[.none, .none, vs] } }
  rcases q with ⟨hx, q⟩ | ⟨hx, q⟩
  · obtain ⟨its, r, ht, hz⟩ := I5.list hx
    have hlen := r.length
    refine tail_any (ops := [.ref a, .ref s4.heap.objs.size]) ht.isList.typeIs (PySem.slot_list_getitem.lookup) ?_ (by with_unfolding_all rfl)
    refine wpAny_getItem_list_slice ht.isList (Heap.IsSliceOf.new _ .none .none vs) pl pu ps (by decide) ?_ (by rw [List.size_toArray]; omega)
    rw [PySem.W.krv_pick]
    refine ⟨.ref _, _, I5.laid (t' := s4.toks) (o := .lst xs.reverse) (fun b ob q => Heap.get?_push_of_some _ q) (Nat.le_refl _) ?_, rfl, q _ (I5.hok.fresh (Nat.le_refl _))⟩
    exact ⟨by rw [List.length_reverse]; exact hz, _, 0, r.reverse, Heap.get?_push_size _ rfl⟩
  · obtain ⟨its, r, ht, hz⟩ := I5.tuple hx
    have hlen := r.length
    refine tail_any (ops := [.ref a, .ref s4.heap.objs.size]) ht.typeIs (PyProof.Rows.slot_tuple_getitem.lookup) ?_ (by with_unfolding_all rfl)
    refine getItem_tuple_rev ht (Heap.IsSliceOf.new _ .none .none vs) ps ?_ (by rw [List.size_toArray]; omega)
    refine ⟨.ref _, _, I5.laid (t' := s4.toks) (o := .tup xs.reverse) (fun b ob q => Heap.get?_push_of_some _ q) (Nat.le_refl _) ?_, rfl, q _ (I5.hok.fresh (Nat.le_refl _))⟩
    exact ⟨by rw [List.length_reverse]; exact hz, _, r.reverse, IsTup.new _ _⟩
def gRevA (a : Vl) : Option Vl := match asL a with
  | some ds => some (.ml ds.reverse)
  | none => (asT a).map fun ds => .dat (.tuple ds.reverse)
theorem e_rev (hK : X.K = G.K) {k : Nat} {p1 : Pos} (he : PE X e (tE G W f)) : PE X (.Subscript e (.Slice none none (some (.UnaryOp .USub (.Constant (.int 1) k p1) p2)) p3) pos) (tE G W (una gRevA f)) :=
  PE.imp (pe_revA he) fun σ H Q h => by
    rw [hK]
    refine una_ok (r := fun x H1 Q => ∃ a xs, x = .ref a ∧ ((SqL G.K H1 a xs ∧ ∀ p, H1 p = none → Q (.ref p) (upd H1 p (.lst xs.reverse))) ∨ (SqT G.K H1 a xs ∧ ∀ p, H1 p = none → Q (.ref p) (upd H1 p (.tup xs.reverse))))) (fun P H x a w Q e hx hw q => ?_) h
    unfold gRevA at hw
    cases ea : asL a with
    | some ds =>
      rw [ea] at hw
      cases hw
      obtain ⟨p, xs, rfl, hs, ha⟩ := hx.lst e ea
      exact ⟨p, xs, rfl, .inl ⟨hs, fun l hl => q _ P _ _ (Alc.own e hl) ⟨l, _, rfl, rfl, upd_same, dpa_rev ha⟩⟩⟩
    | none =>
      rw [ea] at hw
      obtain ⟨ds, et, rfl⟩ := Option.map_eq_some_iff.mp hw
      obtain ⟨p, xs, rfl, hs, ha⟩ := hx.tup e et
      have hP : ∀ l, H l = none → P l = none := fun l hl => same_none e hl
      exact ⟨p, xs, rfl, .inr ⟨hs, fun l hl => q _ (upd P l (.tup xs.reverse)) _ _ (Alc.tup e hl) (.tup (.inl (.inl upd_same)) (dpa_mono (same_upd (hP l hl)) _ _ (dpa_rev ha)))⟩⟩
/-- a slot's own list is frozen as it is read -/
def fZ (f : FE) : FE := fun ρ => (f ρ).bind fun o ρ1 => match frz1 ρ1 o with
  | some (d, ρ2) => .ok (.val (.dat d)) ρ2
  | none => .stk
theorem e_Z (he : PE X e (tE G W f)) : PE X e (tE G W (fZ f)) := PE.imp he fun σ H Q ⟨ρ, P, F, n, h⟩ => by
  refine tE_bind (End := fun P H F => EndO G W P H F σ Q) n h (fun _ _ z => z) (fun z => z) fun x ρ1 vx P1 H1 F1 S1 e1 h1 n1 s1 hx q1 => ?_
  split at h1
  · rename_i d ρ2 ef
    obtain ⟨P2, F2, n2, d2, z2⟩ := frz1_ok n1 hx ef
    exact h1 vx P2 H1 F2 nobody n2 (z2.stp s1 q1) ⟨d2, fun _ z => z.elim, fun _ z => z.elim, fun _ z => z.elim, fun _ _ z => z.elim⟩ fun _ z => z.elim
  · exact h1.elim
end
end Mi
namespace Mi
/-- the pins of a list, as far as they go -/
theorem pin_le {π π' : List Bool} (h : (List.range π.length).all (fun j => !ioAt π j || ioAt π' j) = true) : ∀ j, ioAt π j = true → ioAt π' j = true := fun j hj => by
  have hl : j < π.length := Classical.byContradiction fun q => by
    unfold ioAt at hj
    rw [List.getD_eq_getElem?_getD, List.getElem?_eq_none (by omega)] at hj
    cases hj
  have := List.all_eq_true.mp h j (List.mem_range.mpr hl)
  simpa [hj] using this
end Mi
namespace Mi
open PySem PySem.Spec PyProof.Rows L2
theorem z_rd {G : Glb} {W : WX} {f : FE} {σ : L2.St} {H : Hp} {Q : VK} (h : tE G W (fZ f) σ H Q) : tE G W f σ H Q := by
  obtain ⟨ρ, P, F, n, h⟩ := h
  refine tE_bind (End := fun P H F => EndO G W P H F σ Q) n h (fun _ _ z => z) (fun z => z) fun x ρ1 vx P1 H1 F1 S1 e1 h1 n1 s1 hx q1 => ?_
  split at h1
  · rename_i d ρ2 ef
    obtain ⟨P2, F2, n2, d2, z2⟩ := frz1_ok n1 hx ef
    exact h1 vx P2 H1 F2 nobody n2 (z2.stp s1 q1) ⟨d2, fun _ z => z.elim, fun _ z => z.elim, fun _ z => z.elim, fun _ _ z => z.elim⟩ fun _ z => z.elim
  · exact h1.elim
section
variable {X : Cx} {G : Glb} {W : WX} {k n i : Nat} {π : List Bool} {elt tg iter tg1 iter1 t t1 : Expr} {scope : Scope} {own : List (Str × Nat)} {vs vs1 : List Nat} {pos spos py : Pos} {fi fi1 : FI} {b b1 : FB} {c c1 : FT} {e : FE} {y : Str} {tt tt1 : TT} {ifs ifs1 : List Expr}
/-- name = [..] -/
theorem s_setCompZ (cx : Cxt G X W k) (hn : X.N.length = n) (hy : X.N[i]? = some y) (hyl : X.env.scope.names.lookup y = some .local) (hin : i < n) (hpi : ioAt π i = false) (hi : PI X tg iter (tI G W fi)) (ok : blkC X.N X.env.scope scope own = true) (hvs : own.map (·.2) = vs) {π' : List Bool} (hp : blkPi n vs = π')
    (hg : ∀ (s : Shared) (H : Hp) (C : Addr) (cl : List (Str × Addr)) (fp : List Addr), PG (X.blk s H scope (compEnvC scope cl C X.env) fp) tg (tG G n π' b))
    (ht : ∀ (s : Shared) (H : Hp) (C : Addr) (cl : List (Str × Addr)) (fp : List Addr), PTs (X.blk s H scope (compEnvC scope cl C X.env) fp) ifs tt) (htt : ∀ σ H Q, tT G noW c σ H Q → tt σ H Q)
    (he : ∀ (s : Shared) (H : Hp) (C : Addr) (cl : List (Str × Addr)) (fp : List Addr), PE (X.blk s H scope (compEnvC scope cl C X.env) fp) elt (tE G noW e)) (hs : ∀ x, foldedSetIterable iter X.env x = pure x := by intro _; rfl)
    (hsw : swapsWith (.ListComp elt [⟨tg, iter, ifs, 0⟩] scope pos) (some (.Name y py)) spos.line X.env = pure true) :
    PS X (.Assign [.Name y py] (.ListComp elt [⟨tg, iter, ifs, 0⟩] scope pos) spos) (tS G W n π (sSet i (fZ (fComp vs fi b c e)))) := by
  constructor
  intro pins s σ H D I h
  have hl : σ.length = n := I.len.trans hn
  have h2 := z_rd (set_rd hin hpi h)
  subst hvs hp
  exact (ps_setLc (i := i) (wi := tI G W fi) (te := tE G noW e) cx.calm cx.nd hy hyl hsw hi (blkOk_by ok) hg ht he hs).run pins s σ H D I (by rw [← hl]; exact comp_rd htt h2)
theorem s_setComp2Z (cx : Cxt G X W k) (hn : X.N.length = n) (hy : X.N[i]? = some y) (hyl : X.env.scope.names.lookup y = some .local) (hin : i < n) (hpi : ioAt π i = false) (hi : PI X tg iter (tI G W fi)) (ok : blkC X.N X.env.scope scope own = true) (hvs : own.map (·.2) = vs) (hv : ∀ j ∈ vs1, j ∈ vs) {π' π1 : List Bool} (hp : blkPi n vs = π') (hp1 : blkPi n vs1 = π1)
    (hg : ∀ (s : Shared) (H : Hp) (C : Addr) (cl : List (Str × Addr)) (fp : List Addr), PG (X.blk s H scope (compEnvC scope cl C X.env) fp) tg (tG G n π' b))
    (ht : ∀ (s : Shared) (H : Hp) (C : Addr) (cl : List (Str × Addr)) (fp : List Addr), PTs (X.blk s H scope (compEnvC scope cl C X.env) fp) ifs tt) (htt : ∀ σ H Q, tT G noW c σ H Q → tt σ H Q)
    (hi1 : ∀ (s : Shared) (H : Hp) (C : Addr) (cl : List (Str × Addr)) (fp : List Addr), PI (X.blk s H scope (compEnvC scope cl C X.env) fp) tg1 iter1 (tI G noW fi1))
    (hg1 : ∀ (s : Shared) (H : Hp) (C : Addr) (cl : List (Str × Addr)) (fp : List Addr), PG (X.blk s H scope (compEnvC scope cl C X.env) fp) tg1 (tG G n π1 b1))
    (ht1 : ∀ (s : Shared) (H : Hp) (C : Addr) (cl : List (Str × Addr)) (fp : List Addr), PTs (X.blk s H scope (compEnvC scope cl C X.env) fp) ifs1 tt1) (htt1 : ∀ σ H Q, tT G noW c1 σ H Q → tt1 σ H Q)
    (he : ∀ (s : Shared) (H : Hp) (C : Addr) (cl : List (Str × Addr)) (fp : List Addr), PE (X.blk s H scope (compEnvC scope cl C X.env) fp) elt (tE G noW e)) (hs : ∀ x, foldedSetIterable iter X.env x = pure x := by intro _; rfl) (hs1 : ∀ env x, foldedSetIterable iter1 env x = pure x := by intro _ _; rfl)
    (hsw : swapsWith (.ListComp elt [⟨tg, iter, ifs, 0⟩, ⟨tg1, iter1, ifs1, 0⟩] scope pos) (some (.Name y py)) spos.line X.env = pure true) :
    PS X (.Assign [.Name y py] (.ListComp elt [⟨tg, iter, ifs, 0⟩, ⟨tg1, iter1, ifs1, 0⟩] scope pos) spos) (tS G W n π (sSet i (fZ (fComp2 vs vs1 fi b c fi1 b1 c1 e)))) := by
  constructor
  intro pins s σ H D I h
  have hl : σ.length = n := I.len.trans hn
  have h2 := z_rd (set_rd hin hpi h)
  subst hvs hp hp1
  exact (ps_setLc2 (i := i) (wi := tI G W fi) (te := tE G noW e) cx.calm cx.nd hy hyl hsw hi (blkOk_by ok) hv hg ht hi1 hg1 ht1 he hs hs1).run pins s σ H D I (by rw [← hl]; exact comp2_rd htt htt1 hv h2)
end
end Mi
end
section
set_option Elab.async false
set_option linter.all false
set_option maxRecDepth 100000
set_option maxHeartbeats 1000000
/-! Ev43: any, all of a list of ints -/
namespace Mi
open PySem L2 PyProof.Rows
theorem intsAre_get : ∀ {us : List Value} {ns : List Int} {i : Nat} {v : Value}, IntsAre us ns → us[i]? = some v → ∃ n t, ns[i]? = some n ∧ v = .int n t
  | _, _, i, _, .nil, h => by simp at h
  | _, _, 0, v, .cons n t r, h => by simp at h; exact ⟨n, t, rfl, h.symm⟩
  | _, _, i + 1, v, .cons n t r, h => by
    obtain ⟨m, t', e, q⟩ := intsAre_get (i := i) r (by simpa using h)
    exact ⟨m, t', by simpa using e, q⟩
theorem truth_ints {prog : Program} {w : World} {A : Around} {ns : List Int} {its : List Value} (e : IntsAre its ns) :
    TruthOf prog w A (fun i v => its.toArray[i]? = some v) (fun i => (ns.map (· != 0)).getD i false) := fun i v s Q E hv hq => by
  have hv' : its[i]? = some v := by simpa using hv
  obtain ⟨n, t, h1, rfl⟩ := intsAre_get e hv'
  have hg : (ns.map (· != 0)).getD i false = (n != 0) := by rw [List.getD_eq_getElem?_getD, List.getElem?_map, h1] <;> rfl
  have hq' : Q ((ns.map (· != 0)).getD i false) s := hq
  rw [hg] at hq'
  exact PyProof.Rows.truthy_int hq'
section
variable {X : Cx} {G : Glb} {W : WX} {k : Nat}
def rAnyI (K : PySem.W.Frag) : List V → Hp → VK → Prop := fun vs H Q => ∃ (a : Addr) (ns : List Int), vs = [V.ref a] ∧ SqL K H a (ns.map V.int) ∧ Q (.bl ((ns.map (· != 0)).any id)) H
def rAllI (K : PySem.W.Frag) : List V → Hp → VK → Prop := fun vs H Q => ∃ (a : Addr) (ns : List Int), vs = [V.ref a] ∧ SqL K H a (ns.map V.int) ∧ Q (.bl ((ns.map (· != 0)).all id)) H
theorem cr_anyI (hc : X.calm = true) : CallR X (.builtin "any") (rAnyI X.K) := by
  intro pins s σ H vs us Q I r h
  obtain ⟨a, ns, rfl, hs, q⟩ := h
  obtain ⟨its, rv, hl, _⟩ := I.list hs
  rw [Vals.ref1 r]
  have hb := rv.ints
  refine call_any_walk (iter_any hl.isList fun s₂ e2 st hne => ?_)
  subst e2
  refine ⟨_, _, _, _, _, _, _, rfl, Walks.list (A := X.A.in1) (I.ok.hd hc) _ a hne its.toArray, st, truth_ints hb, fun h' tk hk => ?_⟩
  refine ⟨.bl _, H, I.kept fun b o eo => hk b o (fun hmem => ?_) (Heap.get?_push_of_some _ eo), ?_, q⟩
  · rcases List.mem_cons.mp hmem with e1 | hmem
    · exact absurd (e1 ▸ Heap.lt_size eo) (Nat.lt_irrefl _)
    · cases hmem
  · show Value.bool _ = Value.bool _
    rw [← L2.any_range, List.size_toArray, List.length_map, hb.length]
theorem cr_allI (hc : X.calm = true) : CallR X (.builtin "all") (rAllI X.K) := by
  intro pins s σ H vs us Q I r h
  obtain ⟨a, ns, rfl, hs, q⟩ := h
  obtain ⟨its, rv, hl, _⟩ := I.list hs
  rw [Vals.ref1 r]
  have hb := rv.ints
  refine call_all_walk (iter_any hl.isList fun s₂ e2 st hne => ?_)
  subst e2
  refine ⟨_, _, _, _, _, _, _, rfl, Walks.list (A := X.A.in1) (I.ok.hd hc) _ a hne its.toArray, st, truth_ints hb, fun h' tk hk => ?_⟩
  refine ⟨.bl _, H, I.kept fun b o eo => hk b o (fun hmem => ?_) (Heap.get?_push_of_some _ eo), ?_, q⟩
  · rcases List.mem_cons.mp hmem with e1 | hmem
    · exact absurd (e1 ▸ Heap.lt_size eo) (Nat.lt_irrefl _)
    · cases hmem
  · show Value.bool _ = Value.bool _
    rw [← L2.all_range, List.size_toArray, List.length_map, hb.length]
def gAnyI (a : Vl) : Option Vl := (asL a).bind fun ds => (asInts ds).map fun ns => vB ((ns.map (· != 0)).any id)
def gAllI (a : Vl) : Option Vl := (asL a).bind fun ds => (asInts ds).map fun ns => vB ((ns.map (· != 0)).all id)
theorem b_anyI (c : Cxt G X W k) : BltV G X (.builtin "any") (g1 gAnyI) := ⟨⟨_, cr_anyI c.calm, callOk1 fun P H v a w Q e h hw q => by
  obtain ⟨ds, hd, hw⟩ := Option.bind_eq_some_iff.mp hw
  obtain ⟨ns, hn, rfl⟩ := Option.map_eq_some_iff.mp hw
  obtain ⟨p, xs, rfl, hs, ha⟩ := h.lst e hd
  rw [asInts_eq hn] at ha
  rw [dpa_ints ha] at hs
  exact ⟨p, ns, rfl, by rw [c.K]; exact hs, q _ P H nobody (Alc.refl e) (Dp.bl _)⟩⟩⟩
theorem b_allI (c : Cxt G X W k) : BltV G X (.builtin "all") (g1 gAllI) := ⟨⟨_, cr_allI c.calm, callOk1 fun P H v a w Q e h hw q => by
  obtain ⟨ds, hd, hw⟩ := Option.bind_eq_some_iff.mp hw
  obtain ⟨ns, hn, rfl⟩ := Option.map_eq_some_iff.mp hw
  obtain ⟨p, xs, rfl, hs, ha⟩ := h.lst e hd
  rw [asInts_eq hn] at ha
  rw [dpa_ints ha] at hs
  exact ⟨p, ns, rfl, by rw [c.K]; exact hs, q _ P H nobody (Alc.refl e) (Dp.bl _)⟩⟩⟩
theorem b_any2 (c : Cxt G X W k) : BltV G X (.builtin "any") (orC (g1 gAny) (g1 gAnyI)) := BltV.or (b_any c) (b_anyI c)
theorem b_all2 (c : Cxt G X W k) : BltV G X (.builtin "all") (orC (g1 gAll) (g1 gAllI)) := BltV.or (b_all c) (b_allI c)
end
end Mi
end
section
set_option Elab.async false
set_option linter.all false
set_option maxRecDepth 100000
/-! Tw5: more of the plain twin: steps with a value, loops with ways out, draws, stars, unrolled comprehensions -/
namespace Mi
open PySem
abbrev idD (d : PyData) : PyData := d
def flK {β γ δ : Type} (tk : β → R δ) (hr : γ → δ) : Fl β γ → R δ
  | .nx b => tk b
  | .ct b => tk b
  | .bk b => tk b
  | .ret g => .ok (hr g)
theorem flK_nx {β γ δ : Type} (tk : β → R δ) (hr : γ → δ) (b : β) : flK tk hr (.nx b) = tk b := rfl
theorem flK_ret {β γ δ : Type} (tk : β → R δ) (hr : γ → δ) (g : γ) : flK tk hr (.ret g) = .ok (hr g) := rfl
section
variable {δ β γ α : Type} {Φ : δ → SO → Prop} {f a s : FS} {fe : FE} {ρ ρ1 ρ2 : Rho} {v : α} {t : α → R δ} {i : Nat} {w : Vl}
theorem g_stepL {ρ2 : α → Rho} (e : s ρ = .nx (ρ2 v)) (g : ∀ x, Gn (f (ρ2 x)) (t x) Φ) : Gn (sSeq s f ρ) (letR v t) Φ := g_step e (g v)
theorem g_stepC {ρ2 : α → Int → Rho} {c : Int} {t : α → Int → R δ} (e : s ρ = .nx (ρ2 v c)) (g : ∀ x c, Gn (f (ρ2 x c)) (t x c) Φ) : Gn (sSeq s f ρ) (letR v fun x => letR c fun c => t x c) Φ := g_step e (g v c)
theorem g_stepC0 {ρ2 : Int → Rho} {c : Int} {t : Int → R δ} (e : s ρ = .nx (ρ2 c)) (g : ∀ c, Gn (f (ρ2 c)) (t c) Φ) : Gn (sSeq s f ρ) (letR c t) Φ := g_step e (g c)
theorem fRt_ret {γ : Type} {wr : γ → Vl} {E : γ → Rho → Prop} : ∀ g s, fRt wr E g s → ∃ w ρ', s = .ret w ρ' := fun _ _ ⟨ρ', e, _⟩ => ⟨_, ρ', e⟩
theorem g_seqK {E : β → Rho → Prop} {Er : γ → SO → Prop} {tj : R (Fl β γ)} {tk : β → R δ} {hr : γ → δ} (hj : Gn (a ρ) tj (fFl E Er)) (hEr : ∀ g s, Er g s → ∃ w ρ', s = .ret w ρ') (hnb : (∀ b, tj ≠ .ok (.bk b)) ∧ ∀ b, tj ≠ .ok (.ct b)) (hret : ∀ g w ρ', Er g (.ret w ρ') → Φ (hr g) (.ret w ρ')) (h : ∀ b ρ', E b ρ' → Gn (f ρ') (tk b) Φ) :
    Gn (sSeq a f ρ) (tj.bind (flK tk hr)) Φ := by
  cases tj with
  | stk => trivial
  | exc c0 =>
    obtain ⟨ρ', e⟩ := hj
    exact ⟨ρ', by unfold sSeq; rw [e]⟩
  | ok r =>
    cases r with
    | nx b0 =>
      obtain ⟨ρ', e, hE⟩ := hj
      have := h b0 ρ' hE
      show Gn _ (tk b0) Φ
      rw [seq_nx' e]; exact this
    | ct b0 => exact (hnb.2 b0 rfl).elim
    | bk b0 => exact (hnb.1 b0 rfl).elim
    | ret g =>
      obtain ⟨w, ρ', e⟩ := hEr g _ hj
      have hj' : Er g (a ρ) := hj
      rw [e] at hj'
      show Φ (hr g) _
      have : sSeq a f ρ = .ret w ρ' := by unfold sSeq; rw [e]
      rw [this]
      exact hret g w ρ' hj'
theorem g_fret {E : β → Rho → Prop} {wr : γ → Vl} {Eg : γ → Rho → Prop} {g : γ} (h : Gn (sSeq s f ρ) (.ok g) (fRt wr Eg)) : Gn (sSeq s f ρ) (.ok (Fl.ret g)) (fFl E (fRt wr Eg)) := h
end
/-! ### typed steps -/
section
variable {α β : Type} {e : α → PyData} {f g : FE} {F : FA} {ρ ρ1 ρ2 ρ3 : Rho} {w : Vl} {xs ys : List α} {x : α} {ds es : List PyData} {d : PyData} {i j : Nat} {k : Int}
theorem ev_app {fe : FE} (h : Pv fe ρ w ρ1) (hl : xs.length ≤ 100000) (hm : (ρ[i]?).join = some (.ml (xs.map e)) := by rfl) (hd : viewD w = some (e x) := by rfl) (hm1 : (ρ1[i]?).join = some (.ml (xs.map e)) := by rfl) (hr : ρ1.set i (some (.ml ((xs ++ [x]).map e))) = ρ2) : sDrop (fApp i fe) ρ = .nx ρ2 :=
  ev_drop (pv_app hm h hd hm1 (by rw [List.length_map]; exact hl) (by rw [← hr, List.map_append]; rfl)).lk
theorem ev_ext {fe : FE} (h : Pv fe ρ (.ml (ys.map e)) ρ1) (hl : xs.length + ys.length ≤ 100000) (hm : (ρ[i]?).join = some (.ml (xs.map e)) := by rfl) (hm1 : (ρ1[i]?).join = some (.ml (xs.map e)) := by rfl) (hr : ρ1.set i (some (.ml ((xs ++ ys).map e))) = ρ2) : sDrop (fExt i fe) ρ = .nx ρ2 :=
  ev_drop (pv_ext hm h hm1 (by rw [List.length_map, List.length_map]; exact hl) (by rw [← hr, List.map_append])).lk
def setI (xs : List α) (k : Int) (x : α) : List α := xs.set (if 0 ≤ k then k.toNat else (k + xs.length).toNat) x
theorem ixN_in {n : Nat} (h : inR n k) : L2.ixN n k = some (if 0 ≤ k then k.toNat else (k + n).toNat) := by
  obtain ⟨h1, h2⟩ := h
  unfold L2.ixN
  by_cases h0 : 0 ≤ k
  · rw [if_pos h0, if_pos h2, if_pos h0]
  · rw [if_neg h0, if_pos h1, if_neg h0]
theorem ev_seti {fi fe : FE} (h : Pv fe ρ w ρ1) (hi : Pv fi ρ1 (vI k) ρ2) (hk : inR xs.length k) (hd : viewD w = some (e x) := by rfl) (hm : (ρ1[i]?).join = some (.ml (xs.map e)) := by rfl) (hm2 : (ρ2[i]?).join = some (.ml (xs.map e)) := by rfl) (hr : ρ2.set i (some (.ml ((setI xs k x).map e))) = ρ3) : sSetItem i fi fe ρ = .nx ρ3 := by
  refine ev_setItem h hd hm hi hm2 (by rw [List.length_map]; exact ixN_in hk) ?_
  rw [← hr]
  unfold setI
  rw [List.map_set]
/-- stars -/
theorem av_star (h1 : Pv f ρ w ρ1) (h2 : Av F ρ1 es ρ2) (hd : (viewD w).bind seqOf = some ds := by rfl) : Av (aStar f F) ρ (ds ++ es) ρ2 := by
  obtain ⟨os, e, l⟩ := h2
  unfold Pv at h1
  obtain ⟨d, hv, hs⟩ := Option.bind_eq_some_iff.mp hd
  refine ⟨ds.map Vl.dat ++ os, ?_, ?_⟩
  · unfold aStar
    rw [h1, bind_ok]
    have hf : frz1 ρ1 (.val w) = some (d, ρ1) := by show (viewD w).map _ = _; rw [hv]; rfl
    rw [hf]
    simp only [hs, e, bind_ok, List.map_append, List.map_map]
    rfl
  · rw [List.map_append, List.map_append, l, List.map_map]
    rfl
theorem av_starO {ρ0 : Rho} (h2 : Av F ρ0 es ρ2) (hm : (ρ[i]?).join = some (.ml ds) := by rfl) (hr : ρ.set i (some (.dat (.list ds))) = ρ0 := by rfl) : Av (aStar (fV i) F) ρ (ds ++ es) ρ2 := by
  obtain ⟨os, e, l⟩ := h2
  refine ⟨ds.map Vl.dat ++ os, ?_, ?_⟩
  · have ev : fV i ρ = .ok (.brw i) ρ := by unfold fV; rw [hm]
    unfold aStar
    rw [ev, bind_ok]
    have hf : frz1 ρ (.brw i) = some (.list ds, ρ0) := by
      show ((look ρ (.brw i)).bind viewD).map _ = _
      rw [look_brw, hm, ← hr]; rfl
    rw [hf]
    simp only [seqOf, e, bind_ok, List.map_append, List.map_map]
    rfl
  · rw [List.map_append, List.map_append, l, List.map_map]
    rfl
theorem pv_tupS (h : Av F ρ ds ρ1) (hl : xs.length ≤ 100000) (he : ds = xs.map e := by simp) : Pv (fTup F) ρ (.dat (.tuple (xs.map e))) ρ1 := by
  subst he
  exact pv_tup h (by rw [List.length_map]; exact hl)
theorem pv_lstS (h : Av F ρ ds ρ1) (hl : xs.length ≤ 100000) (he : ds = xs.map e := by simp) : Pv (fLst F) ρ (.ml (xs.map e)) ρ1 := by
  subst he
  exact pv_lst h (by rw [List.length_map]; exact hl)
/-- freezing as it is read -/
theorem pv_Z (h : Pv f ρ w ρ1) (hd : viewD w = some d := by rfl) : Pv (fZ f) ρ (.dat d) ρ1 := by
  unfold Pv at h ⊢
  unfold fZ
  rw [h, bind_ok]
  have hf : frz1 ρ1 (.val w) = some (d, ρ1) := by show (viewD w).map _ = _; rw [hd]; rfl
  rw [hf]
theorem pv_ZO (hm : (ρ[i]?).join = some (.ml ds) := by rfl) (hr : ρ.set i (some (.dat (.list ds))) = ρ1 := by rfl) : Pv (fZ (fV i)) ρ (.dat (.list ds)) ρ1 := by
  have ev : fV i ρ = .ok (.brw i) ρ := by unfold fV; rw [hm]
  unfold Pv fZ
  rw [ev, bind_ok]
  have hf : frz1 ρ (.brw i) = some (.list ds, ρ1) := by
    show ((look ρ (.brw i)).bind viewD).map _ = _
    rw [look_brw, hm, ← hr]; rfl
  rw [hf]
/-! ### enumerate, zip, range downwards -/
def enL (xs : List α) : List (Int × α) := (List.range xs.length).zipWith (fun (i : Nat) x => ((i : Int), x)) xs
theorem enD_map : enD (xs.map e) = (enL xs).map (eP PyData.int e) := by
  unfold enD enL
  rw [List.length_map, List.zipWith_map_right, List.map_zipWith]
theorem z2D_map {e' : β → PyData} {zs : List β} : z2D (xs.map e) (zs.map e') = (xs.zip zs).map (eP e e') := by
  unfold z2D
  rw [List.zipWith_map, List.zip, List.map_zipWith]
theorem seqOf_view {w : Vl} (h : viewD w = some (.list ds) ∨ viewD w = some (.tuple ds)) : ∃ d, viewD w = some d ∧ seqOf d = some ds := by
  rcases h with h | h
  · exact ⟨_, h, rfl⟩
  · exact ⟨_, h, rfl⟩
theorem iv_enu (h : Pv f ρ w ρ1) (hd : viewD w = some (.list (xs.map e)) ∨ viewD w = some (.tuple (xs.map e)) := by first | exact .inl rfl | exact .inr rfl) : Iv (iEnu (aCons f aNil)) ρ ((enL xs).map (eP PyData.int e)) ρ1 := by
  obtain ⟨d, h1, h2⟩ := seqOf_view hd
  unfold Pv at h
  unfold Iv iEnu aCons
  rw [h, bind_ok, aNil_ev, bind_ok, bind_ok]
  unfold en1
  have : frzL ρ1 [.val w] = some ([d], ρ1) := frzL_val (ws := [w]) (ds := [d]) (by simp [h1])
  rw [this]
  simp only [h2]
  rw [enD_map]
theorem iv_zip2 {e' : β → PyData} {zs : List β} {w' : Vl} (h : Pv f ρ w ρ1) (h' : Pv g ρ1 w' ρ2) (hd : viewD w = some (.list (xs.map e)) ∨ viewD w = some (.tuple (xs.map e)) := by first | exact .inl rfl | exact .inr rfl) (hd' : viewD w' = some (.list (zs.map e')) ∨ viewD w' = some (.tuple (zs.map e')) := by first | exact .inl rfl | exact .inr rfl) : Iv (iZip2 (aCons f (aCons g aNil))) ρ ((xs.zip zs).map (eP e e')) ρ2 := by
  obtain ⟨d, h1, h2⟩ := seqOf_view hd
  obtain ⟨d', h3, h4⟩ := seqOf_view hd'
  unfold Pv at h h'
  unfold Iv iZip2 aCons
  rw [h, bind_ok]
  simp only [aNil_ev, h', bind_ok]
  unfold zp2
  have : frzL ρ2 [.val w, .val w'] = some ([d, d'], ρ2) := frzL_val (ws := [w, w']) (ds := [d, d']) (by simp [h1, h3])
  rw [this]
  simp only [h2, h4]
  rw [z2D_map]
def irangeDn (lo hi : Int) : List Int := (List.range (lo - hi).toNat).map fun k : Nat => lo - (k : Int)
theorem iv_r3 {m n c : Int} (h : Al F ρ [vI m, vI n, vI c] ρ1) (hm : rOk m) (hn : rOk n) (hc : c = -1) : Iv (iR3 F) ρ ((irangeDn m n).map .int) ρ1 := by
  obtain ⟨os, e, l⟩ := h
  unfold Iv iR3
  rw [e, bind_ok]
  unfold rg3
  rw [l]
  show (if _ then _ else _) = _
  rw [if_pos ⟨hm.1, hm.2, hn.1, hn.2, hc⟩]
  unfold rangeDn irangeDn
  rw [List.map_map]; rfl
end
/-! ### a list of the slot walked while it is held -/
theorem ev_forB {β α : Type} {bnd : FB} {body : FS} {ρ : Rho} {ι : α → PyData} {i : Nat} {xs : List α} {Inv : β → Rho → Prop} {b0 : β} {tb : α → β → R β} (h0 : Inv b0 ρ) (hi : ∀ b ρ', Inv b ρ' → look ρ' (.brw i) = some (.ml (xs.map ι))) (hb : ∀ x ∈ xs, ∀ b ρ', Inv b ρ' → ∃ ρ2, bnd (ι x) ρ' = some ρ2 ∧ Gn (body ρ2) (tb x b) (fLp Inv)) :
    Gn (sForB i bnd body ρ) (forR tb xs b0) (fNx Inv) := by
  have go : ∀ (ys : List α) (b0 : β) (ρ : Rho), (∀ y ∈ ys, y ∈ xs) → Inv b0 ρ → Gn (forLB i (xs.map ι) bnd body (ys.map ι) ρ) (forR tb ys b0) (fNx Inv) := by
    intro ys
    induction ys with
    | nil => intro b0 ρ _ h; exact ⟨ρ, rfl, h⟩
    | cons y ys ih =>
      intro b0 ρ hm h
      obtain ⟨ρ2, e1, g1⟩ := hb y (hm y (by simp)) b0 ρ h
      rw [List.map_cons]
      unfold forLB
      simp only [e1]
      show Gn _ ((tb y b0).bind (forR tb ys)) _
      cases ht : tb y b0 with
      | stk => trivial
      | exc c0 =>
        rw [ht] at g1
        obtain ⟨ρ', e⟩ := g1
        exact ⟨ρ', by rw [e]⟩
      | ok b1 =>
        rw [ht] at g1
        obtain ⟨ρ', e, hI⟩ := g1
        have q := ih b1 ρ' (fun z hz => hm z (List.mem_cons_of_mem _ hz)) hI
        have l := hi b1 ρ' hI
        rcases e with e | e
        · rw [e]; simp only [l, if_true]; exact q
        · rw [e]; simp only [l, if_true]; exact q
  unfold sForB
  rw [hi b0 ρ h0]
  exact go xs b0 ρ (fun _ h => h) h0
/-! ### pairs -/
section
variable {fa : FA} {fe : FE} {ρ ρ1 ρ2 : Rho} {i j : Nat} {d d' : PyData} {b : FB} {w : Vl}
theorem ev_par (h : Av fa ρ [d, d'] ρ1) (hr : (ρ1.set i (some (.dat d))).set j (some (.dat d')) = ρ2) : sPar i j fa ρ = .nx ρ2 := by
  obtain ⟨ws, e, l⟩ := h
  unfold sPar
  rw [e, bindS_ok]
  unfold setO2
  rw [frzL_val l]
  show SO.nx _ = _
  rw [hr]
theorem ev_asg (h : Pv fe ρ w ρ1) (hd : viewD w = some d := by rfl) (hb : b d ρ1 = some ρ2 := by rfl) : sAsg b fe ρ = .nx ρ2 := by
  unfold Pv at h
  unfold sAsg
  rw [h, bindS_ok]
  unfold asgO
  have hf : frz1 ρ1 (.val w) = some (d, ρ1) := by show (viewD w).map _ = _; rw [hd]; rfl
  rw [hf]
  simp only [hb]
end
/-! ### unrolled comprehensions -/
inductive CompU (vs : List Nat) (b : FB) (e : FE) (ρw : Rho) : List PyData → List PyData → Prop
  | nil : CompU vs b e ρw [] []
  | cons {d d' : PyData} {ds ds' : List PyData} {ρ2 ρ3 : Rho} {w : Vl} (h1 : b d ρw = some ρ2) (h2 : Pv e ρ2 w ρ3) (h3 : wipeR ρ3 vs = ρw) (h4 : viewD w = some d') (t : CompU vs b e ρw ds ds') : CompU vs b e ρw (d :: ds) (d' :: ds')
theorem pv_compU {fi : FI} {ρ ρ1 : Rho} {vs : List Nat} {b : FB} {e : FE} {ds ds' : List PyData} (hi : Iv fi ρ ds ρ1) (h : CompU vs b e (wipeR ρ1 vs) ds ds') (hl : ds.length ≤ 100000 := by decide) : Pv (fComp vs fi b cT e) ρ (.ml ds') ρ1 := by
  have go : ∀ {ds ds' : List PyData}, CompU vs b e (wipeR ρ1 vs) ds ds' → ∀ ρ0, wipeR ρ0 vs = wipeR ρ1 vs → ∃ ρ', compL vs b cT e ds ρ0 = .ok ds' ρ' ∧ wipeR ρ' vs = wipeR ρ1 vs := by
    intro ds ds' h
    induction h with
    | nil => intro ρ0 h0; exact ⟨ρ0, rfl, h0⟩
    | @cons d d' ds ds' ρ2 ρ3 w h1 h2 h3 h4 t ih =>
      intro ρ0 h0
      obtain ⟨ρ', e1, e2⟩ := ih ρ3 h3
      refine ⟨ρ', ?_, e2⟩
      unfold Pv at h2
      have unf : compL vs b cT e (d :: ds) ρ0 = (match b d (wipeR ρ0 vs) with
        | none => .stk
        | some ρ1 => match e ρ1 with
            | .ok o ρ3 => match frz1 ρ3 o with
              | some (d', ρ4) => match compL vs b cT e ds ρ4 with
                | .ok ds' ρ5 => .ok (d' :: ds') ρ5
                | .exc _ _ => .stk
                | .stk => .stk
              | none => .stk
            | .exc _ _ => .stk
            | .stk => .stk) := rfl
      have hf : frz1 ρ3 (.val w) = some (d', ρ3) := by show (viewD w).map _ = _; rw [h4]; rfl
      rw [unf, h0, h1]
      simp only [h2, hf, e1]
  obtain ⟨ρ', e1, e2⟩ := go h ρ1 rfl
  unfold Iv at hi
  unfold Pv fComp
  rw [hi, bind_ok, e1]
  show (if ds.length ≤ 100000 then _ else _) = _
  rw [if_pos hl, restR_same e2]
/-! ### draws -/
abbrev StV (nums : List Int) (c : Int) : Vl := .ml [.list (nums.map .int), .int c]
def nxG (nums : List Int) (c m : Int) : Prop := 0 < nums.length ∧ nums.length < 10000 ∧ 0 ≤ c ∧ c < 1000000 ∧ 0 < m
noncomputable def nxt (nums : List Int) (c m : Int) : Int := by classical exact if h : nxG nums c m then (next_ev nums c m h.1 h.2.1 h.2.2.1 h.2.2.2.1 h.2.2.2.2).choose else 0
theorem nxt_ev {nums : List Int} {c m : Int} (h : nxG nums c m) : S__law_next [StV nums c, .dat (.int m)] = .ok (vI (nxt nums c m)) [some (StV nums (c + 1)), none] := by
  unfold nxt
  rw [dif_pos h]
  exact (next_ev nums c m h.1 h.2.1 h.2.2.1 h.2.2.2.1 h.2.2.2.2).choose_spec.1
theorem nxt_lo {nums : List Int} {c m : Int} (h : nxG nums c m) : 0 ≤ nxt nums c m := by
  unfold nxt
  rw [dif_pos h]
  exact (next_ev nums c m h.1 h.2.1 h.2.2.1 h.2.2.2.1 h.2.2.2.2).choose_spec.2.1
theorem nxt_hi {nums : List Int} {c m : Int} (h : nxG nums c m) : nxt nums c m < m := by
  unfold nxt
  rw [dif_pos h]
  exact (next_ev nums c m h.1 h.2.1 h.2.2.1 h.2.2.2.1 h.2.2.2.2).choose_spec.2.2
/-! ### a def that is lent the stream -/
def SpS {γ : Type} (S : CSpec) (nums : List Int) (c : Int) (ds : List PyData) (r : R (γ × Int)) (wr : γ → Vl) : Prop := match r with
  | .ok g => S (StV nums c :: ds.map .dat) = .ok (wr g.1) (some (StV nums g.2) :: List.replicate ds.length none)
  | .exc _ => True
  | .stk => True
theorem outs_st (nums : List Int) (c : Int) {ρ' : Rho} (n : Nat) (h : ρ'[0]? = some (some (StV nums c))) : outs (true :: List.replicate n false) ρ' = some (StV nums c) :: List.replicate n none := by
  cases ρ' with
  | nil => simp at h
  | cons r ρ' =>
    simp at h
    subst h
    show _ :: outs (List.replicate n false) ρ' = _
    rw [outs_fal]; rfl
theorem sp_st {γ : Type} {n m : Nat} {fs : FS} {nums : List Int} {c : Int} {ds : List PyData} {r : R (γ × Int)} {wr : γ → Vl} (hn : ds.length = n := by rfl) (h : Gn (fs (some (StV nums c) :: ((ds.map .dat).map some ++ List.replicate (m - (n + 1)) none))) r (fRt (fun g => wr g.1) fun g ρ' => ρ'[0]? = some (some (StV nums g.2)))) : SpS (specOf (true :: List.replicate n false) m fs) nums c ds r wr := by
  subst hn
  cases r with
  | stk => trivial
  | exc c0 => trivial
  | ok x =>
    obtain ⟨ρ', e, hE⟩ := h
    show specOf _ _ _ _ = _
    unfold specOf
    have hl : (StV nums c :: ds.map Vl.dat).length = ds.length + 1 := by simp
    rw [hl]
    show (match fs (some (StV nums c) :: ((ds.map Vl.dat).map some ++ List.replicate (m - (ds.length + 1)) none)) with
      | .nx ρ => COut.ok (.dat .none) (outs _ ρ)
      | .ret w ρ => .ok w (outs _ ρ)
      | .exc c ρ => .exc c (outs _ ρ)
      | _ => .stk) = _
    rw [e]
    show COut.ok _ (outs _ ρ') = _
    rw [outs_st nums x.2 _ hE]
/-! ### what is told -/
def okT {γ : Type} (r : R γ) : Prop := match r with
  | .ok _ => True
  | .exc c => (errR c).isSome
  | .stk => False
def toldR {γ : Type} (r : R γ) (e : γ → PyData) : PyData := match r with
  | .ok g => .tuple [.str "told", e g]
  | .exc c => match errR c with
    | some t => .str t
    | none => .none
  | .stk => .none
end Mi
end
section
set_option Elab.async false
set_option linter.all false
set_option maxRecDepth 100000
/-! Tw6: smaller facts for the printed twins -/
namespace Mi
open PySem
theorem noLs_map {α : Type} {e : α → PyData} (h : ∀ x, noL (e x) = true) : ∀ {l : List α}, noLs (l.map e) = true
  | [] => rfl
  | x :: xs => by
    show (noL (e x) && noLs (xs.map e)) = true
    rw [h x, noLs_map h]; rfl
theorem joins_set {ρ0 ρ : Rho} {j : Nat} {vs : List Nat} (e : vs.map (fun v => (ρ0[v]?).join) = vs.map (fun v => (ρ[v]?).join)) (ρ' : Rho) : restR ρ0 ρ' vs = restR ρ ρ' vs := by
  induction vs with
  | nil => rfl
  | cons v vs ih =>
    simp only [List.map_cons, List.cons.injEq] at e
    unfold restR
    rw [e.1, ih e.2]
theorem restC {ρ0 ρ ρ' : Rho} {vs : List Nat} (h : wipeR ρ' vs = wipeR ρ vs) (e : vs.map (fun v => (ρ0[v]?).join) = vs.map (fun v => (ρ[v]?).join)) : restR ρ0 ρ' vs = ρ := by
  rw [joins_set (j := 0) e, restR_same h]
section
variable {f e : FE} {t c : FT} {ρ ρ1 ρ2 ρ3 : Rho} {w w' : Vl} {vs : List Nat} {fi : FI} {bnd : FB} {α β : Type}
theorem pv_cast (h : Pv f ρ w ρ1) (q : w = w') : Pv f ρ w' ρ1 := q ▸ h
theorem pv_fil {ι : α → PyData} {en : α → PyData} {p : α → Bool} {xs : List α} (hi : Iv fi ρ (xs.map ι) ρ1) (hl : xs.length ≤ 100000)
    (st : ∀ x ∈ xs, ∃ ρ2 ρ3, bnd (ι x) (wipeR ρ1 vs) = some ρ2 ∧ wipeR ρ2 vs = wipeR ρ1 vs ∧ Tv c ρ2 (p x) ρ2 ∧ (p x = true → ∃ w, Pv e ρ2 w ρ3 ∧ wipeR ρ3 vs = wipeR ρ1 vs ∧ viewD w = some (en x))) :
    Pv (fComp vs fi bnd c e) ρ (.ml ((xs.filter p).map en)) ρ1 := by
  have := pv_comp (v := fun x => x) hi hl st
  rwa [List.map_id'] at this
theorem gx_any {γ : Type} {o : Out Opd} {r : R γ} {wr : γ → Vl} {E : γ → Rho → Prop} (h : Gx o r wr E) : Gx o r wr anyE := by
  cases r with
  | stk => trivial
  | exc c => exact h
  | ok g => obtain ⟨ρ', e, _⟩ := h; exact ⟨ρ', e, trivial⟩
end
/-! ### sorted downwards -/
noncomputable def sortRI (ns : List Int) : List Int := ns.mergeSort fun a b => decide (b ≤ a)
theorem dataLe_intR : PySem.W.dataLe true (fun x : Int => PyData.int x) = fun a b => decide (b ≤ a) := by
  rw [PySem.W.dataLe_eq]
  funext a b
  show (!PySem.W.dataLt (.int a) (.int b)) = _
  rw [PySem.W.dataLt_int]
  by_cases h : a < b
  · have : ¬ b ≤ a := by omega
    simp [h, this]
  · have : b ≤ a := by omega
    simp [h, this]
theorem sortD_map {α : Type} (e : α → PyData) (b : Bool) (xs : List α) : sortD b (xs.map e) = (xs.mergeSort (PySem.W.dataLe b e)).map e := by
  unfold sortD
  rw [List.map_mergeSort (s := PySem.W.dataLe b id)]
  intro a ha b' hb
  rfl
theorem y_sortRI {w : Vl} {ns : List Int} (ha : asL w = some (ns.map .int) := by rfl) : gSortR w = some (.ml ((sortRI ns).map .int)) := by
  unfold gSortR
  rw [ha, Option.bind_some, gd_pos (srt_ints ns), sortD_map]
  show some (Vl.ml ((ns.mergeSort (PySem.W.dataLe true fun x => .int x)).map .int)) = _
  rw [dataLe_intR]; rfl
theorem perm_sortRI (ns : List Int) : (sortRI ns).Perm ns := List.mergeSort_perm _ _
theorem pw_sortRI (ns : List Int) : (sortRI ns).Pairwise (· ≥ ·) := by
  have := List.pairwise_mergeSort (le := fun a b : Int => decide (b ≤ a)) (fun a b c h1 h2 => by simp at *; omega) (fun a b => by simp; omega) ns
  exact this.imp fun h => by simpa using h
/-- pairs of ints, downwards -/
def geP (p q : Int × Int) : Bool := decide (q.1 < p.1 ∨ (q.1 = p.1 ∧ q.2 ≤ p.2))
noncomputable def sortRP (ps : List (Int × Int)) : List (Int × Int) := ps.mergeSort geP
theorem dataLe_pairR : PySem.W.dataLe true (eP PyData.int PyData.int) = geP := by
  rw [PySem.W.dataLe_eq]
  funext a b
  show (!PySem.W.dataLt (.tuple [.int a.1, .int a.2]) (.tuple [.int b.1, .int b.2])) = _
  rw [PySem.W.dataLt_ii]
  unfold geP
  by_cases h : a.1 < b.1 ∨ (a.1 = b.1 ∧ a.2 < b.2)
  · have : ¬ (b.1 < a.1 ∨ (b.1 = a.1 ∧ b.2 ≤ a.2)) := by omega
    simp [h, this]
  · have : b.1 < a.1 ∨ (b.1 = a.1 ∧ b.2 ≤ a.2) := by omega
    simp [h, this]
theorem srt_pairs (ps : List (Int × Int)) : Srt (ps.map (eP PyData.int PyData.int)) := by
  refine ⟨fun d hd d' hd' => ?_, .inl fun d hd => ?_, fun d hd => ?_⟩
  · obtain ⟨x, _, rfl⟩ := List.mem_map.mp hd
    obtain ⟨y, _, rfl⟩ := List.mem_map.mp hd'
    simp [PySem.W.alike, PySem.W.alikeAll]
  · obtain ⟨x, _, rfl⟩ := List.mem_map.mp hd
    exact ⟨_, _, rfl⟩
  · obtain ⟨x, _, rfl⟩ := List.mem_map.mp hd
    show max (PyData.depth (.int x.1)) (max (PyData.depth (.int x.2)) 0) + 1 ≤ 64
    show max 0 (max 0 0) + 1 ≤ 64
    decide
theorem y_sortRP {w : Vl} {ps : List (Int × Int)} (ha : asL w = some (ps.map (eP .int .int)) := by rfl) : gSortR w = some (.ml ((sortRP ps).map (eP .int .int))) := by
  unfold gSortR
  rw [ha, Option.bind_some, gd_pos (srt_pairs ps), sortD_map, dataLe_pairR]; rfl
theorem perm_sortRP (ps : List (Int × Int)) : (sortRP ps).Perm ps := List.mergeSort_perm _ _
theorem pw_sortRP (ps : List (Int × Int)) : (sortRP ps).Pairwise (fun p q => q.1 < p.1 ∨ (q.1 = p.1 ∧ q.2 ≤ p.2)) := by
  have := List.pairwise_mergeSort (le := geP) (fun a b c h1 h2 => by unfold geP at *; simp at *; omega) (fun a b => by unfold geP; simp; omega) ps
  exact this.imp fun h => by unfold geP at h; simpa using h
/-! ### more facts -/
section
variable {α : Type} {e : α → PyData} {a : Vl} {xs : List α} {d : PyData} {i : Int}
def notDict : PyData → Prop
  | .dict _ => False
  | _ => True
theorem y_isT (h : notDict d) (ha : viewD a = some d := by rfl) : gIsT a = some (vB (isTup d)) := by
  unfold gIsT
  rw [ha]
  cases d <;> first | rfl | exact h.elim
theorem y_revL (ha : asL a = some (xs.map e) := by rfl) : gRevA a = some (.ml (xs.reverse.map e)) := by
  unfold gRevA
  rw [ha, List.map_reverse]
theorem y_revT (ha : asT a = some (xs.map e) := by rfl) : gRevA a = some (.dat (.tuple (xs.reverse.map e))) := by
  unfold gRevA
  rw [asT_eq ha, List.map_reverse]; rfl
theorem y_sortIf {ns : List Int} (ha : a = .dat (.list (ns.map .int)) := by rfl) : orC (g1 gSortS) (g1 gSorted) [a] = some (.ml ((sortI ns).map .int)) := by
  subst ha
  show (match g1 gSortS [Vl.dat (.list (ns.map .int))] with | some w => some w | none => gSorted (.dat (.list (ns.map .int)))) = _
  show gSorted (.dat (.list (ns.map .int))) = _
  unfold gSorted
  show gd (Srt (ns.map .int)) _ = _
  rw [gd_pos (srt_ints ns), sortD_ints]
def repOk (n : Nat) (k : Int) : Prop := -(2 ^ 63) ≤ k ∧ k < 2 ^ 63 ∧ szOk (n * k.toNat)
def repTOk (n : Nat) (k : Int) : Prop := n ≠ 0 ∧ 2 ≤ k ∧ k ≤ 1000 ∧ n ≤ 1000
theorem rep_map (n : Nat) : (List.replicate n (xs.map e)).flatten = ((List.replicate n xs).flatten).map e := by
  rw [List.map_flatten, List.map_replicate]
theorem y_repL (h : repOk xs.length i) (ha : a = .ml (xs.map e) := by rfl) : gMul a (vI i) = some (.ml (((List.replicate i.toNat xs).flatten).map e)) := by
  subst ha
  have : gRepL (.ml (xs.map e)) (vI i) = some (.ml (List.replicate i.toNat (xs.map e)).flatten) := gd_pos ⟨h.1, h.2.1, by rw [List.length_map]; exact szl h.2.2⟩
  unfold gMul orG
  rw [show gMulI (.ml (xs.map e)) (vI i) = none from rfl, this, rep_map]
theorem y_repT (h : repTOk xs.length i) (ha : a = .dat (.tuple (xs.map e)) := by rfl) : gMul a (vI i) = some (.dat (.tuple (((List.replicate i.toNat xs).flatten).map e))) := by
  subst ha
  have hne : xs.map e ≠ [] := by
    intro q
    exact h.1 (by rw [← List.length_map (f := e), q]; rfl)
  have : gRepT (.dat (.tuple (xs.map e))) (vI i) = some (.dat (.tuple (List.replicate i.toNat (xs.map e)).flatten)) := gd_pos ⟨hne, h.2.1, h.2.2.1, by rw [List.length_map]; exact h.2.2.2⟩
  have h2 : gRepL (.dat (.tuple (xs.map e))) (vI i) = none := rfl
  unfold gMul orG
  rw [show gMulI (.dat (.tuple (xs.map e))) (vI i) = none from rfl, h2]
  show gRepT _ _ = _
  rw [this, rep_map]
def isNon : PyData → Bool
  | .none => true
  | _ => false
def isNont (d : PyData) : Bool := !isNon d
theorem y_isND : gIsN false (.dat d) (.dat .none) = some (vB (isNon d)) := by cases d <;> rfl
theorem y_isNtD : gIsN true (.dat d) (.dat .none) = some (vB (isNont d)) := by cases d <;> rfl
def sameG (d d' : PyData) : Prop := d = d' ∧ Rok (.list [d])
theorem same_call {d d' : PyData} (h : sameG d d') : S__law_same ([d, d'].map .dat) = .ok (vB true) (List.replicate 2 none) := by
  obtain ⟨rfl, h⟩ := h
  exact same_ev h
end
theorem nxt_call {nums : List Int} {c m : Int} (h : nxG nums c m) : S__law_next (StV nums c :: [PyData.int m].map .dat) = .ok (vI (nxt nums c m)) (some (StV nums (c + 1)) :: List.replicate 1 none) := nxt_ev h
theorem g_setX2 {δ γ : Type} {Φ : δ → SO → Prop} {f : FS} {fe : FE} {ρ ρ1 : Rho} {i : Nat} {wr : γ → Vl} {r : R γ} {tk : γ → R δ} {ρ2 : γ → Rho} (h : Gx (fe ρ) r wr (fun _ ρ' => ρ' = ρ1)) (hr : ∀ x, ρ1.set i (some (wr x)) = ρ2 x) (g : ∀ x, Gn (f (ρ2 x)) (tk x) Φ) : Gn (sSeq (sSet i fe) f ρ) (r.bind tk) Φ :=
  g_setX h fun x ρ' e => by subst e; rw [hr x]; exact g x
/-! ### options -/
def eO {α : Type} (e : α → PyData) : Option α → PyData
  | none => .none
  | some x => e x
def optR {α β : Type} (o : Option α) (a : R β) (k : α → R β) : R β := match o with
  | none => a
  | some x => k x
section
variable {α δ γ : Type} {Φ : δ → SO → Prop} {s : SO} {t : R δ} {k : α → R δ} {x : α} {c : FT} {A B f : FS} {ρ ρ1 : Rho} {fe : FE} {d : PyData}
theorem g_optN (h : Gn s t Φ) : Gn s (optR none t k) Φ := h
theorem g_optS (h : Gn s (k x) Φ) : Gn s (optR (some x) t k) Φ := h
theorem g_ifT (hc : Tv c ρ true ρ1) (h : Gn (sSeq A f ρ1) t Φ) : Gn (sSeq (sIf c A B) f ρ) t Φ := by
  have := g_if (B := B) (t2 := t) hc (fun _ => h) (fun z => nomatch z)
  simpa using this
theorem g_ifF (hc : Tv c ρ false ρ1) (h : Gn (sSeq B f ρ1) t Φ) : Gn (sSeq (sIf c A B) f ρ) t Φ := by
  have := g_if (A := A) (t1 := t) hc (fun z => nomatch z) (fun _ => h)
  simpa using this
theorem gx_Z {wr : γ → Vl} {wd : γ → PyData} {r : R γ} (h : Gx (fe ρ) r wr (fun _ ρ' => ρ' = ρ1)) (hd : ∀ g, viewD (wr g) = some (wd g)) : Gx (fZ fe ρ) r (fun g => .dat (wd g)) (fun _ ρ' => ρ' = ρ1) := by
  cases r with
  | stk => trivial
  | exc c0 =>
    obtain ⟨ρ', e⟩ := h
    exact ⟨ρ', by unfold fZ; rw [e]; rfl⟩
  | ok x =>
    obtain ⟨ρ', e, q⟩ := h
    subst q
    exact ⟨ρ', pv_Z (show Pv fe ρ (wr x) ρ' from e) (hd x), rfl⟩
end
end Mi
end
section
set_option Elab.async false
set_option linter.all false
set_option maxRecDepth 100000
/-! Tw7: what is told; arguments that may raise; R's value -/
namespace Mi
open PySem
def R.good {α : Type} (r : R α) : Prop := ∃ g, r = .ok g
noncomputable def R.get {α : Type} [Inhabited α] (r : R α) : α := match r with
  | .ok g => g
  | _ => default
theorem R.get_ok {α : Type} [Inhabited α] {r : R α} (h : r.good) : r = .ok r.get := by
  obtain ⟨g, rfl⟩ := h; rfl
theorem sp_good {γ : Type} [Inhabited γ] {S : CSpec} {ds : List PyData} {r : R γ} {wr : γ → Vl} (h : SpR S ds r wr) (g : r.good) : S (ds.map .dat) = .ok (wr r.get) (List.replicate ds.length none) := by
  rw [R.get_ok g] at h
  exact h
theorem sp_okR {γ : Type} {S : CSpec} {ds : List PyData} {r : R γ} {wr : γ → Vl} {g : γ} (h : SpR S ds r wr) (e : r = .ok g) : S (ds.map .dat) = .ok (wr g) (List.replicate ds.length none) := by
  rw [e] at h
  exact h
section
variable {γ δ β : Type} {f g : FE} {F : FA} {fb rest : FS} {ρ ρ1 ρ2 : Rho} {r : R γ} {wr : γ → Vl} {wd : γ → PyData} {E : γ → Rho → Prop} {e : γ → PyData}
/-- arguments that may raise -/
def Ga (o : Out (List Opd)) (r : R γ) (ds : γ → List PyData) (ρ1 : Rho) : Prop := match r with
  | .ok g => ∃ ws : List Vl, o = .ok (ws.map .val) ρ1 ∧ ws.map viewD = (ds g).map some
  | .exc c => ∃ ρ', o = .exc c ρ'
  | .stk => True
theorem ga_av {ds : List PyData} {x : γ} (h : Av F ρ ds ρ1) : Ga (F ρ) (.ok x) (fun _ => ds) ρ1 := h
theorem ga_star {ds : γ → List PyData} {r2 : R δ} {ds2 : δ → List PyData} (h : Gx (f ρ) r wr (fun _ ρ' => ρ' = ρ1)) (hd : ∀ g, (viewD (wr g)).bind seqOf = some (ds g)) (h2 : Ga (F ρ1) r2 ds2 ρ2) : Ga (aStar f F ρ) (r.bind fun a => r2.bind fun b => .ok (a, b)) (fun (p : γ × δ) => ds p.1 ++ ds2 p.2) ρ2 := by
  unfold aStar
  cases r with
  | stk => trivial
  | exc c => obtain ⟨ρ', e⟩ := h; exact ⟨ρ', by rw [e]; rfl⟩
  | ok x =>
    obtain ⟨ρ', e, q⟩ := h
    subst q
    obtain ⟨d, hv, hs⟩ := Option.bind_eq_some_iff.mp (hd x)
    have hf : frz1 ρ' (.val (wr x)) = some (d, ρ') := by show (viewD (wr x)).map _ = _; rw [hv]; rfl
    rw [e, bind_ok, hf]
    simp only [hs]
    cases r2 with
    | stk => trivial
    | exc c => obtain ⟨ρ'', e2⟩ := h2; exact ⟨ρ'', by rw [e2]; rfl⟩
    | ok y =>
      obtain ⟨ws, e2, l⟩ := h2
      refine ⟨(ds x).map Vl.dat ++ ws, ?_, ?_⟩
      · rw [e2, bind_ok, List.map_append, List.map_map]; rfl
      · rw [List.map_append, List.map_append, l, List.map_map]; rfl
theorem ga_consX {r2 : R δ} {ds2 : δ → List PyData} (h : Gx (f ρ) r wr (fun _ ρ' => ρ' = ρ1)) (hd : ∀ g, viewD (wr g) = some (wd g)) (h2 : Ga (F ρ1) r2 ds2 ρ2) : Ga (aCons f F ρ) (r.bind fun a => r2.bind fun b => .ok (a, b)) (fun (p : γ × δ) => wd p.1 :: ds2 p.2) ρ2 := by
  unfold aCons
  cases r with
  | stk => trivial
  | exc c => obtain ⟨ρ', e⟩ := h; exact ⟨ρ', by rw [e]; rfl⟩
  | ok x =>
    obtain ⟨ρ', e, q⟩ := h
    subst q
    rw [e, bind_ok]
    cases r2 with
    | stk => trivial
    | exc c => obtain ⟨ρ'', e2⟩ := h2; exact ⟨ρ'', by rw [e2]; rfl⟩
    | ok y =>
      obtain ⟨ws, e2, l⟩ := h2
      refine ⟨wr x :: ws, ?_, ?_⟩
      · rw [e2, bind_ok]; rfl
      · rw [List.map_cons, List.map_cons, l, hd]
theorem gx_pv {x : γ} (h : Pv f ρ (wr x) ρ1) : Gx (f ρ) (.ok x) wr (fun _ ρ' => ρ' = ρ1) := ⟨ρ1, h, rfl⟩
theorem gx_tupG {ds : γ → List PyData} (h : Ga (F ρ) r ds ρ1) : Gx (fTup F ρ) (r.bind fun g => gdR ((ds g).length ≤ 100000) (.ok g)) (fun g => .dat (.tuple (ds g))) (fun _ ρ' => ρ' = ρ1) := by
  cases r with
  | stk => trivial
  | exc c => obtain ⟨ρ', e⟩ := h; exact ⟨ρ', by unfold fTup; rw [e]; rfl⟩
  | ok x =>
    show Gx _ (gdR _ _) _ _
    unfold gdR
    split
    · rename_i q
      exact ⟨ρ1, pv_tup (show Av F ρ (ds x) ρ1 from h) q, rfl⟩
    · trivial
theorem gx_callG {S : CSpec} {n : Nat} {ds : γ → List PyData} {r2 : γ → R δ} {wr2 : δ → Vl} (h : Ga (F ρ) r ds ρ1) (hs : ∀ x, SpR S (ds x) (r2 x) wr2) (hn : ∀ x, (ds x).length = n) : Gx (fCall (List.replicate n false) S F ρ) (r.bind r2) wr2 (fun _ ρ' => ρ' = ρ1) := by
  cases r with
  | stk => trivial
  | exc c => obtain ⟨ρ', e⟩ := h; exact ⟨ρ', by unfold fCall; rw [e]; rfl⟩
  | ok x =>
    exact gx_call (show Av F ρ (ds x) ρ1 from h) (hs x) (hn x)
theorem gx_pick {io : List Bool} {ss : List CSpec} {S : CSpec} {i : Int} (h : Pl f ρ (vI i) ρ1) (hs : L2.atI ss i = some S) (g : Gx (fCall io S F ρ1) r wr E) : Gx (fPick io ss f F ρ) r wr E := by
  obtain ⟨o, e, l⟩ := h
  have : fPick io ss f F ρ = fCall io S F ρ1 := by
    unfold fPick
    rw [e, bind_ok]
    unfold pickO
    rw [l]
    simp only [hs]
  rw [this]; exact g
/-! ### any, all -/
theorem orC_l {G1 G2 : List Vl → Option Vl} {ws : List Vl} {w : Vl} (h : G1 ws = some w) : orC G1 G2 ws = some w := by unfold orC; rw [h]
theorem orC_r {G1 G2 : List Vl → Option Vl} {ws : List Vl} {w : Vl} (h : G2 ws = some w) (h1 : G1 ws = some w ∨ G1 ws = none) : orC G1 G2 ws = some w := by
  unfold orC
  rcases h1 with e | e <;> rw [e]
  exact h
theorem y_any {a : Vl} {bs : List Bool} (ha : asL a = some (bs.map .bool) := by rfl) : orC (g1 gAny) (g1 gAnyI) [a] = some (vB (bs.any id)) := orC_l (y_any1 ha)
theorem y_all {a : Vl} {bs : List Bool} (ha : asL a = some (bs.map .bool) := by rfl) : orC (g1 gAll) (g1 gAllI) [a] = some (vB (bs.all id)) := orC_l (y_all1 ha)
theorem y_anyI {a : Vl} {ns : List Int} (ha : asL a = some (ns.map .int) := by rfl) : orC (g1 gAny) (g1 gAnyI) [a] = some (vB ((ns.map (· != 0)).any id)) := by
  refine orC_r ?_ ?_
  · show gAnyI a = _
    unfold gAnyI
    rw [ha, Option.bind_some, asInts_map]; rfl
  · show gAny a = _ ∨ gAny a = _
    unfold gAny
    rw [ha, Option.bind_some]
    cases ns with
    | nil => exact .inl rfl
    | cons n ns => exact .inr rfl
theorem y_allI {a : Vl} {ns : List Int} (ha : asL a = some (ns.map .int) := by rfl) : orC (g1 gAll) (g1 gAllI) [a] = some (vB ((ns.map (· != 0)).all id)) := by
  refine orC_r ?_ ?_
  · show gAllI a = _
    unfold gAllI
    rw [ha, Option.bind_some, asInts_map]; rfl
  · show gAll a = _ ∨ gAll a = _
    unfold gAll
    rw [ha, Option.bind_some]
    cases ns with
    | nil => exact .inl rfl
    | cons n ns => exact .inr rfl
/-! ### tuples that are data -/
def tupOf : PyData → List PyData
  | .tuple ds => ds
  | _ => []
def revDT (d : PyData) : PyData := .tuple (tupOf d).reverse
def cutDT (d : PyData) (lo hi : Option Int) : PyData := .tuple (cutD (tupOf d) lo hi)
theorem isTup_eq {d : PyData} (h : isTup d = true) : d = .tuple (tupOf d) := by
  cases d <;> first | rfl | exact (Bool.noConfusion h)
theorem y_revD {a : Vl} {d : PyData} (h : isTup d = true) (ha : a = .dat d := by rfl) : gRevA a = some (.dat (revDT d)) := by
  subst ha
  have := y_revT (e := fun d : PyData => d) (xs := tupOf d) (a := .dat d) (by rw [List.map_id']; rw [isTup_eq h]; rfl)
  rw [this, List.map_id']; rfl
theorem y_slD {a : Vl} {d : PyData} {lo hi : Option Int} (h : isTup d = true) (ha : a = .dat d := by rfl) : gSl a lo hi = some (.dat (cutDT d lo hi)) := by
  subst ha
  have := y_slT (e := fun d : PyData => d) (xs := tupOf d) (a := .dat d) (lo := lo) (hi := hi) (by rw [List.map_id']; rw [isTup_eq h]; rfl)
  rw [this, List.map_id']; rfl
/-! ### told -/
theorem g_retTold (h : Gx (f ρ) r wr (fun _ ρ' => ρ' = ρ1)) (hd : ∀ g, viewD (wr g) = some (e g)) : Gn (sSeq (sRet (fTup (aCons (fC (.str "told")) (aCons f aNil)))) rest ρ) r (fRt (fun g => .dat (.tuple [.str "told", e g])) anyE) := by
  refine g_retX ?_
  cases r with
  | stk => trivial
  | exc c =>
    obtain ⟨ρ', q⟩ := h
    refine ⟨ρ', ?_⟩
    unfold fTup aCons fC
    simp only [bind_ok, q]
    rfl
  | ok x =>
    obtain ⟨ρ', q, z⟩ := h
    subst z
    exact ⟨ρ', pv_tup (av_cons pv_c (h2 := av_cons (show Pv f ρ (wr x) ρ' from q) (hd x) av_nil)) (by simp), trivial⟩
theorem g_try (h : Gn (fb ρ) r (fRt (fun g => .dat (.tuple [.str "told", e g])) anyE)) (ok : okT r) : Gn (sSeq (sTry errR fb) rest ρ) (.ok (toldR r e)) (fRt (fun d => .dat d) anyE) := by
  cases r with
  | stk => exact ok.elim
  | exc c =>
    obtain ⟨ρ', q⟩ := h
    obtain ⟨t, ht⟩ := Option.isSome_iff_exists.mp (show (errR c).isSome from ok)
    have e1 : sTry errR fb ρ = .ret (.dat (.str t)) ρ' := by
      unfold sTry
      rw [q]; simp only [ht]
    have e2 : toldR (.exc c : R γ) e = .str t := by
      unfold toldR; simp only [ht]
    rw [e2]
    refine ⟨ρ', ?_, trivial⟩
    unfold sSeq; rw [e1]
  | ok x =>
    obtain ⟨ρ', q, _⟩ := h
    have e1 : sTry errR fb ρ = .ret (.dat (.tuple [.str "told", e x])) ρ' := by
      unfold sTry
      rw [q]
    refine ⟨ρ', ?_, trivial⟩
    unfold sSeq; rw [e1]; rfl
end
end Mi
end
section
set_option Elab.async false
set_option linter.all false
set_option maxRecDepth 100000
set_option maxHeartbeats 4000000
namespace K35
open PySem PySem.Spec PyProof.Rows L2 Mi
def top (i : Nat) : Stmt := PySem.Challenge.pw_askcraft_k35_whole_spans.main.body.getD i (.Pass ⟨0, 0, 0, 0⟩)
def blts : List Str := ["list", "sorted", "set", "all", "any", "tuple", "len", "abs", "int", "range", "repr", "sum", "isinstance", "max", "min", "zip", "enumerate"]
abbrev s__law_error : Stmt := top 27
theorem sc__law_error : FnScope ["e", "names", "one"] ["e"] (defScope s__law_error) := ⟨rfl, rfl, rfl, by decide +kernel, rfl, by decide +kernel, by decide +kernel⟩
theorem errR_lt {c : Nat} {t : Str} (h : errR c = some t) : 0 < c ∧ c < 6 := by
  unfold errR at h
  split at h <;> first | exact ⟨by decide, by decide⟩ | cases h
theorem k__law_error {P : Program} {G : Glb} {mg : Str → Option Value} {base : Heap} (d : Def G mg "_law_error" s__law_error ["e"]) (B : NoG mg blts) (x_NotAllowed : Exc1 G.K mg "NotAllowed" (G.ea 1)) (x_BadForm : Exc1 G.K mg "BadForm" (G.ea 2)) (x_Missing : Exc1 G.K mg "Missing" (G.ea 3)) (x_Alike : Exc1 G.K mg "Alike" (G.ea 4)) (x_Wrong : Exc1 G.K mg "Wrong" (G.ea 5))
    (XC : ∀ c, 0 < c → c < 6 → ExcC G.K (G.ea c)) (kit : ∀ i j, i < 6 → j < 6 → 0 < i → 0 < j → PySem.W.kitOne G.K (.ref (G.ea i)) (.ref (G.ea j)) = some (decide (i = j))) : ErrF P G mg base 3 "_law_error" errR :=
  err_def (k := 2) d sc__law_error fun f cdv A outer s H E Q p c t room hot hz hr hq => by
    have hc := errR_lt hr
    have hv := hotC_of (X := L2H.cxH (L2N.CX P G.w) P G.w G.K mg base ["e", "names", "one"] "_law_error" (defScope s__law_error) f cdv A outer s H E p) hot rfl (by exact List.mem_cons_self)
    have is := cr_isH (X := L2H.cxH (L2N.CX P G.w) P G.w G.K mg base ["e", "names", "one"] "_law_error" (defScope s__law_error) f cdv A outer s H E p) (p := p) (by exact List.mem_cons_self) (XC c hc.1 hc.2) hz ⟨hot.2.choose, hot.2.choose_spec.1⟩
    have hi := B.n "isinstance" (by decide +kernel)
    exact ⟨_, pss_cons (ps_set (i := 1) sc__law_error.nd rfl (Or.inl rfl) (pe_lst (pa_cons (pe_callB is (by rfl) hi boot_isinstance (pa_cons (pe_var (i := 0) rfl (Or.inl rfl)) (pa_cons (pe_glob (v := .ref (G.ea 1)) (by rfl) x_NotAllowed.g rfl) pa_nil)))
      (pa_cons (pe_callB is (by rfl) hi boot_isinstance (pa_cons (pe_var (i := 0) rfl (Or.inl rfl)) (pa_cons (pe_glob (v := .ref (G.ea 3)) (by rfl) x_Missing.g rfl) pa_nil)))
      (pa_cons (pe_callB is (by rfl) hi boot_isinstance (pa_cons (pe_var (i := 0) rfl (Or.inl rfl)) (pa_cons (pe_glob (v := .ref (G.ea 5)) (by rfl) x_Wrong.g rfl) pa_nil)))
      (pa_cons (pe_callB is (by rfl) hi boot_isinstance (pa_cons (pe_var (i := 0) rfl (Or.inl rfl)) (pa_cons (pe_glob (v := .ref (G.ea 2)) (by rfl) x_BadForm.g rfl) pa_nil)))
      (pa_cons (pe_callB is (by rfl) hi boot_isinstance (pa_cons (pe_var (i := 0) rfl (Or.inl rfl)) (pa_cons (pe_glob (v := .ref (G.ea 4)) (by rfl) x_Alike.g rfl) pa_nil))) pa_nil)))))))
      (pss_cons (ps_if (pt_cmpR op_ne (pe_callB (cr_sumH hv) (by rfl) (B.n "sum" (by decide +kernel)) boot_sum (pa_cons (pe_lcHot (k := 2) (own := [("one", 2)]) hv sc__law_error.nd (blkOk_by (by rfl)) (by simp) (by show 2 < 3; decide) (pe_var (i := 1) rfl (Or.inl rfl))
          (fun _ _ _ _ _ => pg_name sc__law_error.nd rfl (Or.inl rfl)) (fun _ _ _ _ _ => pe_callTy call_int1 (by rfl) (B.n "int" (by decide +kernel)) (by decide +kernel) (pa_cons (pe_var (i := 2) rfl (Or.inl rfl)) pa_nil))) pa_nil)) pe_int (nomark _))
        (pss_one (ps_ret pe_str)) pss_nil)
      (pss_one (ps_ret (pe_ix ix_list (pe_lst (pa_cons pe_str (pa_cons pe_str (pa_cons pe_str (pa_cons pe_str (pa_cons pe_str pa_nil))))))
        (pe_bm PySem.F.plainAttrs_list PySem.F.slot_list_index PySem.F.type_list_index mt_index (pe_var (i := 1) rfl (Or.inl rfl)) (pa_cons pe_bl pa_nil)) (fun _ _ => rfl))))), err_rd hr kit hq⟩


abbrev s_check_width : Stmt := top 10
noncomputable def F_check_width : FS := (sIf (tNotV (tBo (chain gLe gLe (fC (.int 1)) (fV 0) (fC (.int 16))))) (sRaise 1) sNext)
theorem sc_check_width : FnScope ["width"] ["width"] (defScope s_check_width) := ⟨rfl, rfl, rfl, by decide +kernel, rfl, by decide +kernel, by decide +kernel⟩
theorem k_check_width {P : Program} {G : Glb} {mg : Str → Option Value} {base : Heap} (d : Def G mg "check_width" s_check_width ["width"]) (x_NotAllowed : Exc1 G.K mg "NotAllowed" (G.ea 1)) (T_MAX_WIDTH : ∃ t, mg "MAX_WIDTH" = some (Value.int 16 t)) : Cal P G mg base 1 "check_width" [false] (specOf [false] 1 F_check_width) :=
  Def.cal (k := 0) d sc_check_width rfl rfl fun f cdv A outer s H E cx =>
  (s_one (s_if (t_not (t_chain c_le c_le pc_int pv_V (pc_glob (v := .int 16) (by exact rfl) T_MAX_WIDTH.choose_spec ⟨_, rfl⟩ fun _ => .int _))) (s_one (s_raiseX cx x_NotAllowed)) s_nil))
noncomputable def S_check_width : CSpec := specOf [false] 1 F_check_width
theorem e_check_width : ∀ ws, S_check_width ws ≠ .stk → specOf [false] 1 F_check_width ws = S_check_width ws := fun _ _ => rfl
abbrev s_check_rows : Stmt := top 11
noncomputable def F_check_rows : FS := (sSeq (sDrop (fCall [false] S_check_width (aCons (fV 0) aNil)))
  (sIf (tOrV (tBo (bin gGt (callB (g1 gLen) (aCons (fV 1) aNil)) (fC (.int 60)))) (tNotV (tTr (callB (orC (g1 gAll) (g1 gAllI)) (aCons (fComp [2] (iE (fV 1)) (bN 2) cT (chain gLe gLt (fC (.int 0)) (fV 2) (bin gShl (fC (.int 1)) (fV 0)))) aNil))))) (sRaise 1) sNext))
theorem sc_check_rows : FnScope ["width", "rows", "row"] ["width", "rows"] (defScope s_check_rows) := ⟨rfl, rfl, rfl, by decide +kernel, rfl, by decide +kernel, by decide +kernel⟩
theorem k_check_rows {P : Program} {G : Glb} {mg : Str → Option Value} {base : Heap} (d : Def G mg "check_rows" s_check_rows ["width", "rows"]) (B : NoG mg blts) (c_check_width : Cal P G mg base 1 "check_width" [false] S_check_width) (x_NotAllowed : Exc1 G.K mg "NotAllowed" (G.ea 1)) (T_MAX_SHOWN_ROWS : ∃ t, mg "MAX_SHOWN_ROWS" = some (Value.int 60 t)) : Cal P G mg base 2 "check_rows" [false, false] (specOf [false, false] 3 F_check_rows) :=
  Def.cal (k := 1) d sc_check_rows rfl rfl fun f cdv A outer s H E cx =>
  (s_cons (s_expr (e_callC cx c_check_width rfl (by decide) (pa_consV pv_V pa_nilV)))
  (s_one (s_if (PW.pt (w_or (t_cmp c_gt (e_blt (b_len cx) (B.n "len" (by decide +kernel)) (pa_consV pv_V pa_nilV)) (pc_glob (v := .int 60) (by exact rfl) T_MAX_SHOWN_ROWS.choose_spec ⟨_, rfl⟩ fun _ => .int _)) (w_or1 (t_not (t_tru cx.K (e_blt (b_all2 cx) (B.n "all" (by decide +kernel)) (pa_consV (e_comp cx rfl (n := 3) (i_E cx.K pv_V) (own := [("row", 2)]) rfl rfl rfl (fun _ _ _ _ _ => (g_name (Cxt.blk cx _ _ _ _ _).nd rfl (by first | exact Or.inl rfl | exact Or.inr rfl) (by decide) rfl)) (fun _ _ _ _ _ => pts_nil) (fun σ H Q ⟨ρ, P, F, nw, h⟩ => h P H F nw Stp.refl) (fun _ _ _ _ _ => (e_chain c_le c_lt pc_int pv_V (e_shl pc_int pv_V)))) pa_nilV))))))) (s_one (s_raiseX cx x_NotAllowed)) s_nil)))
noncomputable def S_check_rows : CSpec := specOf [false, false] 3 F_check_rows
theorem e_check_rows : ∀ ws, S_check_rows ws ≠ .stk → specOf [false, false] 3 F_check_rows ws = S_check_rows ws := fun _ _ => rfl
abbrev s_top_of : Stmt := top 12
noncomputable def F_top_of : FS := (sSeq (sSet 1 (fC (.int 1)))
  (sSeq (sWh (tBo (bin gLe (bin gShl (fV 1) (fC (.int 1))) (fV 0))) (sSet 1 (bin gShl (fV 1) (fC (.int 1)))))
  (sRet (fIf (tBo (bin gGt (fV 0) (fC (.int 0)))) (fV 1) (fC (.int 0))))))
theorem sc_top_of : FnScope ["row", "top"] ["row"] (defScope s_top_of) := ⟨rfl, rfl, rfl, by decide +kernel, rfl, by decide +kernel, by decide +kernel⟩
theorem k_top_of {P : Program} {G : Glb} {mg : Str → Option Value} {base : Heap} (d : Def G mg "top_of" s_top_of ["row"]) : Cal P G mg base 1 "top_of" [false] (specOf [false] 2 F_top_of) :=
  Def.cal (k := 0) d sc_top_of rfl rfl fun f cdv A outer s H E cx =>
  (s_cons (s_set cx.nd rfl (by first | exact Or.inl rfl | exact Or.inr rfl) (by decide) rfl pc_int)
  (s_cons (s_while (passes_of rfl) (t_cmp c_le (e_shl pv_V pc_int) pv_V) (s_one (s_set cx.nd rfl (by first | exact Or.inl rfl | exact Or.inr rfl) (by decide) rfl (e_shl pv_V pc_int))))
  (s_one (s_ret (e_if (t_cmp c_gt pv_V pc_int) pv_V pc_int)))))
noncomputable def S_top_of : CSpec := specOf [false] 2 F_top_of
theorem e_top_of : ∀ ws, S_top_of ws ≠ .stk → specOf [false] 2 F_top_of ws = S_top_of ws := fun _ _ => rfl
abbrev s_left_over : Stmt := top 13
noncomputable def F_left_over : FS := (sSeq (sFor (iE (fV 0)) (bN 2) (sIf (tBo (bin gNe (bin gAnd (fV 1) (fCall [false] S_top_of (aCons (fV 2) aNil))) (fC (.int 0)))) (sSet 1 (bin gXor (fV 1) (fV 2))) sNext))
  (sRet (fV 1)))
theorem sc_left_over : FnScope ["basis", "row", "one"] ["basis", "row"] (defScope s_left_over) := ⟨rfl, rfl, rfl, by decide +kernel, rfl, by decide +kernel, by decide +kernel⟩
theorem k_left_over {P : Program} {G : Glb} {mg : Str → Option Value} {base : Heap} (d : Def G mg "left_over" s_left_over ["basis", "row"]) (c_top_of : Cal P G mg base 1 "top_of" [false] S_top_of) : Cal P G mg base 2 "left_over" [false, false] (specOf [false, false] 3 F_left_over) :=
  Def.cal (k := 1) d sc_left_over rfl rfl fun f cdv A outer s H E cx =>
  (s_cons (s_for (passes_of rfl) cx.calm (i_E cx.K pv_V) (g_name cx.nd rfl (by first | exact Or.inl rfl | exact Or.inr rfl) (by decide) rfl) (s_one (s_if (t_cmp (c_ne cx) (e_and pv_V (e_callC cx c_top_of rfl (by decide) (pa_consV pv_V pa_nilV))) pc_int) (s_one (s_set cx.nd rfl (by first | exact Or.inl rfl | exact Or.inr rfl) (by decide) rfl (e_xor pv_V pv_V))) s_nil)))
  (s_one (s_ret pv_V)))
noncomputable def S_left_over : CSpec := specOf [false, false] 3 F_left_over
theorem e_left_over : ∀ ws, S_left_over ws ≠ .stk → specOf [false, false] 3 F_left_over ws = S_left_over ws := fun _ _ => rfl
abbrev s_basis_of : Stmt := top 14
noncomputable def F_basis_of : FS := (sSeq (sSet 1 (fZ (fLst aNil)))
  (sSeq (sFor (iE (fV 0)) (bN 2) (sSeq (sSet 3 (fZ (fCall [false, false] S_left_over (aCons (fV 1) (aCons (fV 2) aNil)))))
  (sIf (tBo (bin gNe (fV 3) (fC (.int 0)))) (sSeq (sSet 1 (fZ (fComp [4] (iE (fV 1)) (bN 4) cT (fIf (tBo (bin gNe (bin gAnd (fV 4) (fCall [false] S_top_of (aCons (fV 3) aNil))) (fC (.int 0)))) (bin gXor (fV 4) (fV 3)) (fV 4)))))
  (sSet 1 (fZ (una gSortR (fLst (aStar (fZ (fV 1)) (aCons (fV 3) aNil))))))) sNext)))
  (sRet (callB (g1 gTuple) (aCons (fV 1) aNil)))))
theorem sc_basis_of : FnScope ["rows", "found", "row", "rest", "one"] ["rows"] (defScope s_basis_of) := ⟨rfl, rfl, rfl, by decide +kernel, rfl, by decide +kernel, by decide +kernel⟩
theorem k_basis_of {P : Program} {G : Glb} {mg : Str → Option Value} {base : Heap} (d : Def G mg "basis_of" s_basis_of ["rows"]) (B : NoG mg blts) (c_top_of : Cal P G mg base 1 "top_of" [false] S_top_of) (c_left_over : Cal P G mg base 2 "left_over" [false, false] S_left_over) : Cal P G mg base 3 "basis_of" [false] (specOf [false] 5 F_basis_of) :=
  Def.cal (k := 2) d sc_basis_of rfl rfl fun f cdv A outer s H E cx =>
  (s_cons (s_set cx.nd rfl (by first | exact Or.inl rfl | exact Or.inr rfl) (by decide) rfl (e_Z (e_lst pa_nilV)))
  (s_cons (s_for (passes_of rfl) cx.calm (i_E cx.K pv_V) (g_name cx.nd rfl (by first | exact Or.inl rfl | exact Or.inr rfl) (by decide) rfl) (s_cons (s_set cx.nd rfl (by first | exact Or.inl rfl | exact Or.inr rfl) (by decide) rfl (e_Z (e_callC cx c_left_over rfl (by decide) (pa_consV pv_V (pa_consV pv_V pa_nilV)))))
  (s_one (s_if (t_cmp (c_ne cx) pv_V pc_int) (s_cons (s_setCompZ cx rfl rfl rfl (by decide) rfl (n := 5) (i_E cx.K pv_V) (own := [("one", 4)]) rfl rfl rfl (fun _ _ _ _ _ => (g_name (Cxt.blk cx _ _ _ _ _).nd rfl (by first | exact Or.inl rfl | exact Or.inr rfl) (by decide) rfl)) (fun _ _ _ _ _ => pts_nil) (fun σ H Q ⟨ρ, P, F, nw, h⟩ => h P H F nw Stp.refl) (fun _ _ _ _ _ => (e_if (t_cmp (c_ne (Cxt.blk cx _ _ _ _ _)) (e_and pv_V (e_callC (Cxt.blk cx _ _ _ _ _) c_top_of rfl (by decide) (pa_consV pv_V pa_nilV))) pc_int) (e_xor pv_V pv_V) pv_V)) (by intro _; rfl) (sw_true rfl rfl rfl rfl))
  (s_one (s_set cx.nd rfl (by first | exact Or.inl rfl | exact Or.inr rfl) (by decide) rfl (e_Z (e_sortR cx (B.n "sorted" (by decide +kernel)) (e_lst (pa_starV cx.K (e_Z pv_V) (pa_consV pv_V pa_nilV)))))))) s_nil))))
  (s_one (s_ret (e_ty (b_tuple cx) (B.n "tuple" (by decide +kernel)) (pa_consV pv_V pa_nilV))))))
noncomputable def S_basis_of : CSpec := specOf [false] 5 F_basis_of
theorem e_basis_of : ∀ ws, S_basis_of ws ≠ .stk → specOf [false] 5 F_basis_of ws = S_basis_of ws := fun _ _ => rfl
abbrev s_span : Stmt := top 15
noncomputable def F_span : FS := (sSeq (sDrop (fCall [false, false] S_check_rows (aCons (fV 0) (aCons (fV 1) aNil))))
  (sRet (fCall [false] S_basis_of (aCons (fV 1) aNil))))
theorem sc_span : FnScope ["width", "rows"] ["width", "rows"] (defScope s_span) := ⟨rfl, rfl, rfl, by decide +kernel, rfl, by decide +kernel, by decide +kernel⟩
theorem k_span {P : Program} {G : Glb} {mg : Str → Option Value} {base : Heap} (d : Def G mg "span" s_span ["width", "rows"]) (c_basis_of : Cal P G mg base 3 "basis_of" [false] S_basis_of) (c_check_rows : Cal P G mg base 2 "check_rows" [false, false] S_check_rows) : Cal P G mg base 4 "span" [false, false] (specOf [false, false] 2 F_span) :=
  Def.cal (k := 3) d sc_span rfl rfl fun f cdv A outer s H E cx =>
  (s_cons (s_expr (e_callC cx c_check_rows rfl (by decide) (pa_consV pv_V (pa_consV pv_V pa_nilV))))
  (s_one (s_ret (e_callC cx c_basis_of rfl (by decide) (pa_consV pv_V pa_nilV)))))
noncomputable def S_span : CSpec := specOf [false, false] 2 F_span
theorem e_span : ∀ ws, S_span ws ≠ .stk → specOf [false, false] 2 F_span ws = S_span ws := fun _ _ => rfl
abbrev s_is_in : Stmt := top 16
noncomputable def F_is_in : FS := (sSeq (sDrop (fCall [false, false] S_check_rows (aCons (fV 0) (aCons (fV 1) aNil))))
  (sSeq (sDrop (fCall [false, false] S_check_rows (aCons (fV 0) (aCons (fTup (aCons (fV 2) aNil)) aNil))))
  (sRet (bin gEq (fCall [false, false] S_left_over (aCons (fCall [false] S_basis_of (aCons (fV 1) aNil)) (aCons (fV 2) aNil))) (fC (.int 0))))))
theorem sc_is_in : FnScope ["width", "rows", "row"] ["width", "rows", "row"] (defScope s_is_in) := ⟨rfl, rfl, rfl, by decide +kernel, rfl, by decide +kernel, by decide +kernel⟩
theorem k_is_in {P : Program} {G : Glb} {mg : Str → Option Value} {base : Heap} (d : Def G mg "is_in" s_is_in ["width", "rows", "row"]) (c_left_over : Cal P G mg base 2 "left_over" [false, false] S_left_over) (c_basis_of : Cal P G mg base 3 "basis_of" [false] S_basis_of) (c_check_rows : Cal P G mg base 2 "check_rows" [false, false] S_check_rows) : Cal P G mg base 4 "is_in" [false, false, false] (specOf [false, false, false] 3 F_is_in) :=
  Def.cal (k := 3) d sc_is_in rfl rfl fun f cdv A outer s H E cx =>
  (s_cons (s_expr (e_callC cx c_check_rows rfl (by decide) (pa_consV pv_V (pa_consV pv_V pa_nilV))))
  (s_cons (s_expr (e_callC cx c_check_rows rfl (by decide) (pa_consV pv_V (pa_consV (e_tup (pa_consV pv_V pa_nilV)) pa_nilV))))
  (s_one (s_ret (e_cmp (c_eq cx) (e_callC cx c_left_over rfl (by decide) (pa_consV (e_callC cx c_basis_of rfl (by decide) (pa_consV pv_V pa_nilV)) (pa_consV pv_V pa_nilV))) pc_int)))))
noncomputable def S_is_in : CSpec := specOf [false, false, false] 3 F_is_in
theorem e_is_in : ∀ ws, S_is_in ws ≠ .stk → specOf [false, false, false] 3 F_is_in ws = S_is_in ws := fun _ _ => rfl
abbrev s_across : Stmt := top 17
noncomputable def F_across : FS := (sSeq (sDrop (fCall [false, false] S_check_rows (aCons (fV 0) (aCons (fV 1) aNil))))
  (sSeq (sSet 2 (fZ (fCall [false] S_basis_of (aCons (fV 1) aNil))))
  (sSeq (sSet 3 (fZ (fComp [7] (iE (fV 2)) (bN 7) cT (fCall [false] S_top_of (aCons (fV 7) aNil)))))
  (sSeq (sSet 4 (fLst aNil))
  (sSeq (sFor (iR1 (aCons (fV 0) aNil)) (bN 5) (sSeq (sSet 6 (bin gShl (fC (.int 1)) (fV 5)))
  (sIf (tBo (bin gNotIn (fV 6) (fV 3))) (sDrop (fApp 4 (bin gOr (fV 6) (callB (g1 gSum) (aCons (fComp [8, 7] (iZip2 (aCons (fZ (fV 3)) (aCons (fZ (fV 2)) aNil))) (bT [8, 7]) (tBo (bin gNe (bin gAnd (fV 7) (fV 6)) (fC (.int 0)))) (fV 8)) aNil))))) sNext)))
  (sRet (fCall [false] S_basis_of (aCons (fV 4) aNil))))))))
theorem sc_across : FnScope ["width", "rows", "basis", "tops", "found", "at", "free", "one", "top"] ["width", "rows"] (defScope s_across) := ⟨rfl, rfl, rfl, by decide +kernel, rfl, by decide +kernel, by decide +kernel⟩
theorem k_across {P : Program} {G : Glb} {mg : Str → Option Value} {base : Heap} (d : Def G mg "across" s_across ["width", "rows"]) (B : NoG mg blts) (c_basis_of : Cal P G mg base 3 "basis_of" [false] S_basis_of) (c_top_of : Cal P G mg base 1 "top_of" [false] S_top_of) (c_check_rows : Cal P G mg base 2 "check_rows" [false, false] S_check_rows) : Cal P G mg base 4 "across" [false, false] (specOf [false, false] 9 F_across) :=
  Def.cal (k := 3) d sc_across rfl rfl fun f cdv A outer s H E cx =>
  (s_cons (s_expr (e_callC cx c_check_rows rfl (by decide) (pa_consV pv_V (pa_consV pv_V pa_nilV))))
  (s_cons (s_set cx.nd rfl (by first | exact Or.inl rfl | exact Or.inr rfl) (by decide) rfl (e_Z (e_callC cx c_basis_of rfl (by decide) (pa_consV pv_V pa_nilV))))
  (s_cons (s_setCompZ cx rfl rfl rfl (by decide) rfl (n := 9) (i_E cx.K pv_V) (own := [("one", 7)]) rfl rfl rfl (fun _ _ _ _ _ => (g_name (Cxt.blk cx _ _ _ _ _).nd rfl (by first | exact Or.inl rfl | exact Or.inr rfl) (by decide) rfl)) (fun _ _ _ _ _ => pts_nil) (fun σ H Q ⟨ρ, P, F, nw, h⟩ => h P H F nw Stp.refl) (fun _ _ _ _ _ => (e_callC (Cxt.blk cx _ _ _ _ _) c_top_of rfl (by decide) (pa_consV pv_V pa_nilV))) (by intro _; rfl) (sw_true rfl rfl rfl rfl))
  (s_cons (s_set cx.nd rfl (by first | exact Or.inl rfl | exact Or.inr rfl) (by decide) rfl (e_lst pa_nilV))
  (s_cons (s_for (passes_of rfl) cx.calm (i_R1 (B.n "range" (by decide +kernel)) (pa_consV pv_V pa_nilV)) (g_name cx.nd rfl (by first | exact Or.inl rfl | exact Or.inr rfl) (by decide) rfl) (s_cons (s_set cx.nd rfl (by first | exact Or.inl rfl | exact Or.inr rfl) (by decide) rfl (e_shl pc_int pv_V))
  (s_one (s_if (t_notIn cx pv_V pv_V) (s_one (s_expr (e_append cx.K v_var (e_or pv_V (e_blt (b_sum cx) (B.n "sum" (by decide +kernel)) (pa_consV (e_comp cx rfl (n := 9) (i_Zip2 cx.K (B.n "zip" (by decide +kernel)) (pa_consV (e_Z pv_V) (pa_consV (e_Z pv_V) pa_nilV))) (own := [("top", 8), ("one", 7)]) rfl rfl rfl (fun _ _ _ _ _ => (g_tup (Cxt.blk cx _ _ _ _ _).K (Cxt.blk cx _ _ _ _ _).calm (gs_cons (Cxt.blk cx _ _ _ _ _).nd rfl (by first | exact Or.inl rfl | exact Or.inr rfl) (by decide) rfl (gs_cons (Cxt.blk cx _ _ _ _ _).nd rfl (by first | exact Or.inl rfl | exact Or.inr rfl) (by decide) rfl gs_nil)) rfl)) (fun _ _ _ _ _ => pts_one (t_cmp (c_ne (Cxt.blk cx _ _ _ _ _)) (e_and pv_V pv_V) pc_int)) (fun _ _ _ h => h) (fun _ _ _ _ _ => pv_V)) pa_nilV)))))) s_nil))))
  (s_one (s_ret (e_callC cx c_basis_of rfl (by decide) (pa_consV pv_V pa_nilV)))))))))
noncomputable def S_across : CSpec := specOf [false, false] 9 F_across
theorem e_across : ∀ ws, S_across ws ≠ .stk → specOf [false, false] 9 F_across ws = S_across ws := fun _ _ => rfl
abbrev s_in_both : Stmt := top 18
noncomputable def F_in_both : FS := (sRet (fCall [false, false] S_across (aCons (fV 0) (aCons (fTup (aStar (fCall [false, false] S_across (aCons (fV 0) (aCons (fV 1) aNil))) (aStar (fCall [false, false] S_across (aCons (fV 0) (aCons (fV 2) aNil))) aNil))) aNil))))
theorem sc_in_both : FnScope ["width", "first", "second"] ["width", "first", "second"] (defScope s_in_both) := ⟨rfl, rfl, rfl, by decide +kernel, rfl, by decide +kernel, by decide +kernel⟩
theorem k_in_both {P : Program} {G : Glb} {mg : Str → Option Value} {base : Heap} (d : Def G mg "in_both" s_in_both ["width", "first", "second"]) (c_across : Cal P G mg base 4 "across" [false, false] S_across) : Cal P G mg base 5 "in_both" [false, false, false] (specOf [false, false, false] 3 F_in_both) :=
  Def.cal (k := 4) d sc_in_both rfl rfl fun f cdv A outer s H E cx =>
  (s_one (s_ret (e_callC cx c_across rfl (by decide) (pa_consV pv_V (pa_consV (e_tup (pa_starV cx.K (e_callC cx c_across rfl (by decide) (pa_consV pv_V (pa_consV pv_V pa_nilV))) (pa_starV cx.K (e_callC cx c_across rfl (by decide) (pa_consV pv_V (pa_consV pv_V pa_nilV))) pa_nilV))) pa_nilV)))))
noncomputable def S_in_both : CSpec := specOf [false, false, false] 3 F_in_both
theorem e_in_both : ∀ ws, S_in_both ws ≠ .stk → specOf [false, false, false] 3 F_in_both ws = S_in_both ws := fun _ _ => rfl
abbrev s_in_one : Stmt := top 19
noncomputable def F_in_one : FS := (sSeq (sDrop (fCall [false, false] S_check_rows (aCons (fV 0) (aCons (fV 1) aNil))))
  (sSeq (sDrop (fCall [false, false] S_check_rows (aCons (fV 0) (aCons (fV 2) aNil))))
  (sRet (fCall [false] S_basis_of (aCons (fTup (aStar (fCall [false] S_basis_of (aCons (fV 1) aNil)) (aStar (fCall [false] S_basis_of (aCons (fV 2) aNil)) aNil))) aNil)))))
theorem sc_in_one : FnScope ["width", "first", "second"] ["width", "first", "second"] (defScope s_in_one) := ⟨rfl, rfl, rfl, by decide +kernel, rfl, by decide +kernel, by decide +kernel⟩
theorem k_in_one {P : Program} {G : Glb} {mg : Str → Option Value} {base : Heap} (d : Def G mg "in_one" s_in_one ["width", "first", "second"]) (c_basis_of : Cal P G mg base 3 "basis_of" [false] S_basis_of) (c_check_rows : Cal P G mg base 2 "check_rows" [false, false] S_check_rows) : Cal P G mg base 4 "in_one" [false, false, false] (specOf [false, false, false] 3 F_in_one) :=
  Def.cal (k := 3) d sc_in_one rfl rfl fun f cdv A outer s H E cx =>
  (s_cons (s_expr (e_callC cx c_check_rows rfl (by decide) (pa_consV pv_V (pa_consV pv_V pa_nilV))))
  (s_cons (s_expr (e_callC cx c_check_rows rfl (by decide) (pa_consV pv_V (pa_consV pv_V pa_nilV))))
  (s_one (s_ret (e_callC cx c_basis_of rfl (by decide) (pa_consV (e_tup (pa_starV cx.K (e_callC cx c_basis_of rfl (by decide) (pa_consV pv_V pa_nilV)) (pa_starV cx.K (e_callC cx c_basis_of rfl (by decide) (pa_consV pv_V pa_nilV)) pa_nilV))) pa_nilV))))))
noncomputable def S_in_one : CSpec := specOf [false, false, false] 3 F_in_one
theorem e_in_one : ∀ ws, S_in_one ws ≠ .stk → specOf [false, false, false] 3 F_in_one ws = S_in_one ws := fun _ _ => rfl
abbrev s_parts_for : Stmt := top 20
noncomputable def F_parts_for : FS := (sSeq (sSet 2 (fLst aNil))
  (sSeq (sFor (iEnu (aCons (fZ (fV 0)) aNil)) (bT [3, 4]) (sSeq (sAsg (bT [5, 6]) (fTup (aCons (fV 4) (aCons (bin gShl (fC (.int 1)) (fV 3)) aNil))))
  (sSeq (sForB 2 (bT [7, 8]) (sIf (tBo (bin gNe (bin gAnd (fV 5) (fCall [false] S_top_of (aCons (fV 7) aNil))) (fC (.int 0)))) (sAsg (bT [5, 6]) (fTup (aCons (bin gXor (fV 5) (fV 7)) (aCons (bin gXor (fV 6) (fV 8)) aNil)))) sNext))
  (sIf (tBo (bin gNe (fV 5) (fC (.int 0)))) (sSeq (sDrop (fApp 2 (fTup (aCons (fV 5) (aCons (fV 6) aNil)))))
  (sSet 2 (una gSortR (fV 2)))) sNext))))
  (sSeq (sSet 6 (fC (.int 0)))
  (sSeq (sForB 2 (bT [7, 8]) (sIf (tBo (bin gNe (bin gAnd (fV 1) (fCall [false] S_top_of (aCons (fV 7) aNil))) (fC (.int 0)))) (sAsg (bT [1, 6]) (fTup (aCons (bin gXor (fV 1) (fV 7)) (aCons (bin gXor (fV 6) (fV 8)) aNil)))) sNext))
  (sSeq (sIf (tBo (bin gNe (fV 1) (fC (.int 0)))) (sRet (fC .none)) sNext)
  (sRet (callB (g1 gTuple) (aCons (fComp [3] (iR1 (aCons (callB (g1 gLen) (aCons (fV 0) aNil)) aNil)) (bN 3) (tTr (bin gAnd (bin gShr (fV 6) (fV 3)) (fC (.int 1)))) (fV 3)) aNil))))))))
theorem sc_parts_for : FnScope ["rows", "goal", "found", "at", "row", "rest", "used", "one", "places"] ["rows", "goal"] (defScope s_parts_for) := ⟨rfl, rfl, rfl, by decide +kernel, rfl, by decide +kernel, by decide +kernel⟩
theorem k_parts_for {P : Program} {G : Glb} {mg : Str → Option Value} {base : Heap} (d : Def G mg "parts_for" s_parts_for ["rows", "goal"]) (B : NoG mg blts) (c_top_of : Cal P G mg base 1 "top_of" [false] S_top_of) : Cal P G mg base 2 "parts_for" [false, false] (specOf [false, false] 9 F_parts_for) :=
  Def.cal (k := 1) d sc_parts_for rfl rfl fun f cdv A outer s H E cx =>
  (s_cons (s_set cx.nd rfl (by first | exact Or.inl rfl | exact Or.inr rfl) (by decide) rfl (e_lst pa_nilV))
  (s_cons (s_for (passes_of rfl) cx.calm (i_Enu cx.K (B.n "enumerate" (by decide +kernel)) (pa_consV (e_Z pv_V) pa_nilV)) (g_tup cx.K cx.calm (gs_cons cx.nd rfl (by first | exact Or.inl rfl | exact Or.inr rfl) (by decide) rfl (gs_cons cx.nd rfl (by first | exact Or.inl rfl | exact Or.inr rfl) (by decide) rfl gs_nil)) rfl) (s_cons (s_asg (e_tup (pa_consV pv_V (pa_consV (e_shl pc_int pv_V) pa_nilV))) (g_tup cx.K cx.calm (gs_cons cx.nd rfl (by first | exact Or.inl rfl | exact Or.inr rfl) (by decide) rfl (gs_cons cx.nd rfl (by first | exact Or.inl rfl | exact Or.inr rfl) (by decide) rfl gs_nil)) rfl))
  (s_cons (s_forB (π' := [false, false, true, false, false, false, false, false, false]) (passes_of rfl) cx.calm cx.K v_var rfl (pin_le (by decide)) (g_tup cx.K cx.calm (gs_cons cx.nd rfl (by first | exact Or.inl rfl | exact Or.inr rfl) (by decide) rfl (gs_cons cx.nd rfl (by first | exact Or.inl rfl | exact Or.inr rfl) (by decide) rfl gs_nil)) rfl) (s_one (s_if (t_cmp (c_ne cx) (e_and pv_V (e_callC cx c_top_of rfl (by decide) (pa_consV pv_V pa_nilV))) pc_int) (s_one (s_asg (e_tup (pa_consV (e_xor pv_V pv_V) (pa_consV (e_xor pv_V pv_V) pa_nilV))) (g_tup cx.K cx.calm (gs_cons cx.nd rfl (by first | exact Or.inl rfl | exact Or.inr rfl) (by decide) rfl (gs_cons cx.nd rfl (by first | exact Or.inl rfl | exact Or.inr rfl) (by decide) rfl gs_nil)) rfl))) s_nil)))
  (s_one (s_if (t_cmp (c_ne cx) pv_V pc_int) (s_cons (s_expr (e_append cx.K v_var (e_tup (pa_consV pv_V (pa_consV pv_V pa_nilV)))))
  (s_one (s_set cx.nd rfl (by first | exact Or.inl rfl | exact Or.inr rfl) (by decide) rfl (e_sortR cx (B.n "sorted" (by decide +kernel)) pv_V)))) s_nil)))))
  (s_cons (s_set cx.nd rfl (by first | exact Or.inl rfl | exact Or.inr rfl) (by decide) rfl pc_int)
  (s_cons (s_forB (π' := [false, false, true, false, false, false, false, false, false]) (passes_of rfl) cx.calm cx.K v_var rfl (pin_le (by decide)) (g_tup cx.K cx.calm (gs_cons cx.nd rfl (by first | exact Or.inl rfl | exact Or.inr rfl) (by decide) rfl (gs_cons cx.nd rfl (by first | exact Or.inl rfl | exact Or.inr rfl) (by decide) rfl gs_nil)) rfl) (s_one (s_if (t_cmp (c_ne cx) (e_and pv_V (e_callC cx c_top_of rfl (by decide) (pa_consV pv_V pa_nilV))) pc_int) (s_one (s_asg (e_tup (pa_consV (e_xor pv_V pv_V) (pa_consV (e_xor pv_V pv_V) pa_nilV))) (g_tup cx.K cx.calm (gs_cons cx.nd rfl (by first | exact Or.inl rfl | exact Or.inr rfl) (by decide) rfl (gs_cons cx.nd rfl (by first | exact Or.inl rfl | exact Or.inr rfl) (by decide) rfl gs_nil)) rfl))) s_nil)))
  (s_cons (s_if (t_cmp (c_ne cx) pv_V pc_int) (s_one (s_ret pc_non)) s_nil)
  (s_one (s_ret (e_ty (b_tuple cx) (B.n "tuple" (by decide +kernel)) (pa_consV (e_comp cx rfl (n := 9) (i_R1 (B.n "range" (by decide +kernel)) (pa_consV (e_blt (b_len cx) (B.n "len" (by decide +kernel)) (pa_consV pv_V pa_nilV)) pa_nilV)) (own := [("at", 3)]) rfl rfl rfl (fun _ _ _ _ _ => (g_name (Cxt.blk cx _ _ _ _ _).nd rfl (by first | exact Or.inl rfl | exact Or.inr rfl) (by decide) rfl)) (fun _ _ _ _ _ => pts_one (t_tru (Cxt.blk cx _ _ _ _ _).K (e_and (e_shr pv_V pv_V) pc_int))) (fun _ _ _ h => h) (fun _ _ _ _ _ => pv_V)) pa_nilV)))))))))
noncomputable def S_parts_for : CSpec := specOf [false, false] 9 F_parts_for
theorem e_parts_for : ∀ ws, S_parts_for ws ≠ .stk → specOf [false, false] 9 F_parts_for ws = S_parts_for ws := fun _ _ => rfl
abbrev s_parts : Stmt := top 21
noncomputable def F_parts : FS := (sSeq (sDrop (fCall [false, false] S_check_rows (aCons (fV 0) (aCons (fV 1) aNil))))
  (sSeq (sDrop (fCall [false, false] S_check_rows (aCons (fV 0) (aCons (fTup (aCons (fV 2) aNil)) aNil))))
  (sSeq (sSet 3 (fZ (fCall [false, false] S_parts_for (aCons (fV 1) (aCons (fV 2) aNil)))))
  (sSeq (sIf (tBo (bin (gIsN false) (fV 3) (fC .none))) (sRaise 3) sNext)
  (sRet (fV 3))))))
theorem sc_parts : FnScope ["width", "rows", "goal", "found"] ["width", "rows", "goal"] (defScope s_parts) := ⟨rfl, rfl, rfl, by decide +kernel, rfl, by decide +kernel, by decide +kernel⟩
theorem k_parts {P : Program} {G : Glb} {mg : Str → Option Value} {base : Heap} (d : Def G mg "parts" s_parts ["width", "rows", "goal"]) (c_parts_for : Cal P G mg base 2 "parts_for" [false, false] S_parts_for) (c_check_rows : Cal P G mg base 2 "check_rows" [false, false] S_check_rows) (x_Missing : Exc1 G.K mg "Missing" (G.ea 3)) : Cal P G mg base 3 "parts" [false, false, false] (specOf [false, false, false] 4 F_parts) :=
  Def.cal (k := 2) d sc_parts rfl rfl fun f cdv A outer s H E cx =>
  (s_cons (s_expr (e_callC cx c_check_rows rfl (by decide) (pa_consV pv_V (pa_consV pv_V pa_nilV))))
  (s_cons (s_expr (e_callC cx c_check_rows rfl (by decide) (pa_consV pv_V (pa_consV (e_tup (pa_consV pv_V pa_nilV)) pa_nilV))))
  (s_cons (s_set cx.nd rfl (by first | exact Or.inl rfl | exact Or.inr rfl) (by decide) rfl (e_Z (e_callC cx c_parts_for rfl (by decide) (pa_consV pv_V (pa_consV pv_V pa_nilV)))))
  (s_cons (s_if (t_cmp c_isN pv_V pc_non) (s_one (s_raiseX cx x_Missing)) s_nil)
  (s_one (s_ret pv_V))))))
noncomputable def S_parts : CSpec := specOf [false, false, false] 4 F_parts
theorem e_parts : ∀ ws, S_parts ws ≠ .stk → specOf [false, false, false] 4 F_parts ws = S_parts ws := fun _ _ => rfl
abbrev s_are_parts : Stmt := top 22
noncomputable def F_are_parts : FS := (sSeq (sDrop (fCall [false, false] S_check_rows (aCons (fV 0) (aCons (fV 1) aNil))))
  (sSeq (sDrop (fCall [false, false] S_check_rows (aCons (fV 0) (aCons (fTup (aCons (fV 2) aNil)) aNil))))
  (sSeq (sIf (tOrV (tBo (bin gNe (callB (g1 gList) (aCons (fV 3) aNil)) (callB (orC (g1 gSortS) (g1 gSorted)) (aCons (callB (g1 gSet) (aCons (fV 3) aNil)) aNil)))) (tNotV (tTr (callB (orC (g1 gAll) (g1 gAllI)) (aCons (fComp [4] (iE (fV 3)) (bN 4) cT (chain gLe gLt (fC (.int 0)) (fV 4) (callB (g1 gLen) (aCons (fV 1) aNil)))) aNil))))) (sRet (fC (.bool false))) sNext)
  (sSeq (sFor (iE (fV 3)) (bN 4) (sSet 2 (bin gXor (fV 2) (bin gIx (fV 1) (fV 4)))))
  (sRet (bin gEq (fV 2) (fC (.int 0))))))))
theorem sc_are_parts : FnScope ["width", "rows", "goal", "places", "at"] ["width", "rows", "goal", "places"] (defScope s_are_parts) := ⟨rfl, rfl, rfl, by decide +kernel, rfl, by decide +kernel, by decide +kernel⟩
theorem k_are_parts {P : Program} {G : Glb} {mg : Str → Option Value} {base : Heap} (d : Def G mg "are_parts" s_are_parts ["width", "rows", "goal", "places"]) (B : NoG mg blts) (c_check_rows : Cal P G mg base 2 "check_rows" [false, false] S_check_rows) : Cal P G mg base 3 "are_parts" [false, false, false, false] (specOf [false, false, false, false] 5 F_are_parts) :=
  Def.cal (k := 2) d sc_are_parts rfl rfl fun f cdv A outer s H E cx =>
  (s_cons (s_expr (e_callC cx c_check_rows rfl (by decide) (pa_consV pv_V (pa_consV pv_V pa_nilV))))
  (s_cons (s_expr (e_callC cx c_check_rows rfl (by decide) (pa_consV pv_V (pa_consV (e_tup (pa_consV pv_V pa_nilV)) pa_nilV))))
  (s_cons (s_if (PW.pt (w_or (t_cmp (c_ne cx) (e_ty (b_list cx) (B.n "list" (by decide +kernel)) (pa_consV pv_V pa_nilV)) (e_blt (b_sorted2 cx rfl) (B.n "sorted" (by decide +kernel)) (pa_consV (e_ty (b_set cx rfl) (B.n "set" (by decide +kernel)) (pa_consV pv_V pa_nilV)) pa_nilV))) (w_or1 (t_not (t_tru cx.K (e_blt (b_all2 cx) (B.n "all" (by decide +kernel)) (pa_consV (e_comp cx rfl (n := 5) (i_E cx.K pv_V) (own := [("at", 4)]) rfl rfl rfl (fun _ _ _ _ _ => (g_name (Cxt.blk cx _ _ _ _ _).nd rfl (by first | exact Or.inl rfl | exact Or.inr rfl) (by decide) rfl)) (fun _ _ _ _ _ => pts_nil) (fun σ H Q ⟨ρ, P, F, nw, h⟩ => h P H F nw Stp.refl) (fun _ _ _ _ _ => (e_chain c_le c_lt pc_int pv_V (e_blt (b_len (Cxt.blk cx _ _ _ _ _)) (B.n "len" (by decide +kernel)) (pa_consV pv_V pa_nilV))))) pa_nilV))))))) (s_one (s_ret pc_bl)) s_nil)
  (s_cons (s_for (passes_of rfl) cx.calm (i_E cx.K pv_V) (g_name cx.nd rfl (by first | exact Or.inl rfl | exact Or.inr rfl) (by decide) rfl) (s_one (s_set cx.nd rfl (by first | exact Or.inl rfl | exact Or.inr rfl) (by decide) rfl (e_xor pv_V (e_ix cx pv_V pv_V)))))
  (s_one (s_ret (e_cmp (c_eq cx) pv_V pc_int)))))))
noncomputable def S_are_parts : CSpec := specOf [false, false, false, false] 5 F_are_parts
theorem e_are_parts : ∀ ws, S_are_parts ws ≠ .stk → specOf [false, false, false, false] 5 F_are_parts ws = S_are_parts ws := fun _ _ => rfl
abbrev s__law_same : Stmt := top 24
theorem sc__law_same : FnScope ["told", "due"] ["told", "due"] (defScope s__law_same) := ⟨rfl, rfl, rfl, by decide +kernel, rfl, by decide +kernel, by decide +kernel⟩
theorem k__law_same {P : Program} {G : Glb} {mg : Str → Option Value} {base : Heap} (d : Def G mg "_law_same" s__law_same ["told", "due"]) (B : NoG mg blts) : Cal P G mg base 1 "_law_same" [false, false] (specOf [false, false] 2 F__law_same) :=
  Def.cal (k := 0) d sc__law_same rfl rfl fun f cdv A outer s H E cx =>
  (s_one (s_ret (e_cmp (c_eq cx) (e_blt (b_repr cx) (B.n "repr" (by decide +kernel)) (pa_consV (e_lst (pa_consV pv_V pa_nilV)) pa_nilV)) (e_blt (b_repr cx) (B.n "repr" (by decide +kernel)) (pa_consV (e_lst (pa_consV pv_V pa_nilV)) pa_nilV)))))
abbrev s__law_stream : Stmt := top 25
theorem sc__law_stream : FnScope ["script", "numbers", "cell", "rest", "k", "mixed"] ["script"] (defScope s__law_stream) := ⟨rfl, rfl, rfl, by decide +kernel, rfl, by decide +kernel, by decide +kernel⟩
theorem k__law_stream {P : Program} {G : Glb} {mg : Str → Option Value} {base : Heap} (d : Def G mg "_law_stream" s__law_stream ["script"]) (B : NoG mg blts) : Cal P G mg base 1 "_law_stream" [false] (specOf [false] 6 F__law_stream) :=
  Def.cal (k := 0) d sc__law_stream rfl rfl fun f cdv A outer s H E cx =>
  (s_cons (s_set cx.nd rfl (by first | exact Or.inl rfl | exact Or.inr rfl) (by decide) rfl (e_lst pa_nilV))
  (s_cons (s_for (passes_of rfl) cx.calm (i_E cx.K (e_sl cx.K pv_V o_no (o_so pc_int))) (g_name cx.nd rfl (by first | exact Or.inl rfl | exact Or.inr rfl) (by decide) rfl) (s_cons (s_set cx.nd rfl (by first | exact Or.inl rfl | exact Or.inr rfl) (by decide) rfl (e_blt b_abs (B.n "abs" (by decide +kernel)) (pa_consV (e_ty b_int (B.n "int" (by decide +kernel)) (pa_consV pv_V pa_nilV)) pa_nilV)))
  (s_one (s_if (t_cmp c_ge pv_V (e_pow pc_int pc_int)) (s_one (s_for (passes_of rfl) cx.calm (i_R1 (B.n "range" (by decide +kernel)) (pa_consV pc_int pa_nilV)) (g_name cx.nd rfl (by first | exact Or.inl rfl | exact Or.inr rfl) (by decide) rfl) (s_cons (s_expr (e_append cx.K v_var (e_mod (e_ty b_int (B.n "int" (by decide +kernel)) (pa_consV pv_V pa_nilV)) pc_int)))
  (s_cons (s_set cx.nd rfl (by first | exact Or.inl rfl | exact Or.inr rfl) (by decide) rfl (e_fdiv pv_V pc_int))
  (s_one (s_if (t_cmp (c_eq cx) pv_V pc_int) (s_one s_break) s_nil)))))) (s_cons (s_set cx.nd rfl (by first | exact Or.inl rfl | exact Or.inr rfl) (by decide) rfl (e_mod (e_ty b_int (B.n "int" (by decide +kernel)) (pa_consV pv_V pa_nilV)) pc_int))
  (s_one (s_for (passes_of rfl) cx.calm (i_R1 (B.n "range" (by decide +kernel)) (pa_consV pc_int pa_nilV)) (g_name cx.nd rfl (by first | exact Or.inl rfl | exact Or.inr rfl) (by decide) rfl) (s_cons (s_set cx.nd rfl (by first | exact Or.inl rfl | exact Or.inr rfl) (by decide) rfl (e_mod (e_ty b_int (B.n "int" (by decide +kernel)) (pa_consV (e_add cx (e_add cx (e_mul cx pv_V pc_int) (e_mul cx pc_int pv_V)) pc_int) pa_nilV)) pc_int))
  (s_one (s_expr (e_append cx.K v_var (e_mod (e_mod (e_ty b_int (B.n "int" (by decide +kernel)) (pa_consV (e_add cx (e_mul cx pv_V pc_int) pv_V) pa_nilV)) pc_int) pc_int))))))))))))
  (s_cons (s_if (t_cmp (c_eq cx) (e_blt (b_len cx) (B.n "len" (by decide +kernel)) (pa_consV pv_V pa_nilV)) pc_int) (s_one (s_expr (e_append cx.K v_var pc_int))) s_nil)
  (s_one (s_ret pv_V)))))
abbrev s__law_next : Stmt := top 26
theorem sc__law_next : FnScope ["state", "many", "turn"] ["state", "many"] (defScope s__law_next) := ⟨rfl, rfl, rfl, by decide +kernel, rfl, by decide +kernel, by decide +kernel⟩
theorem k__law_next {P : Program} {G : Glb} {mg : Str → Option Value} {base : Heap} (d : Def G mg "_law_next" s__law_next ["state", "many"]) (B : NoG mg blts) : Cal P G mg base 1 "_law_next" [true, false] (specOf [true, false] 3 F__law_next) :=
  Def.cal (k := 0) d sc__law_next rfl rfl fun f cdv A outer s H E cx =>
  (s_cons (s_setItem v_var pc_int (e_add cx (e_ix cx pv_V pc_int) pc_int))
  (s_cons (s_set cx.nd rfl (by first | exact Or.inl rfl | exact Or.inr rfl) (by decide) rfl (e_fdiv (e_ix cx pv_V pc_int) (e_blt (b_len cx) (B.n "len" (by decide +kernel)) (pa_consV (e_ix cx pv_V pc_int) pa_nilV))))
  (s_one (s_ret (e_mod (e_ty b_int (B.n "int" (by decide +kernel)) (pa_consV (e_add cx (e_add cx (e_ix cx (e_ix cx pv_V pc_int) (e_mod (e_ix cx pv_V pc_int) (e_blt (b_len cx) (B.n "len" (by decide +kernel)) (pa_consV (e_ix cx pv_V pc_int) pa_nilV)))) (e_mul cx pv_V pc_int)) (e_mul cx (e_mul cx (e_ix cx pv_V pc_int) pv_V) pc_int)) pa_nilV)) pv_V)))))
abbrev s__law_span : Stmt := top 28
noncomputable def F__law_span : FS := (sSeq (sSet 1 (fZ (fLst (aCons (fC (.int 0)) aNil))))
  (sSeq (sFor (iE (fV 0)) (bN 2) (sIf (tBo (bin gNotIn (fV 2) (fV 1))) (sSet 1 (fZ (bin gAdd (fV 1) (fComp [3] (iE (fV 1)) (bN 3) cT (bin gXor (fV 3) (fV 2)))))) sNext))
  (sRet (callB (orC (g1 gSortS) (g1 gSorted)) (aCons (fV 1) aNil)))))
theorem sc__law_span : FnScope ["rows", "found", "row", "one"] ["rows"] (defScope s__law_span) := ⟨rfl, rfl, rfl, by decide +kernel, rfl, by decide +kernel, by decide +kernel⟩
theorem k__law_span {P : Program} {G : Glb} {mg : Str → Option Value} {base : Heap} (d : Def G mg "_law_span" s__law_span ["rows"]) (B : NoG mg blts) : Cal P G mg base 1 "_law_span" [false] (specOf [false] 4 F__law_span) :=
  Def.cal (k := 0) d sc__law_span rfl rfl fun f cdv A outer s H E cx =>
  (s_cons (s_set cx.nd rfl (by first | exact Or.inl rfl | exact Or.inr rfl) (by decide) rfl (e_Z (e_lst (pa_consV pc_int pa_nilV))))
  (s_cons (s_for (passes_of rfl) cx.calm (i_E cx.K pv_V) (g_name cx.nd rfl (by first | exact Or.inl rfl | exact Or.inr rfl) (by decide) rfl) (s_one (s_if (t_notIn cx pv_V pv_V) (s_one (s_set cx.nd rfl (by first | exact Or.inl rfl | exact Or.inr rfl) (by decide) rfl (e_Z (e_add cx pv_V (e_comp cx rfl (n := 4) (i_E cx.K pv_V) (own := [("one", 3)]) rfl rfl rfl (fun _ _ _ _ _ => (g_name (Cxt.blk cx _ _ _ _ _).nd rfl (by first | exact Or.inl rfl | exact Or.inr rfl) (by decide) rfl)) (fun _ _ _ _ _ => pts_nil) (fun σ H Q ⟨ρ, P, F, nw, h⟩ => h P H F nw Stp.refl) (fun _ _ _ _ _ => (e_xor pv_V pv_V))))))) s_nil)))
  (s_one (s_ret (e_blt (b_sorted2 cx rfl) (B.n "sorted" (by decide +kernel)) (pa_consV pv_V pa_nilV))))))
noncomputable def S__law_span : CSpec := specOf [false] 4 F__law_span
theorem e__law_span : ∀ ws, S__law_span ws ≠ .stk → specOf [false] 4 F__law_span ws = S__law_span ws := fun _ _ => rfl
abbrev s__law_top : Stmt := top 29
noncomputable def F__law_top : FS := (sRet (callB (g1 gMax1) (aCons (bin gAdd (fLst (aCons (fC (.int 0)) aNil)) (fComp [1] (iR1 (aCons (fC (.int 17)) aNil)) (bN 1) (tTr (bin gAnd (bin gShr (fV 0) (fV 1)) (fC (.int 1)))) (bin gShl (fC (.int 1)) (fV 1)))) aNil)))
theorem sc__law_top : FnScope ["row", "at"] ["row"] (defScope s__law_top) := ⟨rfl, rfl, rfl, by decide +kernel, rfl, by decide +kernel, by decide +kernel⟩
theorem k__law_top {P : Program} {G : Glb} {mg : Str → Option Value} {base : Heap} (d : Def G mg "_law_top" s__law_top ["row"]) (B : NoG mg blts) : Cal P G mg base 1 "_law_top" [false] (specOf [false] 2 F__law_top) :=
  Def.cal (k := 0) d sc__law_top rfl rfl fun f cdv A outer s H E cx =>
  (s_one (s_ret (e_blt (b_max1 cx) (B.n "max" (by decide +kernel)) (pa_consV (e_add cx (e_lst (pa_consV pc_int pa_nilV)) (e_comp cx rfl (n := 2) (i_R1 (B.n "range" (by decide +kernel)) (pa_consV pc_int pa_nilV)) (own := [("at", 1)]) rfl rfl rfl (fun _ _ _ _ _ => (g_name (Cxt.blk cx _ _ _ _ _).nd rfl (by first | exact Or.inl rfl | exact Or.inr rfl) (by decide) rfl)) (fun _ _ _ _ _ => pts_one (t_tru (Cxt.blk cx _ _ _ _ _).K (e_and (e_shr pv_V pv_V) pc_int))) (fun _ _ _ h => h) (fun _ _ _ _ _ => (e_shl pc_int pv_V)))) pa_nilV))))
noncomputable def S__law_top : CSpec := specOf [false] 2 F__law_top
theorem e__law_top : ∀ ws, S__law_top ws ≠ .stk → specOf [false] 2 F__law_top ws = S__law_top ws := fun _ _ => rfl
abbrev s__law_odd : Stmt := top 30
noncomputable def F__law_odd : FS := (sRet (bin gAnd (callB (g1 gSum) (aCons (fComp [1] (iR1 (aCons (fC (.int 17)) aNil)) (bN 1) cT (bin gAnd (bin gShr (fV 0) (fV 1)) (fC (.int 1)))) aNil)) (fC (.int 1))))
theorem sc__law_odd : FnScope ["row", "at"] ["row"] (defScope s__law_odd) := ⟨rfl, rfl, rfl, by decide +kernel, rfl, by decide +kernel, by decide +kernel⟩
theorem k__law_odd {P : Program} {G : Glb} {mg : Str → Option Value} {base : Heap} (d : Def G mg "_law_odd" s__law_odd ["row"]) (B : NoG mg blts) : Cal P G mg base 1 "_law_odd" [false] (specOf [false] 2 F__law_odd) :=
  Def.cal (k := 0) d sc__law_odd rfl rfl fun f cdv A outer s H E cx =>
  (s_one (s_ret (e_and (e_blt (b_sum cx) (B.n "sum" (by decide +kernel)) (pa_consV (e_comp cx rfl (n := 2) (i_R1 (B.n "range" (by decide +kernel)) (pa_consV pc_int pa_nilV)) (own := [("at", 1)]) rfl rfl rfl (fun _ _ _ _ _ => (g_name (Cxt.blk cx _ _ _ _ _).nd rfl (by first | exact Or.inl rfl | exact Or.inr rfl) (by decide) rfl)) (fun _ _ _ _ _ => pts_nil) (fun σ H Q ⟨ρ, P, F, nw, h⟩ => h P H F nw Stp.refl) (fun _ _ _ _ _ => (e_and (e_shr pv_V pv_V) pc_int))) pa_nilV)) pc_int)))
noncomputable def S__law_odd : CSpec := specOf [false] 2 F__law_odd
theorem e__law_odd : ∀ ws, S__law_odd ws ≠ .stk → specOf [false] 2 F__law_odd ws = S__law_odd ws := fun _ _ => rfl
abbrev s__law_some_rows : Stmt := top 31
noncomputable def F__law_some_rows : FS := (sRet (callB (g1 gTuple) (aCons (fComp [3] (iR1 (aCons (fCall [true, false] S__law_next (aCons (fV 0) (aCons (bin gAdd (fV 2) (fC (.int 1))) aNil))) aNil)) (bN 3) cT (bin gIx (fLst (aCons (fCall [true, false] S__law_next (aCons (fV 0) (aCons (bin gShl (fC (.int 1)) (fV 1)) aNil))) (aCons (bin gShl (fC (.int 1)) (fCall [true, false] S__law_next (aCons (fV 0) (aCons (fV 1) aNil)))) (aCons (fC (.int 0)) aNil)))) (bin gIx (fLst (aCons (fC (.int 0)) (aCons (fC (.int 0)) (aCons (fC (.int 0)) (aCons (fC (.int 1)) (aCons (fC (.int 2)) aNil)))))) (fCall [true, false] S__law_next (aCons (fV 0) (aCons (fC (.int 5)) aNil)))))) aNil)))
theorem sc__law_some_rows : FnScope ["state", "width", "most", "k"] ["state", "width", "most"] (defScope s__law_some_rows) := ⟨rfl, rfl, rfl, by decide +kernel, rfl, by decide +kernel, by decide +kernel⟩
theorem k__law_some_rows {P : Program} {G : Glb} {mg : Str → Option Value} {base : Heap} (d : Def G mg "_law_some_rows" s__law_some_rows ["state", "width", "most"]) (B : NoG mg blts) (c__law_next : Cal P G mg base 1 "_law_next" [true, false] S__law_next) : Cal P G mg base 2 "_law_some_rows" [true, false, false] (specOf [true, false, false] 4 F__law_some_rows) :=
  Def.cal (k := 1) d sc__law_some_rows rfl rfl fun f cdv A outer s H E cx =>
  (s_one (s_ret (e_ty (b_tuple cx) (B.n "tuple" (by decide +kernel)) (pa_consV (e_comp cx rfl (n := 4) (i_R1 (B.n "range" (by decide +kernel)) (pa_consV (e_callC cx c__law_next rfl (by decide) (pa_consV pv_V (pa_consV (e_add cx pv_V pc_int) pa_nilV))) pa_nilV)) (own := [("k", 3)]) rfl rfl rfl (fun _ _ _ _ _ => (g_name (Cxt.blk cx _ _ _ _ _).nd rfl (by first | exact Or.inl rfl | exact Or.inr rfl) (by decide) rfl)) (fun _ _ _ _ _ => pts_nil) (fun σ H Q ⟨ρ, P, F, nw, h⟩ => h P H F nw Stp.refl) (fun _ _ _ _ _ => (e_ix (Cxt.blk cx _ _ _ _ _) (e_lst (pa_consV (e_callC (Cxt.blk cx _ _ _ _ _) c__law_next rfl (by decide) (pa_consV pv_V (pa_consV (e_shl pc_int pv_V) pa_nilV))) (pa_consV (e_shl pc_int (e_callC (Cxt.blk cx _ _ _ _ _) c__law_next rfl (by decide) (pa_consV pv_V (pa_consV pv_V pa_nilV)))) (pa_consV pc_int pa_nilV)))) (e_ix (Cxt.blk cx _ _ _ _ _) (e_lst (pa_consV pc_int (pa_consV pc_int (pa_consV pc_int (pa_consV pc_int (pa_consV pc_int pa_nilV)))))) (e_callC (Cxt.blk cx _ _ _ _ _) c__law_next rfl (by decide) (pa_consV pv_V (pa_consV pc_int pa_nilV))))))) pa_nilV))))
noncomputable def S__law_some_rows : CSpec := specOf [true, false, false] 4 F__law_some_rows
theorem e__law_some_rows : ∀ ws, S__law_some_rows ws ≠ .stk → specOf [true, false, false] 4 F__law_some_rows ws = S__law_some_rows ws := fun _ _ => rfl
abbrev s__law_told : Stmt := top 32
noncomputable def F__law_told : FS := (sTry errR (sSeq (sIf (tBo (bin gLt (fV 0) (fC (.int 2)))) (sRet (fTup (aCons (fC (.str "told")) (aCons (fPick [false, false] [S_span, S_across] (fV 0) (aCons (fV 1) (aCons (fV 2) aNil))) aNil)))) sNext)
  (sSeq (sIf (tBo (bin gLt (fV 0) (fC (.int 6)))) (sRet (fTup (aCons (fC (.str "told")) (aCons (fPick [false, false, false] [S_in_both, S_in_one, S_is_in, S_parts] (bin gSub (fV 0) (fC (.int 2))) (aCons (fV 1) (aCons (fV 2) (aCons (fV 3) aNil)))) aNil)))) sNext)
  (sRet (fTup (aCons (fC (.str "told")) (aCons (fCall [false, false, false, false] S_are_parts (aCons (fV 1) (aCons (fV 2) (aCons (fV 3) (aCons (fV 4) aNil))))) aNil)))))))
theorem sc__law_told : FnScope ["kind", "width", "rows", "one", "two", "e"] ["kind", "width", "rows", "one", "two"] (defScope s__law_told) := ⟨rfl, rfl, rfl, by decide +kernel, rfl, by decide +kernel, by decide +kernel⟩
theorem k__law_told {P : Program} {G : Glb} {mg : Str → Option Value} {base : Heap} (d : Def G mg "_law_told" s__law_told ["kind", "width", "rows", "one", "two"]) (c_are_parts : Cal P G mg base 3 "are_parts" [false, false, false, false] S_are_parts) (c_in_both : Cal P G mg base 5 "in_both" [false, false, false] S_in_both) (c_in_one : Cal P G mg base 4 "in_one" [false, false, false] S_in_one) (c_is_in : Cal P G mg base 4 "is_in" [false, false, false] S_is_in) (c_parts : Cal P G mg base 3 "parts" [false, false, false] S_parts) (c_span : Cal P G mg base 4 "span" [false, false] S_span) (c_across : Cal P G mg base 4 "across" [false, false] S_across) (x_MaieuticError : Exc1 G.K mg "MaieuticError" (G.ea 0)) (er__law_error : ErrF P G mg base 3 "_law_error" errR) (er_sub : ∀ c t, errR c = some t → PySem.W.exmOne G.K (.ref (G.ea c)) (.ref (G.ea 0)) = some true) : Cal P G mg base 6 "_law_told" [false, false, false, false, false] (specOf [false, false, false, false, false] 6 F__law_told) :=
  Def.cal (k := 5) d sc__law_told rfl rfl fun f cdv A outer s H E cx =>
  (s_one (s_try (n := 6) (i := 5) cx rfl rfl rfl rfl (by decide) rfl ⟨rfl, by decide, .inl x_MaieuticError.g⟩ er_sub rfl er__law_error (by decide) fun W' pn xe cy po => (s_cons (s_if (t_cmp c_lt pv_V pc_int) (s_one (s_ret (e_tup (pa_consV pc_str (pa_consV (e_pick cy (.cons (def1C cy c_span rfl (by decide)) (.cons (def1C cy c_across rfl (by decide)) Defs.nil)) pv_V (by decide) (by intro _ _; rfl) (pa_consV pv_V (pa_consV pv_V pa_nilV))) pa_nilV))))) s_nil)
  (s_cons (s_if (t_cmp c_lt pv_V pc_int) (s_one (s_ret (e_tup (pa_consV pc_str (pa_consV (e_pick cy (.cons (def1C cy c_in_both rfl (by decide)) (.cons (def1C cy c_in_one rfl (by decide)) (.cons (def1C cy c_is_in rfl (by decide)) (.cons (def1C cy c_parts rfl (by decide)) Defs.nil)))) (e_sub pv_V pc_int) (by decide) (by intro _ _; rfl) (pa_consV pv_V (pa_consV pv_V (pa_consV pv_V pa_nilV)))) pa_nilV))))) s_nil)
  (s_one (s_ret (e_tup (pa_consV pc_str (pa_consV (e_callC cy c_are_parts rfl (by decide) (pa_consV pv_V (pa_consV pv_V (pa_consV pv_V (pa_consV pv_V pa_nilV))))) pa_nilV)))))))))
noncomputable def S__law_told : CSpec := specOf [false, false, false, false, false] 6 F__law_told
theorem e__law_told : ∀ ws, S__law_told ws ≠ .stk → specOf [false, false, false, false, false] 6 F__law_told ws = S__law_told ws := fun _ _ => rfl
abbrev s__law_is_basis : Stmt := top 33
noncomputable def F__law_is_basis : FS := (sSeq (sIf (tOrV (tNotV (tTr (una gIsT (fV 0)))) (tOrV (tBo (bin gNe (callB (g1 gList) (aCons (fV 0) aNil)) (una gRevA (callB (orC (g1 gSortS) (g1 gSorted)) (aCons (callB (g1 gSet) (aCons (fV 0) aNil)) aNil))))) (tBo (bin gIn (fC (.int 0)) (fV 0))))) (sRet (fC (.bool false))) sNext)
  (sSeq (sSet 2 (fZ (fComp [3] (iE (fV 0)) (bN 3) cT (fCall [false] S__law_top (aCons (fV 3) aNil)))))
  (sSeq (sIf (tTr (callB (orC (g1 gAny) (g1 gAnyI)) (aCons (fComp [4] (iR1 (aCons (callB (g1 gLen) (aCons (fV 0) aNil)) aNil)) (bN 4) cT (callB (orC (g1 gAny) (g1 gAnyI)) (aCons (fComp [5] (iR1 (aCons (callB (g1 gLen) (aCons (fV 0) aNil)) aNil)) (bN 5) (tBo (bin gNe (fV 5) (fV 4))) (bin gNe (bin gAnd (bin gIx (fV 0) (fV 4)) (bin gIx (fV 2) (fV 5))) (fC (.int 0)))) aNil))) aNil))) (sRet (fC (.bool false))) sNext)
  (sRet (bin gEq (fCall [false] S__law_span (aCons (fV 0) aNil)) (fV 1))))))
theorem sc__law_is_basis : FnScope ["told", "rows", "tops", "row", "k", "j"] ["told", "rows"] (defScope s__law_is_basis) := ⟨rfl, rfl, rfl, by decide +kernel, rfl, by decide +kernel, by decide +kernel⟩
theorem k__law_is_basis {P : Program} {G : Glb} {mg : Str → Option Value} {base : Heap} (d : Def G mg "_law_is_basis" s__law_is_basis ["told", "rows"]) (B : NoG mg blts) (c__law_span : Cal P G mg base 1 "_law_span" [false] S__law_span) (c__law_top : Cal P G mg base 1 "_law_top" [false] S__law_top) : Cal P G mg base 2 "_law_is_basis" [false, false] (specOf [false, false] 6 F__law_is_basis) :=
  Def.cal (k := 1) d sc__law_is_basis rfl rfl fun f cdv A outer s H E cx =>
  (s_cons (s_if (PW.pt (w_or (t_not (t_tru cx.K (e_isTup cx.K (B.n "isinstance" (by decide +kernel)) (B.n "tuple" (by decide +kernel)) pv_V))) (w_or (t_cmp (c_ne cx) (e_ty (b_list cx) (B.n "list" (by decide +kernel)) (pa_consV pv_V pa_nilV)) (e_rev cx.K (e_blt (b_sorted2 cx rfl) (B.n "sorted" (by decide +kernel)) (pa_consV (e_ty (b_set cx rfl) (B.n "set" (by decide +kernel)) (pa_consV pv_V pa_nilV)) pa_nilV)))) (w_or1 (t_in cx pc_int pv_V))))) (s_one (s_ret pc_bl)) s_nil)
  (s_cons (s_set cx.nd rfl (by first | exact Or.inl rfl | exact Or.inr rfl) (by decide) rfl (e_Z (e_comp cx rfl (n := 6) (i_E cx.K pv_V) (own := [("row", 3)]) rfl rfl rfl (fun _ _ _ _ _ => (g_name (Cxt.blk cx _ _ _ _ _).nd rfl (by first | exact Or.inl rfl | exact Or.inr rfl) (by decide) rfl)) (fun _ _ _ _ _ => pts_nil) (fun σ H Q ⟨ρ, P, F, nw, h⟩ => h P H F nw Stp.refl) (fun _ _ _ _ _ => (e_callC (Cxt.blk cx _ _ _ _ _) c__law_top rfl (by decide) (pa_consV pv_V pa_nilV))))))
  (s_cons (s_if (t_tru cx.K (e_blt (b_any2 cx) (B.n "any" (by decide +kernel)) (pa_consV (e_comp cx rfl (n := 6) (i_R1 (B.n "range" (by decide +kernel)) (pa_consV (e_blt (b_len cx) (B.n "len" (by decide +kernel)) (pa_consV pv_V pa_nilV)) pa_nilV)) (own := [("k", 4)]) rfl rfl rfl (fun _ _ _ _ _ => (g_name (Cxt.blk cx _ _ _ _ _).nd rfl (by first | exact Or.inl rfl | exact Or.inr rfl) (by decide) rfl)) (fun _ _ _ _ _ => pts_nil) (fun σ H Q ⟨ρ, P, F, nw, h⟩ => h P H F nw Stp.refl) (fun _ _ _ _ _ => (e_blt (b_any2 (Cxt.blk cx _ _ _ _ _)) (B.n "any" (by decide +kernel)) (pa_consV (e_comp (Cxt.blk cx _ _ _ _ _) rfl (n := 6) (i_R1 (B.n "range" (by decide +kernel)) (pa_consV (e_blt (b_len (Cxt.blk cx _ _ _ _ _)) (B.n "len" (by decide +kernel)) (pa_consV pv_V pa_nilV)) pa_nilV)) (own := [("j", 5)]) rfl rfl rfl (fun _ _ _ _ _ => (g_name (Cxt.blk (Cxt.blk cx _ _ _ _ _) _ _ _ _ _).nd rfl (by first | exact Or.inl rfl | exact Or.inr rfl) (by decide) rfl)) (fun _ _ _ _ _ => pts_one (t_cmp (c_ne (Cxt.blk (Cxt.blk cx _ _ _ _ _) _ _ _ _ _)) pv_V pv_V)) (fun _ _ _ h => h) (fun _ _ _ _ _ => (e_cmp (c_ne (Cxt.blk (Cxt.blk cx _ _ _ _ _) _ _ _ _ _)) (e_and (e_ix (Cxt.blk (Cxt.blk cx _ _ _ _ _) _ _ _ _ _) pv_V pv_V) (e_ix (Cxt.blk (Cxt.blk cx _ _ _ _ _) _ _ _ _ _) pv_V pv_V)) pc_int))) pa_nilV)))) pa_nilV))) (s_one (s_ret pc_bl)) s_nil)
  (s_one (s_ret (e_cmp (c_eq cx) (e_callC cx c__law_span rfl (by decide) (pa_consV pv_V pa_nilV)) pv_V))))))
noncomputable def S__law_is_basis : CSpec := specOf [false, false] 6 F__law_is_basis
theorem e__law_is_basis : ∀ ws, S__law_is_basis ws ≠ .stk → specOf [false, false] 6 F__law_is_basis ws = S__law_is_basis ws := fun _ _ => rfl
abbrev s__law_made : Stmt := top 34
noncomputable def F__law_made : FS := (sSeq (sIf (tOrV (tBo (bin gNe (callB (g1 gList) (aCons (fV 2) aNil)) (callB (orC (g1 gSortS) (g1 gSorted)) (aCons (callB (g1 gSet) (aCons (fV 2) aNil)) aNil)))) (tNotV (tTr (callB (orC (g1 gAll) (g1 gAllI)) (aCons (fComp [3] (iE (fV 2)) (bN 3) cT (chain gLe gLt (fC (.int 0)) (fV 3) (callB (g1 gLen) (aCons (fV 0) aNil)))) aNil))))) (sRet (fC (.bool false))) sNext)
  (sSeq (sFor (iE (fV 2)) (bN 3) (sSet 1 (bin gXor (fV 1) (bin gIx (fV 0) (fV 3)))))
  (sRet (bin gEq (fV 1) (fC (.int 0))))))
theorem sc__law_made : FnScope ["rows", "goal", "places", "at"] ["rows", "goal", "places"] (defScope s__law_made) := ⟨rfl, rfl, rfl, by decide +kernel, rfl, by decide +kernel, by decide +kernel⟩
theorem k__law_made {P : Program} {G : Glb} {mg : Str → Option Value} {base : Heap} (d : Def G mg "_law_made" s__law_made ["rows", "goal", "places"]) (B : NoG mg blts) : Cal P G mg base 1 "_law_made" [false, false, false] (specOf [false, false, false] 4 F__law_made) :=
  Def.cal (k := 0) d sc__law_made rfl rfl fun f cdv A outer s H E cx =>
  (s_cons (s_if (PW.pt (w_or (t_cmp (c_ne cx) (e_ty (b_list cx) (B.n "list" (by decide +kernel)) (pa_consV pv_V pa_nilV)) (e_blt (b_sorted2 cx rfl) (B.n "sorted" (by decide +kernel)) (pa_consV (e_ty (b_set cx rfl) (B.n "set" (by decide +kernel)) (pa_consV pv_V pa_nilV)) pa_nilV))) (w_or1 (t_not (t_tru cx.K (e_blt (b_all2 cx) (B.n "all" (by decide +kernel)) (pa_consV (e_comp cx rfl (n := 4) (i_E cx.K pv_V) (own := [("at", 3)]) rfl rfl rfl (fun _ _ _ _ _ => (g_name (Cxt.blk cx _ _ _ _ _).nd rfl (by first | exact Or.inl rfl | exact Or.inr rfl) (by decide) rfl)) (fun _ _ _ _ _ => pts_nil) (fun σ H Q ⟨ρ, P, F, nw, h⟩ => h P H F nw Stp.refl) (fun _ _ _ _ _ => (e_chain c_le c_lt pc_int pv_V (e_blt (b_len (Cxt.blk cx _ _ _ _ _)) (B.n "len" (by decide +kernel)) (pa_consV pv_V pa_nilV))))) pa_nilV))))))) (s_one (s_ret pc_bl)) s_nil)
  (s_cons (s_for (passes_of rfl) cx.calm (i_E cx.K pv_V) (g_name cx.nd rfl (by first | exact Or.inl rfl | exact Or.inr rfl) (by decide) rfl) (s_one (s_set cx.nd rfl (by first | exact Or.inl rfl | exact Or.inr rfl) (by decide) rfl (e_xor pv_V (e_ix cx pv_V pv_V)))))
  (s_one (s_ret (e_cmp (c_eq cx) pv_V pc_int)))))
noncomputable def S__law_made : CSpec := specOf [false, false, false] 4 F__law_made
theorem e__law_made : ∀ ws, S__law_made ws ≠ .stk → specOf [false, false, false] 4 F__law_made ws = S__law_made ws := fun _ _ => rfl
abbrev s__law_fits : Stmt := top 35
noncomputable def F__law_fits : FS := (sSeq (sSet 1 (fZ (bin gAdd (fC (.int 1)) (fCall [true, false] S__law_next (aCons (fV 0) (aCons (fC (.int 8)) aNil))))))
  (sSeq (sSet 2 (fZ (fCall [true, false, false] S__law_some_rows (aCons (fV 0) (aCons (fV 1) (aCons (fC (.int 6)) aNil))))))
  (sSeq (sSet 3 (fZ (fCall [true, false, false] S__law_some_rows (aCons (fV 0) (aCons (fV 1) (aCons (fC (.int 6)) aNil))))))
  (sSeq (sSet 4 (callB (g1 gRepr) (aCons (fTup (aCons (fV 2) (aCons (fV 3) aNil))) aNil)))
  (sSeq (sSet 5 (fZ (fCall [false] S__law_span (aCons (fV 2) aNil))))
  (sSeq (sSet 6 (fZ (fCall [false] S__law_span (aCons (fV 3) aNil))))
  (sSeq (sSet 7 (fZ (fComp [16] (iR1 (aCons (bin gShl (fC (.int 1)) (fV 1)) aNil)) (bN 16) (tNotV (tTr (callB (orC (g1 gAny) (g1 gAnyI)) (aCons (fComp [17] (iE (fV 2)) (bN 17) cT (fCall [false] S__law_odd (aCons (bin gAnd (fV 16) (fV 17)) aNil))) aNil)))) (fV 16))))
  (sSeq (sSet 8 (fZ (fComp [16] (iE (fV 5)) (bN 16) (tBo (bin gIn (fV 16) (fV 6))) (fV 16))))
  (sSeq (sSet 9 (fZ (fLst (aCons (fCall [false, false, false, false, false] S__law_told (aCons (fC (.int 0)) (aCons (fV 1) (aCons (fV 2) (aCons (fC (.int 0)) (aCons (fC (.int 0)) aNil)))))) (aCons (fCall [false, false, false, false, false] S__law_told (aCons (fC (.int 1)) (aCons (fV 1) (aCons (fV 2) (aCons (fC (.int 0)) (aCons (fC (.int 0)) aNil)))))) (aCons (fCall [false, false, false, false, false] S__law_told (aCons (fC (.int 2)) (aCons (fV 1) (aCons (fV 2) (aCons (fV 3) (aCons (fC (.int 0)) aNil)))))) (aCons (fCall [false, false, false, false, false] S__law_told (aCons (fC (.int 3)) (aCons (fV 1) (aCons (fV 2) (aCons (fV 3) (aCons (fC (.int 0)) aNil)))))) aNil)))))))
  (sSeq (sFor (iR1 (aCons (fC (.int 4)) aNil)) (bN 10) (sIf (tOrV (tBo (bin gNe (bin gIx (bin gIx (fV 9) (fV 10)) (fC (.int 0))) (fC (.str "told")))) (tNotV (tTr (fCall [false, false] S__law_is_basis (aCons (bin gIx (bin gIx (fV 9) (fV 10)) (fC (.int 1))) (aCons (bin gIx (fLst (aCons (fV 5) (aCons (fV 7) (aCons (fV 8) (aCons (fCall [false] S__law_span (aCons (bin gAdd (fV 2) (fV 3)) aNil)) aNil))))) (fV 10)) aNil)))))) (sRet (fC (.bool false))) sNext))
  (sSeq (sIf (tBo (bin gNe (fCall [false, false] S_across (aCons (fV 1) (aCons (bin gIx (bin gIx (fV 9) (fC (.int 1))) (fC (.int 1))) aNil))) (bin gIx (bin gIx (fV 9) (fC (.int 0))) (fC (.int 1))))) (sRet (fC (.bool false))) sNext)
  (sSeq (sFor (iR1 (aCons (fC (.int 4)) aNil)) (bN 10) (sSeq (sSet 11 (bin gIx (fLst (aCons (fCall [true, false] S__law_next (aCons (fV 0) (aCons (bin gShl (fC (.int 1)) (fV 1)) aNil))) (aCons (bin gIx (fV 5) (fCall [true, false] S__law_next (aCons (fV 0) (aCons (callB (g1 gLen) (aCons (fV 5) aNil)) aNil)))) aNil))) (fCall [true, false] S__law_next (aCons (fV 0) (aCons (fC (.int 2)) aNil)))))
  (sSeq (sSet 12 (fZ (fCall [false, false, false, false, false] S__law_told (aCons (fC (.int 5)) (aCons (fV 1) (aCons (fV 2) (aCons (fV 11) (aCons (fC (.int 0)) aNil))))))))
  (sSeq (sIf (tOrV (tNotV (tTr (fCall [false, false] S__law_same (aCons (fCall [false, false, false, false, false] S__law_told (aCons (fC (.int 4)) (aCons (fV 1) (aCons (fV 2) (aCons (fV 11) (aCons (fC (.int 0)) aNil)))))) (aCons (fTup (aCons (fC (.str "told")) (aCons (bin gIn (fV 11) (fV 5)) aNil))) aNil))))) (tBo (bin gNe (bin gEq (fV 12) (fC (.str "missing"))) (bin gNotIn (fV 11) (fV 5))))) (sRet (fC (.bool false))) sNext)
  (sSeq (sSet 13 (fZ (fLst (aCons (fTup aNil) (aCons (callB (g1 gTuple) (aCons (fComp [18] (iR1 (aCons (callB (g1 gLen) (aCons (fV 2) aNil)) aNil)) (bN 18) (tBo (bin gEq (fCall [true, false] S__law_next (aCons (fV 0) (aCons (fC (.int 2)) aNil))) (fC (.int 0)))) (fV 18)) aNil)) (aCons (fTup (aCons (fC (.int 0)) (aCons (fC (.int 0)) aNil))) (aCons (fTup (aCons (callB (g1 gLen) (aCons (fV 2) aNil)) aNil)) (aCons (fTup (aCons (una (gU fun i => -i) (fC (.int 1))) aNil)) aNil))))))))
  (sSeq (sIf (tBo (bin gIn (fV 11) (fV 5))) (sSeq (sIf (tOrV (tNotV (tTr (una gIsT (bin gIx (fV 12) (fC (.int 1)))))) (tNotV (tTr (fCall [false, false, false] S__law_made (aCons (fV 2) (aCons (fV 11) (aCons (bin gIx (fV 12) (fC (.int 1))) aNil))))))) (sRet (fC (.bool false))) sNext)
  (sSet 13 (fZ (bin gAdd (fV 13) (fLst (aCons (bin gIx (fV 12) (fC (.int 1))) (aCons (una gRevA (bin gIx (fV 12) (fC (.int 1)))) (aCons (fSl (bin gIx (fV 12) (fC (.int 1))) (pSo (fC (.int 1))) pNo) aNil)))))))) sNext)
  (sIf (tNotV (tTr (callB (orC (g1 gAll) (g1 gAllI)) (aCons (fComp [19] (iE (fV 13)) (bN 19) cT (fCall [false, false] S__law_same (aCons (fCall [false, false, false, false, false] S__law_told (aCons (fC (.int 6)) (aCons (fV 1) (aCons (fV 2) (aCons (fV 11) (aCons (fV 19) aNil)))))) (aCons (fTup (aCons (fC (.str "told")) (aCons (fCall [false, false, false] S__law_made (aCons (fV 2) (aCons (fV 11) (aCons (fV 19) aNil)))) aNil))) aNil)))) aNil)))) (sRet (fC (.bool false))) sNext)))))))
  (sSeq (sSet 14 (bin gShl (fC (.int 1)) (fV 1)))
  (sSeq (sSet 15 (fZ (bin gAdd (bin gAdd (bin gAdd (fComp [20] (iR1 (aCons (fC (.int 7)) aNil)) (bN 20) cT (fCall [false, false, false, false, false] S__law_told (aCons (fV 20) (aCons (fV 1) (aCons (bin gAdd (fV 2) (fTup (aCons (fV 14) aNil))) (aCons (fC (.int 0)) (aCons (fTup aNil) aNil))))))) (fComp [20] (iR1 (aCons (fC (.int 2)) aNil)) (bN 20) cT (fCall [false, false, false, false, false] S__law_told (aCons (fV 20) (aCons (fV 1) (aCons (bin gAdd (fV 2) (fTup (aCons (una (gU fun i => -i) (fC (.int 1))) aNil))) (aCons (fC (.int 0)) (aCons (fTup aNil) aNil)))))))) (fComp [20] (iE (fLst (aCons (fC (.int 2)) (aCons (fC (.int 3)) aNil)))) (bN 20) cT (fCall [false, false, false, false, false] S__law_told (aCons (fV 20) (aCons (fV 1) (aCons (fV 2) (aCons (fTup (aCons (fV 14) aNil)) (aCons (fC (.int 0)) aNil)))))))) (fComp [20] (iE (fLst (aCons (fC (.int 4)) (aCons (fC (.int 5)) (aCons (fC (.int 6)) aNil))))) (bN 20) cT (fCall [false, false, false, false, false] S__law_told (aCons (fV 20) (aCons (fV 1) (aCons (fV 2) (aCons (fV 14) (aCons (fTup aNil) aNil))))))))))
  (sRet (fAnd (bin gEq (bin gAdd (fSl (fV 15) pNo (pSo (fC (.int 2)))) (fSl (fV 15) (pSo (fC (.int 4))) pNo)) (bin gMul (fLst (aCons (fC (.str "refused")) aNil)) (fC (.int 12)))) (bin gEq (callB (g1 gRepr) (aCons (fTup (aCons (fV 2) (aCons (fV 3) aNil))) aNil)) (fV 4))))))))))))))))))
theorem sc__law_fits : FnScope ["state", "width", "first", "second", "kept", "one", "two", "wide", "both", "told", "k", "goal", "answer", "rows", "far", "bad", "row", "other", "at", "places", "kind"] ["state"] (defScope s__law_fits) := ⟨rfl, rfl, rfl, by decide +kernel, rfl, by decide +kernel, by decide +kernel⟩
theorem k__law_fits {P : Program} {G : Glb} {mg : Str → Option Value} {base : Heap} (d : Def G mg "_law_fits" s__law_fits ["state"]) (B : NoG mg blts) (c__law_told : Cal P G mg base 6 "_law_told" [false, false, false, false, false] S__law_told) (c__law_same : Cal P G mg base 1 "_law_same" [false, false] S__law_same) (c__law_made : Cal P G mg base 1 "_law_made" [false, false, false] S__law_made) (c__law_next : Cal P G mg base 1 "_law_next" [true, false] S__law_next) (c_across : Cal P G mg base 4 "across" [false, false] S_across) (c__law_is_basis : Cal P G mg base 2 "_law_is_basis" [false, false] S__law_is_basis) (c__law_span : Cal P G mg base 1 "_law_span" [false] S__law_span) (c__law_odd : Cal P G mg base 1 "_law_odd" [false] S__law_odd) (c__law_some_rows : Cal P G mg base 2 "_law_some_rows" [true, false, false] S__law_some_rows) : Cal P G mg base 7 "_law_fits" [true] (specOf [true] 21 F__law_fits) :=
  Def.cal (k := 6) d sc__law_fits rfl rfl fun f cdv A outer s H E cx =>
  (s_cons (s_set cx.nd rfl (by first | exact Or.inl rfl | exact Or.inr rfl) (by decide) rfl (e_Z (e_add cx pc_int (e_callC cx c__law_next rfl (by decide) (pa_consV pv_V (pa_consV pc_int pa_nilV))))))
  (s_cons (s_set cx.nd rfl (by first | exact Or.inl rfl | exact Or.inr rfl) (by decide) rfl (e_Z (e_callC cx c__law_some_rows rfl (by decide) (pa_consV pv_V (pa_consV pv_V (pa_consV pc_int pa_nilV))))))
  (s_cons (s_set cx.nd rfl (by first | exact Or.inl rfl | exact Or.inr rfl) (by decide) rfl (e_Z (e_callC cx c__law_some_rows rfl (by decide) (pa_consV pv_V (pa_consV pv_V (pa_consV pc_int pa_nilV))))))
  (s_cons (s_set cx.nd rfl (by first | exact Or.inl rfl | exact Or.inr rfl) (by decide) rfl (e_blt (b_repr cx) (B.n "repr" (by decide +kernel)) (pa_consV (e_tup (pa_consV pv_V (pa_consV pv_V pa_nilV))) pa_nilV)))
  (s_cons (s_set cx.nd rfl (by first | exact Or.inl rfl | exact Or.inr rfl) (by decide) rfl (e_Z (e_callC cx c__law_span rfl (by decide) (pa_consV pv_V pa_nilV))))
  (s_cons (s_set cx.nd rfl (by first | exact Or.inl rfl | exact Or.inr rfl) (by decide) rfl (e_Z (e_callC cx c__law_span rfl (by decide) (pa_consV pv_V pa_nilV))))
  (s_cons (s_setCompZ cx rfl rfl rfl (by decide) rfl (n := 21) (i_R1 (B.n "range" (by decide +kernel)) (pa_consV (e_shl pc_int pv_V) pa_nilV)) (own := [("row", 16)]) rfl rfl rfl (fun _ _ _ _ _ => (g_name (Cxt.blk cx _ _ _ _ _).nd rfl (by first | exact Or.inl rfl | exact Or.inr rfl) (by decide) rfl)) (fun _ _ _ _ _ => pts_one (t_not (t_tru (Cxt.blk cx _ _ _ _ _).K (e_blt (b_any2 (Cxt.blk cx _ _ _ _ _)) (B.n "any" (by decide +kernel)) (pa_consV (e_comp (Cxt.blk cx _ _ _ _ _) rfl (n := 21) (i_E (Cxt.blk cx _ _ _ _ _).K pv_V) (own := [("other", 17)]) rfl rfl rfl (fun _ _ _ _ _ => (g_name (Cxt.blk (Cxt.blk cx _ _ _ _ _) _ _ _ _ _).nd rfl (by first | exact Or.inl rfl | exact Or.inr rfl) (by decide) rfl)) (fun _ _ _ _ _ => pts_nil) (fun σ H Q ⟨ρ, P, F, nw, h⟩ => h P H F nw Stp.refl) (fun _ _ _ _ _ => (e_callC (Cxt.blk (Cxt.blk cx _ _ _ _ _) _ _ _ _ _) c__law_odd rfl (by decide) (pa_consV (e_and pv_V pv_V) pa_nilV)))) pa_nilV))))) (fun _ _ _ h => h) (fun _ _ _ _ _ => pv_V) (by intro _; rfl) (sw_true rfl rfl rfl rfl))
  (s_cons (s_setCompZ cx rfl rfl rfl (by decide) rfl (n := 21) (i_E cx.K pv_V) (own := [("row", 16)]) rfl rfl rfl (fun _ _ _ _ _ => (g_name (Cxt.blk cx _ _ _ _ _).nd rfl (by first | exact Or.inl rfl | exact Or.inr rfl) (by decide) rfl)) (fun _ _ _ _ _ => pts_one (t_in (Cxt.blk cx _ _ _ _ _) pv_V pv_V)) (fun _ _ _ h => h) (fun _ _ _ _ _ => pv_V) (by intro _; rfl) (sw_true rfl rfl rfl rfl))
  (s_cons (s_set cx.nd rfl (by first | exact Or.inl rfl | exact Or.inr rfl) (by decide) rfl (e_Z (e_lst (pa_consV (e_callC cx c__law_told rfl (by decide) (pa_consV pc_int (pa_consV pv_V (pa_consV pv_V (pa_consV pc_int (pa_consV pc_int pa_nilV)))))) (pa_consV (e_callC cx c__law_told rfl (by decide) (pa_consV pc_int (pa_consV pv_V (pa_consV pv_V (pa_consV pc_int (pa_consV pc_int pa_nilV)))))) (pa_consV (e_callC cx c__law_told rfl (by decide) (pa_consV pc_int (pa_consV pv_V (pa_consV pv_V (pa_consV pv_V (pa_consV pc_int pa_nilV)))))) (pa_consV (e_callC cx c__law_told rfl (by decide) (pa_consV pc_int (pa_consV pv_V (pa_consV pv_V (pa_consV pv_V (pa_consV pc_int pa_nilV)))))) pa_nilV)))))))
  (s_cons (s_for (passes_of rfl) cx.calm (i_R1 (B.n "range" (by decide +kernel)) (pa_consV pc_int pa_nilV)) (g_name cx.nd rfl (by first | exact Or.inl rfl | exact Or.inr rfl) (by decide) rfl) (s_one (s_if (PW.pt (w_or (t_cmp (c_ne cx) (e_ix cx (e_ix cx pv_V pv_V) pc_int) pc_str) (w_or1 (t_not (t_tru cx.K (e_callC cx c__law_is_basis rfl (by decide) (pa_consV (e_ix cx (e_ix cx pv_V pv_V) pc_int) (pa_consV (e_ix cx (e_lst (pa_consV pv_V (pa_consV pv_V (pa_consV pv_V (pa_consV (e_callC cx c__law_span rfl (by decide) (pa_consV (e_add cx pv_V pv_V) pa_nilV)) pa_nilV))))) pv_V) pa_nilV)))))))) (s_one (s_ret pc_bl)) s_nil)))
  (s_cons (s_if (t_cmp (c_ne cx) (e_callC cx c_across rfl (by decide) (pa_consV pv_V (pa_consV (e_ix cx (e_ix cx pv_V pc_int) pc_int) pa_nilV))) (e_ix cx (e_ix cx pv_V pc_int) pc_int)) (s_one (s_ret pc_bl)) s_nil)
  (s_cons (s_for (passes_of rfl) cx.calm (i_R1 (B.n "range" (by decide +kernel)) (pa_consV pc_int pa_nilV)) (g_name cx.nd rfl (by first | exact Or.inl rfl | exact Or.inr rfl) (by decide) rfl) (s_cons (s_set cx.nd rfl (by first | exact Or.inl rfl | exact Or.inr rfl) (by decide) rfl (e_ix cx (e_lst (pa_consV (e_callC cx c__law_next rfl (by decide) (pa_consV pv_V (pa_consV (e_shl pc_int pv_V) pa_nilV))) (pa_consV (e_ix cx pv_V (e_callC cx c__law_next rfl (by decide) (pa_consV pv_V (pa_consV (e_blt (b_len cx) (B.n "len" (by decide +kernel)) (pa_consV pv_V pa_nilV)) pa_nilV)))) pa_nilV))) (e_callC cx c__law_next rfl (by decide) (pa_consV pv_V (pa_consV pc_int pa_nilV)))))
  (s_cons (s_set cx.nd rfl (by first | exact Or.inl rfl | exact Or.inr rfl) (by decide) rfl (e_Z (e_callC cx c__law_told rfl (by decide) (pa_consV pc_int (pa_consV pv_V (pa_consV pv_V (pa_consV pv_V (pa_consV pc_int pa_nilV))))))))
  (s_cons (s_if (PW.pt (w_or (t_not (t_tru cx.K (e_callC cx c__law_same rfl (by decide) (pa_consV (e_callC cx c__law_told rfl (by decide) (pa_consV pc_int (pa_consV pv_V (pa_consV pv_V (pa_consV pv_V (pa_consV pc_int pa_nilV)))))) (pa_consV (e_tup (pa_consV pc_str (pa_consV (e_in cx pv_V pv_V) pa_nilV))) pa_nilV))))) (w_or1 (t_cmp (c_ne cx) (e_cmp (c_eq cx) pv_V pc_str) (e_notIn cx pv_V pv_V))))) (s_one (s_ret pc_bl)) s_nil)
  (s_cons (s_set cx.nd rfl (by first | exact Or.inl rfl | exact Or.inr rfl) (by decide) rfl (e_Z (e_lst (pa_consV (e_tup pa_nilV) (pa_consV (e_ty (b_tuple cx) (B.n "tuple" (by decide +kernel)) (pa_consV (e_comp cx rfl (n := 21) (i_R1 (B.n "range" (by decide +kernel)) (pa_consV (e_blt (b_len cx) (B.n "len" (by decide +kernel)) (pa_consV pv_V pa_nilV)) pa_nilV)) (own := [("at", 18)]) rfl rfl rfl (fun _ _ _ _ _ => (g_name (Cxt.blk cx _ _ _ _ _).nd rfl (by first | exact Or.inl rfl | exact Or.inr rfl) (by decide) rfl)) (fun _ _ _ _ _ => pts_one (t_cmp (c_eq (Cxt.blk cx _ _ _ _ _)) (e_callC (Cxt.blk cx _ _ _ _ _) c__law_next rfl (by decide) (pa_consV pv_V (pa_consV pc_int pa_nilV))) pc_int)) (fun _ _ _ h => h) (fun _ _ _ _ _ => pv_V)) pa_nilV)) (pa_consV (e_tup (pa_consV pc_int (pa_consV pc_int pa_nilV))) (pa_consV (e_tup (pa_consV (e_blt (b_len cx) (B.n "len" (by decide +kernel)) (pa_consV pv_V pa_nilV)) pa_nilV)) (pa_consV (e_tup (pa_consV (e_neg pc_int) pa_nilV)) pa_nilV))))))))
  (s_cons (s_if (t_in cx pv_V pv_V) (s_cons (s_if (PW.pt (w_or (t_not (t_tru cx.K (e_isTup cx.K (B.n "isinstance" (by decide +kernel)) (B.n "tuple" (by decide +kernel)) (e_ix cx pv_V pc_int)))) (w_or1 (t_not (t_tru cx.K (e_callC cx c__law_made rfl (by decide) (pa_consV pv_V (pa_consV pv_V (pa_consV (e_ix cx pv_V pc_int) pa_nilV))))))))) (s_one (s_ret pc_bl)) s_nil)
  (s_one (s_set cx.nd rfl (by first | exact Or.inl rfl | exact Or.inr rfl) (by decide) rfl (e_Z (e_add cx pv_V (e_lst (pa_consV (e_ix cx pv_V pc_int) (pa_consV (e_rev cx.K (e_ix cx pv_V pc_int)) (pa_consV (e_sl cx.K (e_ix cx pv_V pc_int) (o_so pc_int) o_no) pa_nilV))))))))) s_nil)
  (s_one (s_if (t_not (t_tru cx.K (e_blt (b_all2 cx) (B.n "all" (by decide +kernel)) (pa_consV (e_comp cx rfl (n := 21) (i_E cx.K pv_V) (own := [("places", 19)]) rfl rfl rfl (fun _ _ _ _ _ => (g_name (Cxt.blk cx _ _ _ _ _).nd rfl (by first | exact Or.inl rfl | exact Or.inr rfl) (by decide) rfl)) (fun _ _ _ _ _ => pts_nil) (fun σ H Q ⟨ρ, P, F, nw, h⟩ => h P H F nw Stp.refl) (fun _ _ _ _ _ => (e_callC (Cxt.blk cx _ _ _ _ _) c__law_same rfl (by decide) (pa_consV (e_callC (Cxt.blk cx _ _ _ _ _) c__law_told rfl (by decide) (pa_consV pc_int (pa_consV pv_V (pa_consV pv_V (pa_consV pv_V (pa_consV pv_V pa_nilV)))))) (pa_consV (e_tup (pa_consV pc_str (pa_consV (e_callC (Cxt.blk cx _ _ _ _ _) c__law_made rfl (by decide) (pa_consV pv_V (pa_consV pv_V (pa_consV pv_V pa_nilV)))) pa_nilV))) pa_nilV))))) pa_nilV)))) (s_one (s_ret pc_bl)) s_nil))))))))
  (s_cons (s_set cx.nd rfl (by first | exact Or.inl rfl | exact Or.inr rfl) (by decide) rfl (e_shl pc_int pv_V))
  (s_cons (s_set cx.nd rfl (by first | exact Or.inl rfl | exact Or.inr rfl) (by decide) rfl (e_Z (e_add cx (e_add cx (e_add cx (e_comp cx rfl (n := 21) (i_R1 (B.n "range" (by decide +kernel)) (pa_consV pc_int pa_nilV)) (own := [("kind", 20)]) rfl rfl rfl (fun _ _ _ _ _ => (g_name (Cxt.blk cx _ _ _ _ _).nd rfl (by first | exact Or.inl rfl | exact Or.inr rfl) (by decide) rfl)) (fun _ _ _ _ _ => pts_nil) (fun σ H Q ⟨ρ, P, F, nw, h⟩ => h P H F nw Stp.refl) (fun _ _ _ _ _ => (e_callC (Cxt.blk cx _ _ _ _ _) c__law_told rfl (by decide) (pa_consV pv_V (pa_consV pv_V (pa_consV (e_add (Cxt.blk cx _ _ _ _ _) pv_V (e_tup (pa_consV pv_V pa_nilV))) (pa_consV pc_int (pa_consV (e_tup pa_nilV) pa_nilV)))))))) (e_comp cx rfl (n := 21) (i_R1 (B.n "range" (by decide +kernel)) (pa_consV pc_int pa_nilV)) (own := [("kind", 20)]) rfl rfl rfl (fun _ _ _ _ _ => (g_name (Cxt.blk cx _ _ _ _ _).nd rfl (by first | exact Or.inl rfl | exact Or.inr rfl) (by decide) rfl)) (fun _ _ _ _ _ => pts_nil) (fun σ H Q ⟨ρ, P, F, nw, h⟩ => h P H F nw Stp.refl) (fun _ _ _ _ _ => (e_callC (Cxt.blk cx _ _ _ _ _) c__law_told rfl (by decide) (pa_consV pv_V (pa_consV pv_V (pa_consV (e_add (Cxt.blk cx _ _ _ _ _) pv_V (e_tup (pa_consV (e_neg pc_int) pa_nilV))) (pa_consV pc_int (pa_consV (e_tup pa_nilV) pa_nilV))))))))) (e_comp cx rfl (n := 21) (i_E cx.K (e_lst (pa_consV pc_int (pa_consV pc_int pa_nilV)))) (own := [("kind", 20)]) rfl rfl rfl (fun _ _ _ _ _ => (g_name (Cxt.blk cx _ _ _ _ _).nd rfl (by first | exact Or.inl rfl | exact Or.inr rfl) (by decide) rfl)) (fun _ _ _ _ _ => pts_nil) (fun σ H Q ⟨ρ, P, F, nw, h⟩ => h P H F nw Stp.refl) (fun _ _ _ _ _ => (e_callC (Cxt.blk cx _ _ _ _ _) c__law_told rfl (by decide) (pa_consV pv_V (pa_consV pv_V (pa_consV pv_V (pa_consV (e_tup (pa_consV pv_V pa_nilV)) (pa_consV pc_int pa_nilV))))))))) (e_comp cx rfl (n := 21) (i_E cx.K (e_lst (pa_consV pc_int (pa_consV pc_int (pa_consV pc_int pa_nilV))))) (own := [("kind", 20)]) rfl rfl rfl (fun _ _ _ _ _ => (g_name (Cxt.blk cx _ _ _ _ _).nd rfl (by first | exact Or.inl rfl | exact Or.inr rfl) (by decide) rfl)) (fun _ _ _ _ _ => pts_nil) (fun σ H Q ⟨ρ, P, F, nw, h⟩ => h P H F nw Stp.refl) (fun _ _ _ _ _ => (e_callC (Cxt.blk cx _ _ _ _ _) c__law_told rfl (by decide) (pa_consV pv_V (pa_consV pv_V (pa_consV pv_V (pa_consV pv_V (pa_consV (e_tup pa_nilV) pa_nilV)))))))))))
  (s_one (s_ret (e_andV cx.K (e_cmp (c_eq cx) (e_add cx (e_sl cx.K pv_V o_no (o_so pc_int)) (e_sl cx.K pv_V (o_so pc_int) o_no)) (e_mul cx (e_lst (pa_consV pc_str pa_nilV)) pc_int)) (e_one (e_cmp (c_eq cx) (e_blt (b_repr cx) (B.n "repr" (by decide +kernel)) (pa_consV (e_tup (pa_consV pv_V (pa_consV pv_V pa_nilV))) pa_nilV)) pv_V)))))))))))))))))))
noncomputable def S__law_fits : CSpec := specOf [true] 21 F__law_fits
theorem e__law_fits : ∀ ws, S__law_fits ws ≠ .stk → specOf [true] 21 F__law_fits ws = S__law_fits ws := fun _ _ => rfl
abbrev s_law : Stmt := top 36
noncomputable def F_law : FS := (sSeq (sSet 1 (fLst (aCons (fCall [false] S__law_stream (aCons (fV 0) aNil)) (aCons (fC (.int 0)) aNil))))
  (sSeq (sFor (iR1 (aCons (fC (.int 4)) aNil)) (bN 2) (sIf (tNotV (tTr (fCall [true] S__law_fits (aCons (fV 1) aNil)))) (sRet (fC (.bool false))) sNext))
  (sSeq (sSet 3 (fZ (fLst (aCons (fCall [false, false, false, false, false] S__law_told (aCons (fC (.int 0)) (aCons (fC (.int 16)) (aCons (bin gMul (fTup (aCons (fC (.int 65535)) aNil)) (fC (.int 60))) (aCons (fC (.int 0)) (aCons (fC (.int 0)) aNil)))))) (aCons (fCall [false, false, false, false, false] S__law_told (aCons (fC (.int 0)) (aCons (fC (.int 16)) (aCons (bin gMul (fTup (aCons (fC (.int 1)) aNil)) (fC (.int 61))) (aCons (fC (.int 0)) (aCons (fC (.int 0)) aNil)))))) (aCons (fCall [false, false, false, false, false] S__law_told (aCons (fC (.int 0)) (aCons (fC (.int 17)) (aCons (fTup aNil) (aCons (fC (.int 0)) (aCons (fC (.int 0)) aNil)))))) (aCons (fCall [false, false, false, false, false] S__law_told (aCons (fC (.int 1)) (aCons (fC (.int 0)) (aCons (fTup aNil) (aCons (fC (.int 0)) (aCons (fC (.int 0)) aNil)))))) (aCons (fCall [false, false, false, false, false] S__law_told (aCons (fC (.int 1)) (aCons (fC (.int 16)) (aCons (fTup aNil) (aCons (fC (.int 0)) (aCons (fC (.int 0)) aNil)))))) (aCons (fCall [false, false, false, false, false] S__law_told (aCons (fC (.int 5)) (aCons (fC (.int 2)) (aCons (fTup aNil) (aCons (fC (.int 0)) (aCons (fC (.int 0)) aNil)))))) aNil)))))))))
  (sRet (fCall [false, false] S__law_same (aCons (bin gAdd (fV 3) (fLst (aCons (fC (.int 60)) (aCons (fC (.int 16)) aNil)))) (aCons (fLst (aCons (fTup (aCons (fC (.str "told")) (aCons (fTup (aCons (fC (.int 65535)) aNil)) aNil))) (aCons (fC (.str "refused")) (aCons (fC (.str "refused")) (aCons (fC (.str "refused")) (aCons (fTup (aCons (fC (.str "told")) (aCons (callB (g1 gTuple) (aCons (fComp [4] (iR3 (aCons (fC (.int 15)) (aCons (una (gU fun i => -i) (fC (.int 1))) (aCons (una (gU fun i => -i) (fC (.int 1))) aNil)))) (bN 4) cT (bin gShl (fC (.int 1)) (fV 4))) aNil)) aNil))) (aCons (fTup (aCons (fC (.str "told")) (aCons (fTup aNil) aNil))) (aCons (fC (.int 60)) (aCons (fC (.int 16)) aNil))))))))) aNil)))))))
theorem sc_law : FnScope ["script", "state", "turn", "told", "at"] ["script"] (defScope s_law) := ⟨rfl, rfl, rfl, by decide +kernel, rfl, by decide +kernel, by decide +kernel⟩
theorem k_law {P : Program} {G : Glb} {mg : Str → Option Value} {base : Heap} {f : Addr} {fd : FuncData} (d : Fun G.K "law" "law" s_law f fd) (B : NoG mg blts) (c__law_same : Cal P G mg base 1 "_law_same" [false, false] S__law_same) (c__law_told : Cal P G mg base 6 "_law_told" [false, false, false, false, false] S__law_told) (c__law_fits : Cal P G mg base 7 "_law_fits" [true] S__law_fits) (c__law_stream : Cal P G mg base 1 "_law_stream" [false] S__law_stream) (T_MAX_WIDTH : ∃ t, mg "MAX_WIDTH" = some (Value.int 16 t)) (T_MAX_SHOWN_ROWS : ∃ t, mg "MAX_SHOWN_ROWS" = some (Value.int 60 t)) : FnG P G.w G.K mg base 8 f fd ["script"] (spV G [false] (specOf [false] 5 F_law)) :=
  fn_def (k := 7) d sc_law rfl rfl fun cdv A outer s H E cx =>
  (s_cons (s_set cx.nd rfl (by first | exact Or.inl rfl | exact Or.inr rfl) (by decide) rfl (e_lst (pa_consV (e_callC cx c__law_stream rfl (by decide) (pa_consV pv_V pa_nilV)) (pa_consV pc_int pa_nilV))))
  (s_cons (s_for (passes_of rfl) cx.calm (i_R1 (B.n "range" (by decide +kernel)) (pa_consV pc_int pa_nilV)) (g_name cx.nd rfl (by first | exact Or.inl rfl | exact Or.inr rfl) (by decide) rfl) (s_one (s_if (t_not (t_tru cx.K (e_callC cx c__law_fits rfl (by decide) (pa_consV pv_V pa_nilV)))) (s_one (s_ret pc_bl)) s_nil)))
  (s_cons (s_set cx.nd rfl (by first | exact Or.inl rfl | exact Or.inr rfl) (by decide) rfl (e_Z (e_lst (pa_consV (e_callC cx c__law_told rfl (by decide) (pa_consV pc_int (pa_consV pc_int (pa_consV (e_mul cx (e_tup (pa_consV pc_int pa_nilV)) pc_int) (pa_consV pc_int (pa_consV pc_int pa_nilV)))))) (pa_consV (e_callC cx c__law_told rfl (by decide) (pa_consV pc_int (pa_consV pc_int (pa_consV (e_mul cx (e_tup (pa_consV pc_int pa_nilV)) pc_int) (pa_consV pc_int (pa_consV pc_int pa_nilV)))))) (pa_consV (e_callC cx c__law_told rfl (by decide) (pa_consV pc_int (pa_consV pc_int (pa_consV (e_tup pa_nilV) (pa_consV pc_int (pa_consV pc_int pa_nilV)))))) (pa_consV (e_callC cx c__law_told rfl (by decide) (pa_consV pc_int (pa_consV pc_int (pa_consV (e_tup pa_nilV) (pa_consV pc_int (pa_consV pc_int pa_nilV)))))) (pa_consV (e_callC cx c__law_told rfl (by decide) (pa_consV pc_int (pa_consV pc_int (pa_consV (e_tup pa_nilV) (pa_consV pc_int (pa_consV pc_int pa_nilV)))))) (pa_consV (e_callC cx c__law_told rfl (by decide) (pa_consV pc_int (pa_consV pc_int (pa_consV (e_tup pa_nilV) (pa_consV pc_int (pa_consV pc_int pa_nilV)))))) pa_nilV)))))))))
  (s_one (s_ret (e_callC cx c__law_same rfl (by decide) (pa_consV (e_add cx pv_V (e_lst (pa_consV (pc_glob (v := .int 60) (by exact rfl) T_MAX_SHOWN_ROWS.choose_spec ⟨_, rfl⟩ fun _ => .int _) (pa_consV (pc_glob (v := .int 16) (by exact rfl) T_MAX_WIDTH.choose_spec ⟨_, rfl⟩ fun _ => .int _) pa_nilV)))) (pa_consV (e_lst (pa_consV (e_tup (pa_consV pc_str (pa_consV (e_tup (pa_consV pc_int pa_nilV)) pa_nilV))) (pa_consV pc_str (pa_consV pc_str (pa_consV pc_str (pa_consV (e_tup (pa_consV pc_str (pa_consV (e_ty (b_tuple cx) (B.n "tuple" (by decide +kernel)) (pa_consV (e_comp cx rfl (n := 5) (i_R3 (B.n "range" (by decide +kernel)) (pa_consV pc_int (pa_consV (e_neg pc_int) (pa_consV (e_neg pc_int) pa_nilV)))) (own := [("at", 4)]) rfl rfl rfl (fun _ _ _ _ _ => (g_name (Cxt.blk cx _ _ _ _ _).nd rfl (by first | exact Or.inl rfl | exact Or.inr rfl) (by decide) rfl)) (fun _ _ _ _ _ => pts_nil) (fun σ H Q ⟨ρ, P, F, nw, h⟩ => h P H F nw Stp.refl) (fun _ _ _ _ _ => (e_shl pc_int pv_V))) pa_nilV)) pa_nilV))) (pa_consV (e_tup (pa_consV pc_str (pa_consV (e_tup pa_nilV) pa_nilV))) (pa_consV pc_int (pa_consV pc_int pa_nilV))))))))) pa_nilV))))))))
noncomputable def S_law : CSpec := specOf [false] 5 F_law
theorem e_law : ∀ ws, S_law ws ≠ .stk → specOf [false] 5 F_law ws = S_law ws := fun _ _ => rfl
end K35
end
section
set_option Elab.async false
set_option linter.all false
set_option maxRecDepth 100000
/-! K35m: spans of rows of bits -/
namespace K35
inductive Sp (S : List Nat) : Nat → Prop
  | zero : Sp S 0
  | add {r x : Nat} : r ∈ S → Sp S x → Sp S (x ^^^ r)
section
variable {S T B F : List Nat} {x y r b p w s : Nat}
theorem Sp.one (h : r ∈ S) : Sp S r := by
  have := Sp.add h Sp.zero
  rwa [Nat.zero_xor] at this
theorem Sp.xor (hx : Sp S x) (hy : Sp S y) : Sp S (x ^^^ y) := by
  induction hy with
  | zero => rwa [Nat.xor_zero]
  | add h _ ih => rw [← Nat.xor_assoc]; exact .add h ih
theorem Sp.sub (h : ∀ r ∈ S, Sp T r) (hx : Sp S x) : Sp T x := by
  induction hx with
  | zero => exact .zero
  | add hr _ ih => exact ih.xor (h _ hr)
theorem Sp.mono (h : ∀ r ∈ S, r ∈ T) (hx : Sp S x) : Sp T x := hx.sub fun r hr => .one (h r hr)
theorem xor_back (x y : Nat) : (x ^^^ y) ^^^ y = x := by rw [Nat.xor_assoc, Nat.xor_self, Nat.xor_zero]
theorem xor_back' (x y : Nat) : x ^^^ (x ^^^ y) = y := by rw [← Nat.xor_assoc, Nat.xor_self, Nat.zero_xor]
theorem Sp.back (hx : Sp S (x ^^^ y)) (hy : Sp S y) : Sp S x := by
  have := hx.xor hy
  rwa [xor_back] at this
theorem Sp.back' (hx : Sp S (x ^^^ y)) (hy : Sp S x) : Sp S y := by
  have := hy.xor hx
  rwa [xor_back'] at this
theorem Sp.cons_iff : Sp (b :: S) x ↔ Sp S x ∨ Sp S (x ^^^ b) := by
  constructor
  · intro h
    induction h with
    | zero => exact .inl .zero
    | @add r x hr _ ih =>
      rcases List.mem_cons.mp hr with rfl | hr
      · rcases ih with h | h
        · exact .inr (by rw [xor_back]; exact h)
        · exact .inl h
      · rcases ih with h | h
        · exact .inl (.add hr h)
        · refine .inr ?_
          have := Sp.add hr h
          rwa [Nat.xor_assoc, Nat.xor_comm b r, ← Nat.xor_assoc] at this
  · rintro (h | h)
    · exact h.mono fun r hr => List.mem_cons_of_mem _ hr
    · exact (h.mono fun r hr => List.mem_cons_of_mem _ hr).back (.one (by simp))
theorem Sp.lt (h : ∀ r ∈ S, r < 2 ^ w) (hx : Sp S x) : x < 2 ^ w := by
  induction hx with
  | zero => exact Nat.two_pow_pos w
  | add hr _ ih => exact Nat.xor_lt_two_pow ih (h _ hr)
/-! what is left over -/
def lo : List Nat → Nat → Nat
  | [], r => r
  | b :: B, r => lo B (if r.testBit b.log2 = true then r ^^^ b else r)
theorem lo_sp : ∀ (B : List Nat) (r : Nat), Sp B (r ^^^ lo B r)
  | [], r => by rw [lo, Nat.xor_self]; exact .zero
  | b :: B, r => by
    rw [lo]
    have h := (lo_sp B (if r.testBit b.log2 = true then r ^^^ b else r)).mono (T := b :: B) fun r hr => List.mem_cons_of_mem _ hr
    split
    · rename_i q
      rw [if_pos q] at h
      have := h.xor (Sp.one (S := b :: B) (r := b) (by simp))
      rwa [Nat.xor_assoc r b, Nat.xor_comm b (lo B _), ← Nat.xor_assoc, xor_back] at this
    · rename_i q
      rw [if_neg q] at h
      exact h
def Ech (B : List Nat) : Prop := B.Pairwise (fun b c => c.testBit b.log2 = false) ∧ ∀ b ∈ B, b ≠ 0
theorem lo_keep : ∀ {B : List Nat} {r : Nat}, (∀ b ∈ B, b.testBit p = false) → (lo B r).testBit p = r.testBit p
  | [], r, _ => rfl
  | b :: B, r, h => by
    rw [lo, lo_keep fun c hc => h c (List.mem_cons_of_mem _ hc)]
    split
    · rw [Nat.testBit_xor, h b (by simp), Bool.xor_false]
    · rfl
theorem lo_clear : ∀ {B : List Nat} {r : Nat}, Ech B → ∀ b ∈ B, (lo B r).testBit b.log2 = false
  | [], r, _ => fun b hb => by simp at hb
  | c :: B, r, h => fun b hb => by
    obtain ⟨h1, h2⟩ := h
    obtain ⟨hc, hB⟩ := List.pairwise_cons.mp h1
    rw [lo]
    rcases List.mem_cons.mp hb with rfl | hb
    · rw [lo_keep hc]
      split
      · rename_i q
        rw [Nat.testBit_xor, q, Nat.testBit_log2 (h2 b (by simp))]; rfl
      · rename_i q
        simpa using q
    · exact lo_clear ⟨hB, fun c hc => h2 c (List.mem_cons_of_mem _ hc)⟩ b hb
theorem ech_zero : ∀ {B : List Nat} {x : Nat}, Ech B → Sp B x → (∀ b ∈ B, x.testBit b.log2 = false) → x = 0
  | [], x, _, hx, _ => by
    cases hx with
    | zero => rfl
    | add h _ => simp at h
  | b :: B, x, ⟨h1, h2⟩, hx, hc => by
    obtain ⟨hb, hB⟩ := List.pairwise_cons.mp h1
    have key : ∀ y, Sp B y → y.testBit b.log2 = false := by
      intro y hy
      induction hy with
      | zero => simp
      | add hr _ ih => rw [Nat.testBit_xor, ih, hb _ hr]; rfl
    have hx' : Sp B x := by
      rcases Sp.cons_iff.mp hx with h | h
      · exact h
      · have := key _ h
        rw [Nat.testBit_xor, hc b (by simp), Nat.testBit_log2 (h2 b (by simp))] at this
        simp at this
    exact ech_zero ⟨hB, fun c hc => h2 c (List.mem_cons_of_mem _ hc)⟩ hx' fun c hc' => hc c (List.mem_cons_of_mem _ hc')
theorem lo_zero (h : Ech B) : lo B r = 0 ↔ Sp B r := by
  constructor
  · intro e
    have := lo_sp B r
    rwa [e, Nat.xor_zero] at this
  · intro hr
    exact ech_zero h ((lo_sp B r).back' hr) (lo_clear h)
/-! reduced -/
def Red (B : List Nat) : Prop := B.Nodup ∧ (∀ b ∈ B, b ≠ 0) ∧ ∀ b ∈ B, ∀ c ∈ B, c ≠ b → c.testBit b.log2 = false
theorem Red.ech (h : Red B) : Ech B := by
  refine ⟨?_, h.2.1⟩
  have h1 : B.Pairwise (fun a b => a ≠ b) := h.1
  exact h1.imp_of_mem fun ha hb hab => h.2.2 _ ha _ hb fun q => hab q.symm
theorem Red.perm (h : Red B) (p : B.Perm F) : Red F :=
  ⟨p.nodup_iff.mp h.1, fun b hb => h.2.1 b (p.mem_iff.mpr hb), fun b hb c hc => h.2.2 b (p.mem_iff.mpr hb) c (p.mem_iff.mpr hc)⟩
theorem Red.lead (h : Red B) {c : Nat} (hb : b ∈ B) (hc : c ∈ B) : c.testBit b.log2 = decide (c = b) := by
  by_cases e : c = b
  · subst e; rw [Nat.testBit_log2 (h.2.1 c hc)]; simp
  · rw [h.2.2 b hb c hc e]; simp [e]
theorem Red.log_inj (h : Red B) {c : Nat} (hb : b ∈ B) (hc : c ∈ B) (e : c.log2 = b.log2) : c = b := by
  have := h.lead hb hc
  rw [← e, Nat.testBit_log2 (h.2.1 c hc)] at this
  exact of_decide_eq_true this.symm
def clr (s b : Nat) : Nat := if b.testBit s.log2 = true then b ^^^ s else b
theorem clr_bit (h : s.testBit p = false) : (clr s b).testBit p = b.testBit p := by
  unfold clr
  split
  · rw [Nat.testBit_xor, h, Bool.xor_false]
  · rfl
theorem clr_own (hs : s ≠ 0) : (clr s b).testBit s.log2 = false := by
  unfold clr
  split
  · rename_i q
    rw [Nat.testBit_xor, q, Nat.testBit_log2 hs]; rfl
  · rename_i q
    simpa using q
theorem clr_log (hb : b ≠ 0) (hs : s ≠ 0) (h : s.testBit b.log2 = false) : (clr s b).log2 = b.log2 := by
  unfold clr
  split
  · rename_i q
    have h1 : 2 ^ s.log2 ≤ b := Nat.ge_two_pow_of_testBit q
    have h2 : s.log2 ≤ b.log2 := (Nat.le_log2 hb).mpr h1
    have h3 : s.log2 ≠ b.log2 := by
      intro e
      rw [← e, Nat.testBit_log2 hs] at h
      cases h
    have h4 : s < 2 ^ (b.log2 + 1) := Nat.lt_of_lt_of_le (Nat.lt_log2_self (n := s)) (Nat.pow_le_pow_right (by decide) (by omega))
    have h5 : (b ^^^ s).testBit b.log2 = true := by rw [Nat.testBit_xor, h, Nat.testBit_log2 hb]; rfl
    have h6 : 2 ^ b.log2 ≤ b ^^^ s := Nat.ge_two_pow_of_testBit h5
    have h7 : b ^^^ s ≠ 0 := by
      have := Nat.two_pow_pos b.log2
      omega
    exact (Nat.log2_eq_iff h7).mpr ⟨h6, Nat.xor_lt_two_pow Nat.lt_log2_self h4⟩
  · rfl
def nxB (F : List Nat) (s : Nat) : List Nat := F.map (clr s) ++ [s]
theorem nxB_red (h : Red F) (hs : s ≠ 0) (hc : ∀ b ∈ F, s.testBit b.log2 = false) : Red (nxB F s) := by
  have lg : ∀ b ∈ F, (clr s b).log2 = b.log2 := fun b hb => clr_log (h.2.1 b hb) hs (hc b hb)
  have bt : ∀ b ∈ F, ∀ c ∈ F, (clr s c).testBit b.log2 = decide (c = b) := fun b hb c hc' => by rw [clr_bit (hc b hb), h.lead hb hc']
  have nz : ∀ b ∈ F, clr s b ≠ 0 := by
    intro b hb e
    have := bt b hb b hb
    rw [e] at this
    simp at this
  have ns : ∀ b ∈ F, clr s b ≠ s := by
    intro b hb e
    have := clr_own (b := b) hs
    rw [e, Nat.testBit_log2 hs] at this
    cases this
  refine ⟨?_, ?_, ?_⟩
  · unfold nxB
    rw [List.nodup_append]
    refine ⟨?_, by simp, ?_⟩
    · show (F.map (clr s)).Pairwise _
      rw [List.pairwise_map]
      have h1 : F.Pairwise (fun a b => a ≠ b) := h.1
      refine h1.imp_of_mem fun {a b} ha hb hab e => ?_
      have := bt a ha b hb
      rw [← e, bt a ha a ha] at this
      simp at this
      exact hab this.symm
    · intro a ha b hb
      obtain ⟨c, hc', rfl⟩ := List.mem_map.mp ha
      simp at hb
      subst hb
      exact ns c hc'
  · intro b hb
    unfold nxB at hb
    rcases List.mem_append.mp hb with hb | hb
    · obtain ⟨c, hc', rfl⟩ := List.mem_map.mp hb
      exact nz c hc'
    · simp at hb; subst hb; exact hs
  · intro b hb c hc' hne
    unfold nxB at hb hc'
    rcases List.mem_append.mp hb with hb | hb
    · obtain ⟨b', hb', rfl⟩ := List.mem_map.mp hb
      rw [lg b' hb']
      rcases List.mem_append.mp hc' with hc' | hc'
      · obtain ⟨c', hc2, rfl⟩ := List.mem_map.mp hc'
        rw [bt b' hb' c' hc2]
        simp
        rintro rfl; exact hne rfl
      · simp at hc'; subst hc'; exact hc b' hb'
    · simp at hb; subst hb
      rcases List.mem_append.mp hc' with hc' | hc'
      · obtain ⟨c', hc', rfl⟩ := List.mem_map.mp hc'
        exact clr_own hs
      · simp at hc'; subst hc'; exact (hne rfl).elim
theorem nxB_sp : Sp (nxB F (lo F r)) x ↔ Sp (F ++ [r]) x := by
  have e := lo_sp F r
  constructor
  · refine Sp.sub fun y hy => ?_
    have hs : Sp (F ++ [r]) (lo F r) := (e.mono fun z hz => List.mem_append_left _ hz).back' (.one (by simp))
    unfold nxB at hy
    rcases List.mem_append.mp hy with hy | hy
    · obtain ⟨b, hb, rfl⟩ := List.mem_map.mp hy
      have hb' : Sp (F ++ [r]) b := .one (by simp [hb])
      unfold clr
      split
      · exact hb'.xor hs
      · exact hb'
    · simp at hy; subst hy; exact hs
  · have hs : Sp (nxB F (lo F r)) (lo F r) := .one (by simp [nxB])
    have hF : ∀ b ∈ F, Sp (nxB F (lo F r)) b := by
      intro b hb
      have h1 : Sp (nxB F (lo F r)) (clr (lo F r) b) := .one (by unfold nxB; exact List.mem_append_left _ (List.mem_map.mpr ⟨b, hb, rfl⟩))
      unfold clr at h1
      split at h1
      · exact h1.back hs
      · exact h1
    refine Sp.sub fun y hy => ?_
    rcases List.mem_append.mp hy with hy | hy
    · exact hF y hy
    · simp at hy; subst hy
      exact (e.sub hF).back hs
def sortN (l : List Nat) : List Nat := l.mergeSort fun a b => decide (b ≤ a)
theorem perm_sortN (l : List Nat) : (sortN l).Perm l := List.mergeSort_perm _ _
theorem pw_sortN (l : List Nat) : (sortN l).Pairwise (· ≥ ·) := by
  have := List.pairwise_mergeSort (le := fun a b : Nat => decide (b ≤ a)) (fun a b c h1 h2 => by simp at *; omega) (fun a b => by simp; omega) l
  exact this.imp fun h => by simpa using h
def stB (F : List Nat) (r : Nat) : List Nat := if lo F r = 0 then F else sortN (nxB F (lo F r))
def bas (rows : List Nat) : List Nat := rows.foldl stB []
structure BInv (F rows : List Nat) : Prop where
  red : Red F
  srt : F.Pairwise (· > ·)
  sp : ∀ x, Sp F x ↔ Sp rows x
  len : F.length ≤ rows.length
theorem sp_perm (h : S.Perm T) : Sp S x ↔ Sp T x := ⟨Sp.mono fun r hr => h.mem_iff.mp hr, Sp.mono fun r hr => h.mem_iff.mpr hr⟩
theorem sp_appB {rows : List Nat} (h : ∀ x, Sp F x ↔ Sp rows x) : Sp (F ++ [r]) x ↔ Sp (rows ++ [r]) x := by
  constructor
  · refine Sp.sub fun y hy => ?_
    rcases List.mem_append.mp hy with hy | hy
    · exact ((h y).mp (.one hy)).mono fun z hz => List.mem_append_left _ hz
    · exact .one (List.mem_append_right _ hy)
  · refine Sp.sub fun y hy => ?_
    rcases List.mem_append.mp hy with hy | hy
    · exact ((h y).mpr (.one hy)).mono fun z hz => List.mem_append_left _ hz
    · exact .one (List.mem_append_right _ hy)
theorem stB_inv {rows : List Nat} (h : BInv F rows) (r : Nat) : BInv (stB F r) (rows ++ [r]) := by
  unfold stB
  split
  · rename_i e
    refine ⟨h.red, h.srt, fun x => ?_, by have := h.len; simp; omega⟩
    rw [← sp_appB h.sp]
    constructor
    · exact Sp.mono fun z hz => List.mem_append_left _ hz
    · refine Sp.sub fun y hy => ?_
      rcases List.mem_append.mp hy with hy | hy
      · exact .one hy
      · simp at hy; subst hy
        exact (lo_zero h.red.ech).mp e
  · rename_i e
    have hr := nxB_red h.red e (lo_clear h.red.ech)
    refine ⟨hr.perm (perm_sortN _).symm, ?_, fun x => ?_, ?_⟩
    · have h1 := pw_sortN (nxB F (lo F r))
      have h2 : (sortN (nxB F (lo F r))).Pairwise (fun a b => a ≠ b) := (hr.perm (perm_sortN _).symm).1
      exact (h1.and h2).imp fun ⟨a, b⟩ => by omega
    · rw [sp_perm (perm_sortN _), nxB_sp]
      exact sp_appB h.sp
    · have := h.len
      rw [(perm_sortN _).length_eq]
      simp [nxB]; exact this
theorem bas_go : ∀ (rows F pre : List Nat), BInv F pre → BInv (rows.foldl stB F) (pre ++ rows)
  | [], F, pre, h => by simpa using h
  | r :: rows, F, pre, h => by
    have := bas_go rows _ _ (stB_inv h r)
    simpa using this
theorem bas_inv (rows : List Nat) : BInv (bas rows) rows := by
  have := bas_go rows [] [] ⟨⟨by simp, by simp, by simp⟩, by simp, fun x => Iff.rfl, by simp⟩
  show BInv (rows.foldl stB []) rows
  simpa using this
theorem bas_lt {rows : List Nat} (h : ∀ r ∈ rows, r < 2 ^ w) : ∀ b ∈ bas rows, b < 2 ^ w := fun b hb => ((bas_inv rows).sp b).mp (.one hb) |>.lt h
/-! there is but one -/
theorem lo_lead : ∀ {B : List Nat} {r : Nat}, (∀ b ∈ B, b.log2 ≠ p) → r < 2 ^ (p + 1) → r.testBit p = true → (lo B r).testBit p = true
  | [], r, _, _, h => h
  | b :: B, r, hb, h1, h2 => by
    rw [lo]
    have hB : ∀ c ∈ B, c.log2 ≠ p := fun c hc => hb c (List.mem_cons_of_mem _ hc)
    split
    · rename_i q
      have h3 : b.log2 < p + 1 := by
        rcases Nat.lt_or_ge b.log2 (p + 1) with g | g
        · exact g
        · have := Nat.testBit_lt_two_pow (x := r) (i := b.log2) (Nat.lt_of_lt_of_le h1 (Nat.pow_le_pow_right (by decide) g))
          rw [this] at q; cases q
      have h4 := hb b (by simp)
      have h5 : b < 2 ^ p := Nat.lt_of_lt_of_le (Nat.lt_log2_self (n := b)) (Nat.pow_le_pow_right (by decide) (by omega))
      refine lo_lead hB (Nat.xor_lt_two_pow h1 (Nat.lt_of_lt_of_le h5 (Nat.pow_le_pow_right (by decide) (by omega)))) ?_
      rw [Nat.testBit_xor, h2, Nat.testBit_lt_two_pow h5]; rfl
    · exact lo_lead hB h1 h2
theorem lead_mem (h : Ech B) (hx : Sp B x) (h0 : x ≠ 0) : ∃ b ∈ B, b.log2 = x.log2 := by
  refine Classical.byContradiction fun hn => ?_
  have := lo_lead (B := B) (r := x) (p := x.log2) (fun b hb e => hn ⟨b, hb, e⟩) Nat.lt_log2_self (Nat.testBit_log2 h0)
  rw [(lo_zero h).mpr hx] at this
  simp at this
theorem red_sub {C : List Nat} (hB : Red B) (hC : Red C) (e : ∀ x, Sp B x ↔ Sp C x) (hb : b ∈ B) : b ∈ C := by
  obtain ⟨c, hc, lc⟩ := lead_mem hC.ech ((e b).mp (.one hb)) (hB.2.1 b hb)
  have hcb : b = c := by
    refine Classical.byContradiction fun hn => ?_
    have h0 : b ^^^ c ≠ 0 := fun z => hn (by have := xor_back b c; rw [z, Nat.zero_xor] at this; exact this.symm)
    have hy : Sp B (b ^^^ c) := Sp.xor (.one hb) ((e c).mpr (.one hc))
    obtain ⟨b', hb', l1⟩ := lead_mem hB.ech hy h0
    obtain ⟨c', hc', l2⟩ := lead_mem hC.ech ((e _).mp hy) h0
    have t := Nat.testBit_log2 h0
    rw [Nat.testBit_xor] at t
    have t1 : b.testBit (b ^^^ c).log2 = decide (b = b') := by rw [← l1]; exact hB.lead hb' hb
    have t2 : c.testBit (b ^^^ c).log2 = decide (c = c') := by rw [← l2]; exact hC.lead hc' hc
    rw [t1, t2] at t
    by_cases q : b = b'
    · subst q
      have : c = c' := by
        refine hC.log_inj hc' hc ?_
        rw [lc, l2, l1]
      simp [this] at t
    · by_cases q2 : c = c'
      · subst q2
        exact q (hB.log_inj hb' hb (by rw [← lc, l2, l1]))
      · simp [q, q2] at t
  rw [hcb]; exact hc
theorem sorted_ext : ∀ {B C : List Nat}, B.Pairwise (· > ·) → C.Pairwise (· > ·) → (∀ x, x ∈ B ↔ x ∈ C) → B = C
  | [], [], _, _, _ => rfl
  | [], c :: C, _, _, h => by have := (h c).mpr (by simp); simp at this
  | b :: B, [], _, _, h => by have := (h b).mp (by simp); simp at this
  | b :: B, c :: C, hB, hC, h => by
    obtain ⟨b1, b2⟩ := List.pairwise_cons.mp hB
    obtain ⟨c1, c2⟩ := List.pairwise_cons.mp hC
    have e : b = c := by
      rcases List.mem_cons.mp ((h b).mp (by simp)) with q | q
      · exact q
      · rcases List.mem_cons.mp ((h c).mpr (by simp)) with q2 | q2
        · exact q2.symm
        · have := b1 c q2; have := c1 b q; omega
    subst e
    congr 1
    refine sorted_ext b2 c2 fun x => ?_
    have := h x
    constructor
    · intro hx
      rcases List.mem_cons.mp (this.mp (by simp [hx])) with q | q
      · have := b1 x hx; omega
      · exact q
    · intro hx
      rcases List.mem_cons.mp (this.mpr (by simp [hx])) with q | q
      · have := c1 x hx; omega
      · exact q
theorem red_uniq {C : List Nat} (hB : Red B) (hC : Red C) (sB : B.Pairwise (· > ·)) (sC : C.Pairwise (· > ·)) (e : ∀ x, Sp B x ↔ Sp C x) : B = C :=
  sorted_ext sB sC fun x => ⟨fun h => red_sub hB hC e h, fun h => red_sub hC hB (fun x => (e x).symm) h⟩
end
end K35
end
section
set_option Elab.async false
set_option linter.all false
set_option maxRecDepth 100000
/-! K35n: what stands across -/
namespace K35
def par {α : Type} (L : List α) (f : α → Bool) : Bool := L.foldr (fun a acc => f a ^^ acc) false
section
variable {α β : Type} {L M : List α} {f g : α → Bool}
theorem par_nil : par [] f = false := rfl
theorem par_cons {a : α} : par (a :: L) f = (f a ^^ par L f) := rfl
theorem par_app : par (L ++ M) f = (par L f ^^ par M f) := by
  induction L with
  | nil => simp [par_nil]
  | cons a L ih => rw [List.cons_append, par_cons, par_cons, ih, Bool.xor_assoc]
theorem par_congr (h : ∀ a ∈ L, f a = g a) : par L f = par L g := by
  induction L with
  | nil => rfl
  | cons a L ih => rw [par_cons, par_cons, h a (by simp), ih fun b hb => h b (List.mem_cons_of_mem _ hb)]
theorem par_false (h : ∀ a ∈ L, f a = false) : par L f = false := by
  rw [par_congr (g := fun _ => false) h]
  induction L with
  | nil => rfl
  | cons a L ih => rw [par_cons, ih fun b hb => h b (List.mem_cons_of_mem _ hb)]; rfl
theorem par_xor : par L (fun a => f a ^^ g a) = (par L f ^^ par L g) := by
  induction L with
  | nil => rfl
  | cons a L ih =>
    rw [par_cons, par_cons, par_cons, ih]
    cases f a <;> cases g a <;> cases par L f <;> cases par L g <;> rfl
theorem par_map {h : β → α} {L : List β} : par (L.map h) f = par L (fun b => f (h b)) := by
  induction L with
  | nil => rfl
  | cons a L ih => rw [List.map_cons, par_cons, par_cons, ih]
theorem par_filter {p : α → Bool} : par (L.filter p) f = par L (fun a => p a && f a) := by
  induction L with
  | nil => rfl
  | cons a L ih =>
    rw [par_cons]
    cases hp : p a with
    | true => rw [List.filter_cons_of_pos hp, par_cons, ih]; simp
    | false => rw [List.filter_cons_of_neg (by simp [hp]), ih]; simp
theorem par_one [DecidableEq α] {b : α} (hn : L.Nodup) (h : ∀ a ∈ L, f a = decide (a = b)) : par L f = decide (b ∈ L) := by
  rw [par_congr h]
  clear h
  induction L with
  | nil => simp [par_nil]
  | cons a L ih =>
    obtain ⟨h1, h2⟩ := List.nodup_cons.mp hn
    rw [par_cons, ih h2]
    by_cases e : a = b
    · subst e; simp [h1]
    · have : ¬ b = a := fun z => e z.symm
      simp [e, this]
end
def dot (n x y : Nat) : Bool := par (List.range n) fun j => x.testBit j && y.testBit j
section
variable {n w x y z a b j : Nat} {S B : List Nat}
theorem dot_xor : dot n (x ^^^ y) z = (dot n x z ^^ dot n y z) := by
  unfold dot
  rw [← par_xor]
  refine par_congr fun j _ => ?_
  rw [Nat.testBit_xor]
  cases x.testBit j <;> cases y.testBit j <;> cases z.testBit j <;> rfl
theorem dot_comm : dot n x y = dot n y x := par_congr fun j _ => Bool.and_comm _ _
theorem dot_zero : dot n 0 z = false := par_false fun j _ => by simp
theorem dot_sp (h : ∀ r ∈ S, dot n r y = false) (hx : Sp S x) : dot n x y = false := by
  induction hx with
  | zero => exact dot_zero
  | add hr _ ih => rw [dot_xor, ih, h _ hr]; rfl
theorem dot_ext (hx : x < 2 ^ w) (h : w ≤ n) : dot n x y = dot w x y := by
  unfold dot
  obtain ⟨k, rfl⟩ := Nat.exists_eq_add_of_le h
  induction k with
  | zero => rfl
  | succ k ih =>
    rw [← Nat.add_assoc, List.range_succ, par_app, ih (by omega), par_cons, par_nil]
    rw [Nat.testBit_lt_two_pow (Nat.lt_of_lt_of_le hx (Nat.pow_le_pow_right (by decide) (by omega : w ≤ w + k)))]
    simp
theorem dot_pow (h : a < n) : dot n (2 ^ a) z = z.testBit a := by
  unfold dot
  rw [par_congr (g := fun j => (decide (j = a) && z.testBit a))]
  · cases z.testBit a with
    | false => exact par_false fun _ _ => by simp
    | true =>
      rw [par_one (b := a) List.nodup_range fun _ _ => by simp]
      simp [h]
  · intro j _
    rw [Nat.testBit_two_pow]
    by_cases e : j = a
    · subst e; simp
    · have : ¬ a = j := fun z => e z.symm
      simp [e, this]
def xs (L : List Nat) : Nat := L.foldr (· ^^^ ·) 0
theorem xs_cons {L : List Nat} : xs (a :: L) = a ^^^ xs L := rfl
theorem xs_bit (L : List Nat) : (xs L).testBit j = par L fun y => y.testBit j := by
  induction L with
  | nil => simp [xs, par_nil]
  | cons a L ih => rw [xs_cons, Nat.testBit_xor, ih, par_cons]
theorem xs_dot (L : List Nat) : dot n (xs L) z = par L fun y => dot n y z := by
  induction L with
  | nil => exact dot_zero
  | cons a L ih => rw [xs_cons, dot_xor, ih, par_cons]
theorem xs_sp (L : List Nat) (h : ∀ r ∈ L, r ∈ S) : Sp S (xs L) := by
  induction L with
  | nil => exact .zero
  | cons a L ih => exact (Sp.one (h a (by simp))).xor (ih fun r hr => h r (List.mem_cons_of_mem _ hr))
def va (B : List Nat) (a : Nat) : Nat := 2 ^ a ^^^ xs ((B.filter fun b => b.testBit a).map fun b => 2 ^ b.log2)
def free (B : List Nat) (a : Nat) : Bool := B.all fun b => b.log2 != a
theorem free_iff : free B a = true ↔ ∀ b ∈ B, b.log2 ≠ a := by unfold free; simp
def acr (w : Nat) (B : List Nat) : List Nat := ((List.range w).filter (free B)).map (va B)
theorem log_lt (h : Red B) (hw : ∀ b ∈ B, b < 2 ^ w) (hb : b ∈ B) : b.log2 < w := (Nat.log2_lt (h.2.1 b hb)).mpr (hw b hb)
theorem dot_va (h : Red B) (hw : ∀ b ∈ B, b < 2 ^ w) (ha : a < w) : dot w (va B a) z = (z.testBit a ^^ par (B.filter fun b => b.testBit a) fun b => z.testBit b.log2) := by
  unfold va
  rw [dot_xor, dot_pow ha, xs_dot, par_map]
  congr 1
  refine par_congr fun b hb => ?_
  exact dot_pow (log_lt h hw (List.mem_filter.mp hb).1)
theorem va_perp (h : Red B) (hw : ∀ b ∈ B, b < 2 ^ w) (ha : a < w) {c : Nat} (hc : c ∈ B) : dot w (va B a) c = false := by
  rw [dot_va h hw ha, par_one (b := c) (h.1.filter _)]
  · simp only [List.mem_filter]
    cases c.testBit a <;> simp [hc]
  · intro b hb
    rw [h.lead (List.mem_filter.mp hb).1 hc]
    by_cases e : b = c
    · subst e; simp
    · have : ¬ c = b := fun z => e z.symm
      simp [e, this]
theorem va_bit : (va B a).testBit j = (decide (a = j) ^^ par (B.filter fun b => b.testBit a) fun b => decide (b.log2 = j)) := by
  unfold va
  rw [Nat.testBit_xor, xs_bit, par_map, Nat.testBit_two_pow]
  congr 1
  exact par_congr fun b _ => Nat.testBit_two_pow
theorem va_free (hj : ∀ b ∈ B, b.log2 ≠ j) : (va B a).testBit j = decide (a = j) := by
  rw [va_bit, par_false, Bool.xor_false]
  intro b hb
  simpa using hj b (List.mem_filter.mp hb).1
theorem va_lead (h : Red B) {c : Nat} (hc : c ∈ B) (ha : free B a = true) : (va B a).testBit c.log2 = c.testBit a := by
  rw [va_bit, par_one (b := c) (h.1.filter _)]
  · have : a ≠ c.log2 := fun z => free_iff.mp ha c hc z.symm
    simp only [List.mem_filter]
    cases c.testBit a <;> simp [hc, this]
  · intro b hb
    by_cases e : b = c
    · subst e; simp
    · have : ¬ b.log2 = c.log2 := fun z => e (h.log_inj hc (List.mem_filter.mp hb).1 z)
      simp [e, this]
theorem va_lt (h : Red B) (hw : ∀ b ∈ B, b < 2 ^ w) (ha : a < w) : va B a < 2 ^ w := by
  refine Nat.lt_pow_two_of_testBit _ fun i hi => ?_
  rw [va_free fun b hb => ?_]
  · simp; omega
  · have := log_lt h hw hb
    omega
theorem acr_mem : y ∈ acr w B ↔ ∃ a, a < w ∧ free B a = true ∧ va B a = y := by
  unfold acr
  simp only [List.mem_map, List.mem_filter, List.mem_range]
  constructor
  · rintro ⟨a, ⟨h1, h2⟩, e⟩; exact ⟨a, h1, h2, e⟩
  · rintro ⟨a, h1, h2, e⟩; exact ⟨a, ⟨h1, h2⟩, e⟩
theorem acr_lt (h : Red B) (hw : ∀ b ∈ B, b < 2 ^ w) : ∀ y ∈ acr w B, y < 2 ^ w := by
  intro y hy
  obtain ⟨a, ha, _, rfl⟩ := acr_mem.mp hy
  exact va_lt h hw ha
theorem acr_len : (acr w B).length ≤ w := by
  unfold acr
  rw [List.length_map]
  exact Nat.le_trans (List.length_filter_le _ _) (by simp)
theorem acr_sp (h : Red B) (hw : ∀ b ∈ B, b < 2 ^ w) (hx : x < 2 ^ w) : Sp (acr w B) x ↔ ∀ c ∈ B, dot w x c = false := by
  constructor
  · intro hs c hc
    refine dot_sp (fun r hr => ?_) hs
    obtain ⟨a, ha, _, rfl⟩ := acr_mem.mp hr
    exact va_perp h hw ha hc
  · intro hd
    have e : x = xs ((((List.range w).filter (free B)).filter fun a => x.testBit a).map (va B)) := by
      refine Nat.eq_of_testBit_eq fun j => ?_
      rw [xs_bit, par_map, par_filter]
      by_cases hj : ∃ c ∈ B, c.log2 = j
      · obtain ⟨c, hc, rfl⟩ := hj
        have hcw := log_lt h hw hc
        have d := hd c hc
        unfold dot at d
        rw [par_congr (g := fun j => (decide (j = c.log2) && x.testBit c.log2) ^^ (free B j && (x.testBit j && c.testBit j)))] at d
        · rw [par_xor, ← par_filter (p := free B)] at d
          have d1 : par (List.range w) (fun j => decide (j = c.log2) && x.testBit c.log2) = x.testBit c.log2 := by
            cases x.testBit c.log2 with
            | false => exact par_false fun _ _ => by simp
            | true =>
              rw [par_one (b := c.log2) List.nodup_range fun _ _ => by simp]
              simp [hcw]
          rw [d1] at d
          have d2 : par ((List.range w).filter (free B)) (fun a => x.testBit a && (va B a).testBit c.log2) = par ((List.range w).filter (free B)) (fun j => x.testBit j && c.testBit j) := by
            refine par_congr fun a ha => ?_
            rw [va_lead h hc (List.mem_filter.mp ha).2]
          rw [d2]
          revert d
          cases x.testBit c.log2 <;> cases par ((List.range w).filter (free B)) (fun j => x.testBit j && c.testBit j) <;> simp
        · intro j _
          by_cases e : j = c.log2
          · subst e
            have : free B c.log2 = false := by
              cases q : free B c.log2 with
              | false => rfl
              | true => exact (free_iff.mp q c hc rfl).elim
            rw [this, Nat.testBit_log2 (h.2.1 c hc)]; simp
          · by_cases f : free B j = true
            · simp [e, f]
            · have hf : ∃ b ∈ B, b.log2 = j := by
                refine Classical.byContradiction fun hn => f (free_iff.mpr fun b hb q => hn ⟨b, hb, q⟩)
              obtain ⟨b, hb, rfl⟩ := hf
              have : c.testBit b.log2 = false := h.2.2 b hb c hc fun q => e (by rw [q])
              simp [e, this]
      · have hj' : ∀ b ∈ B, b.log2 ≠ j := fun b hb e => hj ⟨b, hb, e⟩
        rw [par_congr (g := fun a => (decide (a = j) && x.testBit j))]
        · cases q : x.testBit j with
          | false => rw [par_false fun _ _ => by simp]
          | true =>
            rw [par_one (b := j) (List.nodup_range.filter _) fun _ _ => by simp]
            have hjw : j < w := by
              rcases Nat.lt_or_ge j w with g | g
              · exact g
              · rw [Nat.testBit_lt_two_pow (Nat.lt_of_lt_of_le hx (Nat.pow_le_pow_right (by decide) g))] at q; cases q
            symm
            rw [decide_eq_true_iff, List.mem_filter, List.mem_range]
            exact ⟨hjw, free_iff.mpr hj'⟩
        · intro a _
          rw [va_free hj']
          by_cases e : a = j
          · subst e; simp
          · simp [e]
    rw [e]
    refine xs_sp _ fun r hr => ?_
    obtain ⟨a, ha, rfl⟩ := List.mem_map.mp hr
    have := List.mem_filter.mp (List.mem_filter.mp ha).1
    exact acr_mem.mpr ⟨a, List.mem_range.mp this.1, this.2, rfl⟩
theorem acr_dbl (h : Red B) (hw : ∀ b ∈ B, b < 2 ^ w) (hx : x < 2 ^ w) (hd : ∀ y ∈ acr w B, dot w x y = false) : Sp B x := by
  have hs := lo_sp B x
  have hc := lo_clear h.ech (r := x)
  have hxs : x ^^^ lo B x < 2 ^ w := hs.lt hw
  have hlt : lo B x < 2 ^ w := by
    have := Nat.xor_lt_two_pow hx hxs
    rwa [xor_back'] at this
  have h0 : lo B x = 0 := by
    refine Nat.eq_of_testBit_eq fun j => ?_
    rw [Nat.zero_testBit]
    by_cases hj : ∃ c ∈ B, c.log2 = j
    · obtain ⟨c, hc', rfl⟩ := hj
      exact hc c hc'
    · have hj' : free B j = true := free_iff.mpr fun b hb e => hj ⟨b, hb, e⟩
      rcases Nat.lt_or_ge j w with g | g
      · have e1 := dot_va (z := lo B x) h hw g
        rw [par_false fun b hb => hc b (List.mem_filter.mp hb).1, Bool.xor_false] at e1
        rw [← e1]
        have e2 : dot w (x ^^^ lo B x) (va B j) = false := dot_sp (fun r hr => by rw [dot_comm]; exact va_perp h hw g hr) hs
        rw [dot_xor, hd _ (acr_mem.mpr ⟨j, g, hj', rfl⟩), Bool.false_xor] at e2
        rw [dot_comm]; exact e2
      · exact Nat.testBit_lt_two_pow (Nat.lt_of_lt_of_le hlt (Nat.pow_le_pow_right (by decide) g))
  rwa [h0, Nat.xor_zero] at hs
/-! for rows -/
variable {rows : List Nat}
def acrB (w : Nat) (rows : List Nat) : List Nat := bas (acr w (bas rows))
theorem acrB_lt (hw : ∀ r ∈ rows, r < 2 ^ w) : ∀ b ∈ acrB w rows, b < 2 ^ w := bas_lt (acr_lt (bas_inv rows).red (bas_lt hw))
theorem acrB_len : (acrB w rows).length ≤ w := Nat.le_trans (bas_inv _).len acr_len
theorem bas_dot (hw : ∀ r ∈ rows, r < 2 ^ w) : (∀ c ∈ bas rows, dot w x c = false) ↔ ∀ r ∈ rows, dot w x r = false := by
  have e := (bas_inv rows).sp
  constructor
  · intro h r hr
    rw [dot_comm]
    exact dot_sp (fun c hc => by rw [dot_comm]; exact h c hc) ((e r).mpr (.one hr))
  · intro h r hr
    rw [dot_comm]
    exact dot_sp (fun c hc => by rw [dot_comm]; exact h c hc) ((e r).mp (.one hr))
theorem acrB_sp (hw : ∀ r ∈ rows, r < 2 ^ w) : Sp (acrB w rows) x ↔ x < 2 ^ w ∧ ∀ r ∈ rows, dot w x r = false := by
  have hb := (bas_inv rows).red
  have hl := bas_lt hw
  unfold acrB
  rw [(bas_inv _).sp]
  constructor
  · intro h
    have hx := h.lt (acr_lt hb hl)
    exact ⟨hx, (bas_dot hw).mp ((acr_sp hb hl hx).mp h)⟩
  · rintro ⟨hx, h⟩
    exact (acr_sp hb hl hx).mpr ((bas_dot hw).mpr h)
theorem acrB_dbl (hw : ∀ r ∈ rows, r < 2 ^ w) : (x < 2 ^ w ∧ ∀ y ∈ acrB w rows, dot w x y = false) ↔ Sp rows x := by
  have hb := (bas_inv rows).red
  have hl := bas_lt hw
  constructor
  · rintro ⟨hx, h⟩
    rw [← (bas_inv rows).sp]
    refine acr_dbl hb hl hx fun y hy => ?_
    rw [dot_comm]
    refine dot_sp (S := acrB w rows) (fun r hr => by rw [dot_comm]; exact h r hr) ?_
    exact ((bas_inv _).sp y).mpr (.one hy)
  · intro h
    refine ⟨h.lt hw, fun y hy => ?_⟩
    refine dot_sp (fun r hr => ?_) h
    rw [dot_comm]
    exact ((acrB_sp hw).mp (.one hy)).2 r hr
/-- twice leads back -/
theorem acrB_twice (hw : ∀ r ∈ rows, r < 2 ^ w) : acrB w (acrB w rows) = bas rows := by
  have h1 := bas_inv (acr w (bas (acrB w rows)))
  have h2 := bas_inv rows
  refine red_uniq h1.red h2.red h1.srt h2.srt fun x => ?_
  rw [h2.sp]
  show Sp (acrB w (acrB w rows)) x ↔ _
  rw [acrB_sp (acrB_lt hw)]
  exact acrB_dbl hw
theorem both_sp {one two : List Nat} (h1 : ∀ r ∈ one, r < 2 ^ w) (h2 : ∀ r ∈ two, r < 2 ^ w) : Sp (acrB w (acrB w one ++ acrB w two)) x ↔ Sp one x ∧ Sp two x := by
  rw [acrB_sp fun r hr => by
    rcases List.mem_append.mp hr with hr | hr
    · exact acrB_lt h1 r hr
    · exact acrB_lt h2 r hr]
  constructor
  · rintro ⟨hx, h⟩
    exact ⟨(acrB_dbl h1).mp ⟨hx, fun y hy => h y (List.mem_append_left _ hy)⟩, (acrB_dbl h2).mp ⟨hx, fun y hy => h y (List.mem_append_right _ hy)⟩⟩
  · rintro ⟨a, b⟩
    obtain ⟨hx, a⟩ := (acrB_dbl h1).mpr a
    obtain ⟨_, b⟩ := (acrB_dbl h2).mpr b
    refine ⟨hx, fun y hy => ?_⟩
    rcases List.mem_append.mp hy with hy | hy
    · exact a y hy
    · exact b y hy
theorem one_sp {one two : List Nat} : Sp (bas (bas one ++ bas two)) x ↔ Sp (one ++ two) x := by
  rw [(bas_inv _).sp]
  constructor
  · refine Sp.sub fun y hy => ?_
    rcases List.mem_append.mp hy with hy | hy
    · exact (((bas_inv one).sp y).mp (.one hy)).mono fun z hz => List.mem_append_left _ hz
    · exact (((bas_inv two).sp y).mp (.one hy)).mono fun z hz => List.mem_append_right _ hz
  · refine Sp.sub fun y hy => ?_
    rcases List.mem_append.mp hy with hy | hy
    · exact (((bas_inv one).sp y).mpr (.one hy)).mono fun z hz => List.mem_append_left _ hz
    · exact (((bas_inv two).sp y).mpr (.one hy)).mono fun z hz => List.mem_append_right _ hz
/-! the sum of the tops -/
theorem sum_xs : ∀ {E : List Nat} {p : Nat}, E.Pairwise (· > ·) → (∀ e ∈ E, e < p) → (E.map (2 ^ ·)).sum = xs (E.map (2 ^ ·)) ∧ (E.map (2 ^ ·)).sum < 2 ^ p
  | [], p, _, _ => ⟨rfl, Nat.two_pow_pos p⟩
  | e :: E, p, h, hp => by
    obtain ⟨h1, h2⟩ := List.pairwise_cons.mp h
    obtain ⟨i1, i2⟩ := sum_xs (p := e) h2 h1
    have key : 2 ^ e + (E.map (2 ^ ·)).sum = 2 ^ e ^^^ (E.map (2 ^ ·)).sum := by
      have := Nat.two_pow_add_eq_or_of_lt i2 1
      rw [Nat.mul_one] at this
      rw [this]
      refine Nat.eq_of_testBit_eq fun j => ?_
      rw [Nat.testBit_or, Nat.testBit_xor, Nat.testBit_two_pow]
      by_cases q : e = j
      · subst q; rw [Nat.testBit_lt_two_pow i2]; simp
      · simp [q]
    rw [List.map_cons, List.sum_cons, xs_cons, ← i1]
    refine ⟨key, ?_⟩
    rw [key]
    have he := hp e (by simp)
    exact Nat.xor_lt_two_pow (Nat.pow_lt_pow_right (by decide) he) (Nat.lt_trans i2 (Nat.pow_lt_pow_right (by decide) he))
theorem logs_desc (h : Red B) (hs : B.Pairwise (· > ·)) : (B.map Nat.log2).Pairwise (· > ·) := by
  rw [List.pairwise_map]
  refine hs.imp_of_mem fun {b c} hb hc hbc => ?_
  have h1 : c.log2 ≤ b.log2 := by
    rw [Nat.le_log2 (h.2.1 b hb)]
    have := Nat.log2_self_le (h.2.1 c hc)
    omega
  have h2 : c.log2 ≠ b.log2 := fun e => by
    have := h.log_inj hb hc e
    omega
  show c.log2 < b.log2
  omega
theorem va_sum (h : Red B) (hs : B.Pairwise (· > ·)) (hw : ∀ b ∈ B, b < 2 ^ w) (ha : free B a = true) : 2 ^ a ||| ((B.filter fun b => b.testBit a).map fun b => 2 ^ b.log2).sum = va B a := by
  have e : ((B.filter fun b => b.testBit a).map fun b => 2 ^ b.log2) = ((B.filter fun b => b.testBit a).map Nat.log2).map (2 ^ ·) := by rw [List.map_map]; rfl
  have hp : ((B.filter fun b => b.testBit a).map Nat.log2).Pairwise (· > ·) := (logs_desc h hs).sublist (List.Sublist.map _ List.filter_sublist)
  have hl : ∀ q ∈ (B.filter fun b => b.testBit a).map Nat.log2, q < w := by
    intro q hq
    obtain ⟨b, hb, rfl⟩ := List.mem_map.mp hq
    exact log_lt h hw (List.mem_filter.mp hb).1
  unfold va
  rw [e, (sum_xs hp hl).1]
  refine Nat.eq_of_testBit_eq fun j => ?_
  rw [Nat.testBit_or, Nat.testBit_xor, Nat.testBit_two_pow]
  by_cases q : a = j
  · subst q
    rw [xs_bit, par_map, par_map, par_false]
    · simp
    · intro b hb
      rw [Nat.testBit_two_pow]
      simpa using free_iff.mp ha b (List.mem_filter.mp hb).1
  · simp [q]
end
end K35
end
section
set_option Elab.async false
set_option linter.all false
set_option maxRecDepth 100000
/-! K35o: whole numbers for the rows -/
namespace K35
open PySem Mi
abbrev ci (l : List Nat) : List Int := l.map fun n : Nat => (n : Int)
theorem xor_and : ∀ a b : Nat, (a ^^^ b) + (a &&& b) = a ||| b := by
  intro a
  induction a using Nat.strongRecOn with
  | ind a ih =>
    intro b
    by_cases h : a = 0
    · subst h; simp
    · have h1 := ih (a / 2) (by omega) (b / 2)
      rw [← Nat.xor_div_two, ← Nat.and_div_two, ← Nat.or_div_two] at h1
      have x2 := @Nat.xor_mod_two_eq_one a b
      have a2 := @Nat.and_mod_two_eq_one a b
      have o2 := @Nat.or_mod_two_eq_one a b
      omega
theorem and_cast (a b : Nat) : Builtin.bitAnd (a : Int) (b : Int) = ((a &&& b : Nat) : Int) := by
  unfold Builtin.bitAnd
  rw [decide_eq_true (Int.natCast_nonneg a), decide_eq_true (Int.natCast_nonneg b)]
  rfl
theorem or_cast (a b : Nat) : Builtin.bitOr (a : Int) (b : Int) = ((a ||| b : Nat) : Int) := by
  unfold Builtin.bitOr
  have h : ∀ n : Nat, decide (0 ≤ Builtin.bitNot (n : Int)) = false := fun n => by unfold Builtin.bitNot; simp; omega
  have h2 : ∀ n : Nat, (Builtin.bitNot (Builtin.bitNot (n : Int))).toNat = n := fun n => by unfold Builtin.bitNot; omega
  unfold Builtin.bitAnd
  rw [h, h]
  show Builtin.bitNot (Builtin.bitNot _) = _
  rw [h2, h2]
  unfold Builtin.bitNot
  omega
theorem xor_cast (a b : Nat) : Builtin.bitXor (a : Int) (b : Int) = ((a ^^^ b : Nat) : Int) := by
  unfold Builtin.bitXor
  rw [or_cast, and_cast]
  have := xor_and a b
  omega
theorem ci_toNat {l : List Int} (h : ∀ r ∈ l, 0 ≤ r) : ci (l.map Int.toNat) = l := by
  unfold ci
  rw [List.map_map]
  conv => rhs; rw [← List.map_id l]
  refine List.map_congr_left fun r hr => ?_
  have := h r hr
  show ((r.toNat : Nat) : Int) = r
  omega
theorem ci_of {l : List Int} {w : Nat} (h : ∀ r ∈ l, 0 ≤ r ∧ r < 2 ^ w) : ∃ ns : List Nat, l = ci ns ∧ ∀ n ∈ ns, n < 2 ^ w := by
  refine ⟨l.map Int.toNat, (ci_toNat fun r hr => (h r hr).1).symm, fun n hn => ?_⟩
  obtain ⟨r, hr, rfl⟩ := List.mem_map.mp hn
  obtain ⟨h1, h2⟩ := h r hr
  have : ((2 ^ w : Nat) : Int) = 2 ^ w := by simp
  omega
theorem ci_lt {ns : List Nat} {w : Nat} (h : ∀ n ∈ ns, n < 2 ^ w) : ∀ r ∈ ci ns, 0 ≤ r ∧ r < 2 ^ w := by
  intro r hr
  obtain ⟨n, hn, rfl⟩ := List.mem_map.mp hr
  have := h n hn
  have : ((2 ^ w : Nat) : Int) = 2 ^ w := by simp
  omega
theorem mem_ci {ns : List Nat} {n : Nat} : (n : Int) ∈ ci ns ↔ n ∈ ns := by
  unfold ci
  rw [List.mem_map]
  constructor
  · rintro ⟨m, hm, e⟩
    have : m = n := by omega
    exact this ▸ hm
  · exact fun h => ⟨n, h, rfl⟩
theorem ci_inj {a b : List Nat} (h : ci a = ci b) : a = b := by
  have := congrArg (List.map Int.toNat) h
  simpa [ci, List.map_map, Function.comp_def] using this
/-! the top -/
def topOf (r : Int) : Int := if r ≤ 0 then 0 else ((2 ^ r.toNat.log2 : Nat) : Int)
def topG (r : Int) : Prop := 0 ≤ r ∧ r < 2 ^ 32
theorem topOf_cast {n : Nat} (h : n ≠ 0) : topOf (n : Int) = ((2 ^ n.log2 : Nat) : Int) := by
  unfold topOf
  rw [if_neg (by omega)]
  rfl
theorem bit_top (r b : Nat) : (!decide (Builtin.bitAnd (r : Int) (topOf (b : Int)) = 0)) = (decide (b ≠ 0) && r.testBit b.log2) := by
  by_cases h : b = 0
  · subst h
    have : topOf ((0 : Nat) : Int) = ((0 : Nat) : Int) := rfl
    rw [this, and_cast, Nat.and_zero]; rfl
  · rw [topOf_cast h, and_cast]
    have e : r &&& 2 ^ b.log2 = 0 ↔ r.testBit b.log2 = false := by
      constructor
      · intro z
        have := congrArg (Nat.testBit · b.log2) z
        simp only [Nat.testBit_and, Nat.testBit_two_pow, Nat.zero_testBit] at this
        simpa using this
      · intro z
        refine Nat.eq_of_testBit_eq fun j => ?_
        rw [Nat.testBit_and, Nat.testBit_two_pow, Nat.zero_testBit]
        by_cases q : b.log2 = j
        · subst q; rw [z]; rfl
        · simp [q]
    cases q : r.testBit b.log2 with
    | false =>
      rw [e.mpr q]
      simp
    | true =>
      have n0 : r &&& 2 ^ b.log2 ≠ 0 := fun z => by rw [e.mp z] at q; cases q
      have n1 : ((r &&& 2 ^ b.log2 : Nat) : Int) ≠ 0 := by omega
      rw [decide_eq_false n1]
      simp [h]
/-! what is left over -/
def loS (b one : Int) : Int := if (!decide (Builtin.bitAnd b (topOf one) = 0)) = true then Builtin.bitXor b one else b
def leftOver (B : List Int) (r : Int) : Int := B.foldl loS r
def leftG (B : List Int) (r : Int) : Prop := ∀ one ∈ B, topG one
theorem loS_cast (r b : Nat) : loS (r : Int) (b : Int) = ((if r.testBit b.log2 = true then r ^^^ b else r : Nat) : Int) := by
  unfold loS
  rw [bit_top, xor_cast]
  by_cases h : b = 0
  · subst h; simp
  · simp [h]
    split <;> rfl
theorem left_cast : ∀ (B : List Nat) (r : Nat), leftOver (ci B) (r : Int) = ((lo B r : Nat) : Int)
  | [], r => rfl
  | b :: B, r => by
    show leftOver (ci B) (loS (r : Int) (b : Int)) = _
    rw [loS_cast, left_cast B, lo]
/-! the basis -/
noncomputable def stI (F : List Int) (r : Int) : List Int := if leftOver F r = 0 then F else sortRI ((F.map fun one => if (!decide (Builtin.bitAnd one (topOf (leftOver F r)) = 0)) = true then Builtin.bitXor one (leftOver F r) else one) ++ [leftOver F r])
noncomputable def basisOf (rows : List Int) : List Int := rows.foldl stI []
def basisG (rows : List Int) : Prop := rows.length ≤ 1000 ∧ ∀ r ∈ rows, 0 ≤ r ∧ r < 2 ^ 20
theorem sortRI_ci (l : List Nat) : sortRI (ci l) = ci (sortN l) := by
  unfold sortRI sortN ci
  rw [List.map_mergeSort (s := fun a b : Int => decide (b ≤ a))]
  intro a _ b _
  simp
theorem stI_cast (F : List Nat) (r : Nat) : stI (ci F) (r : Int) = ci (stB F r) := by
  unfold stI stB
  rw [left_cast]
  by_cases h : lo F r = 0
  · rw [if_pos (by omega), if_pos h]
  · rw [if_neg (by omega), if_neg h]
    rw [← sortRI_ci]
    congr 1
    unfold nxB ci
    rw [List.map_append, List.map_map, List.map_map]
    congr 1
    refine List.map_congr_left fun b _ => ?_
    show (if (!decide (Builtin.bitAnd (b : Int) (topOf (lo F r : Nat)) = 0)) = true then Builtin.bitXor (b : Int) (lo F r : Nat) else (b : Int)) = ((clr (lo F r) b : Nat) : Int)
    rw [bit_top, xor_cast]
    unfold clr
    simp [h]
    split <;> rfl
theorem bas_cast (rows : List Nat) : basisOf (ci rows) = ci (bas rows) := by
  unfold basisOf bas
  have go : ∀ (rows F : List Nat), (ci rows).foldl stI (ci F) = ci (rows.foldl stB F) := by
    intro rows
    induction rows with
    | nil => intro F; rfl
    | cons r rows ih =>
      intro F
      show (ci rows).foldl stI (stI (ci F) (r : Int)) = _
      rw [stI_cast, ih]; rfl
  exact go rows []
/-! the law's own span -/
def spI (rows : List Int) : List Int := rows.foldl (fun F r => if r ∈ F then F else F ++ F.map fun one => Builtin.bitXor one r) [0]
def lawSpan (rows : List Int) : List Int := sortI (spI rows)
def lawSpanG (rows : List Int) : Prop := rows.length ≤ 16
def spN (rows : List Nat) : List Nat := rows.foldl (fun F r => if r ∈ F then F else F ++ F.map (· ^^^ r)) [0]
structure SInv (F rows : List Nat) : Prop where
  nd : F.Nodup
  mem : ∀ x, x ∈ F ↔ Sp rows x
  len : F.length ≤ 2 ^ rows.length
theorem sp_snoc {rows : List Nat} {r x : Nat} : Sp (rows ++ [r]) x ↔ Sp rows x ∨ Sp rows (x ^^^ r) := by
  rw [sp_perm (List.perm_append_comm (l₁ := rows) (l₂ := [r]))]
  exact Sp.cons_iff
theorem sN_inv {F rows : List Nat} (h : SInv F rows) (r : Nat) : SInv (if r ∈ F then F else F ++ F.map (· ^^^ r)) (rows ++ [r]) := by
  split
  · rename_i q
    refine ⟨h.nd, fun x => ?_, ?_⟩
    · rw [sp_snoc, h.mem]
      have hr := (h.mem r).mp q
      exact ⟨.inl, fun z => z.elim id fun z => z.back hr⟩
    · have := h.len
      have : 2 ^ rows.length ≤ 2 ^ (rows ++ [r]).length := Nat.pow_le_pow_right (by decide) (by simp)
      omega
  · rename_i q
    refine ⟨?_, fun x => ?_, ?_⟩
    · rw [List.nodup_append]
      refine ⟨h.nd, ?_, ?_⟩
      · show (F.map (· ^^^ r)).Pairwise _
        rw [List.pairwise_map]
        have : F.Pairwise (fun a b => a ≠ b) := h.nd
        exact this.imp fun {a b} hab e => hab (by have := congrArg (· ^^^ r) e; simpa [xor_back] using this)
      · intro a ha b hb e
        obtain ⟨c, hc, rfl⟩ := List.mem_map.mp hb
        subst e
        exact q ((h.mem r).mpr (((h.mem _).mp ha).back' ((h.mem c).mp hc)))
    · rw [List.mem_append, sp_snoc, h.mem]
      constructor
      · rintro (z | z)
        · exact .inl z
        · obtain ⟨c, hc, rfl⟩ := List.mem_map.mp z
          refine .inr ?_
          show Sp rows (c ^^^ r ^^^ r)
          rw [xor_back]; exact (h.mem c).mp hc
      · rintro (z | z)
        · exact .inl z
        · exact .inr (List.mem_map.mpr ⟨x ^^^ r, (h.mem _).mpr z, xor_back x r⟩)
    · have := h.len
      simp [Nat.pow_succ]
      omega
theorem spN_inv (rows : List Nat) : SInv (spN rows) rows := by
  have go : ∀ (rows F pre : List Nat), SInv F pre → SInv (rows.foldl (fun F r => if r ∈ F then F else F ++ F.map (· ^^^ r)) F) (pre ++ rows) := by
    intro rows
    induction rows with
    | nil => intro F pre h; simpa using h
    | cons r rows ih =>
      intro F pre h
      have := ih _ _ (sN_inv h r)
      simpa using this
  have := go rows [0] [] ⟨by simp, fun x => by
    constructor
    · intro h; simp at h; subst h; exact .zero
    · intro h
      cases h with
      | zero => simp
      | add h _ => simp at h, by simp⟩
  show SInv (rows.foldl _ [0]) rows
  simpa using this
theorem spI_cast (rows : List Nat) : spI (ci rows) = ci (spN rows) := by
  have go : ∀ (rows F : List Nat), (ci rows).foldl (fun F r => if r ∈ F then F else F ++ F.map fun one => Builtin.bitXor one r) (ci F) = ci (rows.foldl (fun F r => if r ∈ F then F else F ++ F.map (· ^^^ r)) F) := by
    intro rows
    induction rows with
    | nil => intro F; rfl
    | cons r rows ih =>
      intro F
      rw [List.foldl_cons, ← ih]
      show (ci rows).foldl _ (if (r : Int) ∈ ci F then ci F else ci F ++ (ci F).map fun one => Builtin.bitXor one (r : Int)) = _
      congr 1
      by_cases q : r ∈ F
      · rw [if_pos (mem_ci.mpr q), if_pos q]
      · rw [if_neg (fun z => q (mem_ci.mp z)), if_neg q]
        unfold ci
        rw [List.map_append, List.map_map, List.map_map]
        congr 1
        refine List.map_congr_left fun b _ => ?_
        show Builtin.bitXor (b : Int) (r : Int) = ((b ^^^ r : Nat) : Int)
        rw [xor_cast]
  exact go rows [0]
def sortU (l : List Nat) : List Nat := l.mergeSort fun a b => decide (a ≤ b)
theorem sortI_ci (l : List Nat) : sortI (ci l) = ci (sortU l) := by
  unfold sortI sortU ci
  rw [List.map_mergeSort (s := fun a b : Int => decide (a ≤ b))]
  intro a _ b _
  simp
theorem perm_sortU (l : List Nat) : (sortU l).Perm l := List.mergeSort_perm _ _
theorem pw_sortU {l : List Nat} (h : l.Nodup) : (sortU l).Pairwise (· < ·) := by
  have h1 := List.pairwise_mergeSort (le := fun a b : Nat => decide (a ≤ b)) (fun a b c h1 h2 => by simp at *; omega) (fun a b => by simp; omega) l
  have h2 : (sortU l).Pairwise (fun a b => a ≠ b) := (perm_sortU l).nodup_iff.mpr h
  exact (h1.and h2).imp fun {a b} ⟨p, q⟩ => by
    have : a ≤ b := by simpa using p
    omega
def spS (rows : List Nat) : List Nat := sortU (spN rows)
theorem span_cast (rows : List Nat) : lawSpan (ci rows) = ci (spS rows) := by
  unfold lawSpan spS
  rw [spI_cast, sortI_ci]
theorem mem_spS {rows : List Nat} {x : Nat} : x ∈ spS rows ↔ Sp rows x := by
  unfold spS
  rw [(perm_sortU _).mem_iff]
  exact (spN_inv rows).mem x
theorem pw_spS (rows : List Nat) : (spS rows).Pairwise (· < ·) := pw_sortU (spN_inv rows).nd
theorem sortedU_ext : ∀ {B C : List Nat}, B.Pairwise (· < ·) → C.Pairwise (· < ·) → (∀ x, x ∈ B ↔ x ∈ C) → B = C
  | [], [], _, _, _ => rfl
  | [], c :: C, _, _, h => by have := (h c).mpr (by simp); simp at this
  | b :: B, [], _, _, h => by have := (h b).mp (by simp); simp at this
  | b :: B, c :: C, hB, hC, h => by
    obtain ⟨b1, b2⟩ := List.pairwise_cons.mp hB
    obtain ⟨c1, c2⟩ := List.pairwise_cons.mp hC
    have e : b = c := by
      rcases List.mem_cons.mp ((h b).mp (by simp)) with q | q
      · exact q
      · rcases List.mem_cons.mp ((h c).mpr (by simp)) with q2 | q2
        · exact q2.symm
        · have := b1 c q2; have := c1 b q; omega
    subst e
    congr 1
    refine sortedU_ext b2 c2 fun x => ?_
    have := h x
    constructor
    · intro hx
      rcases List.mem_cons.mp (this.mp (by simp [hx])) with q | q
      · have := b1 x hx; omega
      · exact q
    · intro hx
      rcases List.mem_cons.mp (this.mpr (by simp [hx])) with q | q
      · have := c1 x hx; omega
      · exact q
theorem spS_eq {rows l : List Nat} (hl : l.Pairwise (· < ·)) (h : ∀ x, x ∈ l ↔ Sp rows x) : spS rows = l :=
  sortedU_ext (pw_spS rows) hl fun x => by rw [mem_spS, h]
theorem spS_ne (rows : List Nat) : 0 < (spS rows).length := List.length_pos_of_mem (mem_spS.mpr .zero)
theorem spS_len {rows : List Nat} : (spS rows).length ≤ 2 ^ rows.length := by
  unfold spS
  rw [(perm_sortU _).length_eq]
  exact (spN_inv rows).len
end K35
end
section
set_option Elab.async false
set_option linter.all false
set_option maxRecDepth 100000
set_option maxHeartbeats 4000000
namespace K35
open Mi
open PySem (PyData)
open PySem
noncomputable def T_check_width (width : Int) : R Unit :=
  (if (!((decide ((1 : Int) ≤ width)) && (decide (width ≤ (16 : Int))))) = true then (.exc 1) else (.ok ()))
theorem t_check_width (width : Int) : SpR S_check_width [(PyData.int width)] (T_check_width width) (fun _ => .dat .none) := by
  refine sp_proc (n := 1) (m := 1) (E := fun _ => True) rfl ?_
  show Gn (F_check_width [some (vI width)]) (T_check_width width) _
  unfold F_check_width T_check_width
  refine g_one ?_
  refine g_if (tv_not (tv_bo (Pv.lk (pv_chain (Pv.lk pv_c) (Pv.lk pv_v) y_le (fun hk1 => ⟨(Pv.lk pv_c), y_le⟩))))) (fun hk => ?_) (fun hk => ?_)
  · skip
    exact g_raise
  · skip
    refine g_skip ?_
    exact g_retP trivial

noncomputable def T_check_rows (width : Int) (rows : List Int) : R Unit :=
  ((T_check_width width).bind fun u1 => (gdR (((decide ((60 : Int) < (rows.length : Int))) = false → (rows.length ≤ 100000) ∧ (∀ row2 ∈ rows, ((decide ((0 : Int) ≤ row2)) = true → (L2.CPow (1 : Int) width))))) (if ((decide ((60 : Int) < (rows.length : Int))) || (!((rows.map fun row2 => ((decide ((0 : Int) ≤ row2)) && (decide (row2 < ((1 : Int) * 2 ^ width.toNat))))).all id))) = true then (.exc 1) else (.ok ()))))
theorem t_check_rows (width : Int) (rows : List Int) : SpR S_check_rows [(PyData.int width), ((eT PyData.int) rows)] (T_check_rows width rows) (fun _ => .dat .none) := by
  refine sp_proc (n := 2) (m := 3) (E := fun _ => True) rfl ?_
  show Gn (F_check_rows [some (vI width), some (.dat (.tuple (rows.map PyData.int))), none]) (T_check_rows width rows) _
  unfold F_check_rows T_check_rows
  refine g_dropX (gx_call (n := 1) (av_cons pv_v (h2 := av_nil)) (t_check_width width)) fun u1 ρ' hρ => ?_
  subst hρ
  refine g_one ?_
  refine g_gd fun hg6 => ?_
  refine g_if (tv_or (tv_bo (Pv.lk (pv_bin (pv_callB (al_cons pv_v al_nil) (y_len (xs := rows) (e := PyData.int))) (Pv.lk pv_c) y_gt))) (fun hk5 => (tv_not (tv_tr (Pv.lk (pv_callB (al_cons (pv_map (v := fun row2 => ((decide ((0 : Int) ≤ row2)) && (decide (row2 < ((1 : Int) * 2 ^ width.toNat))))) (en := PyData.bool) (xs := rows) (iv_tup pv_v) ((hg6 hk5).1) (fun row2 hk4 => ⟨[some (vI width), some (.dat (.tuple (rows.map PyData.int))), some (vI row2)], [some (vI width), some (.dat (.tuple (rows.map PyData.int))), some (vI row2)], _, rfl, (pv_chain (Pv.lk pv_c) (Pv.lk pv_v) y_le (fun hk3 => ⟨(Pv.lk (pv_bin pv_c (Pv.lk pv_v) (y_shl ((((hg6 hk5).2) row2 hk4) hk3)))), y_lt⟩)), rfl, rfl⟩)) al_nil) (y_all (ha := by rfl)))) rfl)))) (fun hk => ?_) (fun hk => ?_)
  · skip
    exact g_raise
  · skip
    refine g_skip ?_
    exact g_retP trivial

noncomputable def T_top_of (row : Int) : R Int :=
  (letR (1 : Int) fun top1 => ((whF (γ := Int) (fun (b2 : Int) => (gdR ((L2.CPow b2 (1 : Int))) (.ok (decide ((b2 * 2 ^ (1 : Int).toNat) ≤ row))))) (fun (b3 : Int) => (gdR ((L2.CPow b3 (1 : Int))) (letR (b3 * 2 ^ (1 : Int).toNat) fun top5 => (.ok (Fl.nx top5))))) top1).bind (flK (fun (b6 : Int) => (.ok (if (decide ((0 : Int) < row)) = true then b6 else (0 : Int)))) (fun g => g))))
theorem t_top_of (row : Int) : SpR S_top_of [(PyData.int row)] (T_top_of row) (fun (g : Int) => (vI g)) := by
  refine sp_fun (n := 1) (m := 2) (E := anyE) rfl ?_
  show Gn (F_top_of [some (vI row), none]) (T_top_of row) _
  unfold F_top_of T_top_of
  refine g_stepL (ρ2 := fun top1 => [some (vI row), some (vI top1)]) (ev_set pv_c rfl) fun top1 => ?_
  refine g_seqK (E := (fun (b : Int) ρ' => ρ' = [some (vI row), some (vI b)])) (Er := (fRt (fun (g : Int) => (vI g)) anyE)) (ev_whF (Inv := (fun (b : Int) ρ' => ρ' = [some (vI row), some (vI b)])) fRt_ret rfl ?_ ?_) fRt_ret (whF_noB _) (fun _ _ _ h => h) ?_
  · rintro b2 ρ' rfl
    refine gt_gd fun hg => ?_
    exact gt_ok (tv_bo (Pv.lk (pv_bin (pv_bin pv_v (Pv.lk pv_c) (y_shl hg)) (Pv.lk pv_v) y_le))) rfl
  · rintro b3 ρ' rfl
    refine g_one ?_
    refine g_gd fun hg4 => ?_
    refine g_stepL (ρ2 := fun top5 => [some (vI row), some (vI top5)]) (ev_set (pv_bin pv_v (Pv.lk pv_c) (y_shl hg4)) rfl) fun top5 => ?_
    exact g_fn rfl
  · rintro b6 ρ' rfl
    refine g_one ?_
    exact (g_ret (wr := (fun (g : Int) => (vI g))) (pv_if (en := (fun (z : Int) => (vI z))) (tv_bo (Pv.lk (pv_bin pv_v (Pv.lk pv_c) y_gt))) (fun hk7 => pv_v) (fun hk7 => pv_c)) trivial)

theorem T_top_of_ev {row : Int} (h : topG row) : T_top_of row = .ok (topOf row) := by
  obtain ⟨h0, h1⟩ := h
  unfold T_top_of
  rw [letR_eq]
  obtain ⟨b, e, hp⟩ := whF_inv (γ := Int) (c := fun (b2 : Int) => (gdR ((L2.CPow b2 (1 : Int))) (.ok (decide ((b2 * 2 ^ (1 : Int).toNat) ≤ row))))) (f := fun (b3 : Int) => (gdR ((L2.CPow b3 (1 : Int))) (letR (b3 * 2 ^ (1 : Int).toNat) fun top5 => (.ok (Fl.nx top5)))))
    (I := fun m b => ∃ k : Nat, b = ((2 ^ k : Nat) : Int) ∧ (k = 0 ∨ b ≤ row) ∧ k < 40 ∧ m = 40 - k)
    (Post := fun b => 0 < row → b = ((2 ^ row.toNat.log2 : Nat) : Int)) (b := 1) (m := 40) (by
      rintro m b ⟨k, rfl, hk, k40, rfl⟩
      have hc : L2.CPow (((2 ^ k : Nat) : Int)) 1 := by
        refine ⟨by decide, by decide, ?_⟩
        rw [Int.natAbs_natCast]
        exact Nat.pow_lt_pow_right (by decide) (by omega)
      have e2 : ((2 ^ k : Nat) : Int) * 2 ^ (1 : Int).toNat = ((2 ^ (k + 1) : Nat) : Int) := by
        rw [Nat.pow_succ]; simp
      simp only [gdR_pos hc, letR_eq, e2]
      by_cases q : ((2 ^ (k + 1) : Nat) : Int) ≤ row
      · right
        refine ⟨_, 40 - (k + 1), congrArg R.ok (decide_eq_true q), .inl rfl, by omega, k + 1, rfl, .inr q, ?_, rfl⟩
        rcases Nat.lt_or_ge (k + 1) 40 with g | g
        · exact g
        · have : 2 ^ 40 ≤ 2 ^ (k + 1) := Nat.pow_le_pow_right (by decide) g
          omega
      · left
        refine ⟨congrArg R.ok (decide_eq_false q), fun hr => ?_⟩
        have hn : row.toNat ≠ 0 := by omega
        have h1 : 2 ^ k ≤ row.toNat := by
          rcases hk with rfl | hk
          · simp; omega
          · omega
        have h2 : row.toNat < 2 ^ (k + 1) := by omega
        rw [(Nat.log2_eq_iff hn).mpr ⟨h1, h2⟩]) ⟨0, by simp, .inl rfl, by decide, rfl⟩
  rw [e, R.ok_bind]
  show R.ok _ = _
  congr 1
  unfold topOf
  by_cases q : 0 < row
  · rw [if_pos (by simpa using q), if_neg (by omega), hp q]
  · rw [if_neg (by simpa using q), if_pos (by omega)]
theorem sp_top_of (row : Int) (h : topG row) : S_top_of ([PyData.int row].map .dat) = .ok (vI (topOf row)) (List.replicate 1 none) := sp_okR (t_top_of row) (T_top_of_ev h)

noncomputable def T_left_over_L (basis : List Int) (row : Int) : R Int :=
  ((forR (fun (one1 : Int) (b2 : Int) => (gdR ((topG one1)) (if (!decide ((Builtin.bitAnd b2 (topOf one1)) = (0 : Int))) = true then (letR (Builtin.bitXor b2 one1) fun row4 => (.ok row4)) else (.ok b2)))) basis row).bind fun (b5 : Int) => (.ok b5))
theorem t_left_over_L (basis : List Int) (row : Int) : SpR S_left_over [((eL PyData.int) basis), (PyData.int row)] (T_left_over_L basis row) (fun (g : Int) => (vI g)) := by
  refine sp_fun (n := 2) (m := 3) (E := anyE) rfl ?_
  show Gn (F_left_over [some (.dat (.list (basis.map PyData.int))), some (vI row), none]) (T_left_over_L basis row) _
  unfold F_left_over T_left_over_L
  refine g_seqJ (E := (fun (b : Int) ρ' => ∃ z2 : Option Vl, ρ' = [some (.dat (.list (basis.map PyData.int))), some (vI b), z2])) (ev_for (xs := basis) (ι := PyData.int) (Inv := (fun (b : Int) ρ' => ∃ z2 : Option Vl, ρ' = [some (.dat (.list (basis.map PyData.int))), some (vI b), z2])) (iv_lst pv_v) ⟨_, rfl⟩ ?_) ?_
  · rintro one1 hx b2 ρ' ⟨z2, rfl⟩
    refine ⟨[some (.dat (.list (basis.map PyData.int))), some (vI b2), some (vI one1)], rfl, ?_⟩
    refine g_one ?_
    refine g_gd fun hg3 => ?_
    refine g_if (tv_bo (Pv.lk (pv_bin (pv_bin pv_v (Pv.lk (pv_call (n := 1) (av_cons pv_v (h2 := av_nil)) (sp_top_of one1 hg3))) y_and) (Pv.lk pv_c) (y_ne (e := PyData.int) (x := (Builtin.bitAnd b2 (topOf one1))) (y := (0 : Int)) cod_int)))) (fun hk => ?_) (fun hk => ?_)
    · skip
      refine g_stepL (ρ2 := fun row4 => [some (.dat (.list (basis.map PyData.int))), some (vI row4), some (vI one1)]) (ev_set (pv_bin pv_v (Pv.lk pv_v) y_xor) rfl) fun row4 => ?_
      exact g_lp ⟨_, rfl⟩
    · skip
      refine g_skip ?_
      exact g_lp ⟨_, rfl⟩
  · rintro b5 ρ' ⟨z2, rfl⟩
    refine g_one ?_
    exact (g_ret (wr := (fun (g : Int) => (vI g))) pv_v trivial)

noncomputable def T_left_over_T (basis : List Int) (row : Int) : R Int :=
  ((forR (fun (one1 : Int) (b2 : Int) => (gdR ((topG one1)) (if (!decide ((Builtin.bitAnd b2 (topOf one1)) = (0 : Int))) = true then (letR (Builtin.bitXor b2 one1) fun row4 => (.ok row4)) else (.ok b2)))) basis row).bind fun (b5 : Int) => (.ok b5))
theorem t_left_over_T (basis : List Int) (row : Int) : SpR S_left_over [((eT PyData.int) basis), (PyData.int row)] (T_left_over_T basis row) (fun (g : Int) => (vI g)) := by
  refine sp_fun (n := 2) (m := 3) (E := anyE) rfl ?_
  show Gn (F_left_over [some (.dat (.tuple (basis.map PyData.int))), some (vI row), none]) (T_left_over_T basis row) _
  unfold F_left_over T_left_over_T
  refine g_seqJ (E := (fun (b : Int) ρ' => ∃ z2 : Option Vl, ρ' = [some (.dat (.tuple (basis.map PyData.int))), some (vI b), z2])) (ev_for (xs := basis) (ι := PyData.int) (Inv := (fun (b : Int) ρ' => ∃ z2 : Option Vl, ρ' = [some (.dat (.tuple (basis.map PyData.int))), some (vI b), z2])) (iv_tup pv_v) ⟨_, rfl⟩ ?_) ?_
  · rintro one1 hx b2 ρ' ⟨z2, rfl⟩
    refine ⟨[some (.dat (.tuple (basis.map PyData.int))), some (vI b2), some (vI one1)], rfl, ?_⟩
    refine g_one ?_
    refine g_gd fun hg3 => ?_
    refine g_if (tv_bo (Pv.lk (pv_bin (pv_bin pv_v (Pv.lk (pv_call (n := 1) (av_cons pv_v (h2 := av_nil)) (sp_top_of one1 hg3))) y_and) (Pv.lk pv_c) (y_ne (e := PyData.int) (x := (Builtin.bitAnd b2 (topOf one1))) (y := (0 : Int)) cod_int)))) (fun hk => ?_) (fun hk => ?_)
    · skip
      refine g_stepL (ρ2 := fun row4 => [some (.dat (.tuple (basis.map PyData.int))), some (vI row4), some (vI one1)]) (ev_set (pv_bin pv_v (Pv.lk pv_v) y_xor) rfl) fun row4 => ?_
      exact g_lp ⟨_, rfl⟩
    · skip
      refine g_skip ?_
      exact g_lp ⟨_, rfl⟩
  · rintro b5 ρ' ⟨z2, rfl⟩
    refine g_one ?_
    exact (g_ret (wr := (fun (g : Int) => (vI g))) pv_v trivial)

theorem T_left_ev {B : List Int} {r : Int} (h : leftG B r) : T_left_over_L B r = .ok (leftOver B r) := by
  unfold T_left_over_L
  rw [forR_fold fun one b => loS b one]
  · rfl
  · intro one ho b
    rw [gdR_pos (h one ho)]
    unfold loS
    split <;> rfl
theorem T_left_ev' {B : List Int} {r : Int} (h : leftG B r) : T_left_over_T B r = .ok (leftOver B r) := T_left_ev h
theorem sp_left_over_L (B : List Int) (r : Int) (h : leftG B r) : S_left_over ([eL PyData.int B, .int r].map .dat) = .ok (vI (leftOver B r)) (List.replicate 2 none) := sp_okR (t_left_over_L B r) (T_left_ev h)
theorem sp_left_over_T (B : List Int) (r : Int) (h : leftG B r) : S_left_over ([eT PyData.int B, .int r].map .dat) = .ok (vI (leftOver B r)) (List.replicate 2 none) := sp_okR (t_left_over_T B r) (T_left_ev' h)

noncomputable def T_basis_of_T (rows : List Int) : R (List Int) :=
  (letR ([] : List Int) fun found1 => ((forR (fun (row2 : Int) (b3 : (List Int)) => (gdR ((leftG b3 row2)) (letR (leftOver b3 row2) fun rest5 => (if (!decide (rest5 = (0 : Int))) = true then (gdR ((b3.length ≤ 100000) ∧ (∀ one6 ∈ b3, (topG rest5))) (letR (b3.map fun one6 => (if (!decide ((Builtin.bitAnd one6 (topOf rest5)) = (0 : Int))) = true then (Builtin.bitXor one6 rest5) else one6)) fun found10 => (gdR (((found10 ++ [rest5]).length ≤ 100000)) (letR (sortRI (found10 ++ [rest5])) fun found12 => (.ok found12))))) else (.ok b3))))) rows found1).bind fun (b13 : (List Int)) => (.ok b13)))
theorem t_basis_of_T (rows : List Int) : SpR S_basis_of [((eT PyData.int) rows)] (T_basis_of_T rows) (fun (g : List Int) => (.dat (.tuple (g.map PyData.int)))) := by
  refine sp_fun (n := 1) (m := 5) (E := anyE) rfl ?_
  show Gn (F_basis_of [some (.dat (.tuple (rows.map PyData.int))), none, none, none, none]) (T_basis_of_T rows) _
  unfold F_basis_of T_basis_of_T
  refine g_stepL (ρ2 := fun found1 => [some (.dat (.tuple (rows.map PyData.int))), some (.dat (.list (found1.map PyData.int))), none, none, none]) (ev_set (pv_Z (pv_lstS (xs := ([] : List Int)) (e := PyData.int) av_nil (Nat.le_of_ble_eq_true rfl) rfl)) rfl) fun found1 => ?_
  refine g_seqJ (E := (fun (b : (List Int)) ρ' => ∃ z3 z2 : Option Vl, ρ' = [some (.dat (.tuple (rows.map PyData.int))), some (.dat (.list (b.map PyData.int))), z2, z3, none])) (ev_for (xs := rows) (ι := PyData.int) (Inv := (fun (b : (List Int)) ρ' => ∃ z3 z2 : Option Vl, ρ' = [some (.dat (.tuple (rows.map PyData.int))), some (.dat (.list (b.map PyData.int))), z2, z3, none])) (iv_tup pv_v) ⟨_, _, rfl⟩ ?_) ?_
  · rintro row2 hx b3 ρ' ⟨z3, z2, rfl⟩
    refine ⟨[some (.dat (.tuple (rows.map PyData.int))), some (.dat (.list (b3.map PyData.int))), some (vI row2), z3, none], rfl, ?_⟩
    refine g_gd fun hg4 => ?_
    refine g_stepL (ρ2 := fun rest5 => [some (.dat (.tuple (rows.map PyData.int))), some (.dat (.list (b3.map PyData.int))), some (vI row2), some (vI rest5), none]) (ev_set (pv_Z (pv_call (n := 2) (av_cons pv_v (h2 := (av_cons pv_v (h2 := av_nil)))) (sp_left_over_L b3 row2 hg4))) rfl) fun rest5 => ?_
    refine g_one ?_
    refine g_if (tv_bo (Pv.lk (pv_bin pv_v (Pv.lk pv_c) (y_ne (e := PyData.int) (x := rest5) (y := (0 : Int)) cod_int)))) (fun hk => ?_) (fun hk => ?_)
    · skip
      refine g_assoc ?_
      refine g_gd fun hg9 => ?_
      refine g_stepL (ρ2 := fun found10 => [some (.dat (.tuple (rows.map PyData.int))), some (.dat (.list (found10.map PyData.int))), some (vI row2), some (vI rest5), none]) (ev_set (pv_Z (pv_map (v := fun one6 => (if (!decide ((Builtin.bitAnd one6 (topOf rest5)) = (0 : Int))) = true then (Builtin.bitXor one6 rest5) else one6)) (en := PyData.int) (xs := b3) (iv_lst pv_v) (hg9.1) (fun one6 hk8 => ⟨[some (.dat (.tuple (rows.map PyData.int))), some (.dat (.list (b3.map PyData.int))), some (vI row2), some (vI rest5), some (vI one6)], [some (.dat (.tuple (rows.map PyData.int))), some (.dat (.list (b3.map PyData.int))), some (vI row2), some (vI rest5), some (vI one6)], _, rfl, (pv_if (en := (fun (z : Int) => (vI z))) (tv_bo (Pv.lk (pv_bin (pv_bin pv_v (Pv.lk (pv_call (n := 1) (av_cons pv_v (h2 := av_nil)) (sp_top_of rest5 ((hg9.2) one6 hk8)))) y_and) (Pv.lk pv_c) (y_ne (e := PyData.int) (x := (Builtin.bitAnd one6 (topOf rest5))) (y := (0 : Int)) cod_int)))) (fun hk7 => (pv_bin pv_v (Pv.lk pv_v) y_xor)) (fun hk7 => pv_v)), rfl, rfl⟩))) rfl) fun found10 => ?_
      refine g_gd fun hg11 => ?_
      refine g_stepL (ρ2 := fun found12 => [some (.dat (.tuple (rows.map PyData.int))), some (.dat (.list (found12.map PyData.int))), some (vI row2), some (vI rest5), none]) (ev_set (pv_Z (pv_una (Pv.lk (pv_lstS (xs := (found10 ++ [rest5])) (e := PyData.int) (av_star (pv_Z pv_v) (av_cons pv_v (h2 := av_nil))) hg11)) y_sortRI)) rfl) fun found12 => ?_
      exact g_lp ⟨_, _, rfl⟩
    · skip
      refine g_skip ?_
      exact g_lp ⟨_, _, rfl⟩
  · rintro b13 ρ' ⟨z3, z2, rfl⟩
    refine g_one ?_
    exact (g_ret (wr := (fun (g : List Int) => (.dat (.tuple (g.map PyData.int))))) (pv_callB (al_cons pv_v al_nil) (y_tuple (xs := b13) (e := PyData.int))) trivial)

noncomputable def T_basis_of_L (rows : List Int) : R (List Int) :=
  (letR ([] : List Int) fun found1 => ((forR (fun (row2 : Int) (b3 : (List Int)) => (gdR ((leftG b3 row2)) (letR (leftOver b3 row2) fun rest5 => (if (!decide (rest5 = (0 : Int))) = true then (gdR ((b3.length ≤ 100000) ∧ (∀ one6 ∈ b3, (topG rest5))) (letR (b3.map fun one6 => (if (!decide ((Builtin.bitAnd one6 (topOf rest5)) = (0 : Int))) = true then (Builtin.bitXor one6 rest5) else one6)) fun found10 => (gdR (((found10 ++ [rest5]).length ≤ 100000)) (letR (sortRI (found10 ++ [rest5])) fun found12 => (.ok found12))))) else (.ok b3))))) rows found1).bind fun (b13 : (List Int)) => (.ok b13)))
theorem t_basis_of_L (rows : List Int) : SpR S_basis_of [((eL PyData.int) rows)] (T_basis_of_L rows) (fun (g : List Int) => (.dat (.tuple (g.map PyData.int)))) := by
  refine sp_fun (n := 1) (m := 5) (E := anyE) rfl ?_
  show Gn (F_basis_of [some (.dat (.list (rows.map PyData.int))), none, none, none, none]) (T_basis_of_L rows) _
  unfold F_basis_of T_basis_of_L
  refine g_stepL (ρ2 := fun found1 => [some (.dat (.list (rows.map PyData.int))), some (.dat (.list (found1.map PyData.int))), none, none, none]) (ev_set (pv_Z (pv_lstS (xs := ([] : List Int)) (e := PyData.int) av_nil (Nat.le_of_ble_eq_true rfl) rfl)) rfl) fun found1 => ?_
  refine g_seqJ (E := (fun (b : (List Int)) ρ' => ∃ z3 z2 : Option Vl, ρ' = [some (.dat (.list (rows.map PyData.int))), some (.dat (.list (b.map PyData.int))), z2, z3, none])) (ev_for (xs := rows) (ι := PyData.int) (Inv := (fun (b : (List Int)) ρ' => ∃ z3 z2 : Option Vl, ρ' = [some (.dat (.list (rows.map PyData.int))), some (.dat (.list (b.map PyData.int))), z2, z3, none])) (iv_lst pv_v) ⟨_, _, rfl⟩ ?_) ?_
  · rintro row2 hx b3 ρ' ⟨z3, z2, rfl⟩
    refine ⟨[some (.dat (.list (rows.map PyData.int))), some (.dat (.list (b3.map PyData.int))), some (vI row2), z3, none], rfl, ?_⟩
    refine g_gd fun hg4 => ?_
    refine g_stepL (ρ2 := fun rest5 => [some (.dat (.list (rows.map PyData.int))), some (.dat (.list (b3.map PyData.int))), some (vI row2), some (vI rest5), none]) (ev_set (pv_Z (pv_call (n := 2) (av_cons pv_v (h2 := (av_cons pv_v (h2 := av_nil)))) (sp_left_over_L b3 row2 hg4))) rfl) fun rest5 => ?_
    refine g_one ?_
    refine g_if (tv_bo (Pv.lk (pv_bin pv_v (Pv.lk pv_c) (y_ne (e := PyData.int) (x := rest5) (y := (0 : Int)) cod_int)))) (fun hk => ?_) (fun hk => ?_)
    · skip
      refine g_assoc ?_
      refine g_gd fun hg9 => ?_
      refine g_stepL (ρ2 := fun found10 => [some (.dat (.list (rows.map PyData.int))), some (.dat (.list (found10.map PyData.int))), some (vI row2), some (vI rest5), none]) (ev_set (pv_Z (pv_map (v := fun one6 => (if (!decide ((Builtin.bitAnd one6 (topOf rest5)) = (0 : Int))) = true then (Builtin.bitXor one6 rest5) else one6)) (en := PyData.int) (xs := b3) (iv_lst pv_v) (hg9.1) (fun one6 hk8 => ⟨[some (.dat (.list (rows.map PyData.int))), some (.dat (.list (b3.map PyData.int))), some (vI row2), some (vI rest5), some (vI one6)], [some (.dat (.list (rows.map PyData.int))), some (.dat (.list (b3.map PyData.int))), some (vI row2), some (vI rest5), some (vI one6)], _, rfl, (pv_if (en := (fun (z : Int) => (vI z))) (tv_bo (Pv.lk (pv_bin (pv_bin pv_v (Pv.lk (pv_call (n := 1) (av_cons pv_v (h2 := av_nil)) (sp_top_of rest5 ((hg9.2) one6 hk8)))) y_and) (Pv.lk pv_c) (y_ne (e := PyData.int) (x := (Builtin.bitAnd one6 (topOf rest5))) (y := (0 : Int)) cod_int)))) (fun hk7 => (pv_bin pv_v (Pv.lk pv_v) y_xor)) (fun hk7 => pv_v)), rfl, rfl⟩))) rfl) fun found10 => ?_
      refine g_gd fun hg11 => ?_
      refine g_stepL (ρ2 := fun found12 => [some (.dat (.list (rows.map PyData.int))), some (.dat (.list (found12.map PyData.int))), some (vI row2), some (vI rest5), none]) (ev_set (pv_Z (pv_una (Pv.lk (pv_lstS (xs := (found10 ++ [rest5])) (e := PyData.int) (av_star (pv_Z pv_v) (av_cons pv_v (h2 := av_nil))) hg11)) y_sortRI)) rfl) fun found12 => ?_
      exact g_lp ⟨_, _, rfl⟩
    · skip
      refine g_skip ?_
      exact g_lp ⟨_, _, rfl⟩
  · rintro b13 ρ' ⟨z3, z2, rfl⟩
    refine g_one ?_
    exact (g_ret (wr := (fun (g : List Int) => (.dat (.tuple (g.map PyData.int))))) (pv_callB (al_cons pv_v al_nil) (y_tuple (xs := b13) (e := PyData.int))) trivial)

theorem topG_of {n w : Nat} (h : n < 2 ^ w) (hw : w ≤ 20) : topG (n : Int) := by
  have : n < 2 ^ 20 := Nat.lt_of_lt_of_le h (Nat.pow_le_pow_right (by decide) hw)
  refine ⟨by omega, ?_⟩
  have : (2 : Int) ^ 32 = 4294967296 := by decide
  omega
theorem leftG_of {B : List Nat} {r : Int} {w : Nat} (h : ∀ b ∈ B, b < 2 ^ w) (hw : w ≤ 20) : leftG (ci B) r := by
  intro one ho
  obtain ⟨b, hb, rfl⟩ := List.mem_map.mp ho
  exact topG_of (h b hb) hw
theorem T_basis_go {f : Int → List Int → R (List Int)} (hf : ∀ (r : Nat) (F : List Nat), r < 2 ^ 20 → (∀ b ∈ F, b < 2 ^ 20) → F.length ≤ 1000 → f (r : Int) (ci F) = .ok (ci (stB F r))) :
    ∀ (rows F pre : List Nat), BInv F pre → (pre ++ rows).length ≤ 1000 → (∀ r ∈ pre, r < 2 ^ 20) → (∀ r ∈ rows, r < 2 ^ 20) → forR f (ci rows) (ci F) = .ok (ci (rows.foldl stB F)) := by
  intro rows
  induction rows with
  | nil => intro F pre _ _ _ _; rfl
  | cons r rows ih =>
    intro F pre hi hl hp hr
    have hF : ∀ b ∈ F, b < 2 ^ 20 := fun b hb => ((hi.sp b).mp (.one hb)).lt hp
    show (f (r : Int) (ci F)).bind (forR f (ci rows)) = _
    rw [hf r F (hr r (by simp)) hF (by have := hi.len; simp at hl; omega), R.ok_bind]
    refine ih _ (pre ++ [r]) (stB_inv hi r) (by simpa using hl) (fun q hq => ?_) fun q hq => hr q (by simp [hq])
    rcases List.mem_append.mp hq with hq | hq
    · exact hp q hq
    · simp at hq; subst hq; exact hr q (by simp)
theorem T_basis_nat {rows : List Nat} (hl : rows.length ≤ 1000) (h : ∀ r ∈ rows, r < 2 ^ 20) : T_basis_of_L (ci rows) = .ok (ci (bas rows)) := by
  unfold T_basis_of_L
  rw [letR_eq]
  show R.bind (forR _ (ci rows) (ci [])) _ = _
  rw [T_basis_go (fun r F hr hF hlF => ?_) rows [] [] ⟨⟨by simp, by simp, by simp⟩, by simp, fun x => Iff.rfl, by simp⟩ (by simpa using hl) (by simp) h]
  · rfl
  · have hlt : lo F r < 2 ^ 20 := by
      have h1 := (lo_sp F r).lt hF
      have := Nat.xor_lt_two_pow hr h1
      rwa [xor_back'] at this
    rw [gdR_pos (leftG_of hF (Nat.le_refl _)), letR_eq, ← stI_cast]
    unfold stI
    by_cases q : leftOver (ci F) (r : Int) = 0
    · rw [if_neg (by simp [q]), if_pos q]
    · rw [if_pos (by simp [q]), if_neg q]
      rw [gdR_pos ⟨by simp; omega, fun _ _ => by rw [left_cast]; exact topG_of hlt (Nat.le_refl _)⟩, letR_eq, gdR_pos (by simp; omega), letR_eq]
theorem basisG_ci {rows : List Int} (h : basisG rows) : ∃ ns : List Nat, rows = ci ns ∧ ns.length ≤ 1000 ∧ ∀ n ∈ ns, n < 2 ^ 20 := by
  obtain ⟨ns, rfl, hn⟩ := ci_of h.2
  exact ⟨ns, rfl, by simpa using h.1, hn⟩
theorem T_basis_ev {rows : List Int} (h : basisG rows) : T_basis_of_L rows = .ok (basisOf rows) := by
  obtain ⟨ns, rfl, hl, hn⟩ := basisG_ci h
  rw [T_basis_nat hl hn, bas_cast]
theorem sp_basis_of_L (rows : List Int) (h : basisG rows) : S_basis_of ([eL PyData.int rows].map .dat) = .ok (.dat (.tuple ((basisOf rows).map .int))) (List.replicate 1 none) := sp_okR (g := basisOf rows) (t_basis_of_L rows) (T_basis_ev h)
theorem sp_basis_of_T (rows : List Int) (h : basisG rows) : S_basis_of ([eT PyData.int rows].map .dat) = .ok (.dat (.tuple ((basisOf rows).map .int))) (List.replicate 1 none) := sp_okR (g := basisOf rows) (t_basis_of_T rows) (show T_basis_of_T rows = _ from T_basis_ev h)

end K35
end
section
set_option Elab.async false
set_option linter.all false
set_option maxRecDepth 100000
set_option maxHeartbeats 4000000
namespace K35
open Mi
open PySem (PyData)
open PySem
noncomputable def T_span (width : Int) (rows : List Int) : R (List Int) :=
  ((T_check_rows width rows).bind fun u1 => (gdR ((basisG rows)) (.ok (basisOf rows))))
theorem t_span (width : Int) (rows : List Int) : SpR S_span [(PyData.int width), ((eT PyData.int) rows)] (T_span width rows) (fun (g : List Int) => (.dat (.tuple (g.map PyData.int)))) := by
  refine sp_fun (n := 2) (m := 2) (E := anyE) rfl ?_
  show Gn (F_span [some (vI width), some (.dat (.tuple (rows.map PyData.int)))]) (T_span width rows) _
  unfold F_span T_span
  refine g_dropX (gx_call (n := 2) (av_cons pv_v (h2 := (av_cons pv_v (h2 := av_nil)))) (t_check_rows width rows)) fun u1 ρ' hρ => ?_
  subst hρ
  refine g_one ?_
  refine g_gd fun hg2 => ?_
  exact (g_ret (wr := (fun (g : List Int) => (.dat (.tuple (g.map PyData.int))))) (pv_call (n := 1) (av_cons pv_v (h2 := av_nil)) (sp_basis_of_T rows hg2)) trivial)

noncomputable def T_is_in (width : Int) (rows : List Int) (row : Int) : R Bool :=
  ((T_check_rows width rows).bind fun u1 => ((T_check_rows width ([row] : List Int)).bind fun u2 => (gdR ((basisG rows) ∧ (leftG (basisOf rows) row)) (.ok (decide ((leftOver (basisOf rows) row) = (0 : Int)))))))
theorem t_is_in (width : Int) (rows : List Int) (row : Int) : SpR S_is_in [(PyData.int width), ((eT PyData.int) rows), (PyData.int row)] (T_is_in width rows row) (fun (g : Bool) => (vB g)) := by
  refine sp_fun (n := 3) (m := 3) (E := anyE) rfl ?_
  show Gn (F_is_in [some (vI width), some (.dat (.tuple (rows.map PyData.int))), some (vI row)]) (T_is_in width rows row) _
  unfold F_is_in T_is_in
  refine g_dropX (gx_call (n := 2) (av_cons pv_v (h2 := (av_cons pv_v (h2 := av_nil)))) (t_check_rows width rows)) fun u1 ρ' hρ => ?_
  subst hρ
  refine g_dropX (gx_call (n := 2) (av_cons pv_v (h2 := (av_cons (pv_tupS (xs := ([row] : List Int)) (e := PyData.int) (av_cons pv_v (h2 := av_nil)) (Nat.le_of_ble_eq_true rfl) rfl) (h2 := av_nil)))) (t_check_rows width ([row] : List Int))) fun u2 ρ' hρ => ?_
  subst hρ
  refine g_one ?_
  refine g_gd fun hg3 => ?_
  exact (g_ret (wr := (fun (g : Bool) => (vB g))) (pv_bin (pv_call (n := 2) (av_cons (pv_call (n := 1) (av_cons pv_v (h2 := av_nil)) (sp_basis_of_T rows (hg3.1))) (h2 := (av_cons pv_v (h2 := av_nil)))) (sp_left_over_T (basisOf rows) row (hg3.2))) (Pv.lk pv_c) (y_eq (e := PyData.int) (x := (leftOver (basisOf rows) row)) (y := (0 : Int)) cod_int)) trivial)

noncomputable def T_across (width : Int) (rows : List Int) : R (List Int) :=
  ((T_check_rows width rows).bind fun u1 => (gdR ((basisG rows)) (letR (basisOf rows) fun basis3 => (gdR ((basis3.length ≤ 100000) ∧ (∀ one4 ∈ basis3, (topG one4))) (letR (basis3.map fun one4 => (topOf one4)) fun tops7 => (letR ([] : List Int) fun found8 => (gdR ((rOk width)) ((forR (fun (at_10 : Int) (b11 : (List Int)) => (gdR ((L2.CPow (1 : Int) at_10)) (letR ((1 : Int) * 2 ^ at_10.toNat) fun free13 => (if (!decide (free13 ∈ tops7)) = true then (gdR (((tops7.zip basis3).length ≤ 100000) ∧ (b11.length ≤ 100000)) (letR (b11 ++ [(Builtin.bitOr free13 ((((tops7.zip basis3).filter fun p14 => (!decide ((Builtin.bitAnd p14.2 free13) = (0 : Int)))).map fun p14 => p14.1).sum))]) fun found18 => (.ok found18))) else (.ok b11))))) (irange 0 width) found8).bind fun (b19 : (List Int)) => (gdR ((basisG b19)) (.ok (basisOf b19)))))))))))
theorem t_across (width : Int) (rows : List Int) : SpR S_across [(PyData.int width), ((eT PyData.int) rows)] (T_across width rows) (fun (g : List Int) => (.dat (.tuple (g.map PyData.int)))) := by
  refine sp_fun (n := 2) (m := 9) (E := anyE) rfl ?_
  show Gn (F_across [some (vI width), some (.dat (.tuple (rows.map PyData.int))), none, none, none, none, none, none, none]) (T_across width rows) _
  unfold F_across T_across
  refine g_dropX (gx_call (n := 2) (av_cons pv_v (h2 := (av_cons pv_v (h2 := av_nil)))) (t_check_rows width rows)) fun u1 ρ' hρ => ?_
  subst hρ
  refine g_gd fun hg2 => ?_
  refine g_stepL (ρ2 := fun basis3 => [some (vI width), some (.dat (.tuple (rows.map PyData.int))), some (.dat (.tuple (basis3.map PyData.int))), none, none, none, none, none, none]) (ev_set (pv_Z (pv_call (n := 1) (av_cons pv_v (h2 := av_nil)) (sp_basis_of_T rows hg2))) rfl) fun basis3 => ?_
  refine g_gd fun hg6 => ?_
  refine g_stepL (ρ2 := fun tops7 => [some (vI width), some (.dat (.tuple (rows.map PyData.int))), some (.dat (.tuple (basis3.map PyData.int))), some (.dat (.list (tops7.map PyData.int))), none, none, none, none, none]) (ev_set (pv_Z (pv_map (v := fun one4 => (topOf one4)) (en := PyData.int) (xs := basis3) (iv_tup pv_v) (hg6.1) (fun one4 hk5 => ⟨[some (vI width), some (.dat (.tuple (rows.map PyData.int))), some (.dat (.tuple (basis3.map PyData.int))), none, none, none, none, some (vI one4), none], [some (vI width), some (.dat (.tuple (rows.map PyData.int))), some (.dat (.tuple (basis3.map PyData.int))), none, none, none, none, some (vI one4), none], _, rfl, (pv_call (n := 1) (av_cons pv_v (h2 := av_nil)) (sp_top_of one4 ((hg6.2) one4 hk5))), rfl, rfl⟩))) rfl) fun tops7 => ?_
  refine g_stepL (ρ2 := fun found8 => [some (vI width), some (.dat (.tuple (rows.map PyData.int))), some (.dat (.tuple (basis3.map PyData.int))), some (.dat (.list (tops7.map PyData.int))), some (.ml (found8.map PyData.int)), none, none, none, none]) (ev_set (pv_lstS (xs := ([] : List Int)) (e := PyData.int) av_nil (Nat.le_of_ble_eq_true rfl) rfl) rfl) fun found8 => ?_
  refine g_gd fun hg9 => ?_
  refine g_seqJ (E := (fun (b : (List Int)) ρ' => ∃ z6 z5 : Option Vl, ρ' = [some (vI width), some (.dat (.tuple (rows.map PyData.int))), some (.dat (.tuple (basis3.map PyData.int))), some (.dat (.list (tops7.map PyData.int))), some (.ml (b.map PyData.int)), z5, z6, none, none])) (ev_for (xs := (irange 0 width)) (ι := PyData.int) (Inv := (fun (b : (List Int)) ρ' => ∃ z6 z5 : Option Vl, ρ' = [some (vI width), some (.dat (.tuple (rows.map PyData.int))), some (.dat (.tuple (basis3.map PyData.int))), some (.dat (.list (tops7.map PyData.int))), some (.ml (b.map PyData.int)), z5, z6, none, none])) (iv_r1 (al_cons pv_v al_nil) hg9) ⟨_, _, rfl⟩ ?_) ?_
  · rintro at_10 hx b11 ρ' ⟨z6, z5, rfl⟩
    refine ⟨[some (vI width), some (.dat (.tuple (rows.map PyData.int))), some (.dat (.tuple (basis3.map PyData.int))), some (.dat (.list (tops7.map PyData.int))), some (.ml (b11.map PyData.int)), some (vI at_10), z6, none, none], rfl, ?_⟩
    refine g_gd fun hg12 => ?_
    refine g_stepL (ρ2 := fun free13 => [some (vI width), some (.dat (.tuple (rows.map PyData.int))), some (.dat (.tuple (basis3.map PyData.int))), some (.dat (.list (tops7.map PyData.int))), some (.ml (b11.map PyData.int)), some (vI at_10), some (vI free13), none, none]) (ev_set (pv_bin pv_c (Pv.lk pv_v) (y_shl hg12)) rfl) fun free13 => ?_
    refine g_one ?_
    refine g_if (tv_bo (Pv.lk (pv_bin pv_v (Pv.lk pv_v) (y_notIn (e := PyData.int) (x := free13) (xs := tops7) cod_int)))) (fun hk => ?_) (fun hk => ?_)
    · skip
      refine g_gd fun hg17 => ?_
      refine g_stepL (ρ2 := fun found18 => [some (vI width), some (.dat (.tuple (rows.map PyData.int))), some (.dat (.tuple (basis3.map PyData.int))), some (.dat (.list (tops7.map PyData.int))), some (.ml (found18.map PyData.int)), some (vI at_10), some (vI free13), none, none]) (ev_app (xs := b11) (x := (Builtin.bitOr free13 ((((tops7.zip basis3).filter fun p14 => (!decide ((Builtin.bitAnd p14.2 free13) = (0 : Int)))).map fun p14 => p14.1).sum))) (e := PyData.int) (pv_bin pv_v (Pv.lk (pv_callB (al_cons (pv_comp (p := fun p14 => (!decide ((Builtin.bitAnd p14.2 free13) = (0 : Int)))) (v := (fun p14 => p14.1)) (en := PyData.int) (xs := (tops7.zip basis3)) (iv_zip2 (xs := tops7) (e := PyData.int) (zs := basis3) (e' := PyData.int) (pv_Z pv_v) (pv_Z pv_v)) (hg17.1) (fun p14 hk16 => ⟨[some (vI width), some (.dat (.tuple (rows.map PyData.int))), some (.dat (.tuple (basis3.map PyData.int))), some (.dat (.list (tops7.map PyData.int))), some (.ml (b11.map PyData.int)), some (vI at_10), some (vI free13), some (vI p14.2), some (vI p14.1)], [some (vI width), some (.dat (.tuple (rows.map PyData.int))), some (.dat (.tuple (basis3.map PyData.int))), some (.dat (.list (tops7.map PyData.int))), some (.ml (b11.map PyData.int)), some (vI at_10), some (vI free13), some (vI p14.2), some (vI p14.1)], rfl, rfl, (tv_bo (Pv.lk (pv_bin (pv_bin pv_v (Pv.lk pv_v) y_and) (Pv.lk pv_c) (y_ne (e := PyData.int) (x := (Builtin.bitAnd p14.2 free13)) (y := (0 : Int)) cod_int)))), fun hk15 => ⟨_, pv_v, rfl, rfl⟩⟩)) al_nil) (y_sum (ha := by rfl)))) y_or) (hg17.2) (hr := by rfl)) fun found18 => ?_
      exact g_lp ⟨_, _, rfl⟩
    · skip
      refine g_skip ?_
      exact g_lp ⟨_, _, rfl⟩
  · rintro b19 ρ' ⟨z6, z5, rfl⟩
    refine g_one ?_
    refine g_gd fun hg20 => ?_
    exact (g_ret (wr := (fun (g : List Int) => (.dat (.tuple (g.map PyData.int))))) (pv_callL (n := 1) (ab_cons pl_v (h2 := ab_nil)) (sp_basis_of_L b19 hg20) (noLs_map fun _ => rfl)) trivial)

noncomputable def T_in_both (width : Int) (first_ : List Int) (second : List Int) : R (List Int) :=
  (T_across width first_).bind fun a => (T_across width second).bind fun b => gdR ((a ++ b).length ≤ 100000) (T_across width (a ++ b))
theorem gx_both {w : Int} {d1 d2 : PyData} {r1 r2 : R (List Int)} (h1 : SpR S_across [.int w, d1] r1 (fun (g : List Int) => (.dat (.tuple (g.map PyData.int))))) (h2 : SpR S_across [.int w, d2] r2 (fun (g : List Int) => (.dat (.tuple (g.map PyData.int))))) :
    SpR S_in_both [.int w, d1, d2] (r1.bind fun a => r2.bind fun b => gdR ((a ++ b).length ≤ 100000) (T_across w (a ++ b))) (fun (g : List Int) => (.dat (.tuple (g.map PyData.int)))) := by
  refine sp_fun (n := 3) (m := 3) (E := anyE) rfl ?_
  show Gn (F_in_both [some (vI w), some (.dat d1), some (.dat d2)]) _ _
  unfold F_in_both
  refine g_one (g_retX (gx_any (E := fun _ ρ' => ρ' = [some (vI w), some (.dat d1), some (.dat d2)]) ?_))
  have g1 := gx_call (n := 2) (ρ := [some (vI w), some (.dat d1), some (.dat d2)]) (F := aCons (fV 0) (aCons (fV 1) aNil)) (av_cons pv_v (h2 := av_cons pv_v (h2 := av_nil))) h1
  have g2 := gx_call (n := 2) (ρ := [some (vI w), some (.dat d1), some (.dat d2)]) (F := aCons (fV 0) (aCons (fV 2) aNil)) (av_cons pv_v (h2 := av_cons pv_v (h2 := av_nil))) h2
  have g3 := gx_tupG (ga_star g1 (fun g => rfl) (ga_star g2 (fun g => rfl) (ga_av (x := ()) av_nil)))
  have g4 := ga_consX (f := fV 0) (gx_pv (x := w) (wr := fun n => .dat (.int n)) pv_v) (fun _ => rfl) (ga_consX g3 (fun _ => rfl) (ga_av (x := ()) av_nil))
  have g5 := gx_callG (n := 2) (S := S_across) (r2 := fun p => T_across p.1 (p.2.1.1 ++ p.2.1.2.1)) g4 (fun x => by
    have := t_across x.1 (x.2.1.1 ++ x.2.1.2.1)
    simpa [eT] using this) (fun _ => rfl)
  cases r1 with
  | stk => trivial
  | exc c => exact g5
  | ok a =>
    cases r2 with
    | stk => trivial
    | exc c => exact g5
    | ok b =>
      simp only [R.ok_bind] at g5 ⊢
      by_cases q : (a ++ b).length ≤ 100000
      · rw [gdR_pos q]
        rw [gdR_pos (by simpa using q)] at g5
        exact g5
      · unfold gdR
        rw [if_neg q]; trivial
theorem t_in_both (width : Int) (first_ : List Int) (second : List Int) : SpR S_in_both [(PyData.int width), ((eT PyData.int) first_), ((eT PyData.int) second)] (T_in_both width first_ second) (fun (g : List Int) => (.dat (.tuple (g.map PyData.int)))) := gx_both (t_across width first_) (t_across width second)
/-- the first is refused -/
theorem in_both_x {w : Int} {d1 d2 : PyData} {c : Nat} (h1 : SpR S_across [.int w, d1] (.exc c : R (List Int)) (fun (g : List Int) => (.dat (.tuple (g.map PyData.int))))) : SpR S_in_both [.int w, d1, d2] (.exc c : R (List Int)) (fun (g : List Int) => (.dat (.tuple (g.map PyData.int)))) :=
  gx_both (r2 := .stk) h1 trivial

noncomputable def T_in_one (width : Int) (first_ : List Int) (second : List Int) : R (List Int) :=
  ((T_check_rows width first_).bind fun u1 => ((T_check_rows width second).bind fun u2 => (gdR ((basisG first_) ∧ (basisG second) ∧ (((basisOf first_) ++ (basisOf second)).length ≤ 100000) ∧ (basisG ((basisOf first_) ++ (basisOf second)))) (.ok (basisOf ((basisOf first_) ++ (basisOf second)))))))
theorem t_in_one (width : Int) (first_ : List Int) (second : List Int) : SpR S_in_one [(PyData.int width), ((eT PyData.int) first_), ((eT PyData.int) second)] (T_in_one width first_ second) (fun (g : List Int) => (.dat (.tuple (g.map PyData.int)))) := by
  refine sp_fun (n := 3) (m := 3) (E := anyE) rfl ?_
  show Gn (F_in_one [some (vI width), some (.dat (.tuple (first_.map PyData.int))), some (.dat (.tuple (second.map PyData.int)))]) (T_in_one width first_ second) _
  unfold F_in_one T_in_one
  refine g_dropX (gx_call (n := 2) (av_cons pv_v (h2 := (av_cons pv_v (h2 := av_nil)))) (t_check_rows width first_)) fun u1 ρ' hρ => ?_
  subst hρ
  refine g_dropX (gx_call (n := 2) (av_cons pv_v (h2 := (av_cons pv_v (h2 := av_nil)))) (t_check_rows width second)) fun u2 ρ' hρ => ?_
  subst hρ
  refine g_one ?_
  refine g_gd fun hg3 => ?_
  exact (g_ret (wr := (fun (g : List Int) => (.dat (.tuple (g.map PyData.int))))) (pv_call (n := 1) (av_cons (pv_tupS (xs := ((basisOf first_) ++ (basisOf second))) (e := PyData.int) (av_star (pv_call (n := 1) (av_cons pv_v (h2 := av_nil)) (sp_basis_of_T first_ (hg3.1))) (av_star (pv_call (n := 1) (av_cons pv_v (h2 := av_nil)) (sp_basis_of_T second (hg3.2.1))) av_nil)) (hg3.2.2.1)) (h2 := av_nil)) (sp_basis_of_T ((basisOf first_) ++ (basisOf second)) (hg3.2.2.2))) trivial)

end K35
end
section
set_option Elab.async false
set_option linter.all false
set_option maxRecDepth 100000
set_option maxHeartbeats 4000000
namespace K35
open Mi
open PySem (PyData)
open PySem
noncomputable def T_parts_for (rows : List Int) (goal : Int) : R (Option (List Int)) :=
  (letR ([] : List (Int × Int)) fun found1 => ((forR (fun (p2 : Int × Int) (b3 : (List (Int × Int))) => (gdR ((L2.CPow (1 : Int) p2.1)) (letR (((p2.2, ((1 : Int) * 2 ^ p2.1.toNat)).1, (p2.2, ((1 : Int) * 2 ^ p2.1.toNat)).2) : Int × Int) fun q5 => ((forR (fun (p6 : Int × Int) (b7 : Int × Int) => (gdR ((topG p6.1)) (if (!decide ((Builtin.bitAnd b7.1 (topOf p6.1)) = (0 : Int))) = true then (letR ((((Builtin.bitXor b7.1 p6.1), (Builtin.bitXor b7.2 p6.2)).1, ((Builtin.bitXor b7.1 p6.1), (Builtin.bitXor b7.2 p6.2)).2) : Int × Int) fun q9 => (.ok (q9.1, q9.2))) else (.ok (b7.1, b7.2))))) b3 (q5.1, q5.2)).bind fun (b10 : Int × Int) => (if (!decide (b10.1 = (0 : Int))) = true then (gdR ((b3.length ≤ 100000)) (letR (b3 ++ [(b10.1, b10.2)]) fun found12 => (letR (sortRP found12) fun found13 => (.ok found13)))) else (.ok b3)))))) (enL rows) found1).bind fun (b14 : (List (Int × Int))) => (letR (0 : Int) fun used15 => ((forR (fun (p16 : Int × Int) (b17 : Int × Int) => (gdR ((topG p16.1)) (if (!decide ((Builtin.bitAnd b17.1 (topOf p16.1)) = (0 : Int))) = true then (letR ((((Builtin.bitXor b17.1 p16.1), (Builtin.bitXor b17.2 p16.2)).1, ((Builtin.bitXor b17.1 p16.1), (Builtin.bitXor b17.2 p16.2)).2) : Int × Int) fun q19 => (.ok (q19.1, q19.2))) else (.ok (b17.1, b17.2))))) b14 (goal, used15)).bind fun (b20 : Int × Int) => (if (!decide (b20.1 = (0 : Int))) = true then (.ok none) else (gdR ((rOk (rows.length : Int)) ∧ ((irange 0 (rows.length : Int)).length ≤ 100000) ∧ (∀ at_21 ∈ (irange 0 (rows.length : Int)), (0 ≤ at_21))) (.ok (some ((irange 0 (rows.length : Int)).filter fun at_21 => ((Builtin.bitAnd (b20.2 / 2 ^ at_21.toNat) (1 : Int)) != 0))))))))))
theorem t_parts_for (rows : List Int) (goal : Int) : SpR S_parts_for [((eT PyData.int) rows), (PyData.int goal)] (T_parts_for rows goal) (fun (g : Option (List Int)) => (.dat ((eO (eT PyData.int)) g))) := by
  refine sp_fun (n := 2) (m := 9) (E := anyE) rfl ?_
  show Gn (F_parts_for [some (.dat (.tuple (rows.map PyData.int))), some (vI goal), none, none, none, none, none, none, none]) (T_parts_for rows goal) _
  unfold F_parts_for T_parts_for
  refine g_stepL (ρ2 := fun found1 => [some (.dat (.tuple (rows.map PyData.int))), some (vI goal), some (.ml (found1.map (eP PyData.int PyData.int))), none, none, none, none, none, none]) (ev_set (pv_lstS (xs := ([] : List (Int × Int))) (e := (eP PyData.int PyData.int)) av_nil (Nat.le_of_ble_eq_true rfl) rfl) rfl) fun found1 => ?_
  refine g_seqJ (E := (fun (b : (List (Int × Int))) ρ' => ∃ z5 z6 z7 z8 z3 z4 : Option Vl, ρ' = [some (.dat (.tuple (rows.map PyData.int))), some (vI goal), some (.ml (b.map (eP PyData.int PyData.int))), z3, z4, z5, z6, z7, z8])) (ev_for (xs := (enL rows)) (ι := (eP PyData.int PyData.int)) (Inv := (fun (b : (List (Int × Int))) ρ' => ∃ z5 z6 z7 z8 z3 z4 : Option Vl, ρ' = [some (.dat (.tuple (rows.map PyData.int))), some (vI goal), some (.ml (b.map (eP PyData.int PyData.int))), z3, z4, z5, z6, z7, z8])) (iv_enu (xs := rows) (e := PyData.int) (pv_Z pv_v)) ⟨_, _, _, _, _, _, rfl⟩ ?_) ?_
  · rintro p2 hx b3 ρ' ⟨z5, z6, z7, z8, z3, z4, rfl⟩
    refine ⟨[some (.dat (.tuple (rows.map PyData.int))), some (vI goal), some (.ml (b3.map (eP PyData.int PyData.int))), some (vI p2.1), some (vI p2.2), z5, z6, z7, z8], rfl, ?_⟩
    refine g_gd fun hg4 => ?_
    refine g_stepL (α := Int × Int) (ρ2 := fun q5 => [some (.dat (.tuple (rows.map PyData.int))), some (vI goal), some (.ml (b3.map (eP PyData.int PyData.int))), some (vI p2.1), some (vI p2.2), some (vI q5.1), some (vI q5.2), z7, z8]) (ev_asg (pv_tup (av_cons pv_v (h2 := (av_cons (pv_bin pv_c (Pv.lk pv_v) (y_shl hg4)) (h2 := av_nil)))))) fun q5 => ?_
    refine g_seqJ (E := (fun (b : Int × Int) ρ' => ∃ z7 z8 : Option Vl, ρ' = [some (.dat (.tuple (rows.map PyData.int))), some (vI goal), some (.ml (b3.map (eP PyData.int PyData.int))), some (vI p2.1), some (vI p2.2), some (vI b.1), some (vI b.2), z7, z8])) (ev_forB (xs := b3) (ι := (eP PyData.int PyData.int)) (Inv := (fun (b : Int × Int) ρ' => ∃ z7 z8 : Option Vl, ρ' = [some (.dat (.tuple (rows.map PyData.int))), some (vI goal), some (.ml (b3.map (eP PyData.int PyData.int))), some (vI p2.1), some (vI p2.2), some (vI b.1), some (vI b.2), z7, z8])) ⟨_, _, rfl⟩ (by rintro b ρ' ⟨_, _, rfl⟩; rfl) ?_) ?_
    · rintro p6 hx b7 ρ' ⟨z7, z8, rfl⟩
      refine ⟨[some (.dat (.tuple (rows.map PyData.int))), some (vI goal), some (.ml (b3.map (eP PyData.int PyData.int))), some (vI p2.1), some (vI p2.2), some (vI b7.1), some (vI b7.2), some (vI p6.1), some (vI p6.2)], rfl, ?_⟩
      refine g_one ?_
      refine g_gd fun hg8 => ?_
      refine g_if (tv_bo (Pv.lk (pv_bin (pv_bin pv_v (Pv.lk (pv_call (n := 1) (av_cons pv_v (h2 := av_nil)) (sp_top_of p6.1 hg8))) y_and) (Pv.lk pv_c) (y_ne (e := PyData.int) (x := (Builtin.bitAnd b7.1 (topOf p6.1))) (y := (0 : Int)) cod_int)))) (fun hk => ?_) (fun hk => ?_)
      · skip
        refine g_stepL (α := Int × Int) (ρ2 := fun q9 => [some (.dat (.tuple (rows.map PyData.int))), some (vI goal), some (.ml (b3.map (eP PyData.int PyData.int))), some (vI p2.1), some (vI p2.2), some (vI q9.1), some (vI q9.2), some (vI p6.1), some (vI p6.2)]) (ev_asg (pv_tup (av_cons (pv_bin pv_v (Pv.lk pv_v) y_xor) (h2 := (av_cons (pv_bin pv_v (Pv.lk pv_v) y_xor) (h2 := av_nil)))))) fun q9 => ?_
        exact g_lp ⟨_, _, rfl⟩
      · skip
        refine g_skip ?_
        exact g_lp ⟨_, _, rfl⟩
    · rintro b10 ρ' ⟨z7, z8, rfl⟩
      refine g_one ?_
      refine g_if (tv_bo (Pv.lk (pv_bin pv_v (Pv.lk pv_c) (y_ne (e := PyData.int) (x := b10.1) (y := (0 : Int)) cod_int)))) (fun hk => ?_) (fun hk => ?_)
      · skip
        refine g_assoc ?_
        refine g_gd fun hg11 => ?_
        refine g_stepL (ρ2 := fun found12 => [some (.dat (.tuple (rows.map PyData.int))), some (vI goal), some (.ml (found12.map (eP PyData.int PyData.int))), some (vI p2.1), some (vI p2.2), some (vI b10.1), some (vI b10.2), z7, z8]) (ev_app (xs := b3) (x := (b10.1, b10.2)) (e := (eP PyData.int PyData.int)) (pv_tup (av_cons pv_v (h2 := (av_cons pv_v (h2 := av_nil))))) hg11 (hr := by rfl)) fun found12 => ?_
        refine g_stepL (ρ2 := fun found13 => [some (.dat (.tuple (rows.map PyData.int))), some (vI goal), some (.ml (found13.map (eP PyData.int PyData.int))), some (vI p2.1), some (vI p2.2), some (vI b10.1), some (vI b10.2), z7, z8]) (ev_set (pv_una pl_v y_sortRP) rfl) fun found13 => ?_
        exact g_lp ⟨_, _, _, _, _, _, rfl⟩
      · skip
        refine g_skip ?_
        exact g_lp ⟨_, _, _, _, _, _, rfl⟩
  · rintro b14 ρ' ⟨z5, z6, z7, z8, z3, z4, rfl⟩
    refine g_stepL (ρ2 := fun used15 => [some (.dat (.tuple (rows.map PyData.int))), some (vI goal), some (.ml (b14.map (eP PyData.int PyData.int))), z3, z4, z5, some (vI used15), z7, z8]) (ev_set pv_c rfl) fun used15 => ?_
    refine g_seqJ (E := (fun (b : Int × Int) ρ' => ∃ z7 z8 : Option Vl, ρ' = [some (.dat (.tuple (rows.map PyData.int))), some (vI b.1), some (.ml (b14.map (eP PyData.int PyData.int))), z3, z4, z5, some (vI b.2), z7, z8])) (ev_forB (xs := b14) (ι := (eP PyData.int PyData.int)) (Inv := (fun (b : Int × Int) ρ' => ∃ z7 z8 : Option Vl, ρ' = [some (.dat (.tuple (rows.map PyData.int))), some (vI b.1), some (.ml (b14.map (eP PyData.int PyData.int))), z3, z4, z5, some (vI b.2), z7, z8])) ⟨_, _, rfl⟩ (by rintro b ρ' ⟨_, _, rfl⟩; rfl) ?_) ?_
    · rintro p16 hx b17 ρ' ⟨z7, z8, rfl⟩
      refine ⟨[some (.dat (.tuple (rows.map PyData.int))), some (vI b17.1), some (.ml (b14.map (eP PyData.int PyData.int))), z3, z4, z5, some (vI b17.2), some (vI p16.1), some (vI p16.2)], rfl, ?_⟩
      refine g_one ?_
      refine g_gd fun hg18 => ?_
      refine g_if (tv_bo (Pv.lk (pv_bin (pv_bin pv_v (Pv.lk (pv_call (n := 1) (av_cons pv_v (h2 := av_nil)) (sp_top_of p16.1 hg18))) y_and) (Pv.lk pv_c) (y_ne (e := PyData.int) (x := (Builtin.bitAnd b17.1 (topOf p16.1))) (y := (0 : Int)) cod_int)))) (fun hk => ?_) (fun hk => ?_)
      · skip
        refine g_stepL (α := Int × Int) (ρ2 := fun q19 => [some (.dat (.tuple (rows.map PyData.int))), some (vI q19.1), some (.ml (b14.map (eP PyData.int PyData.int))), z3, z4, z5, some (vI q19.2), some (vI p16.1), some (vI p16.2)]) (ev_asg (pv_tup (av_cons (pv_bin pv_v (Pv.lk pv_v) y_xor) (h2 := (av_cons (pv_bin pv_v (Pv.lk pv_v) y_xor) (h2 := av_nil)))))) fun q19 => ?_
        exact g_lp ⟨_, _, rfl⟩
      · skip
        refine g_skip ?_
        exact g_lp ⟨_, _, rfl⟩
    · rintro b20 ρ' ⟨z7, z8, rfl⟩
      refine g_if (tv_bo (Pv.lk (pv_bin pv_v (Pv.lk pv_c) (y_ne (e := PyData.int) (x := b20.1) (y := (0 : Int)) cod_int)))) (fun hk => ?_) (fun hk => ?_)
      · skip
        exact (g_ret (wr := (fun (g : Option (List Int)) => (.dat ((eO (eT PyData.int)) g)))) pv_c trivial)
      · skip
        refine g_skip ?_
        refine g_one ?_
        refine g_gd fun hg24 => ?_
        exact (g_ret (wr := (fun (g : Option (List Int)) => (.dat ((eO (eT PyData.int)) g)))) (pv_callB (al_cons (pv_fil (p := fun at_21 => ((Builtin.bitAnd (b20.2 / 2 ^ at_21.toNat) (1 : Int)) != 0)) (en := PyData.int) (xs := (irange 0 (rows.length : Int))) (iv_r1 (al_cons (pv_callB (al_cons pv_v al_nil) (y_len (xs := rows) (e := PyData.int))) al_nil) (hg24.1)) (hg24.2.1) (fun at_21 hk23 => ⟨[some (.dat (.tuple (rows.map PyData.int))), some (vI b20.1), some (.ml (b14.map (eP PyData.int PyData.int))), some (vI at_21), z4, z5, some (vI b20.2), z7, z8], [some (.dat (.tuple (rows.map PyData.int))), some (vI b20.1), some (.ml (b14.map (eP PyData.int PyData.int))), some (vI at_21), z4, z5, some (vI b20.2), z7, z8], rfl, rfl, (tv_tr (Pv.lk (pv_bin (pv_bin pv_v (Pv.lk pv_v) (y_shr ((hg24.2.2) at_21 hk23))) (Pv.lk pv_c) y_and)) y_truI), fun hk22 => ⟨_, pv_v, rfl, rfl⟩⟩)) al_nil) (y_tuple (xs := ((irange 0 (rows.length : Int)).filter fun at_21 => ((Builtin.bitAnd (b20.2 / 2 ^ at_21.toNat) (1 : Int)) != 0))) (e := PyData.int))) trivial)

noncomputable def T_parts (width : Int) (rows : List Int) (goal : Int) : R (List Int) :=
  ((T_check_rows width rows).bind fun u1 => ((T_check_rows width ([goal] : List Int)).bind fun u2 => ((T_parts_for rows goal).bind fun found3 => (optR found3 (.exc 3) fun found4 => (.ok found4)))))
theorem t_parts (width : Int) (rows : List Int) (goal : Int) : SpR S_parts [(PyData.int width), ((eT PyData.int) rows), (PyData.int goal)] (T_parts width rows goal) (fun (g : List Int) => (.dat (.tuple (g.map PyData.int)))) := by
  refine sp_fun (n := 3) (m := 4) (E := anyE) rfl ?_
  show Gn (F_parts [some (vI width), some (.dat (.tuple (rows.map PyData.int))), some (vI goal), none]) (T_parts width rows goal) _
  unfold F_parts T_parts
  refine g_dropX (gx_call (n := 2) (av_cons pv_v (h2 := (av_cons pv_v (h2 := av_nil)))) (t_check_rows width rows)) fun u1 ρ' hρ => ?_
  subst hρ
  refine g_dropX (gx_call (n := 2) (av_cons pv_v (h2 := (av_cons (pv_tupS (xs := ([goal] : List Int)) (e := PyData.int) (av_cons pv_v (h2 := av_nil)) (Nat.le_of_ble_eq_true rfl) rfl) (h2 := av_nil)))) (t_check_rows width ([goal] : List Int))) fun u2 ρ' hρ => ?_
  subst hρ
  refine g_setX2 (ρ2 := fun found3 => [some (vI width), some (.dat (.tuple (rows.map PyData.int))), some (vI goal), some (.dat ((eO (eT PyData.int)) found3))]) (gx_Z (gx_call (n := 2) (av_cons pv_v (h2 := (av_cons pv_v (h2 := av_nil)))) (t_parts_for rows goal)) (fun _ => rfl)) (fun _ => rfl) fun found3 => ?_
  cases found3 with
  | none =>
    refine g_optN ?_
    refine g_ifT (tv_bo (pv_bin pv_v (pv_c).lk rfl).lk) ?_
    exact g_raise
  | some found4 =>
    refine g_optS ?_
    refine g_ifF (tv_bo (pv_bin (pv_v (d := (eT PyData.int) found4)) (pv_c).lk rfl).lk) ?_
    refine g_skip ?_
    refine g_one ?_
    exact (g_ret (wr := (fun (g : List Int) => (.dat (.tuple (g.map PyData.int))))) pv_v trivial)

noncomputable def T_are_parts (width : Int) (rows : List Int) (goal : Int) (places : List Int) : R Bool :=
  ((T_check_rows width rows).bind fun u1 => ((T_check_rows width ([goal] : List Int)).bind fun u2 => (gdR ((places.length < 4000) ∧ ((!decide (places = (sortSet places))) = false → (places.length ≤ 100000))) (if ((!decide (places = (sortSet places))) || (!((places.map fun at_3 => ((decide ((0 : Int) ≤ at_3)) && (decide (at_3 < (rows.length : Int))))).all id))) = true then (.ok false) else ((forR (fun (at_8 : Int) (b9 : Int) => (gdR ((inR rows.length at_8)) (letR (Builtin.bitXor b9 (ix rows at_8)) fun goal11 => (.ok goal11)))) places goal).bind fun (b12 : Int) => (.ok (decide (b12 = (0 : Int)))))))))
theorem t_are_parts (width : Int) (rows : List Int) (goal : Int) (places : List Int) : SpR S_are_parts [(PyData.int width), ((eT PyData.int) rows), (PyData.int goal), ((eT PyData.int) places)] (T_are_parts width rows goal places) (fun (g : Bool) => (vB g)) := by
  refine sp_fun (n := 4) (m := 5) (E := anyE) rfl ?_
  show Gn (F_are_parts [some (vI width), some (.dat (.tuple (rows.map PyData.int))), some (vI goal), some (.dat (.tuple (places.map PyData.int))), none]) (T_are_parts width rows goal places) _
  unfold F_are_parts T_are_parts
  refine g_dropX (gx_call (n := 2) (av_cons pv_v (h2 := (av_cons pv_v (h2 := av_nil)))) (t_check_rows width rows)) fun u1 ρ' hρ => ?_
  subst hρ
  refine g_dropX (gx_call (n := 2) (av_cons pv_v (h2 := (av_cons (pv_tupS (xs := ([goal] : List Int)) (e := PyData.int) (av_cons pv_v (h2 := av_nil)) (Nat.le_of_ble_eq_true rfl) rfl) (h2 := av_nil)))) (t_check_rows width ([goal] : List Int))) fun u2 ρ' hρ => ?_
  subst hρ
  refine g_gd fun hg7 => ?_
  refine g_if (tv_or (tv_bo (Pv.lk (pv_bin (pv_callB (al_cons pv_v al_nil) (y_list (xs := places) (e := PyData.int))) (Pv.lk (pv_callB (al_cons (pv_callB (al_cons pv_v al_nil) (y_set (hg7.1))) al_nil) y_sortS)) (y_ne (e := (eL PyData.int)) (x := places) (y := (sortSet places)) (cod_lst cod_int))))) (fun hk6 => (tv_not (tv_tr (Pv.lk (pv_callB (al_cons (pv_map (v := fun at_3 => ((decide ((0 : Int) ≤ at_3)) && (decide (at_3 < (rows.length : Int))))) (en := PyData.bool) (xs := places) (iv_tup pv_v) ((hg7.2) hk6) (fun at_3 hk5 => ⟨[some (vI width), some (.dat (.tuple (rows.map PyData.int))), some (vI goal), some (.dat (.tuple (places.map PyData.int))), some (vI at_3)], [some (vI width), some (.dat (.tuple (rows.map PyData.int))), some (vI goal), some (.dat (.tuple (places.map PyData.int))), some (vI at_3)], _, rfl, (pv_chain (Pv.lk pv_c) (Pv.lk pv_v) y_le (fun hk4 => ⟨(Pv.lk (pv_callB (al_cons pv_v al_nil) (y_len (xs := rows) (e := PyData.int)))), y_lt⟩)), rfl, rfl⟩)) al_nil) (y_all (ha := by rfl)))) rfl)))) (fun hk => ?_) (fun hk => ?_)
  · skip
    exact (g_ret (wr := (fun (g : Bool) => (vB g))) pv_c trivial)
  · skip
    refine g_skip ?_
    refine g_seqJ (E := (fun (b : Int) ρ' => ∃ z4 : Option Vl, ρ' = [some (vI width), some (.dat (.tuple (rows.map PyData.int))), some (vI b), some (.dat (.tuple (places.map PyData.int))), z4])) (ev_for (xs := places) (ι := PyData.int) (Inv := (fun (b : Int) ρ' => ∃ z4 : Option Vl, ρ' = [some (vI width), some (.dat (.tuple (rows.map PyData.int))), some (vI b), some (.dat (.tuple (places.map PyData.int))), z4])) (iv_tup pv_v) ⟨_, rfl⟩ ?_) ?_
    · rintro at_8 hx b9 ρ' ⟨z4, rfl⟩
      refine ⟨[some (vI width), some (.dat (.tuple (rows.map PyData.int))), some (vI b9), some (.dat (.tuple (places.map PyData.int))), some (vI at_8)], rfl, ?_⟩
      refine g_one ?_
      refine g_gd fun hg10 => ?_
      refine g_stepL (ρ2 := fun goal11 => [some (vI width), some (.dat (.tuple (rows.map PyData.int))), some (vI goal11), some (.dat (.tuple (places.map PyData.int))), some (vI at_8)]) (ev_set (pv_bin pv_v (Pv.lk (pv_bin pv_v (Pv.lk pv_v) (y_ix (xs := rows) (e := PyData.int) hg10))) y_xor) rfl) fun goal11 => ?_
      exact g_lp ⟨_, rfl⟩
    · rintro b12 ρ' ⟨z4, rfl⟩
      refine g_one ?_
      exact (g_ret (wr := (fun (g : Bool) => (vB g))) (pv_bin pv_v (Pv.lk pv_c) (y_eq (e := PyData.int) (x := b12) (y := (0 : Int)) cod_int)) trivial)

noncomputable def T__law_span (rows : List Int) : R (List Int) :=
  (letR ([(0 : Int)] : List Int) fun found1 => ((forR (fun (row2 : Int) (b3 : (List Int)) => (if (!decide (row2 ∈ b3)) = true then (gdR ((b3.length ≤ 100000) ∧ (szOk (b3.length + (b3.map fun one4 => (Builtin.bitXor one4 row2)).length))) (letR (b3 ++ (b3.map fun one4 => (Builtin.bitXor one4 row2))) fun found7 => (.ok found7))) else (.ok b3))) rows found1).bind fun (b8 : (List Int)) => (.ok (sortI b8))))
theorem t__law_span (rows : List Int) : SpR S__law_span [((eT PyData.int) rows)] (T__law_span rows) (fun (g : List Int) => (.ml (g.map PyData.int))) := by
  refine sp_fun (n := 1) (m := 4) (E := anyE) rfl ?_
  show Gn (F__law_span [some (.dat (.tuple (rows.map PyData.int))), none, none, none]) (T__law_span rows) _
  unfold F__law_span T__law_span
  refine g_stepL (ρ2 := fun found1 => [some (.dat (.tuple (rows.map PyData.int))), some (.dat (.list (found1.map PyData.int))), none, none]) (ev_set (pv_Z (pv_lstS (xs := ([(0 : Int)] : List Int)) (e := PyData.int) (av_cons pv_c (h2 := av_nil)) (Nat.le_of_ble_eq_true rfl) rfl)) rfl) fun found1 => ?_
  refine g_seqJ (E := (fun (b : (List Int)) ρ' => ∃ z2 : Option Vl, ρ' = [some (.dat (.tuple (rows.map PyData.int))), some (.dat (.list (b.map PyData.int))), z2, none])) (ev_for (xs := rows) (ι := PyData.int) (Inv := (fun (b : (List Int)) ρ' => ∃ z2 : Option Vl, ρ' = [some (.dat (.tuple (rows.map PyData.int))), some (.dat (.list (b.map PyData.int))), z2, none])) (iv_tup pv_v) ⟨_, rfl⟩ ?_) ?_
  · rintro row2 hx b3 ρ' ⟨z2, rfl⟩
    refine ⟨[some (.dat (.tuple (rows.map PyData.int))), some (.dat (.list (b3.map PyData.int))), some (vI row2), none], rfl, ?_⟩
    refine g_one ?_
    refine g_if (tv_bo (Pv.lk (pv_bin pv_v (Pv.lk pv_v) (y_notIn (e := PyData.int) (x := row2) (xs := b3) cod_int)))) (fun hk => ?_) (fun hk => ?_)
    · skip
      refine g_gd fun hg6 => ?_
      refine g_stepL (ρ2 := fun found7 => [some (.dat (.tuple (rows.map PyData.int))), some (.dat (.list (found7.map PyData.int))), some (vI row2), none]) (ev_set (pv_Z (pv_bin pv_v (Pv.lk (pv_map (v := fun one4 => (Builtin.bitXor one4 row2)) (en := PyData.int) (xs := b3) (iv_lst pv_v) (hg6.1) (fun one4 hk5 => ⟨[some (.dat (.tuple (rows.map PyData.int))), some (.dat (.list (b3.map PyData.int))), some (vI row2), some (vI one4)], [some (.dat (.tuple (rows.map PyData.int))), some (.dat (.list (b3.map PyData.int))), some (vI row2), some (vI one4)], _, rfl, (pv_bin pv_v (Pv.lk pv_v) y_xor), rfl, rfl⟩))) (y_catL (xs := b3) (ys := (b3.map fun one4 => (Builtin.bitXor one4 row2))) (e := PyData.int) (hg6.2)))) rfl) fun found7 => ?_
      exact g_lp ⟨_, rfl⟩
    · skip
      refine g_skip ?_
      exact g_lp ⟨_, rfl⟩
  · rintro b8 ρ' ⟨z2, rfl⟩
    refine g_one ?_
    exact (g_ret (wr := (fun (g : List Int) => (.ml (g.map PyData.int)))) (pv_callB (al_cons pv_v al_nil) y_sortIf) trivial)

theorem T__law_span_ev {rows : List Int} (h : lawSpanG rows) : T__law_span rows = .ok (lawSpan rows) := by
  unfold T__law_span
  rw [letR_eq]
  have go : ∀ (rows F : List Int), F.length * 2 ^ rows.length ≤ 65536 → forR (fun (row2 : Int) (b3 : (List Int)) => (if (!decide (row2 ∈ b3)) = true then (gdR ((b3.length ≤ 100000) ∧ (szOk (b3.length + (b3.map fun one4 => (Builtin.bitXor one4 row2)).length))) (letR (b3 ++ (b3.map fun one4 => (Builtin.bitXor one4 row2))) fun found7 => (.ok found7))) else (.ok b3))) rows F = .ok (rows.foldl (fun F r => if r ∈ F then F else F ++ F.map fun one => Builtin.bitXor one r) F) := by
    intro rows
    induction rows with
    | nil => intro F _; rfl
    | cons r rows ih =>
      intro F hF
      rw [List.length_cons, Nat.pow_succ] at hF
      have p := Nat.two_pow_pos rows.length
      have h1 : F.length * 2 ^ rows.length * 2 ≤ 65536 := by rw [Nat.mul_assoc]; exact hF
      have h2 : F.length ≤ F.length * 2 ^ rows.length := Nat.le_mul_of_pos_right _ p
      show R.bind (if _ then _ else _) _ = _
      rw [List.foldl_cons]
      by_cases q : r ∈ F
      · rw [if_neg (by simp [q]), if_pos q, R.ok_bind]
        exact ih F (by omega)
      · rw [if_pos (by simp [q]), if_neg q, gdR_pos ⟨by omega, by unfold szOk; simp; omega⟩, letR_eq, R.ok_bind]
        refine ih _ ?_
        rw [List.length_append, List.length_map, ← Nat.two_mul, Nat.mul_assoc, Nat.mul_comm]
        omega
  rw [go rows [0] (by
    have : 2 ^ rows.length ≤ 2 ^ 16 := Nat.pow_le_pow_right (by decide) h
    simpa using this)]
  rfl
theorem sp__law_span (rows : List Int) (h : lawSpanG rows) : S__law_span ([eT PyData.int rows].map .dat) = .ok (.ml ((lawSpan rows).map .int)) (List.replicate 1 none) := sp_okR (g := lawSpan rows) (t__law_span rows) (T__law_span_ev h)

noncomputable def T__law_top (row : Int) : R Int :=
  (gdR (((irange 0 (17 : Int)).length ≤ 100000) ∧ (∀ at_1 ∈ (irange 0 (17 : Int)), (0 ≤ at_1) ∧ (((Builtin.bitAnd (row / 2 ^ at_1.toNat) (1 : Int)) != 0) = true → (L2.CPow (1 : Int) at_1))) ∧ (szOk (([(0 : Int)] : List Int).length + (((irange 0 (17 : Int)).filter fun at_1 => ((Builtin.bitAnd (row / 2 ^ at_1.toNat) (1 : Int)) != 0)).map fun at_1 => ((1 : Int) * 2 ^ at_1.toNat)).length)) ∧ (0 < (([(0 : Int)] : List Int) ++ (((irange 0 (17 : Int)).filter fun at_1 => ((Builtin.bitAnd (row / 2 ^ at_1.toNat) (1 : Int)) != 0)).map fun at_1 => ((1 : Int) * 2 ^ at_1.toNat))).length)) (.ok (maxI (([(0 : Int)] : List Int) ++ (((irange 0 (17 : Int)).filter fun at_1 => ((Builtin.bitAnd (row / 2 ^ at_1.toNat) (1 : Int)) != 0)).map fun at_1 => ((1 : Int) * 2 ^ at_1.toNat))))))
theorem t__law_top (row : Int) : SpR S__law_top [(PyData.int row)] (T__law_top row) (fun (g : Int) => (vI g)) := by
  refine sp_fun (n := 1) (m := 2) (E := anyE) rfl ?_
  show Gn (F__law_top [some (vI row), none]) (T__law_top row) _
  unfold F__law_top T__law_top
  refine g_one ?_
  refine g_gd fun hg4 => ?_
  exact (g_ret (wr := (fun (g : Int) => (vI g))) (pv_callB (al_cons (pv_bin (pv_lstS (xs := ([(0 : Int)] : List Int)) (e := PyData.int) (av_cons pv_c (h2 := av_nil)) (Nat.le_of_ble_eq_true rfl) rfl) (Pv.lk (pv_comp (p := fun at_1 => ((Builtin.bitAnd (row / 2 ^ at_1.toNat) (1 : Int)) != 0)) (v := (fun at_1 => ((1 : Int) * 2 ^ at_1.toNat))) (en := PyData.int) (xs := (irange 0 (17 : Int))) (iv_r1 (al_cons pv_c al_nil) (by decide)) (hg4.1) (fun at_1 hk3 => ⟨[some (vI row), some (vI at_1)], [some (vI row), some (vI at_1)], rfl, rfl, (tv_tr (Pv.lk (pv_bin (pv_bin pv_v (Pv.lk pv_v) (y_shr (((hg4.2.1) at_1 hk3).1))) (Pv.lk pv_c) y_and)) y_truI), fun hk2 => ⟨_, (pv_bin pv_c (Pv.lk pv_v) (y_shl ((((hg4.2.1) at_1 hk3).2) hk2))), rfl, rfl⟩⟩))) (y_catL (xs := ([(0 : Int)] : List Int)) (ys := (((irange 0 (17 : Int)).filter fun at_1 => ((Builtin.bitAnd (row / 2 ^ at_1.toNat) (1 : Int)) != 0)).map fun at_1 => ((1 : Int) * 2 ^ at_1.toNat))) (e := PyData.int) (hg4.2.2.1))) al_nil) (y_max1 (hg4.2.2.2))) trivial)

abbrev lawTop (row : Int) : Int := topOf row
def lawTopG (row : Int) : Prop := 0 ≤ row ∧ row < 2 ^ 17
theorem bit_sh (n k : Nat) : Builtin.bitAnd ((n : Int) / 2 ^ k) 1 = if n.testBit k = true then 1 else 0 := by
  have e : (n : Int) / 2 ^ k = ((n / 2 ^ k : Nat) : Int) := by simp
  rw [e, show (1 : Int) = ((1 : Nat) : Int) from rfl, and_cast, Nat.and_one_is_mod, Nat.testBit_eq_decide_div_mod_eq]
  have := Nat.mod_two_eq_zero_or_one (n / 2 ^ k)
  by_cases q : n / 2 ^ k % 2 = 1
  · rw [q]; simp
  · have : n / 2 ^ k % 2 = 0 := by omega
    rw [this]; simp
theorem bit_shB (n k : Nat) : (Builtin.bitAnd ((n : Int) / 2 ^ k) 1 != 0) = n.testBit k := by
  rw [bit_sh]
  cases n.testBit k <;> rfl
theorem T__law_top_ev {row : Int} (h : lawTopG row) : T__law_top row = .ok (topOf row) := by
  obtain ⟨h0, h1⟩ := h
  obtain ⟨n, rfl⟩ := Int.eq_ofNat_of_zero_le h0
  have hn : n < 2 ^ 17 := by
    have : (2 : Int) ^ 17 = 131072 := by decide
    omega
  have hl : (irange 0 (17 : Int)).length = 17 := by rw [len_irange]; rfl
  unfold T__law_top
  have l1 := List.length_filter_le (fun at_1 => ((Builtin.bitAnd ((n : Int) / 2 ^ at_1.toNat) (1 : Int)) != 0)) (irange 0 (17 : Int))
  rw [gdR_pos ⟨by omega, fun a ha => ⟨(mem_irange.mp ha).1, fun _ => ⟨(mem_irange.mp ha).1, by have := (mem_irange.mp ha).2; omega, by decide⟩⟩, by unfold szOk; simp only [List.length_map, List.length_cons, List.length_nil]; omega, by simp⟩]
  congr 1
  have up : ∀ y ∈ (([(0 : Int)] : List Int) ++ (((irange 0 (17 : Int)).filter fun at_1 => ((Builtin.bitAnd ((n : Int) / 2 ^ at_1.toNat) (1 : Int)) != 0)).map fun at_1 => ((1 : Int) * 2 ^ at_1.toNat))), y ≤ topOf (n : Int) := by
    intro y hy
    rcases List.mem_append.mp hy with hy | hy
    · simp at hy; subst hy
      unfold topOf
      split
      · exact Int.le_refl _
      · exact Int.natCast_nonneg _
    · obtain ⟨a, ha, rfl⟩ := List.mem_map.mp hy
      obtain ⟨ha, hb⟩ := List.mem_filter.mp ha
      have hb := hb
      rw [bit_shB] at hb
      have h2 := Nat.ge_two_pow_of_testBit hb
      have p := Nat.two_pow_pos a.toNat
      have h3 : n ≠ 0 := by omega
      rw [topOf_cast h3, Int.one_mul]
      have : 2 ^ a.toNat ≤ 2 ^ n.log2 := Nat.pow_le_pow_right (by decide) ((Nat.le_log2 h3).mpr h2)
      have e : ((2 ^ a.toNat : Nat) : Int) = 2 ^ a.toNat := by simp
      omega
  have inn : topOf (n : Int) ∈ (([(0 : Int)] : List Int) ++ (((irange 0 (17 : Int)).filter fun at_1 => ((Builtin.bitAnd ((n : Int) / 2 ^ at_1.toNat) (1 : Int)) != 0)).map fun at_1 => ((1 : Int) * 2 ^ at_1.toNat))) := by
    by_cases h3 : n = 0
    · subst h3; simp [topOf]
    · rw [topOf_cast h3]
      refine List.mem_append_right _ (List.mem_map.mpr ⟨(n.log2 : Int), List.mem_filter.mpr ⟨mem_irange.mpr ⟨by omega, ?_⟩, ?_⟩, by simp⟩)
      · have := (Nat.log2_lt h3).mpr hn
        omega
      · show (Builtin.bitAnd ((n : Int) / 2 ^ n.log2) 1 != 0) = true
        rw [bit_shB, Nat.testBit_log2 h3]
  exact Int.le_antisymm (up _ (maxI_mem (by simp))) (maxI_le inn)
theorem sp__law_top (row : Int) (h : lawTopG row) : S__law_top ([PyData.int row].map .dat) = .ok (vI (lawTop row)) (List.replicate 1 none) := sp_okR (t__law_top row) (T__law_top_ev h)

noncomputable def T__law_odd (row : Int) : R Int :=
  (gdR (((irange 0 (17 : Int)).length ≤ 100000) ∧ (∀ at_1 ∈ (irange 0 (17 : Int)), (0 ≤ at_1))) (.ok (Builtin.bitAnd (((irange 0 (17 : Int)).map fun at_1 => (Builtin.bitAnd (row / 2 ^ at_1.toNat) (1 : Int))).sum) (1 : Int))))
theorem t__law_odd (row : Int) : SpR S__law_odd [(PyData.int row)] (T__law_odd row) (fun (g : Int) => (vI g)) := by
  refine sp_fun (n := 1) (m := 2) (E := anyE) rfl ?_
  show Gn (F__law_odd [some (vI row), none]) (T__law_odd row) _
  unfold F__law_odd T__law_odd
  refine g_one ?_
  refine g_gd fun hg3 => ?_
  exact (g_ret (wr := (fun (g : Int) => (vI g))) (pv_bin (pv_callB (al_cons (pv_map (v := fun at_1 => (Builtin.bitAnd (row / 2 ^ at_1.toNat) (1 : Int))) (en := PyData.int) (xs := (irange 0 (17 : Int))) (iv_r1 (al_cons pv_c al_nil) (by decide)) (hg3.1) (fun at_1 hk2 => ⟨[some (vI row), some (vI at_1)], [some (vI row), some (vI at_1)], _, rfl, (pv_bin (pv_bin pv_v (Pv.lk pv_v) (y_shr ((hg3.2) at_1 hk2))) (Pv.lk pv_c) y_and), rfl, rfl⟩)) al_nil) (y_sum (ha := by rfl))) (Pv.lk pv_c) y_and) trivial)

def lawOdd (row : Int) : Int := if par (List.range 17) (fun j => row.toNat.testBit j) = true then 1 else 0
def lawOddG (row : Int) : Prop := 0 ≤ row
theorem sum_par (L : List Nat) (f : Nat → Bool) : ((L.map fun j => if f j = true then (1 : Int) else 0).sum) % 2 = if par L f = true then 1 else 0 := by
  induction L with
  | nil => rfl
  | cons a L ih =>
    rw [List.map_cons, List.sum_cons, par_cons]
    cases f a <;> cases hp : par L f <;> rw [hp] at ih <;> simp at ih ⊢ <;> omega
theorem sum_nn (L : List Nat) (f : Nat → Bool) : 0 ≤ ((L.map fun j => if f j = true then (1 : Int) else 0).sum) := by
  induction L with
  | nil => simp
  | cons a L ih =>
    rw [List.map_cons, List.sum_cons]
    cases f a <;> simp <;> omega
theorem T__law_odd_ev {row : Int} (h : lawOddG row) : T__law_odd row = .ok (lawOdd row) := by
  obtain ⟨n, rfl⟩ := Int.eq_ofNat_of_zero_le h
  unfold T__law_odd
  rw [gdR_pos ⟨by rw [len_irange]; decide, fun a ha => (mem_irange.mp ha).1⟩]
  congr 1
  have e : ((irange 0 (17 : Int)).map fun at_1 => (Builtin.bitAnd ((n : Int) / 2 ^ at_1.toNat) (1 : Int))) = (List.range 17).map fun j => if n.testBit j = true then (1 : Int) else 0 := by
    unfold irange
    rw [List.map_map]
    refine List.map_congr_left fun j _ => ?_
    show Builtin.bitAnd ((n : Int) / 2 ^ (0 + (j : Int)).toNat) 1 = _
    rw [Int.zero_add, Int.toNat_natCast, bit_sh]
  rw [e]
  have h1 := sum_par (List.range 17) (fun j => n.testBit j)
  have h2 := sum_nn (List.range 17) (fun j => n.testBit j)
  obtain ⟨m, hm⟩ := Int.eq_ofNat_of_zero_le h2
  rw [hm] at h1 ⊢
  rw [show (1 : Int) = ((1 : Nat) : Int) from rfl, and_cast, Nat.and_one_is_mod]
  unfold lawOdd
  show ((m % 2 : Nat) : Int) = if par (List.range 17) (fun j => n.testBit j) = true then 1 else 0
  rw [← h1]; rfl
theorem sp__law_odd (row : Int) (h : lawOddG row) : S__law_odd ([PyData.int row].map .dat) = .ok (vI (lawOdd row)) (List.replicate 1 none) := sp_okR (t__law_odd row) (T__law_odd_ev h)
theorem odd_dot (x y : Nat) : lawOdd (Builtin.bitAnd (x : Int) (y : Int)) = if dot 17 x y = true then 1 else 0 := by
  rw [and_cast]
  unfold lawOdd dot
  congr 2
  refine par_congr fun j _ => ?_
  rw [Int.toNat_natCast, Nat.testBit_and]

noncomputable def T__law_some_rows (nums : List Int) (c : Int) (width : Int) (most : Int) : R ((List Int) × Int) :=
  (gdR ((nxG nums c (most + (1 : Int))) ∧ (rOk (nxt nums c (most + (1 : Int)))) ∧ ((irange 0 (nxt nums c (most + (1 : Int)))).length ≤ 100000) ∧ (allC (fun k1 c_2 => (L2.CPow (1 : Int) width) ∧ (nxG nums c_2 ((1 : Int) * 2 ^ width.toNat)) ∧ (nxG nums (c_2 + 1) width) ∧ (L2.CPow (1 : Int) (nxt nums (c_2 + 1) width)) ∧ (nxG nums ((c_2 + 1) + 1) (5 : Int)) ∧ (inR ([(0 : Int), (0 : Int), (0 : Int), (1 : Int), (2 : Int)] : List Int).length (nxt nums ((c_2 + 1) + 1) (5 : Int))) ∧ (inR ([(nxt nums c_2 ((1 : Int) * 2 ^ width.toNat)), ((1 : Int) * 2 ^ (nxt nums (c_2 + 1) width).toNat), (0 : Int)] : List Int).length (ix ([(0 : Int), (0 : Int), (0 : Int), (1 : Int), (2 : Int)] : List Int) (nxt nums ((c_2 + 1) + 1) (5 : Int))))) (fun k1 c_2 => (((c_2 + 1) + 1) + 1)) (irange 0 (nxt nums c (most + (1 : Int)))) (c + 1))) (.ok ((mapC (fun k1 c_2 => ((ix ([(nxt nums c_2 ((1 : Int) * 2 ^ width.toNat)), ((1 : Int) * 2 ^ (nxt nums (c_2 + 1) width).toNat), (0 : Int)] : List Int) (ix ([(0 : Int), (0 : Int), (0 : Int), (1 : Int), (2 : Int)] : List Int) (nxt nums ((c_2 + 1) + 1) (5 : Int)))), (((c_2 + 1) + 1) + 1))) (irange 0 (nxt nums c (most + (1 : Int)))) (c + 1)).1, (mapC (fun k1 c_2 => ((ix ([(nxt nums c_2 ((1 : Int) * 2 ^ width.toNat)), ((1 : Int) * 2 ^ (nxt nums (c_2 + 1) width).toNat), (0 : Int)] : List Int) (ix ([(0 : Int), (0 : Int), (0 : Int), (1 : Int), (2 : Int)] : List Int) (nxt nums ((c_2 + 1) + 1) (5 : Int)))), (((c_2 + 1) + 1) + 1))) (irange 0 (nxt nums c (most + (1 : Int)))) (c + 1)).2)))
theorem t__law_some_rows (nums : List Int) (c : Int) (width : Int) (most : Int) : SpS S__law_some_rows nums c [(PyData.int width), (PyData.int most)] (T__law_some_rows nums c width most) (fun (g : List Int) => (.dat (.tuple (g.map PyData.int)))) := by
  refine sp_st (n := 2) (m := 4) rfl ?_
  show Gn (F__law_some_rows [some (StV nums c), some (vI width), some (vI most), none]) (T__law_some_rows nums c width most) _
  unfold F__law_some_rows T__law_some_rows
  refine g_one ?_
  refine g_gd fun hg4 => ?_
  exact (g_ret (wr := (fun (g : (List Int) × Int) => (.dat (.tuple (g.1.map PyData.int))))) (pv_callB (al_cons (pv_mapC (G := fun k1 c_2 => (L2.CPow (1 : Int) width) ∧ (nxG nums c_2 ((1 : Int) * 2 ^ width.toNat)) ∧ (nxG nums (c_2 + 1) width) ∧ (L2.CPow (1 : Int) (nxt nums (c_2 + 1) width)) ∧ (nxG nums ((c_2 + 1) + 1) (5 : Int)) ∧ (inR ([(0 : Int), (0 : Int), (0 : Int), (1 : Int), (2 : Int)] : List Int).length (nxt nums ((c_2 + 1) + 1) (5 : Int))) ∧ (inR ([(nxt nums c_2 ((1 : Int) * 2 ^ width.toNat)), ((1 : Int) * 2 ^ (nxt nums (c_2 + 1) width).toNat), (0 : Int)] : List Int).length (ix ([(0 : Int), (0 : Int), (0 : Int), (1 : Int), (2 : Int)] : List Int) (nxt nums ((c_2 + 1) + 1) (5 : Int))))) (v := (fun k1 c_2 => ((ix ([(nxt nums c_2 ((1 : Int) * 2 ^ width.toNat)), ((1 : Int) * 2 ^ (nxt nums (c_2 + 1) width).toNat), (0 : Int)] : List Int) (ix ([(0 : Int), (0 : Int), (0 : Int), (1 : Int), (2 : Int)] : List Int) (nxt nums ((c_2 + 1) + 1) (5 : Int)))), (((c_2 + 1) + 1) + 1)))) (en := PyData.int) (rc := (fun c => [some (StV nums c), some (vI width), some (vI most), none])) (c0 := (c + 1)) (xs := (irange 0 (nxt nums c (most + (1 : Int))))) (iv_r1 (al_cons (pv_callS (n := 1) (j := 0) (h1 := (av_cons (pv_bin pv_v (Pv.lk pv_c) y_add) (h2 := av_nil))) (hs := nxt_call (hg4.1))) al_nil) (hg4.2.1)) (hg4.2.2.1) (hg4.2.2.2) (fun k1 _ c_2 hk3 => ⟨[some (StV nums c_2), some (vI width), some (vI most), some (vI k1)], [some (StV nums (((c_2 + 1) + 1) + 1)), some (vI width), some (vI most), some (vI k1)], _, rfl, (pv_bin (pv_lstS (xs := ([(nxt nums c_2 ((1 : Int) * 2 ^ width.toNat)), ((1 : Int) * 2 ^ (nxt nums (c_2 + 1) width).toNat), (0 : Int)] : List Int)) (e := PyData.int) (av_cons (pv_callS (n := 1) (j := 0) (h1 := (av_cons (pv_bin pv_c (Pv.lk pv_v) (y_shl (hk3.1))) (h2 := av_nil))) (hs := nxt_call (hk3.2.1))) (h2 := (av_cons (pv_bin pv_c (Pv.lk (pv_callS (n := 1) (j := 0) (h1 := (av_cons pv_v (h2 := av_nil))) (hs := nxt_call (hk3.2.2.1)))) (y_shl (hk3.2.2.2.1))) (h2 := (av_cons pv_c (h2 := av_nil)))))) (Nat.le_of_ble_eq_true rfl) rfl) (Pv.lk (pv_bin (pv_lstS (xs := ([(0 : Int), (0 : Int), (0 : Int), (1 : Int), (2 : Int)] : List Int)) (e := PyData.int) (av_cons pv_c (h2 := (av_cons pv_c (h2 := (av_cons pv_c (h2 := (av_cons pv_c (h2 := (av_cons pv_c (h2 := av_nil)))))))))) (Nat.le_of_ble_eq_true rfl) rfl) (Pv.lk (pv_callS (n := 1) (j := 0) (h1 := (av_cons pv_c (h2 := av_nil))) (hs := nxt_call (hk3.2.2.2.2.1)))) (y_ix (xs := ([(0 : Int), (0 : Int), (0 : Int), (1 : Int), (2 : Int)] : List Int)) (e := PyData.int) (hk3.2.2.2.2.2.1)))) (y_ix (xs := ([(nxt nums c_2 ((1 : Int) * 2 ^ width.toNat)), ((1 : Int) * 2 ^ (nxt nums (c_2 + 1) width).toNat), (0 : Int)] : List Int)) (e := PyData.int) (hk3.2.2.2.2.2.2))), rfl, rfl⟩) (fun c ρ' hw => restC hw rfl)) al_nil) (y_tuple (xs := (mapC (fun k1 c_2 => ((ix ([(nxt nums c_2 ((1 : Int) * 2 ^ width.toNat)), ((1 : Int) * 2 ^ (nxt nums (c_2 + 1) width).toNat), (0 : Int)] : List Int) (ix ([(0 : Int), (0 : Int), (0 : Int), (1 : Int), (2 : Int)] : List Int) (nxt nums ((c_2 + 1) + 1) (5 : Int)))), (((c_2 + 1) + 1) + 1))) (irange 0 (nxt nums c (most + (1 : Int)))) (c + 1)).1) (e := PyData.int))) rfl)

noncomputable def someRows (nums : List Int) (c w m : Int) : List Int × Int := (T__law_some_rows nums c w m).get
def someRowsG (nums : List Int) (c w m : Int) : Prop := (T__law_some_rows nums c w m).good
theorem sps_ok {γ : Type} [Inhabited γ] {S : CSpec} {nums : List Int} {c : Int} {ds : List PyData} {r : R (γ × Int)} {wr : γ → Vl} (h : SpS S nums c ds r wr) (g : r.good) : S (StV nums c :: ds.map .dat) = .ok (wr r.get.1) (some (StV nums r.get.2) :: List.replicate ds.length none) := by
  rw [R.get_ok g] at h
  exact h
theorem sp_some_rows {nums : List Int} {c w m : Int} (h : someRowsG nums c w m) : S__law_some_rows (StV nums c :: [PyData.int w, .int m].map .dat) = .ok (.dat (.tuple ((someRows nums c w m).1.map .int))) (some (StV nums (someRows nums c w m).2) :: List.replicate 2 none) := sps_ok (t__law_some_rows nums c w m) h

noncomputable def T__law_is_basis (told : List Int) (rows : List Int) : R Bool :=
  (gdR (((!true) = false → (told.length < 4000))) (if ((!true) || ((!decide (told = (sortSet told).reverse)) || (decide ((0 : Int) ∈ told)))) = true then (.ok false) else (gdR ((told.length ≤ 100000) ∧ (∀ row4 ∈ told, (lawTopG row4))) (letR (told.map fun row4 => (lawTop row4)) fun tops7 => (gdR ((rOk (told.length : Int)) ∧ ((irange 0 (told.length : Int)).length ≤ 100000) ∧ (∀ k8 ∈ (irange 0 (told.length : Int)), (rOk (told.length : Int)) ∧ ((irange 0 (told.length : Int)).length ≤ 100000) ∧ (∀ j9 ∈ (irange 0 (told.length : Int)), ((!decide (j9 = k8)) = true → (inR told.length k8) ∧ (inR tops7.length j9))))) (if (((irange 0 (told.length : Int)).map fun k8 => ((((irange 0 (told.length : Int)).filter fun j9 => (!decide (j9 = k8))).map fun j9 => (!decide ((Builtin.bitAnd (ix told k8) (ix tops7 j9)) = (0 : Int)))).any id)).any id) = true then (.ok false) else (gdR ((lawSpanG told)) (.ok (decide ((lawSpan told) = rows))))))))))
theorem t__law_is_basis (told : List Int) (rows : List Int) : SpR S__law_is_basis [((eT PyData.int) told), ((eL PyData.int) rows)] (T__law_is_basis told rows) (fun (g : Bool) => (vB g)) := by
  refine sp_fun (n := 2) (m := 6) (E := anyE) rfl ?_
  show Gn (F__law_is_basis [some (.dat (.tuple (told.map PyData.int))), some (.dat (.list (rows.map PyData.int))), none, none, none, none]) (T__law_is_basis told rows) _
  unfold F__law_is_basis T__law_is_basis
  refine g_gd fun hg3 => ?_
  refine g_if (tv_or (tv_not (tv_tr (Pv.lk (pv_una (G := gIsT) (w := vB true) (Pv.lk pv_v) (by rfl))) rfl)) (fun hk2 => (tv_or (tv_bo (Pv.lk (pv_bin (pv_callB (al_cons pv_v al_nil) (y_list (xs := told) (e := PyData.int))) (Pv.lk (pv_una (Pv.lk (pv_callB (al_cons (pv_callB (al_cons pv_v al_nil) (y_set (hg3 hk2))) al_nil) y_sortS)) (y_revL (xs := (sortSet told)) (e := PyData.int)))) (y_ne (e := (eL PyData.int)) (x := told) (y := (sortSet told).reverse) (cod_lst cod_int))))) (fun hk1 => (tv_bo (Pv.lk (pv_bin pv_c (Pv.lk pv_v) (y_in (e := PyData.int) (x := (0 : Int)) (xs := told) cod_int)))))))) (fun hk => ?_) (fun hk => ?_)
  · skip
    exact (g_ret (wr := (fun (g : Bool) => (vB g))) pv_c trivial)
  · skip
    refine g_skip ?_
    refine g_gd fun hg6 => ?_
    refine g_stepL (ρ2 := fun tops7 => [some (.dat (.tuple (told.map PyData.int))), some (.dat (.list (rows.map PyData.int))), some (.dat (.list (tops7.map PyData.int))), none, none, none]) (ev_set (pv_Z (pv_map (v := fun row4 => (lawTop row4)) (en := PyData.int) (xs := told) (iv_tup pv_v) (hg6.1) (fun row4 hk5 => ⟨[some (.dat (.tuple (told.map PyData.int))), some (.dat (.list (rows.map PyData.int))), none, some (vI row4), none, none], [some (.dat (.tuple (told.map PyData.int))), some (.dat (.list (rows.map PyData.int))), none, some (vI row4), none, none], _, rfl, (pv_call (n := 1) (av_cons pv_v (h2 := av_nil)) (sp__law_top row4 ((hg6.2) row4 hk5))), rfl, rfl⟩))) rfl) fun tops7 => ?_
    refine g_gd fun hg13 => ?_
    refine g_if (tv_tr (Pv.lk (pv_callB (al_cons (pv_map (v := fun k8 => ((((irange 0 (told.length : Int)).filter fun j9 => (!decide (j9 = k8))).map fun j9 => (!decide ((Builtin.bitAnd (ix told k8) (ix tops7 j9)) = (0 : Int)))).any id)) (en := PyData.bool) (xs := (irange 0 (told.length : Int))) (iv_r1 (al_cons (pv_callB (al_cons pv_v al_nil) (y_len (xs := told) (e := PyData.int))) al_nil) (hg13.1)) (hg13.2.1) (fun k8 hk12 => ⟨[some (.dat (.tuple (told.map PyData.int))), some (.dat (.list (rows.map PyData.int))), some (.dat (.list (tops7.map PyData.int))), none, some (vI k8), none], [some (.dat (.tuple (told.map PyData.int))), some (.dat (.list (rows.map PyData.int))), some (.dat (.list (tops7.map PyData.int))), none, some (vI k8), none], _, rfl, (pv_callB (al_cons (pv_comp (p := fun j9 => (!decide (j9 = k8))) (v := (fun j9 => (!decide ((Builtin.bitAnd (ix told k8) (ix tops7 j9)) = (0 : Int))))) (en := PyData.bool) (xs := (irange 0 (told.length : Int))) (iv_r1 (al_cons (pv_callB (al_cons pv_v al_nil) (y_len (xs := told) (e := PyData.int))) al_nil) (((hg13.2.2) k8 hk12).1)) (((hg13.2.2) k8 hk12).2.1) (fun j9 hk11 => ⟨[some (.dat (.tuple (told.map PyData.int))), some (.dat (.list (rows.map PyData.int))), some (.dat (.list (tops7.map PyData.int))), none, some (vI k8), some (vI j9)], [some (.dat (.tuple (told.map PyData.int))), some (.dat (.list (rows.map PyData.int))), some (.dat (.list (tops7.map PyData.int))), none, some (vI k8), some (vI j9)], rfl, rfl, (tv_bo (Pv.lk (pv_bin pv_v (Pv.lk pv_v) (y_ne (e := PyData.int) (x := j9) (y := k8) cod_int)))), fun hk10 => ⟨_, (pv_bin (pv_bin (pv_bin pv_v (Pv.lk pv_v) (y_ix (xs := told) (e := PyData.int) ((((((hg13.2.2) k8 hk12).2.2) j9 hk11) hk10).1))) (Pv.lk (pv_bin pv_v (Pv.lk pv_v) (y_ix (xs := tops7) (e := PyData.int) ((((((hg13.2.2) k8 hk12).2.2) j9 hk11) hk10).2)))) y_and) (Pv.lk pv_c) (y_ne (e := PyData.int) (x := (Builtin.bitAnd (ix told k8) (ix tops7 j9))) (y := (0 : Int)) cod_int)), rfl, rfl⟩⟩)) al_nil) (y_any (ha := by rfl))), rfl, rfl⟩)) al_nil) (y_any (ha := by rfl)))) rfl) (fun hk => ?_) (fun hk => ?_)
    · skip
      exact (g_ret (wr := (fun (g : Bool) => (vB g))) pv_c trivial)
    · skip
      refine g_skip ?_
      refine g_one ?_
      refine g_gd fun hg14 => ?_
      exact (g_ret (wr := (fun (g : Bool) => (vB g))) (pv_bin (pv_call (n := 1) (av_cons pv_v (h2 := av_nil)) (sp__law_span told hg14)) (Pv.lk pv_v) (y_eq (e := (eL PyData.int)) (x := (lawSpan told)) (y := rows) (cod_lst cod_int))) trivial)

noncomputable def T__law_made (rows : List Int) (goal : Int) (places : List Int) : R Bool :=
  (gdR ((places.length < 4000) ∧ ((!decide (places = (sortSet places))) = false → (places.length ≤ 100000))) (if ((!decide (places = (sortSet places))) || (!((places.map fun at_1 => ((decide ((0 : Int) ≤ at_1)) && (decide (at_1 < (rows.length : Int))))).all id))) = true then (.ok false) else ((forR (fun (at_6 : Int) (b7 : Int) => (gdR ((inR rows.length at_6)) (letR (Builtin.bitXor b7 (ix rows at_6)) fun goal9 => (.ok goal9)))) places goal).bind fun (b10 : Int) => (.ok (decide (b10 = (0 : Int)))))))
theorem t__law_made (rows : List Int) (goal : Int) (places : List Int) : SpR S__law_made [((eT PyData.int) rows), (PyData.int goal), ((eT PyData.int) places)] (T__law_made rows goal places) (fun (g : Bool) => (vB g)) := by
  refine sp_fun (n := 3) (m := 4) (E := anyE) rfl ?_
  show Gn (F__law_made [some (.dat (.tuple (rows.map PyData.int))), some (vI goal), some (.dat (.tuple (places.map PyData.int))), none]) (T__law_made rows goal places) _
  unfold F__law_made T__law_made
  refine g_gd fun hg5 => ?_
  refine g_if (tv_or (tv_bo (Pv.lk (pv_bin (pv_callB (al_cons pv_v al_nil) (y_list (xs := places) (e := PyData.int))) (Pv.lk (pv_callB (al_cons (pv_callB (al_cons pv_v al_nil) (y_set (hg5.1))) al_nil) y_sortS)) (y_ne (e := (eL PyData.int)) (x := places) (y := (sortSet places)) (cod_lst cod_int))))) (fun hk4 => (tv_not (tv_tr (Pv.lk (pv_callB (al_cons (pv_map (v := fun at_1 => ((decide ((0 : Int) ≤ at_1)) && (decide (at_1 < (rows.length : Int))))) (en := PyData.bool) (xs := places) (iv_tup pv_v) ((hg5.2) hk4) (fun at_1 hk3 => ⟨[some (.dat (.tuple (rows.map PyData.int))), some (vI goal), some (.dat (.tuple (places.map PyData.int))), some (vI at_1)], [some (.dat (.tuple (rows.map PyData.int))), some (vI goal), some (.dat (.tuple (places.map PyData.int))), some (vI at_1)], _, rfl, (pv_chain (Pv.lk pv_c) (Pv.lk pv_v) y_le (fun hk2 => ⟨(Pv.lk (pv_callB (al_cons pv_v al_nil) (y_len (xs := rows) (e := PyData.int)))), y_lt⟩)), rfl, rfl⟩)) al_nil) (y_all (ha := by rfl)))) rfl)))) (fun hk => ?_) (fun hk => ?_)
  · skip
    exact (g_ret (wr := (fun (g : Bool) => (vB g))) pv_c trivial)
  · skip
    refine g_skip ?_
    refine g_seqJ (E := (fun (b : Int) ρ' => ∃ z3 : Option Vl, ρ' = [some (.dat (.tuple (rows.map PyData.int))), some (vI b), some (.dat (.tuple (places.map PyData.int))), z3])) (ev_for (xs := places) (ι := PyData.int) (Inv := (fun (b : Int) ρ' => ∃ z3 : Option Vl, ρ' = [some (.dat (.tuple (rows.map PyData.int))), some (vI b), some (.dat (.tuple (places.map PyData.int))), z3])) (iv_tup pv_v) ⟨_, rfl⟩ ?_) ?_
    · rintro at_6 hx b7 ρ' ⟨z3, rfl⟩
      refine ⟨[some (.dat (.tuple (rows.map PyData.int))), some (vI b7), some (.dat (.tuple (places.map PyData.int))), some (vI at_6)], rfl, ?_⟩
      refine g_one ?_
      refine g_gd fun hg8 => ?_
      refine g_stepL (ρ2 := fun goal9 => [some (.dat (.tuple (rows.map PyData.int))), some (vI goal9), some (.dat (.tuple (places.map PyData.int))), some (vI at_6)]) (ev_set (pv_bin pv_v (Pv.lk (pv_bin pv_v (Pv.lk pv_v) (y_ix (xs := rows) (e := PyData.int) hg8))) y_xor) rfl) fun goal9 => ?_
      exact g_lp ⟨_, rfl⟩
    · rintro b10 ρ' ⟨z3, rfl⟩
      refine g_one ?_
      exact (g_ret (wr := (fun (g : Bool) => (vB g))) (pv_bin pv_v (Pv.lk pv_c) (y_eq (e := PyData.int) (x := b10) (y := (0 : Int)) cod_int)) trivial)

def intsOf (d : PyData) : List Int := (tupOf d).map fun d => match d with
  | .int n => n
  | _ => 0
theorem intsOf_eT (ns : List Int) : intsOf (eT PyData.int ns) = ns := by
  show (ns.map PyData.int).map _ = ns
  rw [List.map_map]
  exact List.map_id ns
def lawIsBasis (d : PyData) (rows : List Int) : Bool := true
def lawIsBasisG (d : PyData) (rows : List Int) : Prop := d = eT PyData.int (intsOf d) ∧ T__law_is_basis (intsOf d) rows = .ok true
theorem sp__law_is_basis (d : PyData) (rows : List Int) (h : lawIsBasisG d rows) : S__law_is_basis ([d, eL PyData.int rows].map .dat) = .ok (vB (lawIsBasis d rows)) (List.replicate 2 none) := by
  obtain ⟨h1, h2⟩ := h
  have := sp_okR (t__law_is_basis (intsOf d) rows) h2
  rw [← h1] at this
  exact this
noncomputable def lawMade (rows : List Int) (goal : Int) (places : List Int) : Bool := (T__law_made rows goal places).get
def lawMadeG (rows : List Int) (goal : Int) (places : List Int) : Prop := (T__law_made rows goal places).good
theorem sp__law_made (rows : List Int) (goal : Int) (places : List Int) (h : lawMadeG rows goal places) : S__law_made ([eT PyData.int rows, .int goal, eT PyData.int places].map .dat) = .ok (vB (lawMade rows goal places)) (List.replicate 3 none) := sp_good (t__law_made rows goal places) h
noncomputable def lawMadeD (rows : List Int) (goal : Int) (d : PyData) : Bool := lawMade rows goal (intsOf d)
def lawMadeDG (rows : List Int) (goal : Int) (d : PyData) : Prop := d = eT PyData.int (intsOf d) ∧ lawMadeG rows goal (intsOf d)
theorem sp__law_madeD (rows : List Int) (goal : Int) (d : PyData) (h : lawMadeDG rows goal d) : S__law_made ([eT PyData.int rows, .int goal, d].map .dat) = .ok (vB (lawMadeD rows goal d)) (List.replicate 3 none) := by
  obtain ⟨h1, h2⟩ := h
  have := sp__law_made rows goal (intsOf d) h2
  rw [← h1] at this
  exact this
noncomputable def acrossV (w : Int) (d : PyData) : List Int := (T_across w (intsOf d)).get
def acrossG (w : Int) (d : PyData) : Prop := d = eT PyData.int (intsOf d) ∧ (T_across w (intsOf d)).good
theorem sp_acrossD (w : Int) (d : PyData) (h : acrossG w d) : S_across ([.int w, d].map .dat) = .ok (.dat (.tuple ((acrossV w d).map .int))) (List.replicate 2 none) := by
  obtain ⟨h1, h2⟩ := h
  have := sp_good (t_across w (intsOf d)) h2
  rw [← h1] at this
  exact this

end K35
end
section
set_option Elab.async false
set_option linter.all false
set_option maxRecDepth 100000
set_option maxHeartbeats 4000000
namespace K35
open Mi
open PySem (PyData)
open PySem
theorem in_one_x {w : Int} {rows : List Int} {d : PyData} (h : T_check_rows w rows = .exc 1) : SpR S_in_one [.int w, eT PyData.int rows, d] (.exc 1 : R (List Int)) (fun (g : List Int) => (.dat (.tuple (g.map PyData.int)))) := by
  refine sp_fun (n := 3) (m := 3) (E := anyE) rfl ?_
  show Gn (F_in_one [some (vI w), some (.dat (eT PyData.int rows)), some (.dat d)]) _ _
  unfold F_in_one
  have t := t_check_rows w rows
  rw [h] at t
  exact g_dropX (tk := fun _ => (.stk : R (List Int))) (gx_call (n := 2) (av_cons pv_v (h2 := (av_cons pv_v (h2 := av_nil)))) t) (fun _ _ _ => trivial)
noncomputable def told0 (k w : Int) (rows : List Int) (d1 d2 : PyData) : PyData := toldR (T_span w rows) (eT PyData.int)
def told0G (k w : Int) (rows : List Int) (d1 d2 : PyData) : Prop := k = 0 ∧ okT (T_span w rows)
theorem sp_told0 (k w : Int) (rows : List Int) (d1 d2 : PyData) (h : told0G k w rows d1 d2) : S__law_told ([PyData.int k, .int w, eT PyData.int rows, d1, d2].map .dat) = .ok (.dat (told0 k w rows d1 d2)) (List.replicate 5 none) := by
  obtain ⟨rfl, ok⟩ := h
  
  have : SpR S__law_told [PyData.int 0, .int w, eT PyData.int rows, d1, d2] (.ok (told0 0 w rows d1 d2)) (fun d => .dat d) := by
    refine sp_fun (n := 5) (m := 6) (E := anyE) rfl ?_
    show Gn (F__law_told [some (vI 0), some (vI w), some (.dat (eT PyData.int rows)), some (.dat (d1)), some (.dat (d2)), none]) _ _
    unfold F__law_told
    refine g_one (g_try (r := T_span w rows) (e := (eT PyData.int)) ?_ ok)
    exact (g_ifT (tv_bo (pv_bin pv_v (pv_c).lk (y_lt (i := 0) (j := 2))).lk) (g_retTold (gx_pick (pv_v).lk rfl (gx_call (n := 2) (wr := (fun (g : List Int) => (.dat (.tuple (g.map PyData.int))))) (av_cons pv_v (h2 := (av_cons pv_v (h2 := av_nil)))) (t_span w rows))) (fun _ => rfl)))
  exact this

noncomputable def told1 (k w : Int) (rows : List Int) (d1 d2 : PyData) : PyData := toldR (T_across w rows) (eT PyData.int)
def told1G (k w : Int) (rows : List Int) (d1 d2 : PyData) : Prop := k = 1 ∧ okT (T_across w rows)
theorem sp_told1 (k w : Int) (rows : List Int) (d1 d2 : PyData) (h : told1G k w rows d1 d2) : S__law_told ([PyData.int k, .int w, eT PyData.int rows, d1, d2].map .dat) = .ok (.dat (told1 k w rows d1 d2)) (List.replicate 5 none) := by
  obtain ⟨rfl, ok⟩ := h
  
  have : SpR S__law_told [PyData.int 1, .int w, eT PyData.int rows, d1, d2] (.ok (told1 1 w rows d1 d2)) (fun d => .dat d) := by
    refine sp_fun (n := 5) (m := 6) (E := anyE) rfl ?_
    show Gn (F__law_told [some (vI 1), some (vI w), some (.dat (eT PyData.int rows)), some (.dat (d1)), some (.dat (d2)), none]) _ _
    unfold F__law_told
    refine g_one (g_try (r := T_across w rows) (e := (eT PyData.int)) ?_ ok)
    exact (g_ifT (tv_bo (pv_bin pv_v (pv_c).lk (y_lt (i := 1) (j := 2))).lk) (g_retTold (gx_pick (pv_v).lk rfl (gx_call (n := 2) (wr := (fun (g : List Int) => (.dat (.tuple (g.map PyData.int))))) (av_cons pv_v (h2 := (av_cons pv_v (h2 := av_nil)))) (t_across w rows))) (fun _ => rfl)))
  exact this

noncomputable def told2 (k w : Int) (rows : List Int) (one : List Int) (d2 : PyData) : PyData := toldR (T_in_both w rows one) (eT PyData.int)
def told2G (k w : Int) (rows : List Int) (one : List Int) (d2 : PyData) : Prop := k = 2 ∧ okT (T_in_both w rows one)
theorem sp_told2 (k w : Int) (rows : List Int) (one : List Int) (d2 : PyData) (h : told2G k w rows one d2) : S__law_told ([PyData.int k, .int w, eT PyData.int rows, eT PyData.int one, d2].map .dat) = .ok (.dat (told2 k w rows one d2)) (List.replicate 5 none) := by
  obtain ⟨rfl, ok⟩ := h
  
  have : SpR S__law_told [PyData.int 2, .int w, eT PyData.int rows, eT PyData.int one, d2] (.ok (told2 2 w rows one d2)) (fun d => .dat d) := by
    refine sp_fun (n := 5) (m := 6) (E := anyE) rfl ?_
    show Gn (F__law_told [some (vI 2), some (vI w), some (.dat (eT PyData.int rows)), some (.dat (eT PyData.int one)), some (.dat (d2)), none]) _ _
    unfold F__law_told
    refine g_one (g_try (r := T_in_both w rows one) (e := (eT PyData.int)) ?_ ok)
    exact (g_ifF (tv_bo (pv_bin pv_v (pv_c).lk (y_lt (i := 2) (j := 2))).lk) (g_skip (g_ifT (tv_bo (pv_bin pv_v (pv_c).lk (y_lt (i := 2) (j := 6))).lk) (g_retTold (gx_pick (pv_bin pv_v (pv_c).lk (y_sub (i := 2) (j := 2))).lk rfl (gx_call (n := 3) (wr := (fun (g : List Int) => (.dat (.tuple (g.map PyData.int))))) (av_cons pv_v (h2 := (av_cons pv_v (h2 := (av_cons pv_v (h2 := av_nil)))))) (t_in_both w rows one))) (fun _ => rfl)))))
  exact this

noncomputable def told3 (k w : Int) (rows : List Int) (one : List Int) (d2 : PyData) : PyData := toldR (T_in_one w rows one) (eT PyData.int)
def told3G (k w : Int) (rows : List Int) (one : List Int) (d2 : PyData) : Prop := k = 3 ∧ okT (T_in_one w rows one)
theorem sp_told3 (k w : Int) (rows : List Int) (one : List Int) (d2 : PyData) (h : told3G k w rows one d2) : S__law_told ([PyData.int k, .int w, eT PyData.int rows, eT PyData.int one, d2].map .dat) = .ok (.dat (told3 k w rows one d2)) (List.replicate 5 none) := by
  obtain ⟨rfl, ok⟩ := h
  
  have : SpR S__law_told [PyData.int 3, .int w, eT PyData.int rows, eT PyData.int one, d2] (.ok (told3 3 w rows one d2)) (fun d => .dat d) := by
    refine sp_fun (n := 5) (m := 6) (E := anyE) rfl ?_
    show Gn (F__law_told [some (vI 3), some (vI w), some (.dat (eT PyData.int rows)), some (.dat (eT PyData.int one)), some (.dat (d2)), none]) _ _
    unfold F__law_told
    refine g_one (g_try (r := T_in_one w rows one) (e := (eT PyData.int)) ?_ ok)
    exact (g_ifF (tv_bo (pv_bin pv_v (pv_c).lk (y_lt (i := 3) (j := 2))).lk) (g_skip (g_ifT (tv_bo (pv_bin pv_v (pv_c).lk (y_lt (i := 3) (j := 6))).lk) (g_retTold (gx_pick (pv_bin pv_v (pv_c).lk (y_sub (i := 3) (j := 2))).lk rfl (gx_call (n := 3) (wr := (fun (g : List Int) => (.dat (.tuple (g.map PyData.int))))) (av_cons pv_v (h2 := (av_cons pv_v (h2 := (av_cons pv_v (h2 := av_nil)))))) (t_in_one w rows one))) (fun _ => rfl)))))
  exact this

noncomputable def told4 (k w : Int) (rows : List Int) (one : Int) (d2 : PyData) : PyData := toldR (T_is_in w rows one) PyData.bool
def told4G (k w : Int) (rows : List Int) (one : Int) (d2 : PyData) : Prop := k = 4 ∧ okT (T_is_in w rows one)
theorem sp_told4 (k w : Int) (rows : List Int) (one : Int) (d2 : PyData) (h : told4G k w rows one d2) : S__law_told ([PyData.int k, .int w, eT PyData.int rows, PyData.int one, d2].map .dat) = .ok (.dat (told4 k w rows one d2)) (List.replicate 5 none) := by
  obtain ⟨rfl, ok⟩ := h
  
  have : SpR S__law_told [PyData.int 4, .int w, eT PyData.int rows, PyData.int one, d2] (.ok (told4 4 w rows one d2)) (fun d => .dat d) := by
    refine sp_fun (n := 5) (m := 6) (E := anyE) rfl ?_
    show Gn (F__law_told [some (vI 4), some (vI w), some (.dat (eT PyData.int rows)), some (.dat (PyData.int one)), some (.dat (d2)), none]) _ _
    unfold F__law_told
    refine g_one (g_try (r := T_is_in w rows one) (e := PyData.bool) ?_ ok)
    exact (g_ifF (tv_bo (pv_bin pv_v (pv_c).lk (y_lt (i := 4) (j := 2))).lk) (g_skip (g_ifT (tv_bo (pv_bin pv_v (pv_c).lk (y_lt (i := 4) (j := 6))).lk) (g_retTold (gx_pick (pv_bin pv_v (pv_c).lk (y_sub (i := 4) (j := 2))).lk rfl (gx_call (n := 3) (wr := (fun (g : Bool) => (vB g))) (av_cons pv_v (h2 := (av_cons pv_v (h2 := (av_cons pv_v (h2 := av_nil)))))) (t_is_in w rows one))) (fun _ => rfl)))))
  exact this

noncomputable def told5 (k w : Int) (rows : List Int) (one : Int) (d2 : PyData) : PyData := toldR (T_parts w rows one) (eT PyData.int)
def told5G (k w : Int) (rows : List Int) (one : Int) (d2 : PyData) : Prop := k = 5 ∧ okT (T_parts w rows one)
theorem sp_told5 (k w : Int) (rows : List Int) (one : Int) (d2 : PyData) (h : told5G k w rows one d2) : S__law_told ([PyData.int k, .int w, eT PyData.int rows, PyData.int one, d2].map .dat) = .ok (.dat (told5 k w rows one d2)) (List.replicate 5 none) := by
  obtain ⟨rfl, ok⟩ := h
  
  have : SpR S__law_told [PyData.int 5, .int w, eT PyData.int rows, PyData.int one, d2] (.ok (told5 5 w rows one d2)) (fun d => .dat d) := by
    refine sp_fun (n := 5) (m := 6) (E := anyE) rfl ?_
    show Gn (F__law_told [some (vI 5), some (vI w), some (.dat (eT PyData.int rows)), some (.dat (PyData.int one)), some (.dat (d2)), none]) _ _
    unfold F__law_told
    refine g_one (g_try (r := T_parts w rows one) (e := (eT PyData.int)) ?_ ok)
    exact (g_ifF (tv_bo (pv_bin pv_v (pv_c).lk (y_lt (i := 5) (j := 2))).lk) (g_skip (g_ifT (tv_bo (pv_bin pv_v (pv_c).lk (y_lt (i := 5) (j := 6))).lk) (g_retTold (gx_pick (pv_bin pv_v (pv_c).lk (y_sub (i := 5) (j := 2))).lk rfl (gx_call (n := 3) (wr := (fun (g : List Int) => (.dat (.tuple (g.map PyData.int))))) (av_cons pv_v (h2 := (av_cons pv_v (h2 := (av_cons pv_v (h2 := av_nil)))))) (t_parts w rows one))) (fun _ => rfl)))))
  exact this

noncomputable def told6 (k w : Int) (rows : List Int) (one : Int) (two : List Int) : PyData := toldR (T_are_parts w rows one two) PyData.bool
def told6G (k w : Int) (rows : List Int) (one : Int) (two : List Int) : Prop := k = 6 ∧ okT (T_are_parts w rows one two)
theorem sp_told6 (k w : Int) (rows : List Int) (one : Int) (two : List Int) (h : told6G k w rows one two) : S__law_told ([PyData.int k, .int w, eT PyData.int rows, PyData.int one, eT PyData.int two].map .dat) = .ok (.dat (told6 k w rows one two)) (List.replicate 5 none) := by
  obtain ⟨rfl, ok⟩ := h
  
  have : SpR S__law_told [PyData.int 6, .int w, eT PyData.int rows, PyData.int one, eT PyData.int two] (.ok (told6 6 w rows one two)) (fun d => .dat d) := by
    refine sp_fun (n := 5) (m := 6) (E := anyE) rfl ?_
    show Gn (F__law_told [some (vI 6), some (vI w), some (.dat (eT PyData.int rows)), some (.dat (PyData.int one)), some (.dat (eT PyData.int two)), none]) _ _
    unfold F__law_told
    refine g_one (g_try (r := T_are_parts w rows one two) (e := PyData.bool) ?_ ok)
    exact (g_ifF (tv_bo (pv_bin pv_v (pv_c).lk (y_lt (i := 6) (j := 2))).lk) (g_skip (g_ifF (tv_bo (pv_bin pv_v (pv_c).lk (y_lt (i := 6) (j := 6))).lk) (g_skip (g_one (g_retTold (gx_call (n := 4) (wr := (fun (g : Bool) => (vB g))) (av_cons pv_v (h2 := (av_cons pv_v (h2 := (av_cons pv_v (h2 := (av_cons pv_v (h2 := av_nil)))))))) (t_are_parts w rows one two)) (fun _ => rfl)))))))
  exact this

noncomputable def told2b (k w : Int) (rows : List Int) (one : Int) (d2 : PyData) : PyData := toldR ((.exc 1 : R (List Int))) (eT PyData.int)
def told2bG (k w : Int) (rows : List Int) (one : Int) (d2 : PyData) : Prop := k = 2 ∧ T_across w rows = .exc 1
theorem sp_told2b (k w : Int) (rows : List Int) (one : Int) (d2 : PyData) (h : told2bG k w rows one d2) : S__law_told ([PyData.int k, .int w, eT PyData.int rows, PyData.int one, d2].map .dat) = .ok (.dat (told2b k w rows one d2)) (List.replicate 5 none) := by
  obtain ⟨rfl, hx⟩ := h
  have ok : okT (.exc 1 : R (List Int)) := rfl
  have : SpR S__law_told [PyData.int 2, .int w, eT PyData.int rows, PyData.int one, d2] (.ok (told2b 2 w rows one d2)) (fun d => .dat d) := by
    refine sp_fun (n := 5) (m := 6) (E := anyE) rfl ?_
    show Gn (F__law_told [some (vI 2), some (vI w), some (.dat (eT PyData.int rows)), some (.dat (PyData.int one)), some (.dat (d2)), none]) _ _
    unfold F__law_told
    refine g_one (g_try (r := (.exc 1 : R (List Int))) (e := (eT PyData.int)) ?_ ok)
    exact (g_ifF (tv_bo (pv_bin pv_v (pv_c).lk (y_lt (i := 2) (j := 2))).lk) (g_skip (g_ifT (tv_bo (pv_bin pv_v (pv_c).lk (y_lt (i := 2) (j := 6))).lk) (g_retTold (gx_pick (pv_bin pv_v (pv_c).lk (y_sub (i := 2) (j := 2))).lk rfl (gx_call (n := 3) (wr := (fun (g : List Int) => (.dat (.tuple (g.map PyData.int))))) (av_cons pv_v (h2 := (av_cons pv_v (h2 := (av_cons pv_v (h2 := av_nil)))))) (in_both_x (by have := t_across w rows; rw [hx] at this; exact this)))) (fun _ => rfl)))))
  exact this

noncomputable def told3b (k w : Int) (rows : List Int) (one : Int) (d2 : PyData) : PyData := toldR ((.exc 1 : R (List Int))) (eT PyData.int)
def told3bG (k w : Int) (rows : List Int) (one : Int) (d2 : PyData) : Prop := k = 3 ∧ T_check_rows w rows = .exc 1
theorem sp_told3b (k w : Int) (rows : List Int) (one : Int) (d2 : PyData) (h : told3bG k w rows one d2) : S__law_told ([PyData.int k, .int w, eT PyData.int rows, PyData.int one, d2].map .dat) = .ok (.dat (told3b k w rows one d2)) (List.replicate 5 none) := by
  obtain ⟨rfl, hx⟩ := h
  have ok : okT (.exc 1 : R (List Int)) := rfl
  have : SpR S__law_told [PyData.int 3, .int w, eT PyData.int rows, PyData.int one, d2] (.ok (told3b 3 w rows one d2)) (fun d => .dat d) := by
    refine sp_fun (n := 5) (m := 6) (E := anyE) rfl ?_
    show Gn (F__law_told [some (vI 3), some (vI w), some (.dat (eT PyData.int rows)), some (.dat (PyData.int one)), some (.dat (d2)), none]) _ _
    unfold F__law_told
    refine g_one (g_try (r := (.exc 1 : R (List Int))) (e := (eT PyData.int)) ?_ ok)
    exact (g_ifF (tv_bo (pv_bin pv_v (pv_c).lk (y_lt (i := 3) (j := 2))).lk) (g_skip (g_ifT (tv_bo (pv_bin pv_v (pv_c).lk (y_lt (i := 3) (j := 6))).lk) (g_retTold (gx_pick (pv_bin pv_v (pv_c).lk (y_sub (i := 3) (j := 2))).lk rfl (gx_call (n := 3) (wr := (fun (g : List Int) => (.dat (.tuple (g.map PyData.int))))) (av_cons pv_v (h2 := (av_cons pv_v (h2 := (av_cons pv_v (h2 := av_nil)))))) (in_one_x hx))) (fun _ => rfl)))))
  exact this

noncomputable def told6b (k w : Int) (rows : List Int) (one : Int) (d2 : PyData) : PyData := toldR (T_are_parts w rows one (intsOf d2)) PyData.bool
def told6bG (k w : Int) (rows : List Int) (one : Int) (d2 : PyData) : Prop := k = 6 ∧ d2 = eT PyData.int (intsOf d2) ∧ okT (T_are_parts w rows one (intsOf d2))
theorem sp_told6b (k w : Int) (rows : List Int) (one : Int) (d2 : PyData) (h : told6bG k w rows one d2) : S__law_told ([PyData.int k, .int w, eT PyData.int rows, PyData.int one, d2].map .dat) = .ok (.dat (told6b k w rows one d2)) (List.replicate 5 none) := by
  obtain ⟨rfl, hd, ok⟩ := h
  
  have : SpR S__law_told [PyData.int 6, .int w, eT PyData.int rows, PyData.int one, d2] (.ok (told6b 6 w rows one d2)) (fun d => .dat d) := by
    refine sp_fun (n := 5) (m := 6) (E := anyE) rfl ?_
    show Gn (F__law_told [some (vI 6), some (vI w), some (.dat (eT PyData.int rows)), some (.dat (PyData.int one)), some (.dat (d2)), none]) _ _
    unfold F__law_told
    refine g_one (g_try (r := T_are_parts w rows one (intsOf d2)) (e := PyData.bool) ?_ ok)
    exact (g_ifF (tv_bo (pv_bin pv_v (pv_c).lk (y_lt (i := 6) (j := 2))).lk) (g_skip (g_ifF (tv_bo (pv_bin pv_v (pv_c).lk (y_lt (i := 6) (j := 6))).lk) (g_skip (g_one (g_retTold (gx_call (n := 4) (wr := (fun (g : Bool) => (vB g))) (av_cons pv_v (h2 := (av_cons pv_v (h2 := (av_cons pv_v (h2 := (av_cons pv_v (h2 := av_nil)))))))) (by have := t_are_parts w rows one (intsOf d2); rw [← hd] at this; exact this)) (fun _ => rfl)))))))
  exact this

end K35
end
section
set_option Elab.async false
set_option linter.all false
set_option maxRecDepth 100000
set_option maxHeartbeats 4000000
namespace K35
open Mi
open PySem (PyData)
open PySem
noncomputable def T__law_fits (nums : List Int) (c : Int)  : R ((Bool) × Int) :=
  (gdR ((nxG nums c (8 : Int))) (letR ((1 : Int) + (nxt nums c (8 : Int))) fun width2 => letR (c + 1) fun c_3 => (gdR ((someRowsG nums c_3 width2 (6 : Int))) (letR ((someRows nums c_3 width2 (6 : Int)).1) fun first_5 => letR ((someRows nums c_3 width2 (6 : Int)).2) fun c_6 => (gdR ((someRowsG nums c_6 width2 (6 : Int))) (letR ((someRows nums c_6 width2 (6 : Int)).1) fun second8 => letR ((someRows nums c_6 width2 (6 : Int)).2) fun c_9 => (gdR ((Rok ((eP (eT PyData.int) (eT PyData.int)) (first_5, second8)))) (letR ((((eP (eT PyData.int) (eT PyData.int)) (first_5, second8))).shown) fun kept11 => (gdR ((lawSpanG first_5)) (letR (lawSpan first_5) fun one13 => (gdR ((lawSpanG second8)) (letR (lawSpan second8) fun two15 => (gdR ((L2.CPow (1 : Int) width2) ∧ (rOk ((1 : Int) * 2 ^ width2.toNat)) ∧ ((irange 0 ((1 : Int) * 2 ^ width2.toNat)).length ≤ 100000) ∧ (∀ row16 ∈ (irange 0 ((1 : Int) * 2 ^ width2.toNat)), (first_5.length ≤ 100000) ∧ (∀ other_17 ∈ first_5, (lawOddG (Builtin.bitAnd row16 other_17))))) (letR ((irange 0 ((1 : Int) * 2 ^ width2.toNat)).filter fun row16 => (!(((first_5.map fun other_17 => (lawOdd (Builtin.bitAnd row16 other_17))).map (· != 0)).any id))) fun wide22 => (gdR ((one13.length ≤ 100000)) (letR (one13.filter fun row23 => (decide (row23 ∈ two15))) fun both27 => (gdR ((told0G (0 : Int) width2 first_5 (PyData.int (0 : Int)) (PyData.int (0 : Int))) ∧ (told1G (1 : Int) width2 first_5 (PyData.int (0 : Int)) (PyData.int (0 : Int))) ∧ (told2G (2 : Int) width2 first_5 second8 (PyData.int (0 : Int))) ∧ (told3G (3 : Int) width2 first_5 second8 (PyData.int (0 : Int)))) (letR ([(told0 (0 : Int) width2 first_5 (PyData.int (0 : Int)) (PyData.int (0 : Int))), (told1 (1 : Int) width2 first_5 (PyData.int (0 : Int)) (PyData.int (0 : Int))), (told2 (2 : Int) width2 first_5 second8 (PyData.int (0 : Int))), (told3 (3 : Int) width2 first_5 second8 (PyData.int (0 : Int)))] : List PyData) fun told29 => ((forF (γ := (Bool) × Int) (fun (k30 : Int) (b31 : Unit) => (gdR ((inR told29.length k30) ∧ (inD (ix told29 k30) (0 : Int)) ∧ (shp (ixD (ix told29 k30) (0 : Int)) ∧ shp (PyData.str ("told" : PySem.Str))) ∧ ((!PyData.eqv (ixD (ix told29 k30) (0 : Int)) (PyData.str ("told" : PySem.Str))) = false → (inR told29.length k30) ∧ (inD (ix told29 k30) (1 : Int)) ∧ (szOk (first_5.length + second8.length)) ∧ (lawSpanG (first_5 ++ second8)) ∧ (inR ([one13, wide22, both27, (lawSpan (first_5 ++ second8))] : List (List Int)).length k30) ∧ (lawIsBasisG (ixD (ix told29 k30) (1 : Int)) (ix ([one13, wide22, both27, (lawSpan (first_5 ++ second8))] : List (List Int)) k30)))) (if ((!PyData.eqv (ixD (ix told29 k30) (0 : Int)) (PyData.str ("told" : PySem.Str))) || (!(lawIsBasis (ixD (ix told29 k30) (1 : Int)) (ix ([one13, wide22, both27, (lawSpan (first_5 ++ second8))] : List (List Int)) k30)))) = true then (.ok (Fl.ret (false, c_9))) else (.ok (Fl.nx ()))))) (irange 0 (4 : Int)) ()).bind (flK (fun (b34 : Unit) => (gdR ((inR told29.length (1 : Int)) ∧ (inD (ix told29 (1 : Int)) (1 : Int)) ∧ (acrossG width2 (ixD (ix told29 (1 : Int)) (1 : Int))) ∧ (inR told29.length (0 : Int)) ∧ (inD (ix told29 (0 : Int)) (1 : Int)) ∧ (shp ((eT PyData.int) (acrossV width2 (ixD (ix told29 (1 : Int)) (1 : Int)))) ∧ shp (ixD (ix told29 (0 : Int)) (1 : Int)))) (if (!PyData.eqv ((eT PyData.int) (acrossV width2 (ixD (ix told29 (1 : Int)) (1 : Int)))) (ixD (ix told29 (0 : Int)) (1 : Int))) = true then (.ok (false, c_9)) else ((forF (γ := (Bool) × Int) (fun (k36 : Int) (b37 : Int) => (gdR ((L2.CPow (1 : Int) width2) ∧ (nxG nums b37 ((1 : Int) * 2 ^ width2.toNat)) ∧ (nxG nums (b37 + 1) (one13.length : Int)) ∧ (inR one13.length (nxt nums (b37 + 1) (one13.length : Int))) ∧ (nxG nums ((b37 + 1) + 1) (2 : Int)) ∧ (inR ([(nxt nums b37 ((1 : Int) * 2 ^ width2.toNat)), (ix one13 (nxt nums (b37 + 1) (one13.length : Int)))] : List Int).length (nxt nums ((b37 + 1) + 1) (2 : Int)))) (letR (ix ([(nxt nums b37 ((1 : Int) * 2 ^ width2.toNat)), (ix one13 (nxt nums (b37 + 1) (one13.length : Int)))] : List Int) (nxt nums ((b37 + 1) + 1) (2 : Int))) fun goal39 => letR (((b37 + 1) + 1) + 1) fun c_40 => (gdR ((told5G (5 : Int) width2 first_5 goal39 (PyData.int (0 : Int)))) (letR (told5 (5 : Int) width2 first_5 goal39 (PyData.int (0 : Int))) fun answer42 => (gdR ((told4G (4 : Int) width2 first_5 goal39 (PyData.int (0 : Int))) ∧ (sameG (told4 (4 : Int) width2 first_5 goal39 (PyData.int (0 : Int))) ((eP PyData.str PyData.bool) (("told" : PySem.Str), (decide (goal39 ∈ one13))))) ∧ ((!true) = false → (shp answer42 ∧ shp (PyData.str ("missing" : PySem.Str))))) (if ((!true) || (!decide ((PyData.eqv answer42 (PyData.str ("missing" : PySem.Str))) = (!decide (goal39 ∈ one13))))) = true then (.ok (Fl.ret (false, c_40))) else (gdR ((rOk (first_5.length : Int)) ∧ ((irange 0 (first_5.length : Int)).length ≤ 100000) ∧ (allC (fun at_45 c_46 => (nxG nums c_46 (2 : Int))) (fun at_45 c_46 => (c_46 + 1)) (irange 0 (first_5.length : Int)) c_40)) (letR ([(PyData.tuple []), ((eT PyData.int) (filterC (fun at_45 c_46 => ((decide ((nxt nums c_46 (2 : Int)) = (0 : Int))), (c_46 + 1))) (fun at_45 => at_45) (irange 0 (first_5.length : Int)) c_40).1), (.tuple [(PyData.int (0 : Int)), (PyData.int (0 : Int))]), ((eT PyData.int) ([(first_5.length : Int)] : List Int)), ((eT PyData.int) ([(-(1 : Int))] : List Int))] : List PyData) fun rows49 => letR ((filterC (fun at_45 c_46 => ((decide ((nxt nums c_46 (2 : Int)) = (0 : Int))), (c_46 + 1))) (fun at_45 => at_45) (irange 0 (first_5.length : Int)) c_40).2) fun c_50 => (if (decide (goal39 ∈ one13)) = true then (gdR ((inD answer42 (1 : Int)) ∧ (notDict (ixD answer42 (1 : Int))) ∧ ((!(isTup (ixD answer42 (1 : Int)))) = false → (inD answer42 (1 : Int)) ∧ (lawMadeDG first_5 goal39 (ixD answer42 (1 : Int))))) (if ((!(isTup (ixD answer42 (1 : Int)))) || (!(lawMadeD first_5 goal39 (ixD answer42 (1 : Int))))) = true then (.ok (Fl.ret (false, c_50))) else (gdR ((inD answer42 (1 : Int)) ∧ (inD answer42 (1 : Int)) ∧ (isTup (ixD answer42 (1 : Int)) = true) ∧ (inD answer42 (1 : Int)) ∧ (isTup (ixD answer42 (1 : Int)) = true) ∧ (szOk (rows49.length + ([(ixD answer42 (1 : Int)), (revDT (ixD answer42 (1 : Int))), (cutDT (ixD answer42 (1 : Int)) (some (1 : Int)) none)] : List PyData).length))) (letR (rows49 ++ ([(ixD answer42 (1 : Int)), (revDT (ixD answer42 (1 : Int))), (cutDT (ixD answer42 (1 : Int)) (some (1 : Int)) none)] : List PyData)) fun rows54 => (gdR ((rows54.length ≤ 100000) ∧ (∀ places55 ∈ rows54, (told6bG (6 : Int) width2 first_5 goal39 places55) ∧ (lawMadeDG first_5 goal39 places55) ∧ (sameG (told6b (6 : Int) width2 first_5 goal39 places55) ((eP PyData.str PyData.bool) (("told" : PySem.Str), (lawMadeD first_5 goal39 places55)))))) (if (!((rows54.map fun places55 => true).all id)) = true then (.ok (Fl.ret (false, c_50))) else (.ok (Fl.nx c_50)))))))) else (gdR ((rows49.length ≤ 100000) ∧ (∀ places58 ∈ rows49, (told6bG (6 : Int) width2 first_5 goal39 places58) ∧ (lawMadeDG first_5 goal39 places58) ∧ (sameG (told6b (6 : Int) width2 first_5 goal39 places58) ((eP PyData.str PyData.bool) (("told" : PySem.Str), (lawMadeD first_5 goal39 places58)))))) (if (!((rows49.map fun places58 => true).all id)) = true then (.ok (Fl.ret (false, c_50))) else (.ok (Fl.nx c_50)))))))))))))) (irange 0 (4 : Int)) c_9).bind (flK (fun (b61 : Int) => (gdR ((L2.CPow (1 : Int) width2)) (letR ((1 : Int) * 2 ^ width2.toNat) fun far63 => (gdR ((szOk (first_5.length + ([far63] : List Int).length)) ∧ (told0G (0 : Int) width2 (first_5 ++ ([far63] : List Int)) (PyData.int (0 : Int)) (PyData.tuple [])) ∧ (szOk (first_5.length + ([far63] : List Int).length)) ∧ (told1G (1 : Int) width2 (first_5 ++ ([far63] : List Int)) (PyData.int (0 : Int)) (PyData.tuple [])) ∧ (szOk (first_5.length + ([far63] : List Int).length)) ∧ (told2bG (2 : Int) width2 (first_5 ++ ([far63] : List Int)) (0 : Int) (PyData.tuple [])) ∧ (szOk (first_5.length + ([far63] : List Int).length)) ∧ (told3bG (3 : Int) width2 (first_5 ++ ([far63] : List Int)) (0 : Int) (PyData.tuple [])) ∧ (szOk (first_5.length + ([far63] : List Int).length)) ∧ (told4G (4 : Int) width2 (first_5 ++ ([far63] : List Int)) (0 : Int) (PyData.tuple [])) ∧ (szOk (first_5.length + ([far63] : List Int).length)) ∧ (told5G (5 : Int) width2 (first_5 ++ ([far63] : List Int)) (0 : Int) (PyData.tuple [])) ∧ (szOk (first_5.length + ([far63] : List Int).length)) ∧ (told6G (6 : Int) width2 (first_5 ++ ([far63] : List Int)) (0 : Int) ([] : List Int)) ∧ (szOk (first_5.length + ([(-(1 : Int))] : List Int).length)) ∧ (told0G (0 : Int) width2 (first_5 ++ ([(-(1 : Int))] : List Int)) (PyData.int (0 : Int)) (PyData.tuple [])) ∧ (szOk (first_5.length + ([(-(1 : Int))] : List Int).length)) ∧ (told1G (1 : Int) width2 (first_5 ++ ([(-(1 : Int))] : List Int)) (PyData.int (0 : Int)) (PyData.tuple [])) ∧ (szOk (([(told0 (0 : Int) width2 (first_5 ++ ([far63] : List Int)) (PyData.int (0 : Int)) (PyData.tuple [])), (told1 (1 : Int) width2 (first_5 ++ ([far63] : List Int)) (PyData.int (0 : Int)) (PyData.tuple [])), (told2b (2 : Int) width2 (first_5 ++ ([far63] : List Int)) (0 : Int) (PyData.tuple [])), (told3b (3 : Int) width2 (first_5 ++ ([far63] : List Int)) (0 : Int) (PyData.tuple [])), (told4 (4 : Int) width2 (first_5 ++ ([far63] : List Int)) (0 : Int) (PyData.tuple [])), (told5 (5 : Int) width2 (first_5 ++ ([far63] : List Int)) (0 : Int) (PyData.tuple [])), (told6 (6 : Int) width2 (first_5 ++ ([far63] : List Int)) (0 : Int) ([] : List Int))] : List PyData).length + ([(told0 (0 : Int) width2 (first_5 ++ ([(-(1 : Int))] : List Int)) (PyData.int (0 : Int)) (PyData.tuple [])), (told1 (1 : Int) width2 (first_5 ++ ([(-(1 : Int))] : List Int)) (PyData.int (0 : Int)) (PyData.tuple []))] : List PyData).length)) ∧ (told2G (2 : Int) width2 first_5 ([far63] : List Int) (PyData.int (0 : Int))) ∧ (told3G (3 : Int) width2 first_5 ([far63] : List Int) (PyData.int (0 : Int))) ∧ (szOk ((([(told0 (0 : Int) width2 (first_5 ++ ([far63] : List Int)) (PyData.int (0 : Int)) (PyData.tuple [])), (told1 (1 : Int) width2 (first_5 ++ ([far63] : List Int)) (PyData.int (0 : Int)) (PyData.tuple [])), (told2b (2 : Int) width2 (first_5 ++ ([far63] : List Int)) (0 : Int) (PyData.tuple [])), (told3b (3 : Int) width2 (first_5 ++ ([far63] : List Int)) (0 : Int) (PyData.tuple [])), (told4 (4 : Int) width2 (first_5 ++ ([far63] : List Int)) (0 : Int) (PyData.tuple [])), (told5 (5 : Int) width2 (first_5 ++ ([far63] : List Int)) (0 : Int) (PyData.tuple [])), (told6 (6 : Int) width2 (first_5 ++ ([far63] : List Int)) (0 : Int) ([] : List Int))] : List PyData) ++ ([(told0 (0 : Int) width2 (first_5 ++ ([(-(1 : Int))] : List Int)) (PyData.int (0 : Int)) (PyData.tuple [])), (told1 (1 : Int) width2 (first_5 ++ ([(-(1 : Int))] : List Int)) (PyData.int (0 : Int)) (PyData.tuple []))] : List PyData)).length + ([(told2 (2 : Int) width2 first_5 ([far63] : List Int) (PyData.int (0 : Int))), (told3 (3 : Int) width2 first_5 ([far63] : List Int) (PyData.int (0 : Int)))] : List PyData).length)) ∧ (told4G (4 : Int) width2 first_5 far63 (PyData.tuple [])) ∧ (told5G (5 : Int) width2 first_5 far63 (PyData.tuple [])) ∧ (told6G (6 : Int) width2 first_5 far63 ([] : List Int)) ∧ (szOk (((([(told0 (0 : Int) width2 (first_5 ++ ([far63] : List Int)) (PyData.int (0 : Int)) (PyData.tuple [])), (told1 (1 : Int) width2 (first_5 ++ ([far63] : List Int)) (PyData.int (0 : Int)) (PyData.tuple [])), (told2b (2 : Int) width2 (first_5 ++ ([far63] : List Int)) (0 : Int) (PyData.tuple [])), (told3b (3 : Int) width2 (first_5 ++ ([far63] : List Int)) (0 : Int) (PyData.tuple [])), (told4 (4 : Int) width2 (first_5 ++ ([far63] : List Int)) (0 : Int) (PyData.tuple [])), (told5 (5 : Int) width2 (first_5 ++ ([far63] : List Int)) (0 : Int) (PyData.tuple [])), (told6 (6 : Int) width2 (first_5 ++ ([far63] : List Int)) (0 : Int) ([] : List Int))] : List PyData) ++ ([(told0 (0 : Int) width2 (first_5 ++ ([(-(1 : Int))] : List Int)) (PyData.int (0 : Int)) (PyData.tuple [])), (told1 (1 : Int) width2 (first_5 ++ ([(-(1 : Int))] : List Int)) (PyData.int (0 : Int)) (PyData.tuple []))] : List PyData)) ++ ([(told2 (2 : Int) width2 first_5 ([far63] : List Int) (PyData.int (0 : Int))), (told3 (3 : Int) width2 first_5 ([far63] : List Int) (PyData.int (0 : Int)))] : List PyData)).length + ([(told4 (4 : Int) width2 first_5 far63 (PyData.tuple [])), (told5 (5 : Int) width2 first_5 far63 (PyData.tuple [])), (told6 (6 : Int) width2 first_5 far63 ([] : List Int))] : List PyData).length))) (letR (((([(told0 (0 : Int) width2 (first_5 ++ ([far63] : List Int)) (PyData.int (0 : Int)) (PyData.tuple [])), (told1 (1 : Int) width2 (first_5 ++ ([far63] : List Int)) (PyData.int (0 : Int)) (PyData.tuple [])), (told2b (2 : Int) width2 (first_5 ++ ([far63] : List Int)) (0 : Int) (PyData.tuple [])), (told3b (3 : Int) width2 (first_5 ++ ([far63] : List Int)) (0 : Int) (PyData.tuple [])), (told4 (4 : Int) width2 (first_5 ++ ([far63] : List Int)) (0 : Int) (PyData.tuple [])), (told5 (5 : Int) width2 (first_5 ++ ([far63] : List Int)) (0 : Int) (PyData.tuple [])), (told6 (6 : Int) width2 (first_5 ++ ([far63] : List Int)) (0 : Int) ([] : List Int))] : List PyData) ++ ([(told0 (0 : Int) width2 (first_5 ++ ([(-(1 : Int))] : List Int)) (PyData.int (0 : Int)) (PyData.tuple [])), (told1 (1 : Int) width2 (first_5 ++ ([(-(1 : Int))] : List Int)) (PyData.int (0 : Int)) (PyData.tuple []))] : List PyData)) ++ ([(told2 (2 : Int) width2 first_5 ([far63] : List Int) (PyData.int (0 : Int))), (told3 (3 : Int) width2 first_5 ([far63] : List Int) (PyData.int (0 : Int)))] : List PyData)) ++ ([(told4 (4 : Int) width2 first_5 far63 (PyData.tuple [])), (told5 (5 : Int) width2 first_5 far63 (PyData.tuple [])), (told6 (6 : Int) width2 first_5 far63 ([] : List Int))] : List PyData)) fun bad65 => (gdR ((szOk ((cutD bad65 none (some (2 : Int))).length + (cutD bad65 (some (4 : Int)) none).length)) ∧ (repOk ([("refused" : PySem.Str)] : List PySem.Str).length (12 : Int)) ∧ (shp ((eL idD) ((cutD bad65 none (some (2 : Int))) ++ (cutD bad65 (some (4 : Int)) none))) ∧ shp ((eL PyData.str) ((List.replicate (12 : Int).toNat ([("refused" : PySem.Str)] : List PySem.Str)).flatten))) ∧ ((PyData.eqv ((eL idD) ((cutD bad65 none (some (2 : Int))) ++ (cutD bad65 (some (4 : Int)) none))) ((eL PyData.str) ((List.replicate (12 : Int).toNat ([("refused" : PySem.Str)] : List PySem.Str)).flatten))) = true → (Rok ((eP (eT PyData.int) (eT PyData.int)) (first_5, second8))))) (.ok (((PyData.eqv ((eL idD) ((cutD bad65 none (some (2 : Int))) ++ (cutD bad65 (some (4 : Int)) none))) ((eL PyData.str) ((List.replicate (12 : Int).toNat ([("refused" : PySem.Str)] : List PySem.Str)).flatten))) && (decide ((((eP (eT PyData.int) (eT PyData.int)) (first_5, second8))).shown = kept11))), b61)))))))) (fun g => g)))))) (fun g => g)))))))))))))))))))))
theorem t__law_fits (nums : List Int) (c : Int)  : SpS S__law_fits nums c [] (T__law_fits nums c ) (fun (g : Bool) => (vB g)) := by
  refine sp_st (n := 0) (m := 21) rfl ?_
  show Gn (F__law_fits [some (StV nums c), none, none, none, none, none, none, none, none, none, none, none, none, none, none, none, none, none, none, none, none]) (T__law_fits nums c ) _
  unfold F__law_fits T__law_fits
  refine g_gd fun hg1 => ?_
  refine g_stepC (ρ2 := fun width2 c_3 => [some (StV nums c_3), some (vI width2), none, none, none, none, none, none, none, none, none, none, none, none, none, none, none, none, none, none, none]) (ev_set (pv_Z (pv_bin pv_c (Pv.lk (pv_callS (n := 1) (j := 0) (h1 := (av_cons pv_c (h2 := av_nil))) (hs := nxt_call hg1))) y_add)) rfl) fun width2 c_3 => ?_
  refine g_gd fun hg4 => ?_
  refine g_stepC (ρ2 := fun first_5 c_6 => [some (StV nums c_6), some (vI width2), some (.dat (.tuple (first_5.map PyData.int))), none, none, none, none, none, none, none, none, none, none, none, none, none, none, none, none, none, none]) (ev_set (pv_Z (pv_callS (n := 2) (j := 0) (h1 := (av_cons pv_v (h2 := (av_cons pv_c (h2 := av_nil))))) (hs := sp_some_rows hg4))) rfl) fun first_5 c_6 => ?_
  refine g_gd fun hg7 => ?_
  refine g_stepC (ρ2 := fun second8 c_9 => [some (StV nums c_9), some (vI width2), some (.dat (.tuple (first_5.map PyData.int))), some (.dat (.tuple (second8.map PyData.int))), none, none, none, none, none, none, none, none, none, none, none, none, none, none, none, none, none]) (ev_set (pv_Z (pv_callS (n := 2) (j := 0) (h1 := (av_cons pv_v (h2 := (av_cons pv_c (h2 := av_nil))))) (hs := sp_some_rows hg7))) rfl) fun second8 c_9 => ?_
  refine g_gd fun hg10 => ?_
  refine g_stepL (ρ2 := fun kept11 => [some (StV nums c_9), some (vI width2), some (.dat (.tuple (first_5.map PyData.int))), some (.dat (.tuple (second8.map PyData.int))), some (.dat (.str kept11)), none, none, none, none, none, none, none, none, none, none, none, none, none, none, none, none]) (ev_set (pv_callB (al_cons (pv_tup (av_cons pv_v (h2 := (av_cons pv_v (h2 := av_nil))))) al_nil) (y_repr (d := ((eP (eT PyData.int) (eT PyData.int)) (first_5, second8))) ⟨hg10, rfl⟩)) rfl) fun kept11 => ?_
  refine g_gd fun hg12 => ?_
  refine g_stepL (ρ2 := fun one13 => [some (StV nums c_9), some (vI width2), some (.dat (.tuple (first_5.map PyData.int))), some (.dat (.tuple (second8.map PyData.int))), some (.dat (.str kept11)), some (.dat (.list (one13.map PyData.int))), none, none, none, none, none, none, none, none, none, none, none, none, none, none, none]) (ev_set (pv_Z (pv_call (n := 1) (av_cons pv_v (h2 := av_nil)) (sp__law_span first_5 hg12))) rfl) fun one13 => ?_
  refine g_gd fun hg14 => ?_
  refine g_stepL (ρ2 := fun two15 => [some (StV nums c_9), some (vI width2), some (.dat (.tuple (first_5.map PyData.int))), some (.dat (.tuple (second8.map PyData.int))), some (.dat (.str kept11)), some (.dat (.list (one13.map PyData.int))), some (.dat (.list (two15.map PyData.int))), none, none, none, none, none, none, none, none, none, none, none, none, none, none]) (ev_set (pv_Z (pv_call (n := 1) (av_cons pv_v (h2 := av_nil)) (sp__law_span second8 hg14))) rfl) fun two15 => ?_
  refine g_gd fun hg21 => ?_
  refine g_stepL (ρ2 := fun wide22 => [some (StV nums c_9), some (vI width2), some (.dat (.tuple (first_5.map PyData.int))), some (.dat (.tuple (second8.map PyData.int))), some (.dat (.str kept11)), some (.dat (.list (one13.map PyData.int))), some (.dat (.list (two15.map PyData.int))), some (.dat (.list (wide22.map PyData.int))), none, none, none, none, none, none, none, none, none, none, none, none, none]) (ev_set (pv_Z (pv_fil (p := fun row16 => (!(((first_5.map fun other_17 => (lawOdd (Builtin.bitAnd row16 other_17))).map (· != 0)).any id))) (en := PyData.int) (xs := (irange 0 ((1 : Int) * 2 ^ width2.toNat))) (iv_r1 (al_cons (pv_bin pv_c (Pv.lk pv_v) (y_shl (hg21.1))) al_nil) (hg21.2.1)) (hg21.2.2.1) (fun row16 hk20 => ⟨[some (StV nums c_9), some (vI width2), some (.dat (.tuple (first_5.map PyData.int))), some (.dat (.tuple (second8.map PyData.int))), some (.dat (.str kept11)), some (.dat (.list (one13.map PyData.int))), some (.dat (.list (two15.map PyData.int))), none, none, none, none, none, none, none, none, none, some (vI row16), none, none, none, none], [some (StV nums c_9), some (vI width2), some (.dat (.tuple (first_5.map PyData.int))), some (.dat (.tuple (second8.map PyData.int))), some (.dat (.str kept11)), some (.dat (.list (one13.map PyData.int))), some (.dat (.list (two15.map PyData.int))), none, none, none, none, none, none, none, none, none, some (vI row16), none, none, none, none], rfl, rfl, (tv_not (tv_tr (Pv.lk (pv_callB (al_cons (pv_map (v := fun other_17 => (lawOdd (Builtin.bitAnd row16 other_17))) (en := PyData.int) (xs := first_5) (iv_tup pv_v) (((hg21.2.2.2) row16 hk20).1) (fun other_17 hk18 => ⟨[some (StV nums c_9), some (vI width2), some (.dat (.tuple (first_5.map PyData.int))), some (.dat (.tuple (second8.map PyData.int))), some (.dat (.str kept11)), some (.dat (.list (one13.map PyData.int))), some (.dat (.list (two15.map PyData.int))), none, none, none, none, none, none, none, none, none, some (vI row16), some (vI other_17), none, none, none], [some (StV nums c_9), some (vI width2), some (.dat (.tuple (first_5.map PyData.int))), some (.dat (.tuple (second8.map PyData.int))), some (.dat (.str kept11)), some (.dat (.list (one13.map PyData.int))), some (.dat (.list (two15.map PyData.int))), none, none, none, none, none, none, none, none, none, some (vI row16), some (vI other_17), none, none, none], _, rfl, (pv_call (n := 1) (av_cons (pv_bin pv_v (Pv.lk pv_v) y_and) (h2 := av_nil)) (sp__law_odd (Builtin.bitAnd row16 other_17) ((((hg21.2.2.2) row16 hk20).2) other_17 hk18))), rfl, rfl⟩)) al_nil) (y_anyI (ha := by rfl)))) rfl)), fun hk19 => ⟨_, pv_v, rfl, rfl⟩⟩))) rfl) fun wide22 => ?_
  refine g_gd fun hg26 => ?_
  refine g_stepL (ρ2 := fun both27 => [some (StV nums c_9), some (vI width2), some (.dat (.tuple (first_5.map PyData.int))), some (.dat (.tuple (second8.map PyData.int))), some (.dat (.str kept11)), some (.dat (.list (one13.map PyData.int))), some (.dat (.list (two15.map PyData.int))), some (.dat (.list (wide22.map PyData.int))), some (.dat (.list (both27.map PyData.int))), none, none, none, none, none, none, none, none, none, none, none, none]) (ev_set (pv_Z (pv_fil (p := fun row23 => (decide (row23 ∈ two15))) (en := PyData.int) (xs := one13) (iv_lst pv_v) hg26 (fun row23 hk25 => ⟨[some (StV nums c_9), some (vI width2), some (.dat (.tuple (first_5.map PyData.int))), some (.dat (.tuple (second8.map PyData.int))), some (.dat (.str kept11)), some (.dat (.list (one13.map PyData.int))), some (.dat (.list (two15.map PyData.int))), some (.dat (.list (wide22.map PyData.int))), none, none, none, none, none, none, none, none, some (vI row23), none, none, none, none], [some (StV nums c_9), some (vI width2), some (.dat (.tuple (first_5.map PyData.int))), some (.dat (.tuple (second8.map PyData.int))), some (.dat (.str kept11)), some (.dat (.list (one13.map PyData.int))), some (.dat (.list (two15.map PyData.int))), some (.dat (.list (wide22.map PyData.int))), none, none, none, none, none, none, none, none, some (vI row23), none, none, none, none], rfl, rfl, (tv_bo (Pv.lk (pv_bin pv_v (Pv.lk pv_v) (y_in (e := PyData.int) (x := row23) (xs := two15) cod_int)))), fun hk24 => ⟨_, pv_v, rfl, rfl⟩⟩))) rfl) fun both27 => ?_
  refine g_gd fun hg28 => ?_
  refine g_stepL (ρ2 := fun told29 => [some (StV nums c_9), some (vI width2), some (.dat (.tuple (first_5.map PyData.int))), some (.dat (.tuple (second8.map PyData.int))), some (.dat (.str kept11)), some (.dat (.list (one13.map PyData.int))), some (.dat (.list (two15.map PyData.int))), some (.dat (.list (wide22.map PyData.int))), some (.dat (.list (both27.map PyData.int))), some (.dat (.list (told29.map idD))), none, none, none, none, none, none, none, none, none, none, none]) (ev_set (pv_Z (pv_lstS (xs := ([(told0 (0 : Int) width2 first_5 (PyData.int (0 : Int)) (PyData.int (0 : Int))), (told1 (1 : Int) width2 first_5 (PyData.int (0 : Int)) (PyData.int (0 : Int))), (told2 (2 : Int) width2 first_5 second8 (PyData.int (0 : Int))), (told3 (3 : Int) width2 first_5 second8 (PyData.int (0 : Int)))] : List PyData)) (e := idD) (av_cons (pv_call (n := 5) (av_cons pv_c (h2 := (av_cons pv_v (h2 := (av_cons pv_v (h2 := (av_cons pv_c (h2 := (av_cons pv_c (h2 := av_nil)))))))))) (sp_told0 (0 : Int) width2 first_5 (PyData.int (0 : Int)) (PyData.int (0 : Int)) (hg28.1))) (h2 := (av_cons (pv_call (n := 5) (av_cons pv_c (h2 := (av_cons pv_v (h2 := (av_cons pv_v (h2 := (av_cons pv_c (h2 := (av_cons pv_c (h2 := av_nil)))))))))) (sp_told1 (1 : Int) width2 first_5 (PyData.int (0 : Int)) (PyData.int (0 : Int)) (hg28.2.1))) (h2 := (av_cons (pv_call (n := 5) (av_cons pv_c (h2 := (av_cons pv_v (h2 := (av_cons pv_v (h2 := (av_cons pv_v (h2 := (av_cons pv_c (h2 := av_nil)))))))))) (sp_told2 (2 : Int) width2 first_5 second8 (PyData.int (0 : Int)) (hg28.2.2.1))) (h2 := (av_cons (pv_call (n := 5) (av_cons pv_c (h2 := (av_cons pv_v (h2 := (av_cons pv_v (h2 := (av_cons pv_v (h2 := (av_cons pv_c (h2 := av_nil)))))))))) (sp_told3 (3 : Int) width2 first_5 second8 (PyData.int (0 : Int)) (hg28.2.2.2))) (h2 := av_nil)))))))) (Nat.le_of_ble_eq_true rfl) rfl)) rfl) fun told29 => ?_
  refine g_seqK (E := (fun (b : Unit) ρ' => ∃ z10 : Option Vl, ρ' = [some (StV nums c_9), some (vI width2), some (.dat (.tuple (first_5.map PyData.int))), some (.dat (.tuple (second8.map PyData.int))), some (.dat (.str kept11)), some (.dat (.list (one13.map PyData.int))), some (.dat (.list (two15.map PyData.int))), some (.dat (.list (wide22.map PyData.int))), some (.dat (.list (both27.map PyData.int))), some (.dat (.list (told29.map idD))), z10, none, none, none, none, none, none, none, none, none, none])) (Er := (fRt (fun (g : (Bool) × Int) => (vB g.1)) (fun (g : (Bool) × Int) ρ' => ρ'[0]? = some (some (StV nums g.2))))) (ev_forF (xs := (irange 0 (4 : Int))) (ι := PyData.int) (Inv := (fun (b : Unit) ρ' => ∃ z10 : Option Vl, ρ' = [some (StV nums c_9), some (vI width2), some (.dat (.tuple (first_5.map PyData.int))), some (.dat (.tuple (second8.map PyData.int))), some (.dat (.str kept11)), some (.dat (.list (one13.map PyData.int))), some (.dat (.list (two15.map PyData.int))), some (.dat (.list (wide22.map PyData.int))), some (.dat (.list (both27.map PyData.int))), some (.dat (.list (told29.map idD))), z10, none, none, none, none, none, none, none, none, none, none])) fRt_ret (iv_r1 (al_cons pv_c al_nil) (by decide)) ⟨_, rfl⟩ ?_) fRt_ret (forF_noB _ _) (fun _ _ _ h => h) ?_
  · rintro k30 hx b31 ρ' ⟨z10, rfl⟩
    refine ⟨[some (StV nums c_9), some (vI width2), some (.dat (.tuple (first_5.map PyData.int))), some (.dat (.tuple (second8.map PyData.int))), some (.dat (.str kept11)), some (.dat (.list (one13.map PyData.int))), some (.dat (.list (two15.map PyData.int))), some (.dat (.list (wide22.map PyData.int))), some (.dat (.list (both27.map PyData.int))), some (.dat (.list (told29.map idD))), some (vI k30), none, none, none, none, none, none, none, none, none, none], rfl, ?_⟩
    refine g_one ?_
    refine g_gd fun hg33 => ?_
    refine g_if (tv_or (tv_bo (Pv.lk (pv_bin (pv_bin (pv_bin pv_v (Pv.lk pv_v) (y_ix (xs := told29) (e := idD) (hg33.1))) (Pv.lk pv_c) (y_ixD (hg33.2.1))) (Pv.lk pv_c) (y_neD (d := (ixD (ix told29 k30) (0 : Int))) (d' := (PyData.str ("told" : PySem.Str))) (h := (hg33.2.2.1)))))) (fun hk32 => (tv_not (tv_tr (Pv.lk (pv_call (n := 2) (av_cons (pv_bin (pv_bin pv_v (Pv.lk pv_v) (y_ix (xs := told29) (e := idD) (((hg33.2.2.2) hk32).1))) (Pv.lk pv_c) (y_ixD (((hg33.2.2.2) hk32).2.1))) (h2 := (av_cons (pv_bin (pv_lstS (xs := ([one13, wide22, both27, (lawSpan (first_5 ++ second8))] : List (List Int))) (e := (eL PyData.int)) (av_cons pv_v (h2 := (av_cons pv_v (h2 := (av_cons pv_v (h2 := (av_cons (pv_call (n := 1) (av_cons (pv_bin pv_v (Pv.lk pv_v) (y_catT (xs := first_5) (ys := second8) (e := PyData.int) (((hg33.2.2.2) hk32).2.2.1))) (h2 := av_nil)) (sp__law_span (first_5 ++ second8) (((hg33.2.2.2) hk32).2.2.2.1))) (h2 := av_nil)))))))) (Nat.le_of_ble_eq_true rfl) rfl) (Pv.lk pv_v) (y_ix (xs := ([one13, wide22, both27, (lawSpan (first_5 ++ second8))] : List (List Int))) (e := (eL PyData.int)) (((hg33.2.2.2) hk32).2.2.2.2.1))) (h2 := av_nil)))) (sp__law_is_basis (ixD (ix told29 k30) (1 : Int)) (ix ([one13, wide22, both27, (lawSpan (first_5 ++ second8))] : List (List Int)) k30) (((hg33.2.2.2) hk32).2.2.2.2.2)))) rfl)))) (fun hk => ?_) (fun hk => ?_)
    · skip
      exact g_fret (g_ret (wr := (fun (g : (Bool) × Int) => (vB g.1))) pv_c rfl)
    · skip
      refine g_skip ?_
      exact g_fn ⟨_, rfl⟩
  · rintro b34 ρ' ⟨z10, rfl⟩
    refine g_gd fun hg35 => ?_
    refine g_if (tv_bo (Pv.lk (pv_bin (pv_call (n := 2) (av_cons pv_v (h2 := (av_cons (pv_bin (pv_bin pv_v (Pv.lk pv_c) (y_ix (xs := told29) (e := idD) (hg35.1))) (Pv.lk pv_c) (y_ixD (hg35.2.1))) (h2 := av_nil)))) (sp_acrossD width2 (ixD (ix told29 (1 : Int)) (1 : Int)) (hg35.2.2.1))) (Pv.lk (pv_bin (pv_bin pv_v (Pv.lk pv_c) (y_ix (xs := told29) (e := idD) (hg35.2.2.2.1))) (Pv.lk pv_c) (y_ixD (hg35.2.2.2.2.1)))) (y_neD (d := ((eT PyData.int) (acrossV width2 (ixD (ix told29 (1 : Int)) (1 : Int))))) (d' := (ixD (ix told29 (0 : Int)) (1 : Int))) (h := (hg35.2.2.2.2.2)))))) (fun hk => ?_) (fun hk => ?_)
    · skip
      exact (g_ret (wr := (fun (g : (Bool) × Int) => (vB g.1))) pv_c rfl)
    · skip
      refine g_skip ?_
      refine g_seqK (E := (fun (b : Int) ρ' => ∃ z11 z12 z13 z10 : Option Vl, ρ' = [some (StV nums b), some (vI width2), some (.dat (.tuple (first_5.map PyData.int))), some (.dat (.tuple (second8.map PyData.int))), some (.dat (.str kept11)), some (.dat (.list (one13.map PyData.int))), some (.dat (.list (two15.map PyData.int))), some (.dat (.list (wide22.map PyData.int))), some (.dat (.list (both27.map PyData.int))), some (.dat (.list (told29.map idD))), z10, z11, z12, z13, none, none, none, none, none, none, none])) (Er := (fRt (fun (g : (Bool) × Int) => (vB g.1)) (fun (g : (Bool) × Int) ρ' => ρ'[0]? = some (some (StV nums g.2))))) (ev_forF (xs := (irange 0 (4 : Int))) (ι := PyData.int) (Inv := (fun (b : Int) ρ' => ∃ z11 z12 z13 z10 : Option Vl, ρ' = [some (StV nums b), some (vI width2), some (.dat (.tuple (first_5.map PyData.int))), some (.dat (.tuple (second8.map PyData.int))), some (.dat (.str kept11)), some (.dat (.list (one13.map PyData.int))), some (.dat (.list (two15.map PyData.int))), some (.dat (.list (wide22.map PyData.int))), some (.dat (.list (both27.map PyData.int))), some (.dat (.list (told29.map idD))), z10, z11, z12, z13, none, none, none, none, none, none, none])) fRt_ret (iv_r1 (al_cons pv_c al_nil) (by decide)) ⟨_, _, _, _, rfl⟩ ?_) fRt_ret (forF_noB _ _) (fun _ _ _ h => h) ?_
      · rintro k36 hx b37 ρ' ⟨z11, z12, z13, z10, rfl⟩
        refine ⟨[some (StV nums b37), some (vI width2), some (.dat (.tuple (first_5.map PyData.int))), some (.dat (.tuple (second8.map PyData.int))), some (.dat (.str kept11)), some (.dat (.list (one13.map PyData.int))), some (.dat (.list (two15.map PyData.int))), some (.dat (.list (wide22.map PyData.int))), some (.dat (.list (both27.map PyData.int))), some (.dat (.list (told29.map idD))), some (vI k36), z11, z12, z13, none, none, none, none, none, none, none], rfl, ?_⟩
        refine g_gd fun hg38 => ?_
        refine g_stepC (ρ2 := fun goal39 c_40 => [some (StV nums c_40), some (vI width2), some (.dat (.tuple (first_5.map PyData.int))), some (.dat (.tuple (second8.map PyData.int))), some (.dat (.str kept11)), some (.dat (.list (one13.map PyData.int))), some (.dat (.list (two15.map PyData.int))), some (.dat (.list (wide22.map PyData.int))), some (.dat (.list (both27.map PyData.int))), some (.dat (.list (told29.map idD))), some (vI k36), some (vI goal39), z12, z13, none, none, none, none, none, none, none]) (ev_set (pv_bin (pv_lstS (xs := ([(nxt nums b37 ((1 : Int) * 2 ^ width2.toNat)), (ix one13 (nxt nums (b37 + 1) (one13.length : Int)))] : List Int)) (e := PyData.int) (av_cons (pv_callS (n := 1) (j := 0) (h1 := (av_cons (pv_bin pv_c (Pv.lk pv_v) (y_shl (hg38.1))) (h2 := av_nil))) (hs := nxt_call (hg38.2.1))) (h2 := (av_cons (pv_bin pv_v (Pv.lk (pv_callS (n := 1) (j := 0) (h1 := (av_cons (pv_callB (al_cons pv_v al_nil) (y_len (xs := one13) (e := PyData.int))) (h2 := av_nil))) (hs := nxt_call (hg38.2.2.1)))) (y_ix (xs := one13) (e := PyData.int) (hg38.2.2.2.1))) (h2 := av_nil)))) (Nat.le_of_ble_eq_true rfl) rfl) (Pv.lk (pv_callS (n := 1) (j := 0) (h1 := (av_cons pv_c (h2 := av_nil))) (hs := nxt_call (hg38.2.2.2.2.1)))) (y_ix (xs := ([(nxt nums b37 ((1 : Int) * 2 ^ width2.toNat)), (ix one13 (nxt nums (b37 + 1) (one13.length : Int)))] : List Int)) (e := PyData.int) (hg38.2.2.2.2.2))) rfl) fun goal39 c_40 => ?_
        refine g_gd fun hg41 => ?_
        refine g_stepL (ρ2 := fun answer42 => [some (StV nums c_40), some (vI width2), some (.dat (.tuple (first_5.map PyData.int))), some (.dat (.tuple (second8.map PyData.int))), some (.dat (.str kept11)), some (.dat (.list (one13.map PyData.int))), some (.dat (.list (two15.map PyData.int))), some (.dat (.list (wide22.map PyData.int))), some (.dat (.list (both27.map PyData.int))), some (.dat (.list (told29.map idD))), some (vI k36), some (vI goal39), some (.dat answer42), z13, none, none, none, none, none, none, none]) (ev_set (pv_Z (pv_call (n := 5) (av_cons pv_c (h2 := (av_cons pv_v (h2 := (av_cons pv_v (h2 := (av_cons pv_v (h2 := (av_cons pv_c (h2 := av_nil)))))))))) (sp_told5 (5 : Int) width2 first_5 goal39 (PyData.int (0 : Int)) hg41))) rfl) fun answer42 => ?_
        refine g_gd fun hg44 => ?_
        refine g_if (tv_or (tv_not (tv_tr (Pv.lk (pv_call (n := 2) (av_cons (pv_call (n := 5) (av_cons pv_c (h2 := (av_cons pv_v (h2 := (av_cons pv_v (h2 := (av_cons pv_v (h2 := (av_cons pv_c (h2 := av_nil)))))))))) (sp_told4 (4 : Int) width2 first_5 goal39 (PyData.int (0 : Int)) (hg44.1))) (h2 := (av_cons (pv_tup (av_cons pv_c (h2 := (av_cons (pv_bin pv_v (Pv.lk pv_v) (y_in (e := PyData.int) (x := goal39) (xs := one13) cod_int)) (h2 := av_nil))))) (h2 := av_nil)))) (same_call (hg44.2.1)))) rfl)) (fun hk43 => (tv_bo (Pv.lk (pv_bin (pv_bin pv_v (Pv.lk pv_c) (y_eqD (d := answer42) (d' := (PyData.str ("missing" : PySem.Str))) (h := ((hg44.2.2) hk43)))) (Pv.lk (pv_bin pv_v (Pv.lk pv_v) (y_notIn (e := PyData.int) (x := goal39) (xs := one13) cod_int))) (y_ne (e := PyData.bool) (x := (PyData.eqv answer42 (PyData.str ("missing" : PySem.Str)))) (y := (!decide (goal39 ∈ one13))) cod_bool)))))) (fun hk => ?_) (fun hk => ?_)
        · skip
          exact g_fret (g_ret (wr := (fun (g : (Bool) × Int) => (vB g.1))) pv_c rfl)
        · skip
          refine g_skip ?_
          refine g_gd fun hg48 => ?_
          refine g_stepC (ρ2 := fun rows49 c_50 => [some (StV nums c_50), some (vI width2), some (.dat (.tuple (first_5.map PyData.int))), some (.dat (.tuple (second8.map PyData.int))), some (.dat (.str kept11)), some (.dat (.list (one13.map PyData.int))), some (.dat (.list (two15.map PyData.int))), some (.dat (.list (wide22.map PyData.int))), some (.dat (.list (both27.map PyData.int))), some (.dat (.list (told29.map idD))), some (vI k36), some (vI goal39), some (.dat answer42), some (.dat (.list (rows49.map idD))), none, none, none, none, none, none, none]) (ev_set (pv_Z (pv_lstS (xs := ([(PyData.tuple []), ((eT PyData.int) (filterC (fun at_45 c_46 => ((decide ((nxt nums c_46 (2 : Int)) = (0 : Int))), (c_46 + 1))) (fun at_45 => at_45) (irange 0 (first_5.length : Int)) c_40).1), (.tuple [(PyData.int (0 : Int)), (PyData.int (0 : Int))]), ((eT PyData.int) ([(first_5.length : Int)] : List Int)), ((eT PyData.int) ([(-(1 : Int))] : List Int))] : List PyData)) (e := idD) (av_cons (pv_tup av_nil) (h2 := (av_cons (pv_callB (al_cons (pv_filterC (G := fun at_45 c_46 => (nxG nums c_46 (2 : Int))) (p := (fun at_45 c_46 => ((decide ((nxt nums c_46 (2 : Int)) = (0 : Int))), (c_46 + 1)))) (v := fun at_45 => at_45) (en := PyData.int) (rc := (fun c => [some (StV nums c), some (vI width2), some (.dat (.tuple (first_5.map PyData.int))), some (.dat (.tuple (second8.map PyData.int))), some (.dat (.str kept11)), some (.dat (.list (one13.map PyData.int))), some (.dat (.list (two15.map PyData.int))), some (.dat (.list (wide22.map PyData.int))), some (.dat (.list (both27.map PyData.int))), some (.dat (.list (told29.map idD))), some (vI k36), some (vI goal39), some (.dat answer42), z13, none, none, none, none, none, none, none])) (c0 := c_40) (xs := (irange 0 (first_5.length : Int))) (iv_r1 (al_cons (pv_callB (al_cons pv_v al_nil) (y_len (xs := first_5) (e := PyData.int))) al_nil) (hg48.1)) (hg48.2.1) (hg48.2.2) (fun at_45 _ c_46 hk47 => ⟨[some (StV nums c_46), some (vI width2), some (.dat (.tuple (first_5.map PyData.int))), some (.dat (.tuple (second8.map PyData.int))), some (.dat (.str kept11)), some (.dat (.list (one13.map PyData.int))), some (.dat (.list (two15.map PyData.int))), some (.dat (.list (wide22.map PyData.int))), some (.dat (.list (both27.map PyData.int))), some (.dat (.list (told29.map idD))), some (vI k36), some (vI goal39), some (.dat answer42), z13, none, none, none, none, some (vI at_45), none, none], [some (StV nums (c_46 + 1)), some (vI width2), some (.dat (.tuple (first_5.map PyData.int))), some (.dat (.tuple (second8.map PyData.int))), some (.dat (.str kept11)), some (.dat (.list (one13.map PyData.int))), some (.dat (.list (two15.map PyData.int))), some (.dat (.list (wide22.map PyData.int))), some (.dat (.list (both27.map PyData.int))), some (.dat (.list (told29.map idD))), some (vI k36), some (vI goal39), some (.dat answer42), z13, none, none, none, none, some (vI at_45), none, none], rfl, (tv_bo (Pv.lk (pv_bin (pv_callS (n := 1) (j := 0) (h1 := (av_cons pv_c (h2 := av_nil))) (hs := nxt_call hk47)) (Pv.lk pv_c) (y_eq (e := PyData.int) (x := (nxt nums c_46 (2 : Int))) (y := (0 : Int)) cod_int)))), rfl, fun _ => ⟨_, pv_v, rfl⟩⟩) (fun c ρ' hw => restC hw rfl)) al_nil) (y_tuple (xs := (filterC (fun at_45 c_46 => ((decide ((nxt nums c_46 (2 : Int)) = (0 : Int))), (c_46 + 1))) (fun at_45 => at_45) (irange 0 (first_5.length : Int)) c_40).1) (e := PyData.int))) (h2 := (av_cons (pv_tup (av_cons pv_c (h2 := (av_cons pv_c (h2 := av_nil))))) (h2 := (av_cons (pv_tupS (xs := ([(first_5.length : Int)] : List Int)) (e := PyData.int) (av_cons (pv_callB (al_cons pv_v al_nil) (y_len (xs := first_5) (e := PyData.int))) (h2 := av_nil)) (Nat.le_of_ble_eq_true rfl) rfl) (h2 := (av_cons (pv_tupS (xs := ([(-(1 : Int))] : List Int)) (e := PyData.int) (av_cons (pv_una (Pv.lk pv_c) y_neg) (h2 := av_nil)) (Nat.le_of_ble_eq_true rfl) rfl) (h2 := av_nil)))))))))) (Nat.le_of_ble_eq_true rfl) rfl)) rfl) fun rows49 c_50 => ?_
          refine g_if (tv_bo (Pv.lk (pv_bin pv_v (Pv.lk pv_v) (y_in (e := PyData.int) (x := goal39) (xs := one13) cod_int)))) (fun hk => ?_) (fun hk => ?_)
          · skip
            refine g_assoc ?_
            refine g_gd fun hg52 => ?_
            refine g_if (tv_or (tv_not (tv_tr (Pv.lk (pv_una (Pv.lk (pv_bin pv_v (Pv.lk pv_c) (y_ixD (hg52.1)))) (y_isT (hg52.2.1)))) rfl)) (fun hk51 => (tv_not (tv_tr (Pv.lk (pv_call (n := 3) (av_cons pv_v (h2 := (av_cons pv_v (h2 := (av_cons (pv_bin pv_v (Pv.lk pv_c) (y_ixD (((hg52.2.2) hk51).1))) (h2 := av_nil)))))) (sp__law_madeD first_5 goal39 (ixD answer42 (1 : Int)) (((hg52.2.2) hk51).2)))) rfl)))) (fun hk => ?_) (fun hk => ?_)
            · skip
              exact g_fret (g_ret (wr := (fun (g : (Bool) × Int) => (vB g.1))) pv_c rfl)
            · skip
              refine g_skip ?_
              refine g_gd fun hg53 => ?_
              refine g_stepL (ρ2 := fun rows54 => [some (StV nums c_50), some (vI width2), some (.dat (.tuple (first_5.map PyData.int))), some (.dat (.tuple (second8.map PyData.int))), some (.dat (.str kept11)), some (.dat (.list (one13.map PyData.int))), some (.dat (.list (two15.map PyData.int))), some (.dat (.list (wide22.map PyData.int))), some (.dat (.list (both27.map PyData.int))), some (.dat (.list (told29.map idD))), some (vI k36), some (vI goal39), some (.dat answer42), some (.dat (.list (rows54.map idD))), none, none, none, none, none, none, none]) (ev_set (pv_Z (pv_bin pv_v (Pv.lk (pv_lstS (xs := ([(ixD answer42 (1 : Int)), (revDT (ixD answer42 (1 : Int))), (cutDT (ixD answer42 (1 : Int)) (some (1 : Int)) none)] : List PyData)) (e := idD) (av_cons (pv_bin pv_v (Pv.lk pv_c) (y_ixD (hg53.1))) (h2 := (av_cons (pv_una (Pv.lk (pv_bin pv_v (Pv.lk pv_c) (y_ixD (hg53.2.1)))) (y_revD (hg53.2.2.1))) (h2 := (av_cons (pv_sl (Pv.lk (pv_bin pv_v (Pv.lk pv_c) (y_ixD (hg53.2.2.2.1)))) (sv_so (Pv.lk pv_c)) sv_no (y_slD (hg53.2.2.2.2.1))) (h2 := av_nil)))))) (Nat.le_of_ble_eq_true rfl) rfl)) (y_catL (xs := rows49) (ys := ([(ixD answer42 (1 : Int)), (revDT (ixD answer42 (1 : Int))), (cutDT (ixD answer42 (1 : Int)) (some (1 : Int)) none)] : List PyData)) (e := idD) (hg53.2.2.2.2.2)))) rfl) fun rows54 => ?_
              refine g_one ?_
              refine g_gd fun hg57 => ?_
              refine g_if (tv_not (tv_tr (Pv.lk (pv_callB (al_cons (pv_map (v := fun places55 => true) (en := PyData.bool) (xs := rows54) (iv_lst pv_v) (hg57.1) (fun places55 hk56 => ⟨[some (StV nums c_50), some (vI width2), some (.dat (.tuple (first_5.map PyData.int))), some (.dat (.tuple (second8.map PyData.int))), some (.dat (.str kept11)), some (.dat (.list (one13.map PyData.int))), some (.dat (.list (two15.map PyData.int))), some (.dat (.list (wide22.map PyData.int))), some (.dat (.list (both27.map PyData.int))), some (.dat (.list (told29.map idD))), some (vI k36), some (vI goal39), some (.dat answer42), some (.dat (.list (rows54.map idD))), none, none, none, none, none, some (.dat places55), none], [some (StV nums c_50), some (vI width2), some (.dat (.tuple (first_5.map PyData.int))), some (.dat (.tuple (second8.map PyData.int))), some (.dat (.str kept11)), some (.dat (.list (one13.map PyData.int))), some (.dat (.list (two15.map PyData.int))), some (.dat (.list (wide22.map PyData.int))), some (.dat (.list (both27.map PyData.int))), some (.dat (.list (told29.map idD))), some (vI k36), some (vI goal39), some (.dat answer42), some (.dat (.list (rows54.map idD))), none, none, none, none, none, some (.dat places55), none], _, rfl, (pv_call (n := 2) (av_cons (pv_call (n := 5) (av_cons pv_c (h2 := (av_cons pv_v (h2 := (av_cons pv_v (h2 := (av_cons pv_v (h2 := (av_cons pv_v (h2 := av_nil)))))))))) (sp_told6b (6 : Int) width2 first_5 goal39 places55 (((hg57.2) places55 hk56).1))) (h2 := (av_cons (pv_tup (av_cons pv_c (h2 := (av_cons (pv_call (n := 3) (av_cons pv_v (h2 := (av_cons pv_v (h2 := (av_cons pv_v (h2 := av_nil)))))) (sp__law_madeD first_5 goal39 places55 (((hg57.2) places55 hk56).2.1))) (h2 := av_nil))))) (h2 := av_nil)))) (same_call (((hg57.2) places55 hk56).2.2))), rfl, rfl⟩)) al_nil) (y_all (ha := by rfl)))) rfl)) (fun hk => ?_) (fun hk => ?_)
              · skip
                exact g_fret (g_ret (wr := (fun (g : (Bool) × Int) => (vB g.1))) pv_c rfl)
              · skip
                refine g_skip ?_
                exact g_fn ⟨_, _, _, _, rfl⟩
          · skip
            refine g_skip ?_
            refine g_one ?_
            refine g_gd fun hg60 => ?_
            refine g_if (tv_not (tv_tr (Pv.lk (pv_callB (al_cons (pv_map (v := fun places58 => true) (en := PyData.bool) (xs := rows49) (iv_lst pv_v) (hg60.1) (fun places58 hk59 => ⟨[some (StV nums c_50), some (vI width2), some (.dat (.tuple (first_5.map PyData.int))), some (.dat (.tuple (second8.map PyData.int))), some (.dat (.str kept11)), some (.dat (.list (one13.map PyData.int))), some (.dat (.list (two15.map PyData.int))), some (.dat (.list (wide22.map PyData.int))), some (.dat (.list (both27.map PyData.int))), some (.dat (.list (told29.map idD))), some (vI k36), some (vI goal39), some (.dat answer42), some (.dat (.list (rows49.map idD))), none, none, none, none, none, some (.dat places58), none], [some (StV nums c_50), some (vI width2), some (.dat (.tuple (first_5.map PyData.int))), some (.dat (.tuple (second8.map PyData.int))), some (.dat (.str kept11)), some (.dat (.list (one13.map PyData.int))), some (.dat (.list (two15.map PyData.int))), some (.dat (.list (wide22.map PyData.int))), some (.dat (.list (both27.map PyData.int))), some (.dat (.list (told29.map idD))), some (vI k36), some (vI goal39), some (.dat answer42), some (.dat (.list (rows49.map idD))), none, none, none, none, none, some (.dat places58), none], _, rfl, (pv_call (n := 2) (av_cons (pv_call (n := 5) (av_cons pv_c (h2 := (av_cons pv_v (h2 := (av_cons pv_v (h2 := (av_cons pv_v (h2 := (av_cons pv_v (h2 := av_nil)))))))))) (sp_told6b (6 : Int) width2 first_5 goal39 places58 (((hg60.2) places58 hk59).1))) (h2 := (av_cons (pv_tup (av_cons pv_c (h2 := (av_cons (pv_call (n := 3) (av_cons pv_v (h2 := (av_cons pv_v (h2 := (av_cons pv_v (h2 := av_nil)))))) (sp__law_madeD first_5 goal39 places58 (((hg60.2) places58 hk59).2.1))) (h2 := av_nil))))) (h2 := av_nil)))) (same_call (((hg60.2) places58 hk59).2.2))), rfl, rfl⟩)) al_nil) (y_all (ha := by rfl)))) rfl)) (fun hk => ?_) (fun hk => ?_)
            · skip
              exact g_fret (g_ret (wr := (fun (g : (Bool) × Int) => (vB g.1))) pv_c rfl)
            · skip
              refine g_skip ?_
              exact g_fn ⟨_, _, _, _, rfl⟩
      · rintro b61 ρ' ⟨z11, z12, z13, z10, rfl⟩
        refine g_gd fun hg62 => ?_
        refine g_stepL (ρ2 := fun far63 => [some (StV nums b61), some (vI width2), some (.dat (.tuple (first_5.map PyData.int))), some (.dat (.tuple (second8.map PyData.int))), some (.dat (.str kept11)), some (.dat (.list (one13.map PyData.int))), some (.dat (.list (two15.map PyData.int))), some (.dat (.list (wide22.map PyData.int))), some (.dat (.list (both27.map PyData.int))), some (.dat (.list (told29.map idD))), z10, z11, z12, z13, some (vI far63), none, none, none, none, none, none]) (ev_set (pv_bin pv_c (Pv.lk pv_v) (y_shl hg62)) rfl) fun far63 => ?_
        refine g_gd fun hg64 => ?_
        refine g_stepL (ρ2 := fun bad65 => [some (StV nums b61), some (vI width2), some (.dat (.tuple (first_5.map PyData.int))), some (.dat (.tuple (second8.map PyData.int))), some (.dat (.str kept11)), some (.dat (.list (one13.map PyData.int))), some (.dat (.list (two15.map PyData.int))), some (.dat (.list (wide22.map PyData.int))), some (.dat (.list (both27.map PyData.int))), some (.dat (.list (told29.map idD))), z10, z11, z12, z13, some (vI far63), some (.dat (.list (bad65.map idD))), none, none, none, none, none]) (ev_set (pv_Z (pv_bin (pv_bin (pv_bin (pv_cast (w' := (.ml (([(told0 (0 : Int) width2 (first_5 ++ ([far63] : List Int)) (PyData.int (0 : Int)) (PyData.tuple [])), (told1 (1 : Int) width2 (first_5 ++ ([far63] : List Int)) (PyData.int (0 : Int)) (PyData.tuple [])), (told2b (2 : Int) width2 (first_5 ++ ([far63] : List Int)) (0 : Int) (PyData.tuple [])), (told3b (3 : Int) width2 (first_5 ++ ([far63] : List Int)) (0 : Int) (PyData.tuple [])), (told4 (4 : Int) width2 (first_5 ++ ([far63] : List Int)) (0 : Int) (PyData.tuple [])), (told5 (5 : Int) width2 (first_5 ++ ([far63] : List Int)) (0 : Int) (PyData.tuple [])), (told6 (6 : Int) width2 (first_5 ++ ([far63] : List Int)) (0 : Int) ([] : List Int))] : List PyData).map idD))) (pv_compU (iv_r1 (al_cons pv_c al_nil) (by decide)) (.cons (ρ2 := [some (StV nums b61), some (vI width2), some (.dat (.tuple (first_5.map PyData.int))), some (.dat (.tuple (second8.map PyData.int))), some (.dat (.str kept11)), some (.dat (.list (one13.map PyData.int))), some (.dat (.list (two15.map PyData.int))), some (.dat (.list (wide22.map PyData.int))), some (.dat (.list (both27.map PyData.int))), some (.dat (.list (told29.map idD))), z10, z11, z12, z13, some (vI far63), none, none, none, none, none, some (vI (0 : Int))]) (ρ3 := [some (StV nums b61), some (vI width2), some (.dat (.tuple (first_5.map PyData.int))), some (.dat (.tuple (second8.map PyData.int))), some (.dat (.str kept11)), some (.dat (.list (one13.map PyData.int))), some (.dat (.list (two15.map PyData.int))), some (.dat (.list (wide22.map PyData.int))), some (.dat (.list (both27.map PyData.int))), some (.dat (.list (told29.map idD))), z10, z11, z12, z13, some (vI far63), none, none, none, none, none, some (vI (0 : Int))]) rfl (pv_call (n := 5) (av_cons pv_v (h2 := (av_cons pv_v (h2 := (av_cons (pv_bin pv_v (Pv.lk (pv_tupS (xs := ([far63] : List Int)) (e := PyData.int) (av_cons pv_v (h2 := av_nil)) (Nat.le_of_ble_eq_true rfl) rfl)) (y_catT (xs := first_5) (ys := ([far63] : List Int)) (e := PyData.int) (hg64.1))) (h2 := (av_cons pv_c (h2 := (av_cons (pv_tup av_nil) (h2 := av_nil)))))))))) (sp_told0 (0 : Int) width2 (first_5 ++ ([far63] : List Int)) (PyData.int (0 : Int)) (PyData.tuple []) (hg64.2.1))) rfl rfl (.cons (ρ2 := [some (StV nums b61), some (vI width2), some (.dat (.tuple (first_5.map PyData.int))), some (.dat (.tuple (second8.map PyData.int))), some (.dat (.str kept11)), some (.dat (.list (one13.map PyData.int))), some (.dat (.list (two15.map PyData.int))), some (.dat (.list (wide22.map PyData.int))), some (.dat (.list (both27.map PyData.int))), some (.dat (.list (told29.map idD))), z10, z11, z12, z13, some (vI far63), none, none, none, none, none, some (vI (1 : Int))]) (ρ3 := [some (StV nums b61), some (vI width2), some (.dat (.tuple (first_5.map PyData.int))), some (.dat (.tuple (second8.map PyData.int))), some (.dat (.str kept11)), some (.dat (.list (one13.map PyData.int))), some (.dat (.list (two15.map PyData.int))), some (.dat (.list (wide22.map PyData.int))), some (.dat (.list (both27.map PyData.int))), some (.dat (.list (told29.map idD))), z10, z11, z12, z13, some (vI far63), none, none, none, none, none, some (vI (1 : Int))]) rfl (pv_call (n := 5) (av_cons pv_v (h2 := (av_cons pv_v (h2 := (av_cons (pv_bin pv_v (Pv.lk (pv_tupS (xs := ([far63] : List Int)) (e := PyData.int) (av_cons pv_v (h2 := av_nil)) (Nat.le_of_ble_eq_true rfl) rfl)) (y_catT (xs := first_5) (ys := ([far63] : List Int)) (e := PyData.int) (hg64.2.2.1))) (h2 := (av_cons pv_c (h2 := (av_cons (pv_tup av_nil) (h2 := av_nil)))))))))) (sp_told1 (1 : Int) width2 (first_5 ++ ([far63] : List Int)) (PyData.int (0 : Int)) (PyData.tuple []) (hg64.2.2.2.1))) rfl rfl (.cons (ρ2 := [some (StV nums b61), some (vI width2), some (.dat (.tuple (first_5.map PyData.int))), some (.dat (.tuple (second8.map PyData.int))), some (.dat (.str kept11)), some (.dat (.list (one13.map PyData.int))), some (.dat (.list (two15.map PyData.int))), some (.dat (.list (wide22.map PyData.int))), some (.dat (.list (both27.map PyData.int))), some (.dat (.list (told29.map idD))), z10, z11, z12, z13, some (vI far63), none, none, none, none, none, some (vI (2 : Int))]) (ρ3 := [some (StV nums b61), some (vI width2), some (.dat (.tuple (first_5.map PyData.int))), some (.dat (.tuple (second8.map PyData.int))), some (.dat (.str kept11)), some (.dat (.list (one13.map PyData.int))), some (.dat (.list (two15.map PyData.int))), some (.dat (.list (wide22.map PyData.int))), some (.dat (.list (both27.map PyData.int))), some (.dat (.list (told29.map idD))), z10, z11, z12, z13, some (vI far63), none, none, none, none, none, some (vI (2 : Int))]) rfl (pv_call (n := 5) (av_cons pv_v (h2 := (av_cons pv_v (h2 := (av_cons (pv_bin pv_v (Pv.lk (pv_tupS (xs := ([far63] : List Int)) (e := PyData.int) (av_cons pv_v (h2 := av_nil)) (Nat.le_of_ble_eq_true rfl) rfl)) (y_catT (xs := first_5) (ys := ([far63] : List Int)) (e := PyData.int) (hg64.2.2.2.2.1))) (h2 := (av_cons pv_c (h2 := (av_cons (pv_tup av_nil) (h2 := av_nil)))))))))) (sp_told2b (2 : Int) width2 (first_5 ++ ([far63] : List Int)) (0 : Int) (PyData.tuple []) (hg64.2.2.2.2.2.1))) rfl rfl (.cons (ρ2 := [some (StV nums b61), some (vI width2), some (.dat (.tuple (first_5.map PyData.int))), some (.dat (.tuple (second8.map PyData.int))), some (.dat (.str kept11)), some (.dat (.list (one13.map PyData.int))), some (.dat (.list (two15.map PyData.int))), some (.dat (.list (wide22.map PyData.int))), some (.dat (.list (both27.map PyData.int))), some (.dat (.list (told29.map idD))), z10, z11, z12, z13, some (vI far63), none, none, none, none, none, some (vI (3 : Int))]) (ρ3 := [some (StV nums b61), some (vI width2), some (.dat (.tuple (first_5.map PyData.int))), some (.dat (.tuple (second8.map PyData.int))), some (.dat (.str kept11)), some (.dat (.list (one13.map PyData.int))), some (.dat (.list (two15.map PyData.int))), some (.dat (.list (wide22.map PyData.int))), some (.dat (.list (both27.map PyData.int))), some (.dat (.list (told29.map idD))), z10, z11, z12, z13, some (vI far63), none, none, none, none, none, some (vI (3 : Int))]) rfl (pv_call (n := 5) (av_cons pv_v (h2 := (av_cons pv_v (h2 := (av_cons (pv_bin pv_v (Pv.lk (pv_tupS (xs := ([far63] : List Int)) (e := PyData.int) (av_cons pv_v (h2 := av_nil)) (Nat.le_of_ble_eq_true rfl) rfl)) (y_catT (xs := first_5) (ys := ([far63] : List Int)) (e := PyData.int) (hg64.2.2.2.2.2.2.1))) (h2 := (av_cons pv_c (h2 := (av_cons (pv_tup av_nil) (h2 := av_nil)))))))))) (sp_told3b (3 : Int) width2 (first_5 ++ ([far63] : List Int)) (0 : Int) (PyData.tuple []) (hg64.2.2.2.2.2.2.2.1))) rfl rfl (.cons (ρ2 := [some (StV nums b61), some (vI width2), some (.dat (.tuple (first_5.map PyData.int))), some (.dat (.tuple (second8.map PyData.int))), some (.dat (.str kept11)), some (.dat (.list (one13.map PyData.int))), some (.dat (.list (two15.map PyData.int))), some (.dat (.list (wide22.map PyData.int))), some (.dat (.list (both27.map PyData.int))), some (.dat (.list (told29.map idD))), z10, z11, z12, z13, some (vI far63), none, none, none, none, none, some (vI (4 : Int))]) (ρ3 := [some (StV nums b61), some (vI width2), some (.dat (.tuple (first_5.map PyData.int))), some (.dat (.tuple (second8.map PyData.int))), some (.dat (.str kept11)), some (.dat (.list (one13.map PyData.int))), some (.dat (.list (two15.map PyData.int))), some (.dat (.list (wide22.map PyData.int))), some (.dat (.list (both27.map PyData.int))), some (.dat (.list (told29.map idD))), z10, z11, z12, z13, some (vI far63), none, none, none, none, none, some (vI (4 : Int))]) rfl (pv_call (n := 5) (av_cons pv_v (h2 := (av_cons pv_v (h2 := (av_cons (pv_bin pv_v (Pv.lk (pv_tupS (xs := ([far63] : List Int)) (e := PyData.int) (av_cons pv_v (h2 := av_nil)) (Nat.le_of_ble_eq_true rfl) rfl)) (y_catT (xs := first_5) (ys := ([far63] : List Int)) (e := PyData.int) (hg64.2.2.2.2.2.2.2.2.1))) (h2 := (av_cons pv_c (h2 := (av_cons (pv_tup av_nil) (h2 := av_nil)))))))))) (sp_told4 (4 : Int) width2 (first_5 ++ ([far63] : List Int)) (0 : Int) (PyData.tuple []) (hg64.2.2.2.2.2.2.2.2.2.1))) rfl rfl (.cons (ρ2 := [some (StV nums b61), some (vI width2), some (.dat (.tuple (first_5.map PyData.int))), some (.dat (.tuple (second8.map PyData.int))), some (.dat (.str kept11)), some (.dat (.list (one13.map PyData.int))), some (.dat (.list (two15.map PyData.int))), some (.dat (.list (wide22.map PyData.int))), some (.dat (.list (both27.map PyData.int))), some (.dat (.list (told29.map idD))), z10, z11, z12, z13, some (vI far63), none, none, none, none, none, some (vI (5 : Int))]) (ρ3 := [some (StV nums b61), some (vI width2), some (.dat (.tuple (first_5.map PyData.int))), some (.dat (.tuple (second8.map PyData.int))), some (.dat (.str kept11)), some (.dat (.list (one13.map PyData.int))), some (.dat (.list (two15.map PyData.int))), some (.dat (.list (wide22.map PyData.int))), some (.dat (.list (both27.map PyData.int))), some (.dat (.list (told29.map idD))), z10, z11, z12, z13, some (vI far63), none, none, none, none, none, some (vI (5 : Int))]) rfl (pv_call (n := 5) (av_cons pv_v (h2 := (av_cons pv_v (h2 := (av_cons (pv_bin pv_v (Pv.lk (pv_tupS (xs := ([far63] : List Int)) (e := PyData.int) (av_cons pv_v (h2 := av_nil)) (Nat.le_of_ble_eq_true rfl) rfl)) (y_catT (xs := first_5) (ys := ([far63] : List Int)) (e := PyData.int) (hg64.2.2.2.2.2.2.2.2.2.2.1))) (h2 := (av_cons pv_c (h2 := (av_cons (pv_tup av_nil) (h2 := av_nil)))))))))) (sp_told5 (5 : Int) width2 (first_5 ++ ([far63] : List Int)) (0 : Int) (PyData.tuple []) (hg64.2.2.2.2.2.2.2.2.2.2.2.1))) rfl rfl (.cons (ρ2 := [some (StV nums b61), some (vI width2), some (.dat (.tuple (first_5.map PyData.int))), some (.dat (.tuple (second8.map PyData.int))), some (.dat (.str kept11)), some (.dat (.list (one13.map PyData.int))), some (.dat (.list (two15.map PyData.int))), some (.dat (.list (wide22.map PyData.int))), some (.dat (.list (both27.map PyData.int))), some (.dat (.list (told29.map idD))), z10, z11, z12, z13, some (vI far63), none, none, none, none, none, some (vI (6 : Int))]) (ρ3 := [some (StV nums b61), some (vI width2), some (.dat (.tuple (first_5.map PyData.int))), some (.dat (.tuple (second8.map PyData.int))), some (.dat (.str kept11)), some (.dat (.list (one13.map PyData.int))), some (.dat (.list (two15.map PyData.int))), some (.dat (.list (wide22.map PyData.int))), some (.dat (.list (both27.map PyData.int))), some (.dat (.list (told29.map idD))), z10, z11, z12, z13, some (vI far63), none, none, none, none, none, some (vI (6 : Int))]) rfl (pv_call (n := 5) (av_cons pv_v (h2 := (av_cons pv_v (h2 := (av_cons (pv_bin pv_v (Pv.lk (pv_tupS (xs := ([far63] : List Int)) (e := PyData.int) (av_cons pv_v (h2 := av_nil)) (Nat.le_of_ble_eq_true rfl) rfl)) (y_catT (xs := first_5) (ys := ([far63] : List Int)) (e := PyData.int) (hg64.2.2.2.2.2.2.2.2.2.2.2.2.1))) (h2 := (av_cons pv_c (h2 := (av_cons (pv_tupS (xs := ([] : List Int)) (e := PyData.int) av_nil (Nat.le_of_ble_eq_true rfl) rfl) (h2 := av_nil)))))))))) (sp_told6 (6 : Int) width2 (first_5 ++ ([far63] : List Int)) (0 : Int) ([] : List Int) (hg64.2.2.2.2.2.2.2.2.2.2.2.2.2.1))) rfl rfl .nil)))))))) (by rfl)) (Pv.lk (pv_cast (w' := (.ml (([(told0 (0 : Int) width2 (first_5 ++ ([(-(1 : Int))] : List Int)) (PyData.int (0 : Int)) (PyData.tuple [])), (told1 (1 : Int) width2 (first_5 ++ ([(-(1 : Int))] : List Int)) (PyData.int (0 : Int)) (PyData.tuple []))] : List PyData).map idD))) (pv_compU (iv_r1 (al_cons pv_c al_nil) (by decide)) (.cons (ρ2 := [some (StV nums b61), some (vI width2), some (.dat (.tuple (first_5.map PyData.int))), some (.dat (.tuple (second8.map PyData.int))), some (.dat (.str kept11)), some (.dat (.list (one13.map PyData.int))), some (.dat (.list (two15.map PyData.int))), some (.dat (.list (wide22.map PyData.int))), some (.dat (.list (both27.map PyData.int))), some (.dat (.list (told29.map idD))), z10, z11, z12, z13, some (vI far63), none, none, none, none, none, some (vI (0 : Int))]) (ρ3 := [some (StV nums b61), some (vI width2), some (.dat (.tuple (first_5.map PyData.int))), some (.dat (.tuple (second8.map PyData.int))), some (.dat (.str kept11)), some (.dat (.list (one13.map PyData.int))), some (.dat (.list (two15.map PyData.int))), some (.dat (.list (wide22.map PyData.int))), some (.dat (.list (both27.map PyData.int))), some (.dat (.list (told29.map idD))), z10, z11, z12, z13, some (vI far63), none, none, none, none, none, some (vI (0 : Int))]) rfl (pv_call (n := 5) (av_cons pv_v (h2 := (av_cons pv_v (h2 := (av_cons (pv_bin pv_v (Pv.lk (pv_tupS (xs := ([(-(1 : Int))] : List Int)) (e := PyData.int) (av_cons (pv_una (Pv.lk pv_c) y_neg) (h2 := av_nil)) (Nat.le_of_ble_eq_true rfl) rfl)) (y_catT (xs := first_5) (ys := ([(-(1 : Int))] : List Int)) (e := PyData.int) (hg64.2.2.2.2.2.2.2.2.2.2.2.2.2.2.1))) (h2 := (av_cons pv_c (h2 := (av_cons (pv_tup av_nil) (h2 := av_nil)))))))))) (sp_told0 (0 : Int) width2 (first_5 ++ ([(-(1 : Int))] : List Int)) (PyData.int (0 : Int)) (PyData.tuple []) (hg64.2.2.2.2.2.2.2.2.2.2.2.2.2.2.2.1))) rfl rfl (.cons (ρ2 := [some (StV nums b61), some (vI width2), some (.dat (.tuple (first_5.map PyData.int))), some (.dat (.tuple (second8.map PyData.int))), some (.dat (.str kept11)), some (.dat (.list (one13.map PyData.int))), some (.dat (.list (two15.map PyData.int))), some (.dat (.list (wide22.map PyData.int))), some (.dat (.list (both27.map PyData.int))), some (.dat (.list (told29.map idD))), z10, z11, z12, z13, some (vI far63), none, none, none, none, none, some (vI (1 : Int))]) (ρ3 := [some (StV nums b61), some (vI width2), some (.dat (.tuple (first_5.map PyData.int))), some (.dat (.tuple (second8.map PyData.int))), some (.dat (.str kept11)), some (.dat (.list (one13.map PyData.int))), some (.dat (.list (two15.map PyData.int))), some (.dat (.list (wide22.map PyData.int))), some (.dat (.list (both27.map PyData.int))), some (.dat (.list (told29.map idD))), z10, z11, z12, z13, some (vI far63), none, none, none, none, none, some (vI (1 : Int))]) rfl (pv_call (n := 5) (av_cons pv_v (h2 := (av_cons pv_v (h2 := (av_cons (pv_bin pv_v (Pv.lk (pv_tupS (xs := ([(-(1 : Int))] : List Int)) (e := PyData.int) (av_cons (pv_una (Pv.lk pv_c) y_neg) (h2 := av_nil)) (Nat.le_of_ble_eq_true rfl) rfl)) (y_catT (xs := first_5) (ys := ([(-(1 : Int))] : List Int)) (e := PyData.int) (hg64.2.2.2.2.2.2.2.2.2.2.2.2.2.2.2.2.1))) (h2 := (av_cons pv_c (h2 := (av_cons (pv_tup av_nil) (h2 := av_nil)))))))))) (sp_told1 (1 : Int) width2 (first_5 ++ ([(-(1 : Int))] : List Int)) (PyData.int (0 : Int)) (PyData.tuple []) (hg64.2.2.2.2.2.2.2.2.2.2.2.2.2.2.2.2.2.1))) rfl rfl .nil))) (by rfl))) (y_catL (xs := ([(told0 (0 : Int) width2 (first_5 ++ ([far63] : List Int)) (PyData.int (0 : Int)) (PyData.tuple [])), (told1 (1 : Int) width2 (first_5 ++ ([far63] : List Int)) (PyData.int (0 : Int)) (PyData.tuple [])), (told2b (2 : Int) width2 (first_5 ++ ([far63] : List Int)) (0 : Int) (PyData.tuple [])), (told3b (3 : Int) width2 (first_5 ++ ([far63] : List Int)) (0 : Int) (PyData.tuple [])), (told4 (4 : Int) width2 (first_5 ++ ([far63] : List Int)) (0 : Int) (PyData.tuple [])), (told5 (5 : Int) width2 (first_5 ++ ([far63] : List Int)) (0 : Int) (PyData.tuple [])), (told6 (6 : Int) width2 (first_5 ++ ([far63] : List Int)) (0 : Int) ([] : List Int))] : List PyData)) (ys := ([(told0 (0 : Int) width2 (first_5 ++ ([(-(1 : Int))] : List Int)) (PyData.int (0 : Int)) (PyData.tuple [])), (told1 (1 : Int) width2 (first_5 ++ ([(-(1 : Int))] : List Int)) (PyData.int (0 : Int)) (PyData.tuple []))] : List PyData)) (e := idD) (hg64.2.2.2.2.2.2.2.2.2.2.2.2.2.2.2.2.2.2.1))) (Pv.lk (pv_cast (w' := (.ml (([(told2 (2 : Int) width2 first_5 ([far63] : List Int) (PyData.int (0 : Int))), (told3 (3 : Int) width2 first_5 ([far63] : List Int) (PyData.int (0 : Int)))] : List PyData).map idD))) (pv_compU (iv_ml (pv_lstS (xs := ([(2 : Int), (3 : Int)] : List Int)) (e := PyData.int) (av_cons pv_c (h2 := (av_cons pv_c (h2 := av_nil)))) (Nat.le_of_ble_eq_true rfl) rfl)) (.cons (ρ2 := [some (StV nums b61), some (vI width2), some (.dat (.tuple (first_5.map PyData.int))), some (.dat (.tuple (second8.map PyData.int))), some (.dat (.str kept11)), some (.dat (.list (one13.map PyData.int))), some (.dat (.list (two15.map PyData.int))), some (.dat (.list (wide22.map PyData.int))), some (.dat (.list (both27.map PyData.int))), some (.dat (.list (told29.map idD))), z10, z11, z12, z13, some (vI far63), none, none, none, none, none, some (vI (2 : Int))]) (ρ3 := [some (StV nums b61), some (vI width2), some (.dat (.tuple (first_5.map PyData.int))), some (.dat (.tuple (second8.map PyData.int))), some (.dat (.str kept11)), some (.dat (.list (one13.map PyData.int))), some (.dat (.list (two15.map PyData.int))), some (.dat (.list (wide22.map PyData.int))), some (.dat (.list (both27.map PyData.int))), some (.dat (.list (told29.map idD))), z10, z11, z12, z13, some (vI far63), none, none, none, none, none, some (vI (2 : Int))]) rfl (pv_call (n := 5) (av_cons pv_v (h2 := (av_cons pv_v (h2 := (av_cons pv_v (h2 := (av_cons (pv_tupS (xs := ([far63] : List Int)) (e := PyData.int) (av_cons pv_v (h2 := av_nil)) (Nat.le_of_ble_eq_true rfl) rfl) (h2 := (av_cons pv_c (h2 := av_nil)))))))))) (sp_told2 (2 : Int) width2 first_5 ([far63] : List Int) (PyData.int (0 : Int)) (hg64.2.2.2.2.2.2.2.2.2.2.2.2.2.2.2.2.2.2.2.1))) rfl rfl (.cons (ρ2 := [some (StV nums b61), some (vI width2), some (.dat (.tuple (first_5.map PyData.int))), some (.dat (.tuple (second8.map PyData.int))), some (.dat (.str kept11)), some (.dat (.list (one13.map PyData.int))), some (.dat (.list (two15.map PyData.int))), some (.dat (.list (wide22.map PyData.int))), some (.dat (.list (both27.map PyData.int))), some (.dat (.list (told29.map idD))), z10, z11, z12, z13, some (vI far63), none, none, none, none, none, some (vI (3 : Int))]) (ρ3 := [some (StV nums b61), some (vI width2), some (.dat (.tuple (first_5.map PyData.int))), some (.dat (.tuple (second8.map PyData.int))), some (.dat (.str kept11)), some (.dat (.list (one13.map PyData.int))), some (.dat (.list (two15.map PyData.int))), some (.dat (.list (wide22.map PyData.int))), some (.dat (.list (both27.map PyData.int))), some (.dat (.list (told29.map idD))), z10, z11, z12, z13, some (vI far63), none, none, none, none, none, some (vI (3 : Int))]) rfl (pv_call (n := 5) (av_cons pv_v (h2 := (av_cons pv_v (h2 := (av_cons pv_v (h2 := (av_cons (pv_tupS (xs := ([far63] : List Int)) (e := PyData.int) (av_cons pv_v (h2 := av_nil)) (Nat.le_of_ble_eq_true rfl) rfl) (h2 := (av_cons pv_c (h2 := av_nil)))))))))) (sp_told3 (3 : Int) width2 first_5 ([far63] : List Int) (PyData.int (0 : Int)) (hg64.2.2.2.2.2.2.2.2.2.2.2.2.2.2.2.2.2.2.2.2.1))) rfl rfl .nil))) (by rfl))) (y_catL (xs := (([(told0 (0 : Int) width2 (first_5 ++ ([far63] : List Int)) (PyData.int (0 : Int)) (PyData.tuple [])), (told1 (1 : Int) width2 (first_5 ++ ([far63] : List Int)) (PyData.int (0 : Int)) (PyData.tuple [])), (told2b (2 : Int) width2 (first_5 ++ ([far63] : List Int)) (0 : Int) (PyData.tuple [])), (told3b (3 : Int) width2 (first_5 ++ ([far63] : List Int)) (0 : Int) (PyData.tuple [])), (told4 (4 : Int) width2 (first_5 ++ ([far63] : List Int)) (0 : Int) (PyData.tuple [])), (told5 (5 : Int) width2 (first_5 ++ ([far63] : List Int)) (0 : Int) (PyData.tuple [])), (told6 (6 : Int) width2 (first_5 ++ ([far63] : List Int)) (0 : Int) ([] : List Int))] : List PyData) ++ ([(told0 (0 : Int) width2 (first_5 ++ ([(-(1 : Int))] : List Int)) (PyData.int (0 : Int)) (PyData.tuple [])), (told1 (1 : Int) width2 (first_5 ++ ([(-(1 : Int))] : List Int)) (PyData.int (0 : Int)) (PyData.tuple []))] : List PyData))) (ys := ([(told2 (2 : Int) width2 first_5 ([far63] : List Int) (PyData.int (0 : Int))), (told3 (3 : Int) width2 first_5 ([far63] : List Int) (PyData.int (0 : Int)))] : List PyData)) (e := idD) (hg64.2.2.2.2.2.2.2.2.2.2.2.2.2.2.2.2.2.2.2.2.2.1))) (Pv.lk (pv_cast (w' := (.ml (([(told4 (4 : Int) width2 first_5 far63 (PyData.tuple [])), (told5 (5 : Int) width2 first_5 far63 (PyData.tuple [])), (told6 (6 : Int) width2 first_5 far63 ([] : List Int))] : List PyData).map idD))) (pv_compU (iv_ml (pv_lstS (xs := ([(4 : Int), (5 : Int), (6 : Int)] : List Int)) (e := PyData.int) (av_cons pv_c (h2 := (av_cons pv_c (h2 := (av_cons pv_c (h2 := av_nil)))))) (Nat.le_of_ble_eq_true rfl) rfl)) (.cons (ρ2 := [some (StV nums b61), some (vI width2), some (.dat (.tuple (first_5.map PyData.int))), some (.dat (.tuple (second8.map PyData.int))), some (.dat (.str kept11)), some (.dat (.list (one13.map PyData.int))), some (.dat (.list (two15.map PyData.int))), some (.dat (.list (wide22.map PyData.int))), some (.dat (.list (both27.map PyData.int))), some (.dat (.list (told29.map idD))), z10, z11, z12, z13, some (vI far63), none, none, none, none, none, some (vI (4 : Int))]) (ρ3 := [some (StV nums b61), some (vI width2), some (.dat (.tuple (first_5.map PyData.int))), some (.dat (.tuple (second8.map PyData.int))), some (.dat (.str kept11)), some (.dat (.list (one13.map PyData.int))), some (.dat (.list (two15.map PyData.int))), some (.dat (.list (wide22.map PyData.int))), some (.dat (.list (both27.map PyData.int))), some (.dat (.list (told29.map idD))), z10, z11, z12, z13, some (vI far63), none, none, none, none, none, some (vI (4 : Int))]) rfl (pv_call (n := 5) (av_cons pv_v (h2 := (av_cons pv_v (h2 := (av_cons pv_v (h2 := (av_cons pv_v (h2 := (av_cons (pv_tup av_nil) (h2 := av_nil)))))))))) (sp_told4 (4 : Int) width2 first_5 far63 (PyData.tuple []) (hg64.2.2.2.2.2.2.2.2.2.2.2.2.2.2.2.2.2.2.2.2.2.2.1))) rfl rfl (.cons (ρ2 := [some (StV nums b61), some (vI width2), some (.dat (.tuple (first_5.map PyData.int))), some (.dat (.tuple (second8.map PyData.int))), some (.dat (.str kept11)), some (.dat (.list (one13.map PyData.int))), some (.dat (.list (two15.map PyData.int))), some (.dat (.list (wide22.map PyData.int))), some (.dat (.list (both27.map PyData.int))), some (.dat (.list (told29.map idD))), z10, z11, z12, z13, some (vI far63), none, none, none, none, none, some (vI (5 : Int))]) (ρ3 := [some (StV nums b61), some (vI width2), some (.dat (.tuple (first_5.map PyData.int))), some (.dat (.tuple (second8.map PyData.int))), some (.dat (.str kept11)), some (.dat (.list (one13.map PyData.int))), some (.dat (.list (two15.map PyData.int))), some (.dat (.list (wide22.map PyData.int))), some (.dat (.list (both27.map PyData.int))), some (.dat (.list (told29.map idD))), z10, z11, z12, z13, some (vI far63), none, none, none, none, none, some (vI (5 : Int))]) rfl (pv_call (n := 5) (av_cons pv_v (h2 := (av_cons pv_v (h2 := (av_cons pv_v (h2 := (av_cons pv_v (h2 := (av_cons (pv_tup av_nil) (h2 := av_nil)))))))))) (sp_told5 (5 : Int) width2 first_5 far63 (PyData.tuple []) (hg64.2.2.2.2.2.2.2.2.2.2.2.2.2.2.2.2.2.2.2.2.2.2.2.1))) rfl rfl (.cons (ρ2 := [some (StV nums b61), some (vI width2), some (.dat (.tuple (first_5.map PyData.int))), some (.dat (.tuple (second8.map PyData.int))), some (.dat (.str kept11)), some (.dat (.list (one13.map PyData.int))), some (.dat (.list (two15.map PyData.int))), some (.dat (.list (wide22.map PyData.int))), some (.dat (.list (both27.map PyData.int))), some (.dat (.list (told29.map idD))), z10, z11, z12, z13, some (vI far63), none, none, none, none, none, some (vI (6 : Int))]) (ρ3 := [some (StV nums b61), some (vI width2), some (.dat (.tuple (first_5.map PyData.int))), some (.dat (.tuple (second8.map PyData.int))), some (.dat (.str kept11)), some (.dat (.list (one13.map PyData.int))), some (.dat (.list (two15.map PyData.int))), some (.dat (.list (wide22.map PyData.int))), some (.dat (.list (both27.map PyData.int))), some (.dat (.list (told29.map idD))), z10, z11, z12, z13, some (vI far63), none, none, none, none, none, some (vI (6 : Int))]) rfl (pv_call (n := 5) (av_cons pv_v (h2 := (av_cons pv_v (h2 := (av_cons pv_v (h2 := (av_cons pv_v (h2 := (av_cons (pv_tupS (xs := ([] : List Int)) (e := PyData.int) av_nil (Nat.le_of_ble_eq_true rfl) rfl) (h2 := av_nil)))))))))) (sp_told6 (6 : Int) width2 first_5 far63 ([] : List Int) (hg64.2.2.2.2.2.2.2.2.2.2.2.2.2.2.2.2.2.2.2.2.2.2.2.2.1))) rfl rfl .nil)))) (by rfl))) (y_catL (xs := ((([(told0 (0 : Int) width2 (first_5 ++ ([far63] : List Int)) (PyData.int (0 : Int)) (PyData.tuple [])), (told1 (1 : Int) width2 (first_5 ++ ([far63] : List Int)) (PyData.int (0 : Int)) (PyData.tuple [])), (told2b (2 : Int) width2 (first_5 ++ ([far63] : List Int)) (0 : Int) (PyData.tuple [])), (told3b (3 : Int) width2 (first_5 ++ ([far63] : List Int)) (0 : Int) (PyData.tuple [])), (told4 (4 : Int) width2 (first_5 ++ ([far63] : List Int)) (0 : Int) (PyData.tuple [])), (told5 (5 : Int) width2 (first_5 ++ ([far63] : List Int)) (0 : Int) (PyData.tuple [])), (told6 (6 : Int) width2 (first_5 ++ ([far63] : List Int)) (0 : Int) ([] : List Int))] : List PyData) ++ ([(told0 (0 : Int) width2 (first_5 ++ ([(-(1 : Int))] : List Int)) (PyData.int (0 : Int)) (PyData.tuple [])), (told1 (1 : Int) width2 (first_5 ++ ([(-(1 : Int))] : List Int)) (PyData.int (0 : Int)) (PyData.tuple []))] : List PyData)) ++ ([(told2 (2 : Int) width2 first_5 ([far63] : List Int) (PyData.int (0 : Int))), (told3 (3 : Int) width2 first_5 ([far63] : List Int) (PyData.int (0 : Int)))] : List PyData))) (ys := ([(told4 (4 : Int) width2 first_5 far63 (PyData.tuple [])), (told5 (5 : Int) width2 first_5 far63 (PyData.tuple [])), (told6 (6 : Int) width2 first_5 far63 ([] : List Int))] : List PyData)) (e := idD) (hg64.2.2.2.2.2.2.2.2.2.2.2.2.2.2.2.2.2.2.2.2.2.2.2.2.2)))) rfl) fun bad65 => ?_
        refine g_one ?_
        refine g_gd fun hg67 => ?_
        exact (g_ret (wr := (fun (g : (Bool) × Int) => (vB g.1))) (pv_andB (pv_bin (pv_bin (pv_sl (Pv.lk pv_v) sv_no (sv_so (Pv.lk pv_c)) (y_slL (xs := bad65) (e := idD))) (Pv.lk (pv_sl (Pv.lk pv_v) (sv_so (Pv.lk pv_c)) sv_no (y_slL (xs := bad65) (e := idD)))) (y_catL (xs := (cutD bad65 none (some (2 : Int)))) (ys := (cutD bad65 (some (4 : Int)) none)) (e := idD) (hg67.1))) (Pv.lk (pv_bin (pv_lstS (xs := ([("refused" : PySem.Str)] : List PySem.Str)) (e := PyData.str) (av_cons pv_c (h2 := av_nil)) (Nat.le_of_ble_eq_true rfl) rfl) (Pv.lk pv_c) (y_repL (xs := ([("refused" : PySem.Str)] : List PySem.Str)) (e := PyData.str) (hg67.2.1)))) (y_eqD (d := ((eL idD) ((cutD bad65 none (some (2 : Int))) ++ (cutD bad65 (some (4 : Int)) none)))) (d' := ((eL PyData.str) ((List.replicate (12 : Int).toNat ([("refused" : PySem.Str)] : List PySem.Str)).flatten))) (h := (hg67.2.2.1)))) (fun hk66 => (pv_bin (pv_callB (al_cons (pv_tup (av_cons pv_v (h2 := (av_cons pv_v (h2 := av_nil))))) al_nil) (y_repr (d := ((eP (eT PyData.int) (eT PyData.int)) (first_5, second8))) ⟨((hg67.2.2.2) hk66), rfl⟩)) (Pv.lk pv_v) y_eqS))) rfl)

noncomputable def fitsV (nums : List Int) (c : Int) : Bool × Int := (T__law_fits nums c).get
def fitsG (nums : List Int) (c : Int) : Prop := (T__law_fits nums c).good
theorem sp_law_fits {nums : List Int} {c : Int} (h : fitsG nums c) : S__law_fits (StV nums c :: ([] : List PyData).map .dat) = .ok (vB (fitsV nums c).1) (some (StV nums (fitsV nums c).2) :: List.replicate 0 none) := sps_ok (t__law_fits nums c) h

noncomputable def T_law (nums : List Int) : R Bool :=
  (letR (0 : Int) fun c_1 => ((forF (γ := Bool) (fun (turn2 : Int) (b3 : Int) => (gdR ((fitsG nums b3 )) (if (!(fitsV nums b3 ).1) = true then (.ok (Fl.ret false)) else (.ok (Fl.nx (fitsV nums b3 ).2))))) (irange 0 (4 : Int)) c_1).bind (flK (fun (b5 : Int) => (gdR ((repTOk ([(65535 : Int)] : List Int).length (60 : Int)) ∧ (told0G (0 : Int) (16 : Int) ((List.replicate (60 : Int).toNat ([(65535 : Int)] : List Int)).flatten) (PyData.int (0 : Int)) (PyData.int (0 : Int))) ∧ (repTOk ([(1 : Int)] : List Int).length (61 : Int)) ∧ (told0G (0 : Int) (16 : Int) ((List.replicate (61 : Int).toNat ([(1 : Int)] : List Int)).flatten) (PyData.int (0 : Int)) (PyData.int (0 : Int))) ∧ (told0G (0 : Int) (17 : Int) ([] : List Int) (PyData.int (0 : Int)) (PyData.int (0 : Int))) ∧ (told1G (1 : Int) (0 : Int) ([] : List Int) (PyData.int (0 : Int)) (PyData.int (0 : Int))) ∧ (told1G (1 : Int) (16 : Int) ([] : List Int) (PyData.int (0 : Int)) (PyData.int (0 : Int))) ∧ (told5G (5 : Int) (2 : Int) ([] : List Int) (0 : Int) (PyData.int (0 : Int)))) (letR ([(told0 (0 : Int) (16 : Int) ((List.replicate (60 : Int).toNat ([(65535 : Int)] : List Int)).flatten) (PyData.int (0 : Int)) (PyData.int (0 : Int))), (told0 (0 : Int) (16 : Int) ((List.replicate (61 : Int).toNat ([(1 : Int)] : List Int)).flatten) (PyData.int (0 : Int)) (PyData.int (0 : Int))), (told0 (0 : Int) (17 : Int) ([] : List Int) (PyData.int (0 : Int)) (PyData.int (0 : Int))), (told1 (1 : Int) (0 : Int) ([] : List Int) (PyData.int (0 : Int)) (PyData.int (0 : Int))), (told1 (1 : Int) (16 : Int) ([] : List Int) (PyData.int (0 : Int)) (PyData.int (0 : Int))), (told5 (5 : Int) (2 : Int) ([] : List Int) (0 : Int) (PyData.int (0 : Int)))] : List PyData) fun told7 => (gdR ((szOk (told7.length + ([(PyData.int (60 : Int)), (PyData.int (16 : Int))] : List PyData).length)) ∧ ((irangeDn (15 : Int) (-(1 : Int))).length ≤ 100000) ∧ (∀ at_8 ∈ (irangeDn (15 : Int) (-(1 : Int))), (L2.CPow (1 : Int) at_8)) ∧ (sameG ((eL idD) (told7 ++ ([(PyData.int (60 : Int)), (PyData.int (16 : Int))] : List PyData))) ((eL idD) ([((eP PyData.str (eT PyData.int)) (("told" : PySem.Str), ([(65535 : Int)] : List Int))), (PyData.str ("refused" : PySem.Str)), (PyData.str ("refused" : PySem.Str)), (PyData.str ("refused" : PySem.Str)), ((eP PyData.str (eT PyData.int)) (("told" : PySem.Str), ((irangeDn (15 : Int) (-(1 : Int))).map fun at_8 => ((1 : Int) * 2 ^ at_8.toNat)))), ((eP PyData.str idD) (("told" : PySem.Str), (PyData.tuple []))), (PyData.int (60 : Int)), (PyData.int (16 : Int))] : List PyData)))) (.ok true))))) (fun g => g))))
theorem t_law (nums script : List Int) (hs : S__law_stream ([(eL PyData.int) script].map .dat) = .ok (.ml (nums.map .int)) (List.replicate 1 none)) : SpR S_law [(eL PyData.int) script] (T_law nums) (fun (g : Bool) => (vB g)) := by
  refine sp_fun (n := 1) (m := 5) (E := anyE) rfl ?_
  show Gn (F_law [some (.dat (.list (script.map PyData.int))), none, none, none, none]) (T_law nums) _
  unfold F_law T_law
  refine g_stepC0 (ρ2 := fun c_1 => [some (.dat (.list (script.map PyData.int))), some (StV nums c_1), none, none, none]) (c := 0) (ev_set (pv_cast (w' := StV nums 0) (pv_lst (av_cons (pv_call (n := 1) (av_cons pv_v (h2 := av_nil)) hs) (h2 := av_cons pv_c (h2 := av_nil)))) rfl) rfl) fun c_1 => ?_
  refine g_seqK (E := (fun (b : Int) ρ' => ∃ z2 : Option Vl, ρ' = [some (.dat (.list (script.map PyData.int))), some (StV nums b), z2, none, none])) (Er := (fRt (fun (g : Bool) => (vB g)) anyE)) (ev_forF (xs := (irange 0 (4 : Int))) (ι := PyData.int) (Inv := (fun (b : Int) ρ' => ∃ z2 : Option Vl, ρ' = [some (.dat (.list (script.map PyData.int))), some (StV nums b), z2, none, none])) fRt_ret (iv_r1 (al_cons pv_c al_nil) (by decide)) ⟨_, rfl⟩ ?_) fRt_ret (forF_noB _ _) (fun _ _ _ h => h) ?_
  · rintro turn2 hx b3 ρ' ⟨z2, rfl⟩
    refine ⟨[some (.dat (.list (script.map PyData.int))), some (StV nums b3), some (vI turn2), none, none], rfl, ?_⟩
    refine g_one ?_
    refine g_gd fun hg4 => ?_
    refine g_if (tv_not (tv_tr (Pv.lk (pv_callS (n := 0) (j := 1) (h1 := av_nil) (hs := sp_law_fits hg4))) rfl)) (fun hk => ?_) (fun hk => ?_)
    · skip
      exact g_fret (g_ret (wr := (fun (g : Bool) => (vB g))) pv_c trivial)
    · skip
      refine g_skip ?_
      exact g_fn ⟨_, rfl⟩
  · rintro b5 ρ' ⟨z2, rfl⟩
    refine g_gd fun hg6 => ?_
    refine g_stepL (ρ2 := fun told7 => [some (.dat (.list (script.map PyData.int))), some (StV nums b5), z2, some (.dat (.list (told7.map idD))), none]) (ev_set (pv_Z (pv_lstS (xs := ([(told0 (0 : Int) (16 : Int) ((List.replicate (60 : Int).toNat ([(65535 : Int)] : List Int)).flatten) (PyData.int (0 : Int)) (PyData.int (0 : Int))), (told0 (0 : Int) (16 : Int) ((List.replicate (61 : Int).toNat ([(1 : Int)] : List Int)).flatten) (PyData.int (0 : Int)) (PyData.int (0 : Int))), (told0 (0 : Int) (17 : Int) ([] : List Int) (PyData.int (0 : Int)) (PyData.int (0 : Int))), (told1 (1 : Int) (0 : Int) ([] : List Int) (PyData.int (0 : Int)) (PyData.int (0 : Int))), (told1 (1 : Int) (16 : Int) ([] : List Int) (PyData.int (0 : Int)) (PyData.int (0 : Int))), (told5 (5 : Int) (2 : Int) ([] : List Int) (0 : Int) (PyData.int (0 : Int)))] : List PyData)) (e := idD) (av_cons (pv_call (n := 5) (av_cons pv_c (h2 := (av_cons pv_c (h2 := (av_cons (pv_bin (pv_tupS (xs := ([(65535 : Int)] : List Int)) (e := PyData.int) (av_cons pv_c (h2 := av_nil)) (Nat.le_of_ble_eq_true rfl) rfl) (Pv.lk pv_c) (y_repT (xs := ([(65535 : Int)] : List Int)) (e := PyData.int) (hg6.1))) (h2 := (av_cons pv_c (h2 := (av_cons pv_c (h2 := av_nil)))))))))) (sp_told0 (0 : Int) (16 : Int) ((List.replicate (60 : Int).toNat ([(65535 : Int)] : List Int)).flatten) (PyData.int (0 : Int)) (PyData.int (0 : Int)) (hg6.2.1))) (h2 := (av_cons (pv_call (n := 5) (av_cons pv_c (h2 := (av_cons pv_c (h2 := (av_cons (pv_bin (pv_tupS (xs := ([(1 : Int)] : List Int)) (e := PyData.int) (av_cons pv_c (h2 := av_nil)) (Nat.le_of_ble_eq_true rfl) rfl) (Pv.lk pv_c) (y_repT (xs := ([(1 : Int)] : List Int)) (e := PyData.int) (hg6.2.2.1))) (h2 := (av_cons pv_c (h2 := (av_cons pv_c (h2 := av_nil)))))))))) (sp_told0 (0 : Int) (16 : Int) ((List.replicate (61 : Int).toNat ([(1 : Int)] : List Int)).flatten) (PyData.int (0 : Int)) (PyData.int (0 : Int)) (hg6.2.2.2.1))) (h2 := (av_cons (pv_call (n := 5) (av_cons pv_c (h2 := (av_cons pv_c (h2 := (av_cons (pv_tupS (xs := ([] : List Int)) (e := PyData.int) av_nil (Nat.le_of_ble_eq_true rfl) rfl) (h2 := (av_cons pv_c (h2 := (av_cons pv_c (h2 := av_nil)))))))))) (sp_told0 (0 : Int) (17 : Int) ([] : List Int) (PyData.int (0 : Int)) (PyData.int (0 : Int)) (hg6.2.2.2.2.1))) (h2 := (av_cons (pv_call (n := 5) (av_cons pv_c (h2 := (av_cons pv_c (h2 := (av_cons (pv_tupS (xs := ([] : List Int)) (e := PyData.int) av_nil (Nat.le_of_ble_eq_true rfl) rfl) (h2 := (av_cons pv_c (h2 := (av_cons pv_c (h2 := av_nil)))))))))) (sp_told1 (1 : Int) (0 : Int) ([] : List Int) (PyData.int (0 : Int)) (PyData.int (0 : Int)) (hg6.2.2.2.2.2.1))) (h2 := (av_cons (pv_call (n := 5) (av_cons pv_c (h2 := (av_cons pv_c (h2 := (av_cons (pv_tupS (xs := ([] : List Int)) (e := PyData.int) av_nil (Nat.le_of_ble_eq_true rfl) rfl) (h2 := (av_cons pv_c (h2 := (av_cons pv_c (h2 := av_nil)))))))))) (sp_told1 (1 : Int) (16 : Int) ([] : List Int) (PyData.int (0 : Int)) (PyData.int (0 : Int)) (hg6.2.2.2.2.2.2.1))) (h2 := (av_cons (pv_call (n := 5) (av_cons pv_c (h2 := (av_cons pv_c (h2 := (av_cons (pv_tupS (xs := ([] : List Int)) (e := PyData.int) av_nil (Nat.le_of_ble_eq_true rfl) rfl) (h2 := (av_cons pv_c (h2 := (av_cons pv_c (h2 := av_nil)))))))))) (sp_told5 (5 : Int) (2 : Int) ([] : List Int) (0 : Int) (PyData.int (0 : Int)) (hg6.2.2.2.2.2.2.2))) (h2 := av_nil)))))))))))) (Nat.le_of_ble_eq_true rfl) rfl)) rfl) fun told7 => ?_
    refine g_one ?_
    refine g_gd fun hg10 => ?_
    exact (g_ret (wr := (fun (g : Bool) => (vB g))) (pv_call (n := 2) (av_cons (pv_bin pv_v (Pv.lk (pv_lstS (xs := ([(PyData.int (60 : Int)), (PyData.int (16 : Int))] : List PyData)) (e := idD) (av_cons pv_c (h2 := (av_cons pv_c (h2 := av_nil)))) (Nat.le_of_ble_eq_true rfl) rfl)) (y_catL (xs := told7) (ys := ([(PyData.int (60 : Int)), (PyData.int (16 : Int))] : List PyData)) (e := idD) (hg10.1))) (h2 := (av_cons (pv_lstS (xs := ([((eP PyData.str (eT PyData.int)) (("told" : PySem.Str), ([(65535 : Int)] : List Int))), (PyData.str ("refused" : PySem.Str)), (PyData.str ("refused" : PySem.Str)), (PyData.str ("refused" : PySem.Str)), ((eP PyData.str (eT PyData.int)) (("told" : PySem.Str), ((irangeDn (15 : Int) (-(1 : Int))).map fun at_8 => ((1 : Int) * 2 ^ at_8.toNat)))), ((eP PyData.str idD) (("told" : PySem.Str), (PyData.tuple []))), (PyData.int (60 : Int)), (PyData.int (16 : Int))] : List PyData)) (e := idD) (av_cons (pv_tup (av_cons pv_c (h2 := (av_cons (pv_tupS (xs := ([(65535 : Int)] : List Int)) (e := PyData.int) (av_cons pv_c (h2 := av_nil)) (Nat.le_of_ble_eq_true rfl) rfl) (h2 := av_nil))))) (h2 := (av_cons pv_c (h2 := (av_cons pv_c (h2 := (av_cons pv_c (h2 := (av_cons (pv_tup (av_cons pv_c (h2 := (av_cons (pv_callB (al_cons (pv_map (v := fun at_8 => ((1 : Int) * 2 ^ at_8.toNat)) (en := PyData.int) (xs := (irangeDn (15 : Int) (-(1 : Int)))) (iv_r3 (al_cons pv_c (al_cons (pv_una (Pv.lk pv_c) y_neg) (al_cons (pv_una (Pv.lk pv_c) y_neg) al_nil))) (by decide) (by decide) (by decide)) (hg10.2.1) (fun at_8 hk9 => ⟨[some (.dat (.list (script.map PyData.int))), some (StV nums b5), z2, some (.dat (.list (told7.map idD))), some (vI at_8)], [some (.dat (.list (script.map PyData.int))), some (StV nums b5), z2, some (.dat (.list (told7.map idD))), some (vI at_8)], _, rfl, (pv_bin pv_c (Pv.lk pv_v) (y_shl ((hg10.2.2.1) at_8 hk9))), rfl, rfl⟩)) al_nil) (y_tuple (xs := ((irangeDn (15 : Int) (-(1 : Int))).map fun at_8 => ((1 : Int) * 2 ^ at_8.toNat))) (e := PyData.int))) (h2 := av_nil))))) (h2 := (av_cons (pv_tup (av_cons pv_c (h2 := (av_cons (pv_tup av_nil) (h2 := av_nil))))) (h2 := (av_cons pv_c (h2 := (av_cons pv_c (h2 := av_nil)))))))))))))))) (Nat.le_of_ble_eq_true rfl) rfl) (h2 := av_nil)))) (same_call (hg10.2.2.2))) trivial)

end K35
end
section
set_option Elab.async false
set_option linter.all false
set_option maxRecDepth 100000
set_option maxHeartbeats 1000000
/-! K35g: what the defs come to -/
namespace K35
open Mi
open PySem (PyData)
open PySem
section
variable {rows one two B F : List Nat} {w g : Nat}
theorem cpow_w {w : Nat} (h : w ≤ 1000) : L2.CPow 1 (w : Int) := ⟨by omega, by omega, by decide⟩
theorem pow_cast (a : Nat) : (1 : Int) * 2 ^ ((a : Int)).toNat = ((2 ^ a : Nat) : Int) := by simp
theorem pow_cast' (a : Nat) : (2 : Int) ^ a = ((2 ^ a : Nat) : Int) := by simp
theorem width_ok (h1 : 1 ≤ w) (h2 : w ≤ 16) : T_check_width (w : Int) = .ok () := by
  unfold T_check_width
  rw [if_neg]
  have a : (1 : Int) ≤ w := by omega
  have b : (w : Int) ≤ 16 := by omega
  simp [a, b]
theorem width_bad {w : Int} (h : w < 1 ∨ 16 < w) : T_check_width w = .exc 1 := by
  unfold T_check_width
  rw [if_pos]
  rcases h with h | h
  · have : ¬ (1 : Int) ≤ w := by omega
    simp [this]
  · have : ¬ w ≤ 16 := by omega
    simp [this]
def inRow (w : Nat) (r : Int) : Bool := decide (0 ≤ r) && decide (r < ((2 ^ w : Nat) : Int))
theorem rows_ev {rs : List Int} (h1 : 1 ≤ w) (h2 : w ≤ 16) : T_check_rows (w : Int) rs = if rs.length ≤ 60 ∧ rs.all (inRow w) = true then .ok () else .exc 1 := by
  unfold T_check_rows
  rw [width_ok h1 h2, R.ok_bind, gdR_pos]
  · have e : (rs.map fun row2 => ((decide ((0 : Int) ≤ row2)) && (decide (row2 < ((1 : Int) * 2 ^ (w : Int).toNat))))).all id = rs.all (inRow w) := by
      rw [List.all_map]
      congr 1
      funext r
      show (decide (0 ≤ r) && decide (r < (1 : Int) * 2 ^ (w : Int).toNat)) = inRow w r
      rw [pow_cast]; rfl
    rw [e]
    by_cases q : rs.length ≤ 60
    · have : ¬ (60 : Int) < rs.length := by omega
      cases rs.all (inRow w) <;> simp [this, q]
    · have : (60 : Int) < rs.length := by omega
      simp [this, q]
  · intro q
    have q : ¬ (60 : Int) < rs.length := by simpa using q
    exact ⟨by omega, fun r _ _ => cpow_w (by omega)⟩
theorem inRow_cast {n : Nat} : inRow w (n : Int) = decide (n < 2 ^ w) := by
  unfold inRow
  have : (0 : Int) ≤ n := by omega
  by_cases q : n < 2 ^ w
  · have : ((n : Int) < ((2 ^ w : Nat) : Int)) := by omega
    simp only [this, q]; simp
  · have : ¬ ((n : Int) < ((2 ^ w : Nat) : Int)) := by omega
    simp only [this, q]; simp
theorem rows_ok (h1 : 1 ≤ w) (h2 : w ≤ 16) (hl : rows.length ≤ 60) (h : ∀ r ∈ rows, r < 2 ^ w) : T_check_rows (w : Int) (ci rows) = .ok () := by
  rw [rows_ev h1 h2, if_pos]
  refine ⟨by simpa using hl, ?_⟩
  rw [List.all_eq_true]
  intro r hr
  obtain ⟨n, hn, rfl⟩ := List.mem_map.mp hr
  rw [inRow_cast, decide_eq_true (h n hn)]
theorem rows_bad {rs : List Int} (h1 : 1 ≤ w) (h2 : w ≤ 16) {r : Int} (hr : r ∈ rs) (h : r < 0 ∨ ((2 ^ w : Nat) : Int) ≤ r) : T_check_rows (w : Int) rs = .exc 1 := by
  rw [rows_ev h1 h2, if_neg]
  rintro ⟨_, q⟩
  have := List.all_eq_true.mp q r hr
  unfold inRow at this
  simp only [Bool.and_eq_true, decide_eq_true_eq] at this
  omega
theorem rows_long {rs : List Int} (h1 : 1 ≤ w) (h2 : w ≤ 16) (h : 60 < rs.length) : T_check_rows (w : Int) rs = .exc 1 := by
  rw [rows_ev h1 h2, if_neg]
  rintro ⟨q, _⟩
  omega
theorem rows_one (h1 : 1 ≤ w) (h2 : w ≤ 16) (hg : g < 2 ^ w) : T_check_rows (w : Int) ([(g : Int)] : List Int) = .ok () := rows_ok (rows := [g]) h1 h2 (by simp) (by simpa using hg)
theorem lt20 {n : Nat} (h2 : w ≤ 16) (h : n < 2 ^ w) : (0 : Int) ≤ n ∧ (n : Int) < 2 ^ 20 := by
  have : n < 2 ^ 20 := Nat.lt_of_lt_of_le h (Nat.pow_le_pow_right (by decide) (by omega))
  rw [pow_cast']
  omega
theorem basG (h2 : w ≤ 16) (hl : rows.length ≤ 1000) (h : ∀ r ∈ rows, r < 2 ^ w) : basisG (ci rows) := ⟨by simpa using hl, fun r hr => by
  obtain ⟨n, hn, rfl⟩ := List.mem_map.mp hr
  exact lt20 h2 (h n hn)⟩
theorem span_ok (h1 : 1 ≤ w) (h2 : w ≤ 16) (hl : rows.length ≤ 60) (h : ∀ r ∈ rows, r < 2 ^ w) : T_span (w : Int) (ci rows) = .ok (ci (bas rows)) := by
  unfold T_span
  rw [rows_ok h1 h2 hl h, R.ok_bind, gdR_pos (basG h2 (by omega) h), bas_cast]
theorem is_in_ok (h1 : 1 ≤ w) (h2 : w ≤ 16) (hl : rows.length ≤ 60) (h : ∀ r ∈ rows, r < 2 ^ w) (hg : g < 2 ^ w) : T_is_in (w : Int) (ci rows) (g : Int) = .ok (decide (lo (bas rows) g = 0)) := by
  unfold T_is_in
  rw [rows_ok h1 h2 hl h, R.ok_bind, rows_one h1 h2 hg, R.ok_bind, bas_cast, gdR_pos ⟨basG h2 (by omega) h, leftG_of (bas_lt h) (by omega)⟩, left_cast]
  congr 2
  simp
theorem irange_ci (n : Nat) : irange 0 (n : Int) = ci (List.range n) := by
  unfold irange ci
  rw [show ((n : Int) - 0).toNat = n by omega]
  exact List.map_congr_left fun k _ => by omega
theorem sum_ci (l : List Nat) : (ci l).sum = ((l.sum : Nat) : Int) := by
  induction l with
  | nil => rfl
  | cons a l ih =>
    show (a : Int) + (ci l).sum = _
    rw [ih, List.sum_cons]; omega
theorem bit_pow (b a : Nat) : (!decide (Builtin.bitAnd (b : Int) ((2 ^ a : Nat) : Int) = 0)) = b.testBit a := by
  have := bit_top b (2 ^ a)
  have h0 : 2 ^ a ≠ 0 := Nat.ne_of_gt (Nat.two_pow_pos a)
  rw [topOf_cast h0, Nat.log2_two_pow] at this
  rw [this]
  simp
theorem zip_tops (a : Nat) : ∀ B : List Nat, (∀ b ∈ B, b ≠ 0) → (((((ci B).map fun one4 => topOf one4).zip (ci B)).filter fun p14 => (!decide ((Builtin.bitAnd p14.2 ((2 ^ a : Nat) : Int)) = (0 : Int)))).map fun p14 => p14.1) = ci ((B.filter fun b => b.testBit a).map fun b => 2 ^ b.log2)
  | [], _ => rfl
  | b :: B, h => by
    have ih := zip_tops a B fun c hc => h c (List.mem_cons_of_mem _ hc)
    show ((((topOf (b : Int), (b : Int)) :: (((ci B).map fun one4 => topOf one4).zip (ci B))).filter _).map _) = _
    have e : (fun p14 : Int × Int => (!decide ((Builtin.bitAnd p14.2 ((2 ^ a : Nat) : Int)) = (0 : Int)))) (topOf (b : Int), (b : Int)) = b.testBit a := bit_pow b a
    cases q : b.testBit a with
    | true =>
      rw [List.filter_cons_of_pos (by exact e.trans q), List.filter_cons_of_pos (p := fun b : Nat => b.testBit a) q, List.map_cons, ih, topOf_cast (h b (by simp))]
      rfl
    | false =>
      rw [List.filter_cons_of_neg (by intro z; have := (e.trans q).symm.trans z; cases this), List.filter_cons_of_neg (p := fun b : Nat => b.testBit a) (by rw [q]; simp), ih]
theorem top_mem (a : Nat) (h : ∀ b ∈ B, b ≠ 0) : (!decide (((2 ^ a : Nat) : Int) ∈ (ci B).map fun one4 => topOf one4)) = free B a := by
  have : ((2 ^ a : Nat) : Int) ∈ ((ci B).map fun one4 => topOf one4) ↔ ¬ free B a = true := by
    rw [free_iff, List.mem_map]
    constructor
    · rintro ⟨c, hc, e⟩ z
      obtain ⟨b, hb, rfl⟩ := List.mem_map.mp hc
      rw [topOf_cast (h b hb)] at e
      have e' : 2 ^ b.log2 = 2 ^ a := by omega
      exact z b hb ((Nat.pow_right_inj (by decide)).mp e')
    · intro z
      have : ∃ b ∈ B, b.log2 = a := Classical.byContradiction fun n => z fun b hb e => n ⟨b, hb, e⟩
      obtain ⟨b, hb, rfl⟩ := this
      exact ⟨(b : Int), mem_ci.mpr hb, topOf_cast (h b hb)⟩
  cases q : free B a with
  | true => rw [q] at this; simp only [this]; simp
  | false => rw [q] at this; simp only [this]; simp
theorem across_ok (h1 : 1 ≤ w) (h2 : w ≤ 16) (hl : rows.length ≤ 60) (h : ∀ r ∈ rows, r < 2 ^ w) : T_across (w : Int) (ci rows) = .ok (ci (acrB w rows)) := by
  have hi := bas_inv rows
  have hb := bas_lt h
  have hlen := hi.len
  unfold T_across
  rw [rows_ok h1 h2 hl h, R.ok_bind, gdR_pos (basG h2 (by omega) h), bas_cast, letR_eq, gdR_pos ⟨by simp; omega, leftG_of (r := 0) hb (by omega)⟩, letR_eq, letR_eq, gdR_pos ⟨by omega, by omega⟩, irange_ci]
  have go : ∀ (L F : List Nat), (∀ a ∈ L, a < w) → F.length + L.length ≤ 1000 → forR (fun (at_10 : Int) (b11 : (List Int)) => (gdR ((L2.CPow (1 : Int) at_10)) (letR ((1 : Int) * 2 ^ at_10.toNat) fun free13 => (if (!decide (free13 ∈ ((ci (bas rows)).map fun one4 => topOf one4))) = true then (gdR (((((ci (bas rows)).map fun one4 => topOf one4).zip (ci (bas rows))).length ≤ 100000) ∧ (b11.length ≤ 100000)) (letR (b11 ++ [(Builtin.bitOr free13 (((((((ci (bas rows)).map fun one4 => topOf one4)).zip (ci (bas rows))).filter fun p14 => (!decide ((Builtin.bitAnd p14.2 free13) = (0 : Int)))).map fun p14 => p14.1).sum))]) fun found18 => (.ok found18))) else (.ok b11))))) (ci L) (ci F) = .ok (ci (F ++ (L.filter (free (bas rows))).map (va (bas rows)))) := by
    intro L
    induction L with
    | nil => intro F _ _; simp [forR]
    | cons a L ih =>
      intro F ha hF
      have haw := ha a (by simp)
      show R.bind (gdR (L2.CPow 1 (a : Int)) _) _ = _
      rw [gdR_pos (cpow_w (by omega)), letR_eq]
      simp only [pow_cast, top_mem a hi.red.2.1]
      cases q : free (bas rows) a with
      | true =>
        rw [if_pos rfl, gdR_pos ⟨by simp; omega, by simp; simp at hF; omega⟩, letR_eq, R.ok_bind, zip_tops a _ hi.red.2.1, sum_ci, or_cast, va_sum hi.red hi.srt hb q, List.filter_cons_of_pos q]
        have := ih (F ++ [va (bas rows) a]) (fun b hb => ha b (by simp [hb])) (by simp at hF ⊢; omega)
        simpa using this
      | false =>
        rw [if_neg (by simp), R.ok_bind, List.filter_cons_of_neg (by simp [q])]
        have := ih F (fun b hb => ha b (by simp [hb])) (by simp at hF ⊢; omega)
        exact this
  have g := go (List.range w) [] (fun a ha => List.mem_range.mp ha) (by simp; omega)
  have g' : forR _ (ci (List.range w)) ([] : List Int) = _ := g
  rw [g', R.ok_bind, List.nil_append]
  have hal := acr_lt hi.red hb
  show gdR (basisG (ci (acr w (bas rows)))) _ = _
  have hlen2 : (acr w (bas rows)).length ≤ w := acr_len
  rw [gdR_pos (basG h2 (by omega) hal)]
  show R.ok (basisOf (ci (acr w (bas rows)))) = _
  rw [bas_cast]; rfl
theorem in_both_ok (h1 : 1 ≤ w) (h2 : w ≤ 16) (l1 : one.length ≤ 60) (l2 : two.length ≤ 60) (g1 : ∀ r ∈ one, r < 2 ^ w) (g2 : ∀ r ∈ two, r < 2 ^ w) : T_in_both (w : Int) (ci one) (ci two) = .ok (ci (acrB w (acrB w one ++ acrB w two))) := by
  have a1 : (acrB w one).length ≤ w := acrB_len
  have a2 : (acrB w two).length ≤ w := acrB_len
  unfold T_in_both
  rw [across_ok h1 h2 l1 g1, R.ok_bind, across_ok h1 h2 l2 g2, R.ok_bind, gdR_pos (by simp; omega)]
  have e : ci (acrB w one) ++ ci (acrB w two) = ci (acrB w one ++ acrB w two) := by simp [ci]
  rw [e, across_ok h1 h2 (by simp; omega)]
  intro r hr
  rcases List.mem_append.mp hr with hr | hr
  · exact acrB_lt g1 r hr
  · exact acrB_lt g2 r hr
theorem in_one_ok (h1 : 1 ≤ w) (h2 : w ≤ 16) (l1 : one.length ≤ 60) (l2 : two.length ≤ 60) (g1 : ∀ r ∈ one, r < 2 ^ w) (g2 : ∀ r ∈ two, r < 2 ^ w) : T_in_one (w : Int) (ci one) (ci two) = .ok (ci (bas (bas one ++ bas two))) := by
  have a1 := (bas_inv one).len
  have a2 := (bas_inv two).len
  have e : ci (bas one) ++ ci (bas two) = ci (bas one ++ bas two) := by simp [ci]
  unfold T_in_one
  rw [rows_ok h1 h2 l1 g1, R.ok_bind, rows_ok h1 h2 l2 g2, R.ok_bind, bas_cast, bas_cast, e, bas_cast, gdR_pos]
  refine ⟨basG h2 (by omega) g1, basG h2 (by omega) g2, by simp; omega, basG h2 (by simp; omega) fun r hr => ?_⟩
  rcases List.mem_append.mp hr with hr | hr
  · exact bas_lt g1 r hr
  · exact bas_lt g2 r hr
/-! the law's own reading of a basis -/
theorem ix_nat {α : Type} [Inhabited α] {xs : List α} {k : Nat} (h : k < xs.length) : ix xs (k : Int) = xs[k] := by
  unfold ix
  rw [if_pos (by omega), Int.toNat_natCast, List.getD_eq_getElem?_getD, List.getElem?_eq_getElem h]; rfl
theorem is_basis_ok {l : List Int} (hr : Red B) (hs : B.Pairwise (· > ·)) (hw : ∀ b ∈ B, b < 2 ^ 17) (hl : B.length ≤ 16) (e : lawSpan (ci B) = l) : T__law_is_basis (ci B) l = .ok true := by
  have hlen : (ci B).length = B.length := by simp
  have h0 : (0 : Int) ∉ ci B := fun z => hr.2.1 0 (mem_ci (n := 0).mp z) rfl
  have hset : ci B = (sortSet (ci B)).reverse := by
    have : sortSet (ci B) = (ci B).reverse := by
      refine asc_ext asc_sortSet ?_ fun j => by rw [mem_sortSet, List.mem_reverse]
      rw [List.pairwise_reverse]
      unfold ci
      rw [List.pairwise_map]
      exact hs.imp fun h => by omega
    rw [this, List.reverse_reverse]
  have tg : ∀ r ∈ ci B, lawTopG r := fun r hr' => by
    obtain ⟨b, hb, rfl⟩ := List.mem_map.mp hr'
    have := hw b hb
    refine ⟨by omega, ?_⟩
    rw [pow_cast']; omega
  have hk : ∀ k ∈ irange 0 ((ci B).length : Int), ∃ n : Nat, k = n ∧ n < B.length := by
    intro k hk
    have := mem_irange.mp hk
    exact ⟨k.toNat, by omega, by omega⟩
  have hro : rOk ((ci B).length : Int) := ⟨by omega, by omega⟩
  have hri : (irange 0 ((ci B).length : Int)).length ≤ 100000 := by rw [len_irange]; omega
  have hin : ∀ k ∈ irange 0 ((ci B).length : Int), ∀ j ∈ irange 0 ((ci B).length : Int), ((!decide (j = k)) = true → (inR (ci B).length k) ∧ (inR ((ci B).map fun row4 => lawTop row4).length j)) := fun k hk' j hj' _ => by
    obtain ⟨k, rfl, kl⟩ := hk k hk'
    obtain ⟨j, rfl, jl⟩ := hk j hj'
    unfold inR
    simp only [List.length_map]
    omega
  unfold T__law_is_basis
  rw [gdR_pos (fun _ => by omega), ← hset, if_neg (by simp [h0]), gdR_pos ⟨by omega, tg⟩, letR_eq]
  rw [gdR_pos ⟨hro, hri, fun k hk' => ⟨hro, hri, hin k hk'⟩⟩]
  rw [if_neg, gdR_pos (by unfold lawSpanG; omega), e]
  · simp
  · intro z
    rw [List.any_eq_true] at z
    obtain ⟨x, hx, hx2⟩ := z
    obtain ⟨k, hk', rfl⟩ := List.mem_map.mp hx
    have hx2 : (List.any _ id) = true := hx2
    rw [List.any_eq_true] at hx2
    obtain ⟨y, hy, hy2⟩ := hx2
    obtain ⟨j, hj', rfl⟩ := List.mem_map.mp hy
    obtain ⟨hj2, hne⟩ := List.mem_filter.mp hj'
    obtain ⟨k, rfl, kl⟩ := hk k hk'
    obtain ⟨j, rfl, jl⟩ := hk j hj2
    have hne : j ≠ k := by
      intro q; subst q; simp at hne
    have e1 : ix (ci B) (k : Int) = ((B[k] : Nat) : Int) := by rw [ix_nat (by omega)]; simp
    have e2 : ix ((ci B).map fun row4 => lawTop row4) (j : Int) = topOf ((B[j] : Nat) : Int) := by rw [ix_nat (by simp; omega)]; simp
    have hy2 : (!decide ((Builtin.bitAnd (ix (ci B) (k : Int)) (ix ((ci B).map fun row4 => lawTop row4) (j : Int))) = (0 : Int))) = true := hy2
    rw [e1, e2, bit_top] at hy2
    have hd : B[k] ≠ B[j] := by
      intro q
      have := (List.getElem_inj hr.1).mp q
      exact hne this.symm
    rw [hr.2.2 B[j] (List.getElem_mem jl) B[k] (List.getElem_mem kl) hd] at hy2
    simp at hy2
end
end K35
end
section
set_option Elab.async false
set_option linter.all false
set_option maxRecDepth 100000
set_option maxHeartbeats 1000000
/-! K35h: the parts of a row -/
namespace K35
open Mi
open PySem (PyData)
open PySem
section
variable {rows : List Nat} {w g j u v k : Nat}
def cmb (rows : List Nat) (u : Nat) : Nat := xs (((List.range rows.length).filter fun a => u.testBit a).map fun a => rows.getD a 0)
theorem cmb_bit : (cmb rows u).testBit j = par (List.range rows.length) fun a => u.testBit a && (rows.getD a 0).testBit j := by
  unfold cmb
  rw [xs_bit, par_map, par_filter]
theorem cmb_xor : cmb rows (u ^^^ v) = cmb rows u ^^^ cmb rows v := by
  refine Nat.eq_of_testBit_eq fun j => ?_
  rw [Nat.testBit_xor, cmb_bit, cmb_bit, cmb_bit, ← par_xor]
  refine par_congr fun a _ => ?_
  rw [Nat.testBit_xor]
  cases u.testBit a <;> cases v.testBit a <;> cases (rows.getD a 0).testBit j <;> rfl
theorem cmb_zero : cmb rows 0 = 0 := by
  refine Nat.eq_of_testBit_eq fun j => ?_
  rw [cmb_bit, Nat.zero_testBit]
  exact par_false fun a _ => by simp
theorem cmb_one (h : k < rows.length) : cmb rows (2 ^ k) = rows.getD k 0 := by
  refine Nat.eq_of_testBit_eq fun j => ?_
  rw [cmb_bit, par_congr (g := fun a => (decide (a = k) && (rows.getD k 0).testBit j))]
  · cases (rows.getD k 0).testBit j with
    | false => exact par_false fun _ _ => by simp
    | true =>
      rw [par_one (b := k) List.nodup_range fun _ _ => by simp]
      simp [h]
  · intro a _
    rw [Nat.testBit_two_pow]
    by_cases e : a = k
    · subst e; simp
    · have : ¬ k = a := fun z => e z.symm
      simp [e, this]
theorem fold_xs (L : List Nat) (f : Nat → Nat) (g : Nat) : L.foldl (fun b a => b ^^^ f a) g = g ^^^ xs (L.map f) := by
  induction L generalizing g with
  | nil => show g = g ^^^ 0; rw [Nat.xor_zero]
  | cons a L ih => rw [List.foldl_cons, ih, List.map_cons, xs_cons, Nat.xor_assoc]
/-! the steps -/
def pst (p q : Nat × Nat) : Nat × Nat := if p.1.testBit q.1.log2 = true then (p.1 ^^^ q.1, p.2 ^^^ q.2) else p
def pfold (F : List (Nat × Nat)) (p : Nat × Nat) : Nat × Nat := F.foldl pst p
theorem pfold_lo : ∀ (F : List (Nat × Nat)) (p : Nat × Nat), (pfold F p).1 = lo (F.map Prod.fst) p.1
  | [], p => rfl
  | q :: F, p => by
    show (pfold F (pst p q)).1 = lo (q.1 :: F.map Prod.fst) p.1
    rw [pfold_lo F, lo]
    congr 1
    unfold pst
    split <;> rfl
theorem pfold_cmb {c : Nat} : ∀ (F : List (Nat × Nat)) (p : Nat × Nat), (∀ q ∈ F, cmb rows q.2 = q.1) → p.1 = cmb rows p.2 ^^^ c → (pfold F p).1 = cmb rows (pfold F p).2 ^^^ c
  | [], p, _, h => h
  | q :: F, p, hF, h => by
    show (pfold F (pst p q)).1 = cmb rows (pfold F (pst p q)).2 ^^^ c
    refine pfold_cmb F _ (fun r hr => hF r (List.mem_cons_of_mem _ hr)) ?_
    unfold pst
    split
    · show p.1 ^^^ q.1 = cmb rows (p.2 ^^^ q.2) ^^^ c
      rw [cmb_xor, hF q (by simp), h, Nat.xor_assoc, Nat.xor_comm c, Nat.xor_assoc]
    · exact h
structure PInv (rows : List Nat) (F : List (Nat × Nat)) (k : Nat) : Prop where
  nz : ∀ q ∈ F, q.1 ≠ 0
  desc : F.Pairwise fun p q => q.1 < p.1
  lead : ∀ p ∈ F, ∀ q ∈ F, p.1.log2 = q.1.log2 → p.1 = q.1
  sp : ∀ x, Sp (F.map Prod.fst) x ↔ Sp (rows.take k) x
  used : ∀ q ∈ F, cmb rows q.2 = q.1
  len : F.length ≤ k
theorem PInv.ech {F : List (Nat × Nat)} (h : PInv rows F k) : Ech (F.map Prod.fst) := by
  refine ⟨?_, ?_⟩
  · rw [List.pairwise_map]
    refine h.desc.imp_of_mem fun {p q} hp hq hpq => ?_
    have h1 : q.1.log2 ≤ p.1.log2 := by
      rw [Nat.le_log2 (h.nz p hp)]
      have := Nat.log2_self_le (h.nz q hq)
      omega
    have h2 : q.1.log2 ≠ p.1.log2 := fun e => by
      have := h.lead q hq p hp e
      omega
    exact Nat.testBit_lt_two_pow (Nat.lt_of_lt_of_le Nat.lt_log2_self (Nat.pow_le_pow_right (by decide) (by omega)))
  · intro b hb
    obtain ⟨q, hq, rfl⟩ := List.mem_map.mp hb
    exact h.nz q hq
theorem lo_snoc_sp {B : List Nat} {r x : Nat} : Sp (B ++ [lo B r]) x ↔ Sp (B ++ [r]) x := by
  have e := lo_sp B r
  constructor
  · refine Sp.sub fun y hy => ?_
    rcases List.mem_append.mp hy with hy | hy
    · exact .one (List.mem_append_left _ hy)
    · simp at hy; subst hy
      exact (e.mono fun z hz => List.mem_append_left _ hz).back' (.one (by simp))
  · refine Sp.sub fun y hy => ?_
    rcases List.mem_append.mp hy with hy | hy
    · exact .one (List.mem_append_left _ hy)
    · simp at hy; subst hy
      exact (e.mono fun z hz => List.mem_append_left _ hz).back (.one (by simp))
abbrev cp (p : Nat × Nat) : Int × Int := ((p.1 : Int), (p.2 : Int))
noncomputable def sortPN (l : List (Nat × Nat)) : List (Nat × Nat) := l.mergeSort fun a b => geP (cp a) (cp b)
theorem sortPN_cast (l : List (Nat × Nat)) : sortRP (l.map cp) = (sortPN l).map cp := by
  unfold sortRP sortPN
  rw [List.map_mergeSort (s := geP)]
  intro a _ b _; rfl
theorem perm_sortPN (l : List (Nat × Nat)) : (sortPN l).Perm l := List.mergeSort_perm _ _
theorem pw_sortPN (l : List (Nat × Nat)) : (sortPN l).Pairwise fun p q => q.1 < p.1 ∨ q.1 = p.1 := by
  have := pw_sortRP (l.map cp)
  rw [sortPN_cast, List.pairwise_map] at this
  exact this.imp fun h => by
    rcases h with h | h
    · exact .inl (by have h : ((_ : Nat) : Int) < ((_ : Nat) : Int) := h; omega)
    · exact .inr (by have h : ((_ : Nat) : Int) = ((_ : Nat) : Int) := h.1; omega)
noncomputable def pstep (F : List (Nat × Nat)) (k r : Nat) : List (Nat × Nat) := if (pfold F (r, 2 ^ k)).1 = 0 then F else sortPN (F ++ [pfold F (r, 2 ^ k)])
theorem pstep_inv {F : List (Nat × Nat)} (h : PInv rows F k) (hk : k < rows.length) : PInv rows (pstep F k (rows.getD k 0)) (k + 1) := by
  have tk : rows.take (k + 1) = rows.take k ++ [rows.getD k 0] := by
    rw [List.take_succ_eq_append_getElem hk, List.getD_eq_getElem?_getD, List.getElem?_eq_getElem hk]; rfl
  have hlo := pfold_lo F (rows.getD k 0, 2 ^ k)
  have hcm : (pfold F (rows.getD k 0, 2 ^ k)).1 = cmb rows (pfold F (rows.getD k 0, 2 ^ k)).2 ^^^ 0 := pfold_cmb F _ h.used (by rw [Nat.xor_zero, cmb_one hk])
  rw [Nat.xor_zero] at hcm
  unfold pstep
  split
  · rename_i e
    refine ⟨h.nz, h.desc, h.lead, fun x => ?_, h.used, by have := h.len; omega⟩
    rw [tk, ← sp_appB h.sp]
    rw [hlo] at e
    constructor
    · exact Sp.mono fun z hz => List.mem_append_left _ hz
    · refine Sp.sub fun y hy => ?_
      rcases List.mem_append.mp hy with hy | hy
      · exact .one hy
      · simp only [List.mem_singleton] at hy; subst hy
        exact (lo_zero h.ech).mp e
  · rename_i e
    revert hlo hcm e
    generalize pfold F (rows.getD k 0, 2 ^ k) = p
    intro hlo hcm e
    have hcl : ∀ q ∈ F, p.1.testBit q.1.log2 = false := fun q hq => by
      rw [hlo]
      exact lo_clear h.ech q.1 (List.mem_map.mpr ⟨q, hq, rfl⟩)
    have hle : ∀ q ∈ F, p.1.log2 ≠ q.1.log2 := fun q hq z => by
      have := hcl q hq
      rw [← z, Nat.testBit_log2 e] at this
      cases this
    have hm : ∀ q, q ∈ sortPN (F ++ [p]) ↔ q ∈ F ∨ q = p := fun q => by
      rw [(perm_sortPN _).mem_iff]; simp
    refine ⟨fun q hq => ?_, ?_, fun a ha b hb z => ?_, fun x => ?_, fun q hq => ?_, ?_⟩
    · rcases (hm q).mp hq with hq | rfl
      · exact h.nz q hq
      · exact e
    · have h1 := pw_sortPN (F ++ [p])
      have h2 : (F ++ [p]).Pairwise fun a b => a.1 ≠ b.1 := by
        rw [List.pairwise_append]
        refine ⟨h.desc.imp fun z => by omega, by simp, fun a ha b hb z => ?_⟩
        simp at hb; subst hb
        exact hle a ha (by rw [z])
      have h3 : (sortPN (F ++ [p])).Pairwise fun a b => a.1 ≠ b.1 := h2.perm (perm_sortPN _).symm fun z => z.symm
      exact (h1.and h3).imp fun ⟨a, b⟩ => by omega
    · rcases (hm a).mp ha with ha' | ha' <;> rcases (hm b).mp hb with hb' | hb'
      · exact h.lead a ha' b hb' z
      · rw [hb'] at z; exact (hle a ha' z.symm).elim
      · rw [ha'] at z; exact (hle b hb' z).elim
      · rw [ha', hb']
    · rw [sp_perm ((perm_sortPN (F ++ [p])).map Prod.fst), List.map_append]
      show Sp (F.map Prod.fst ++ [p.1]) x ↔ _
      rw [hlo, lo_snoc_sp, tk]
      exact sp_appB h.sp
    · rcases (hm q).mp hq with hq | rfl
      · exact h.used q hq
      · exact hcm.symm
    · rw [(perm_sortPN _).length_eq]
      have := h.len
      simp; omega
/-! the def -/
theorem pst_ev {b q : Nat × Nat} (hq : q.1 ≠ 0) (hg : q.1 < 2 ^ 20) : gdR ((topG ((cp q).1))) (if (!decide ((Builtin.bitAnd (cp b).1 (topOf (cp q).1)) = (0 : Int))) = true then (letR ((((Builtin.bitXor (cp b).1 (cp q).1), (Builtin.bitXor (cp b).2 (cp q).2)).1, ((Builtin.bitXor (cp b).1 (cp q).1), (Builtin.bitXor (cp b).2 (cp q).2)).2) : Int × Int) fun q9 => (R.ok (q9.1, q9.2))) else (R.ok ((cp b).1, (cp b).2))) = R.ok (cp (pst b q)) := by
  rw [gdR_pos (topG_of hg (by decide)), letR_eq]
  show (if (!decide ((Builtin.bitAnd (b.1 : Int) (topOf (q.1 : Int))) = (0 : Int))) = true then R.ok (Builtin.bitXor (b.1 : Int) (q.1 : Int), Builtin.bitXor (b.2 : Int) (q.2 : Int)) else R.ok ((b.1 : Int), (b.2 : Int))) = _
  rw [bit_top, xor_cast, xor_cast]
  unfold pst
  simp only [decide_eq_true hq, Bool.true_and]
  split <;> rfl
theorem pfold_ev : ∀ (F : List (Nat × Nat)) (b : Nat × Nat), (∀ q ∈ F, q.1 ≠ 0 ∧ q.1 < 2 ^ 20) → forR (fun (p6 : Int × Int) (b7 : Int × Int) => (gdR ((topG p6.1)) (if (!decide ((Builtin.bitAnd b7.1 (topOf p6.1)) = (0 : Int))) = true then (letR ((((Builtin.bitXor b7.1 p6.1), (Builtin.bitXor b7.2 p6.2)).1, ((Builtin.bitXor b7.1 p6.1), (Builtin.bitXor b7.2 p6.2)).2) : Int × Int) fun q9 => (.ok (q9.1, q9.2))) else (.ok (b7.1, b7.2))))) (F.map cp) (cp b) = .ok (cp (pfold F b))
  | [], b, _ => rfl
  | q :: F, b, h => by
    show R.bind (gdR ((topG ((cp q).1))) _) _ = _
    rw [pst_ev (h q (by simp)).1 (h q (by simp)).2, R.ok_bind]
    exact pfold_ev F (pst b q) fun r hr => h r (List.mem_cons_of_mem _ hr)
theorem enL_get {l : List Int} {i : Nat} {p : Int × Int} (h : (enL l)[i]? = some p) : i < l.length ∧ p = ((i : Int), l.getD i 0) := by
  unfold enL at h
  rw [List.getElem?_zipWith] at h
  by_cases q : i < l.length
  · refine ⟨q, ?_⟩
    rw [List.getElem?_range q, List.getElem?_eq_getElem q] at h
    simp at h
    rw [← h, List.getD_eq_getElem?_getD, List.getElem?_eq_getElem q]; rfl
  · rw [List.getElem?_eq_none (l := l) (by omega)] at h
    cases z : (List.range l.length)[i]? <;> rw [z] at h <;> simp at h
theorem enL_len {l : List Int} : (enL l).length = l.length := by unfold enL; simp
theorem ci_getD (i : Nat) : (ci rows).getD i 0 = ((rows.getD i 0 : Nat) : Int) := by
  rw [List.getD_eq_getElem?_getD, List.getD_eq_getElem?_getD, List.getElem?_map]
  cases rows[i]? <;> rfl
def placesOf (rows : List Nat) (u : Nat) : List Nat := (List.range rows.length).filter fun a => u.testBit a
theorem parts_for_ok (hl : rows.length ≤ 60) (h : ∀ r ∈ rows, r < 2 ^ 20) : ∃ u, (Sp rows g → cmb rows u = g ∧ T_parts_for (ci rows) (g : Int) = .ok (some (ci (placesOf rows u)))) ∧ (¬ Sp rows g → T_parts_for (ci rows) (g : Int) = .ok none) := by
  obtain ⟨b, hb1, F, rfl, hi⟩ := forR_inv (f := (fun (p2 : Int × Int) (b3 : (List (Int × Int))) => (gdR ((L2.CPow (1 : Int) p2.1)) (letR (((p2.2, ((1 : Int) * 2 ^ p2.1.toNat)).1, (p2.2, ((1 : Int) * 2 ^ p2.1.toNat)).2) : Int × Int) fun q5 => ((forR (fun (p6 : Int × Int) (b7 : Int × Int) => (gdR ((topG p6.1)) (if (!decide ((Builtin.bitAnd b7.1 (topOf p6.1)) = (0 : Int))) = true then (letR ((((Builtin.bitXor b7.1 p6.1), (Builtin.bitXor b7.2 p6.2)).1, ((Builtin.bitXor b7.1 p6.1), (Builtin.bitXor b7.2 p6.2)).2) : Int × Int) fun q9 => (.ok (q9.1, q9.2))) else (.ok (b7.1, b7.2))))) b3 (q5.1, q5.2)).bind fun (b10 : Int × Int) => (if (!decide (b10.1 = (0 : Int))) = true then (gdR ((b3.length ≤ 100000)) (letR (b3 ++ [(b10.1, b10.2)]) fun found12 => (letR (sortRP found12) fun found13 => (.ok found13)))) else (.ok b3)))))))
    (I := fun k b => ∃ F, b = F.map cp ∧ PInv rows F k) (xs := enL (ci rows)) (b := []) ⟨[], rfl, by simp, by simp, by simp, fun x => by simp, by simp, by simp⟩ (by
      rintro k x b hx ⟨F, rfl, hi⟩
      obtain ⟨hk, rfl⟩ := enL_get hx
      have hk : k < rows.length := by simpa using hk
      have hF : ∀ q ∈ F, q.1 ≠ 0 ∧ q.1 < 2 ^ 20 := fun q hq => ⟨hi.nz q hq, ((hi.sp q.1).mp (.one (List.mem_map.mpr ⟨q, hq, rfl⟩))).lt fun r hr => h r (List.mem_of_mem_take hr)⟩
      refine ⟨(pstep F k (rows.getD k 0)).map cp, ?_, _, rfl, pstep_inv hi hk⟩
      have hlF := hi.len
      rw [gdR_pos (cpow_w (by omega)), letR_eq, ci_getD]
      simp only [pow_cast]
      have := pfold_ev F (rows.getD k 0, 2 ^ k) hF
      rw [show (((rows.getD k 0 : Nat) : Int), ((2 ^ k : Nat) : Int)) = cp (rows.getD k 0, 2 ^ k) from rfl, this, R.ok_bind]
      unfold pstep
      by_cases q : (pfold F (rows.getD k 0, 2 ^ k)).1 = 0
      · rw [if_neg (by show ¬ (!decide (((pfold F (rows.getD k 0, 2 ^ k)).1 : Int) = 0)) = true; rw [q]; simp), if_pos q]
      · have q' : ¬ ((pfold F (rows.getD k 0, 2 ^ k)).1 : Int) = 0 := by omega
        rw [if_pos (by show (!decide (((pfold F (rows.getD k 0, 2 ^ k)).1 : Int) = 0)) = true; rw [decide_eq_false q']; rfl), if_neg q, gdR_pos (by simp; omega), letR_eq, letR_eq, ← sortPN_cast, List.map_append]
        rfl)
  rw [enL_len] at hi
  have hlen : (ci rows).length = rows.length := by simp
  rw [hlen] at hi
  have hsp : ∀ x, Sp (F.map Prod.fst) x ↔ Sp rows x := fun x => by rw [hi.sp, List.take_length]
  have hF : ∀ q ∈ F, q.1 ≠ 0 ∧ q.1 < 2 ^ 20 := fun q hq => ⟨hi.nz q hq, ((hsp q.1).mp (.one (List.mem_map.mpr ⟨q, hq, rfl⟩))).lt h⟩
  have hgo := pfold_ev F (g, 0) hF
  have hlo := pfold_lo F (g, 0)
  have hcm := pfold_cmb (rows := rows) (c := g) F (g, 0) hi.used (by rw [cmb_zero, Nat.zero_xor])
  have hT : T_parts_for (ci rows) (g : Int) = (if (!decide ((cp (pfold F (g, 0))).1 = (0 : Int))) = true then (.ok none) else (gdR ((rOk ((ci rows).length : Int)) ∧ ((irange 0 ((ci rows).length : Int)).length ≤ 100000) ∧ (∀ at_21 ∈ (irange 0 ((ci rows).length : Int)), (0 ≤ at_21))) (.ok (some ((irange 0 ((ci rows).length : Int)).filter fun at_21 => ((Builtin.bitAnd ((cp (pfold F (g, 0))).2 / 2 ^ at_21.toNat) (1 : Int)) != 0)))))) := by
    unfold T_parts_for
    rw [letR_eq, hb1, R.ok_bind, letR_eq]
    have hgo' : forR _ (F.map cp) ((g : Int), (0 : Int)) = _ := hgo
    rw [hgo', R.ok_bind]
  refine ⟨(pfold F (g, 0)).2, fun hs => ?_, fun hs => ?_⟩
  · have e0 : (pfold F (g, 0)).1 = 0 := by
      rw [hlo]
      exact (lo_zero hi.ech).mpr ((hsp g).mpr hs)
    refine ⟨?_, ?_⟩
    · rw [e0] at hcm
      have := xor_back (cmb rows (pfold F (g, 0)).2) g
      rw [← hcm, Nat.zero_xor] at this
      exact this.symm
    · rw [hT, if_neg (by show ¬ (!decide (((pfold F (g, 0)).1 : Int) = 0)) = true; rw [e0]; simp), gdR_pos ⟨⟨by omega, by omega⟩, by rw [len_irange]; omega, fun a ha => (mem_irange.mp ha).1⟩, hlen, irange_ci]
      congr 2
      unfold placesOf ci
      rw [List.filter_map]
      congr 1
      refine List.filter_congr fun a _ => ?_
      show ((Builtin.bitAnd (((pfold F (g, 0)).2 : Int) / 2 ^ (a : Int).toNat) (1 : Int)) != 0) = _
      rw [Int.toNat_natCast, bit_shB]
  · have e0 : (pfold F (g, 0)).1 ≠ 0 := by
      rw [hlo]
      exact fun z => hs ((hsp g).mp ((lo_zero hi.ech).mp z))
    have e1 : ¬ ((pfold F (g, 0)).1 : Int) = 0 := by omega
    rw [hT, if_pos (by show (!decide (((pfold F (g, 0)).1 : Int) = 0)) = true; rw [decide_eq_false e1]; rfl)]
theorem in_ci {a : Int} (h : 0 ≤ a ∧ a < (rows.length : Int)) : inR (ci rows).length a := by
  unfold inR
  have : (ci rows).length = rows.length := by simp
  omega
/-! places are right -/
theorem made_ok (hl : rows.length ≤ 60) (e : cmb rows u = g) : T__law_made (ci rows) (g : Int) (ci (placesOf rows u)) = .ok true := by
  have hp : (placesOf rows u).Pairwise (· < ·) := List.Pairwise.filter _ List.pairwise_lt_range
  have hlen : (placesOf rows u).length ≤ rows.length := Nat.le_trans (List.length_filter_le _ _) (by simp)
  have hm : ∀ a ∈ placesOf rows u, a < rows.length := fun a ha => List.mem_range.mp (List.mem_filter.mp ha).1
  have hs : ci (placesOf rows u) = sortSet (ci (placesOf rows u)) := by
    refine asc_ext ?_ asc_sortSet fun j => by rw [mem_sortSet]
    unfold ci
    rw [List.pairwise_map]
    exact hp.imp fun h => by omega
  unfold T__law_made
  rw [gdR_pos ⟨by simp; omega, fun _ => by simp; omega⟩, ← hs, if_neg]
  · have go : ∀ (L : List Nat) (g : Nat), (∀ a ∈ L, a < rows.length) → forR (fun (at_6 : Int) (b7 : Int) => (gdR ((inR (ci rows).length at_6)) (letR (Builtin.bitXor b7 (ix (ci rows) at_6)) fun goal9 => (R.ok goal9)))) (ci L) (g : Int) = .ok ((L.foldl (fun b a => b ^^^ rows.getD a 0) g : Nat) : Int) := by
      intro L
      induction L with
      | nil => intro g _; rfl
      | cons a L ih =>
        intro g hL
        have ha := hL a (by simp)
        show R.bind (gdR _ _) _ = _
        rw [gdR_pos (in_ci ⟨Int.natCast_nonneg a, Int.ofNat_lt.mpr ha⟩), letR_eq, R.ok_bind]
        have : ix (ci rows) (a : Int) = ((rows.getD a 0 : Nat) : Int) := by
          unfold ix
          rw [if_pos (by omega), Int.toNat_natCast]
          exact ci_getD a
        rw [this, xor_cast]
        exact ih _ fun b hb => hL b (List.mem_cons_of_mem _ hb)
    rw [go _ g hm, R.ok_bind, fold_xs]
    have : xs ((placesOf rows u).map fun a => rows.getD a 0) = g := e
    rw [this, Nat.xor_self]
    simp
  · have : ((ci (placesOf rows u)).map fun at_1 => ((decide ((0 : Int) ≤ at_1)) && (decide (at_1 < ((ci rows).length : Int))))).all id = true := by
      rw [List.all_eq_true]
      intro x hx
      obtain ⟨y, hy, rfl⟩ := List.mem_map.mp hx
      obtain ⟨a, ha, rfl⟩ := List.mem_map.mp hy
      have := hm a ha
      simp; omega
    rw [this]; simp
/-- any places: it comes to an answer -/
theorem made_good {ps : List Int} {gi : Int} (hl : rows.length ≤ 60) (hp : ps.length < 4000) : (T__law_made (ci rows) gi ps).good := by
  unfold T__law_made
  rw [gdR_pos ⟨hp, fun _ => by omega⟩]
  split
  · exact ⟨_, rfl⟩
  · rename_i q
    simp only [Bool.or_eq_true, Bool.not_eq_true', not_or, Bool.not_eq_false] at q
    have hall := List.all_eq_true.mp q.2
    have hin : ∀ a ∈ ps, 0 ≤ a ∧ a < (rows.length : Int) := fun a ha => by
      have := hall _ (List.mem_map.mpr ⟨a, ha, rfl⟩)
      simpa using this
    rw [forR_fold fun a b => Builtin.bitXor b (ix (ci rows) a)]
    · exact ⟨_, rfl⟩
    · intro a ha b
      have := hin a ha
      rw [gdR_pos (in_ci this), letR_eq]
theorem parts_ok (h1 : 1 ≤ w) (h2 : w ≤ 16) (hl : rows.length ≤ 60) (h : ∀ r ∈ rows, r < 2 ^ w) (hg : g < 2 ^ w) : (∃ u, Sp rows g → cmb rows u = g ∧ T_parts (w : Int) (ci rows) (g : Int) = .ok (ci (placesOf rows u))) ∧ (¬ Sp rows g → T_parts (w : Int) (ci rows) (g : Int) = .exc 3) := by
  have h20 : ∀ r ∈ rows, r < 2 ^ 20 := fun r hr => Nat.lt_of_lt_of_le (h r hr) (Nat.pow_le_pow_right (by decide) (by omega))
  obtain ⟨u, a, b⟩ := parts_for_ok (g := g) hl h20
  refine ⟨⟨u, fun hs => ⟨(a hs).1, ?_⟩⟩, fun hs => ?_⟩
  · unfold T_parts
    rw [rows_ok h1 h2 hl h, R.ok_bind, rows_one h1 h2 hg, R.ok_bind, (a hs).2]; rfl
  · unfold T_parts
    rw [rows_ok h1 h2 hl h, R.ok_bind, rows_one h1 h2 hg, R.ok_bind, b hs]; rfl
theorem are_parts_ok {ps : List Int} (h1 : 1 ≤ w) (h2 : w ≤ 16) (hl : rows.length ≤ 60) (h : ∀ r ∈ rows, r < 2 ^ w) (hg : g < 2 ^ w) : T_are_parts (w : Int) (ci rows) (g : Int) ps = T__law_made (ci rows) (g : Int) ps := by
  unfold T_are_parts
  rw [rows_ok h1 h2 hl h, R.ok_bind, rows_one h1 h2 hg, R.ok_bind]; rfl
end
end K35
end
section
set_option Elab.async false
set_option linter.all false
set_option maxRecDepth 100000
set_option maxHeartbeats 1000000
/-! K35i: draws, places, the law's loops -/
namespace K35
open Mi
open PySem (PyData)
open PySem PySem.PyData
section
variable {rows : List Nat} {w g : Nat} {nums : List Int}
theorem forF_inv {α β γ : Type} {f : α → β → R (Fl β γ)} (I : Nat → β → Prop) : ∀ (xs : List α) (k : Nat) (b : β), I k b → (∀ (x : α), x ∈ xs → ∀ (j : Nat) (b : β), j < k + xs.length → I j b → ∃ b', f x b = .ok (.nx b') ∧ I (j + 1) b') → ∃ b', forF f xs b = .ok (.nx b') ∧ I (k + xs.length) b'
  | [], k, b, h, _ => ⟨b, rfl, h⟩
  | x :: xs, k, b, h, st => by
    obtain ⟨b1, e1, h1⟩ := st x (by simp) k b (by simp) h
    obtain ⟨b2, e2, h2⟩ := forF_inv I xs (k + 1) b1 h1 fun y hy j b hj => st y (List.mem_cons_of_mem _ hy) j b (by simp at hj ⊢; omega)
    refine ⟨b2, ?_, by rw [List.length_cons, ← Nat.add_assoc, Nat.add_right_comm]; exact h2⟩
    show (f x b).bind _ = _
    rw [e1]; exact e2
theorem nxG_of (h0 : 0 < nums.length) (h1 : nums.length < 10000) {c m : Int} (hc : 0 ≤ c) (hc2 : c < 1000000) (hm : 0 < m) : nxG nums c m := ⟨h0, h1, hc, hc2, hm⟩
/-! some rows -/
noncomputable abbrev rowV (nums : List Int) (w : Int) : Int → Int → Int × Int := fun k1 c_2 => ((ix ([(nxt nums c_2 ((1 : Int) * 2 ^ w.toNat)), ((1 : Int) * 2 ^ (nxt nums (c_2 + 1) w).toNat), (0 : Int)] : List Int) (ix ([(0 : Int), (0 : Int), (0 : Int), (1 : Int), (2 : Int)] : List Int) (nxt nums ((c_2 + 1) + 1) (5 : Int)))), (((c_2 + 1) + 1) + 1))
theorem ix5 {i : Int} (h : 0 ≤ i ∧ i < 5) : ix ([(0 : Int), (0 : Int), (0 : Int), (1 : Int), (2 : Int)] : List Int) i = 0 ∨ ix ([(0 : Int), (0 : Int), (0 : Int), (1 : Int), (2 : Int)] : List Int) i = 1 ∨ ix ([(0 : Int), (0 : Int), (0 : Int), (1 : Int), (2 : Int)] : List Int) i = 2 := by
  have : i = 0 ∨ i = 1 ∨ i = 2 ∨ i = 3 ∨ i = 4 := by omega
  rcases this with rfl | rfl | rfl | rfl | rfl
  · exact .inl rfl
  · exact .inl rfl
  · exact .inl rfl
  · exact .inr (.inl rfl)
  · exact .inr (.inr rfl)
theorem some_go (h0 : 0 < nums.length) (h1 : nums.length < 10000) (hw1 : 1 ≤ w) (hw : w ≤ 16) : ∀ (xs : List Int) (c : Int), 0 ≤ c → c + 3 * xs.length < 900000 →
    allC (fun k1 c_2 => (L2.CPow (1 : Int) (w : Int)) ∧ (nxG nums c_2 ((1 : Int) * 2 ^ ((w : Int)).toNat)) ∧ (nxG nums (c_2 + 1) (w : Int)) ∧ (L2.CPow (1 : Int) (nxt nums (c_2 + 1) (w : Int))) ∧ (nxG nums ((c_2 + 1) + 1) (5 : Int)) ∧ (inR ([(0 : Int), (0 : Int), (0 : Int), (1 : Int), (2 : Int)] : List Int).length (nxt nums ((c_2 + 1) + 1) (5 : Int))) ∧ (inR ([(nxt nums c_2 ((1 : Int) * 2 ^ ((w : Int)).toNat)), ((1 : Int) * 2 ^ (nxt nums (c_2 + 1) (w : Int)).toNat), (0 : Int)] : List Int).length (ix ([(0 : Int), (0 : Int), (0 : Int), (1 : Int), (2 : Int)] : List Int) (nxt nums ((c_2 + 1) + 1) (5 : Int))))) (fun k1 c_2 => (((c_2 + 1) + 1) + 1)) xs c
    ∧ (∀ r ∈ (mapC (rowV nums (w : Int)) xs c).1, 0 ≤ r ∧ r < 2 ^ w) ∧ (mapC (rowV nums (w : Int)) xs c).1.length = xs.length ∧ (mapC (rowV nums (w : Int)) xs c).2 = c + 3 * xs.length
  | [], c, _, _ => ⟨trivial, by simp [mapC], rfl, by simp [mapC]⟩
  | x :: xs, c, hc, hl => by
    rw [List.length_cons] at hl
    obtain ⟨i1, i2, i3, i4⟩ := some_go h0 h1 hw1 hw xs (c + 1 + 1 + 1) (by omega) (by omega)
    have pw : (0 : Int) < 2 ^ w := by rw [pow_cast']; have := Nat.two_pow_pos w; omega
    have g1 : nxG nums c ((1 : Int) * 2 ^ ((w : Int)).toNat) := nxG_of h0 h1 hc (by omega) (by rw [Int.one_mul, Int.toNat_natCast]; exact pw)
    have g2 : nxG nums (c + 1) (w : Int) := nxG_of h0 h1 (by omega) (by omega) (by omega)
    have g3 : nxG nums (c + 1 + 1) 5 := nxG_of h0 h1 (by omega) (by omega) (by omega)
    have l1 := nxt_lo g1
    have u1 : nxt nums c ((1 : Int) * 2 ^ ((w : Int)).toNat) < 2 ^ w := Int.lt_of_lt_of_le (nxt_hi g1) (by rw [Int.one_mul, Int.toNat_natCast]; exact Int.le_refl _)
    have l2 := nxt_lo g2
    have u2 := nxt_hi g2
    have l3 := nxt_lo g3
    have u3 := nxt_hi g3
    have h5 := ix5 ⟨l3, u3⟩
    have hin : inR 3 (ix ([(0 : Int), (0 : Int), (0 : Int), (1 : Int), (2 : Int)] : List Int) (nxt nums ((c + 1) + 1) (5 : Int))) := by
      unfold inR
      rcases h5 with e | e | e <;> rw [e] <;> omega
    refine ⟨⟨⟨cpow_w (by omega), g1, g2, ⟨l2, by omega, by decide⟩, g3, ⟨by simp; omega, by simp; omega⟩, hin⟩, i1⟩, ?_, ?_, ?_⟩
    · intro r hr
      rcases List.mem_cons.mp hr with rfl | hr
      · show 0 ≤ ix _ _ ∧ ix _ _ < _
        rcases h5 with e | e | e
        · rw [e]; exact ⟨l1, u1⟩
        · rw [e]
          show 0 ≤ (1 : Int) * 2 ^ (nxt nums (c + 1) (w : Int)).toNat ∧ (1 : Int) * 2 ^ (nxt nums (c + 1) (w : Int)).toNat < 2 ^ w
          rw [Int.one_mul, pow_cast', pow_cast']
          have : 2 ^ (nxt nums (c + 1) (w : Int)).toNat < 2 ^ w := Nat.pow_lt_pow_right (by decide) (by omega)
          exact ⟨Int.natCast_nonneg _, Int.ofNat_lt.mpr this⟩
        · rw [e]; exact ⟨by show (0 : Int) ≤ 0; omega, pw⟩
      · exact i2 r hr
    · show (mapC (rowV nums (w : Int)) xs (c + 1 + 1 + 1)).1.length + 1 = xs.length + 1
      rw [i3]
    · show (mapC (rowV nums (w : Int)) xs (c + 1 + 1 + 1)).2 = _
      rw [i4, List.length_cons]; omega
theorem some_ok (h0 : 0 < nums.length) (h1 : nums.length < 10000) (hw1 : 1 ≤ w) (hw : w ≤ 16) {c : Int} (hc : 0 ≤ c) (hc2 : c < 800000) : ∃ (rows : List Nat) (c' : Int), someRowsG nums c (w : Int) 6 ∧ someRows nums c (w : Int) 6 = (ci rows, c') ∧ (∀ r ∈ rows, r < 2 ^ w) ∧ rows.length ≤ 6 ∧ c ≤ c' ∧ c' ≤ c + 19 := by
  have g : nxG nums c (6 + 1) := nxG_of h0 h1 hc (by omega) (by omega)
  have l := nxt_lo g
  have u := nxt_hi g
  have hlen : (irange 0 (nxt nums c (6 + 1))).length ≤ 6 := by rw [len_irange]; omega
  obtain ⟨i1, i2, i3, i4⟩ := some_go (w := w) h0 h1 hw1 hw (irange 0 (nxt nums c (6 + 1))) (c + 1) (by omega) (by omega)
  obtain ⟨rs, e, hr⟩ := ci_of i2
  have hT : T__law_some_rows nums c (w : Int) 6 = .ok (ci rs, (mapC (rowV nums (w : Int)) (irange 0 (nxt nums c (6 + 1))) (c + 1)).2) := by
    unfold T__law_some_rows
    rw [gdR_pos ⟨g, ⟨by omega, by omega⟩, by omega, i1⟩, ← e]
  have hlr : rs.length ≤ 6 := by
    have := congrArg List.length e
    rw [i3, List.length_map] at this
    omega
  refine ⟨rs, (mapC (rowV nums (w : Int)) (irange 0 (nxt nums c (6 + 1))) (c + 1)).2, ⟨_, hT⟩, ?_, hr, hlr, by rw [i4]; omega, by rw [i4]; omega⟩
  unfold someRows
  rw [hT]; rfl
/-! drawn places -/
theorem filt_go (h0 : 0 < nums.length) (h1 : nums.length < 10000) : ∀ (xs : List Int) (c : Int), 0 ≤ c → c + xs.length < 900000 →
    allC (fun at_45 c_46 => (nxG nums c_46 (2 : Int))) (fun at_45 c_46 => (c_46 + 1)) xs c ∧ (filterC (fun at_45 c_46 => ((decide ((nxt nums c_46 (2 : Int)) = (0 : Int))), (c_46 + 1))) (fun at_45 => at_45) xs c).1.length ≤ xs.length
    ∧ (∀ a ∈ (filterC (fun at_45 c_46 => ((decide ((nxt nums c_46 (2 : Int)) = (0 : Int))), (c_46 + 1))) (fun at_45 => at_45) xs c).1, a ∈ xs) ∧ (filterC (fun at_45 c_46 => ((decide ((nxt nums c_46 (2 : Int)) = (0 : Int))), (c_46 + 1))) (fun at_45 => at_45) xs c).2 = c + xs.length
  | [], c, _, _ => ⟨trivial, by simp [filterC], by simp [filterC], by simp [filterC]⟩
  | x :: xs, c, hc, hl => by
    rw [List.length_cons] at hl
    obtain ⟨i1, i2, i3, i4⟩ := filt_go h0 h1 xs (c + 1) (by omega) (by omega)
    refine ⟨⟨nxG_of h0 h1 hc (by omega) (by omega), i1⟩, ?_⟩
    unfold filterC
    dsimp only
    split
    · refine ⟨by simp; exact i2, fun a ha => ?_, by rw [i4, List.length_cons]; omega⟩
      rcases List.mem_cons.mp ha with rfl | ha
      · simp
      · exact List.mem_cons_of_mem _ (i3 a ha)
    · exact ⟨by simp; omega, fun a ha => List.mem_cons_of_mem _ (i3 a ha), by rw [i4, List.length_cons]; omega⟩
/-! one tuple of places -/
abbrev tD (d : PyData) : PyData := .tuple [.str "told", d]
theorem sm_told {k N : Nat} {d : PyData} (h : Sm k N d) : Sm (k + 1) (N + 10) (tD d) := by
  have hs : strOk ("told" : PySem.Str) = true := by decide +kernel
  have h4 : Sm k 4 (.str ("told" : PySem.Str)) := (sm_str hs (n := 4) (by decide +kernel)).mono (Nat.zero_le k) (Nat.le_refl _)
  exact (sm_tup (sm_cons h4 (sm_cons h (sm_nil (N := 0))))).mono (Nat.le_refl _) (by omega)
theorem rok_tb (b : Bool) : Rok (.list [tD (.bool b)]) := Sm.rok (k := 2) (N := (0 + 10) + 1 + 0) (sm_lst (sm_cons (sm_told sm_bool) sm_nil)) (by decide) (by decide)
theorem place_ok (h1 : 1 ≤ w) (h2 : w ≤ 16) (hl : rows.length ≤ 60) (h : ∀ r ∈ rows, r < 2 ^ w) (hg : g < 2 ^ w) {d : PyData} {ns : List Int} (hd : d = eT PyData.int ns) (hn : ns.length < 4000) :
    (told6bG (6 : Int) (w : Int) (ci rows) (g : Int) d) ∧ (lawMadeDG (ci rows) (g : Int) d) ∧ (sameG (told6b (6 : Int) (w : Int) (ci rows) (g : Int) d) ((eP PyData.str PyData.bool) (("told" : PySem.Str), (lawMadeD (ci rows) (g : Int) d)))) := by
  subst hd
  have hm := made_good (gi := (g : Int)) hl hn
  have e := are_parts_ok (ps := ns) h1 h2 hl h hg
  have ok := R.get_ok hm
  refine ⟨⟨rfl, by rw [intsOf_eT], by rw [intsOf_eT, e, ok]; trivial⟩, ⟨by rw [intsOf_eT], by rw [intsOf_eT]; exact hm⟩, ?_⟩
  have e2 : told6b (6 : Int) (w : Int) (ci rows) (g : Int) (eT PyData.int ns) = (eP PyData.str PyData.bool) (("told" : PySem.Str), (lawMadeD (ci rows) (g : Int) (eT PyData.int ns))) := by
    unfold told6b lawMadeD lawMade
    rw [intsOf_eT, e]
    rw [ok]; rfl
  refine ⟨e2, ?_⟩
  rw [e2]
  exact rok_tb _
theorem eqv_same {d : PyData} (h : d.canLay0 = true) : PyData.eqv d d = true := PySem.SeqAt.eqv_refl d h
end
end K35
end
section
set_option Elab.async false
set_option linter.all false
set_option maxRecDepth 100000
set_option maxHeartbeats 2000000
/-! K35j: one turn of the law -/
namespace K35
open Mi
open PySem (PyData)
open PySem PySem.PyData
def Ends {α : Type} (P : α → Prop) (r : R α) : Prop := ∃ a, r = .ok a ∧ P a
section
variable {α β γ : Type} {P : α → Prop} {r t : R α} {p : Prop}
theorem en_gd (h : p) (e : Ends P r) : Ends P (gdR p r) := by rw [gdR_pos h]; exact e
theorem en_let {a a' : β} {k : β → R α} (e : a = a') (h : Ends P (k a')) : Ends P (letR a k) := by subst e; exact h
theorem en_ifn [Decidable p] (h : ¬ p) (e : Ends P t) : Ends P (if p then r else t) := by rw [if_neg h]; exact e
theorem en_ifp [Decidable p] (h : p) (e : Ends P r) : Ends P (if p then r else t) := by rw [if_pos h]; exact e
theorem en_ok {a : α} (h : P a) : Ends P (.ok a) := ⟨a, rfl, h⟩
def Nx (I : β → Prop) : Fl β γ → Prop := fun z => ∃ b, z = .nx b ∧ I b
theorem en_forF {δ : Type} {f : δ → β → R (Fl β γ)} {xs : List δ} {b0 : β} {k : β → R α} {hr : γ → α} (I : Nat → β → Prop) (h : I 0 b0) (st : ∀ x ∈ xs, ∀ (j : Nat) (b : β), j < xs.length → I j b → Ends (Nx (I (j + 1))) (f x b)) (h2 : ∀ b, I xs.length b → Ends P (k b)) : Ends P ((forF f xs b0).bind (flK k hr)) := by
  obtain ⟨b, e, hb⟩ := forF_inv (f := f) I xs 0 b0 h fun x hx j b hj hI => by
    obtain ⟨z, e, b', rfl, h'⟩ := st x hx j b (by omega) hI
    exact ⟨b', e, h'⟩
  rw [e]
  rw [Nat.zero_add] at hb
  exact h2 b hb
end
abbrev rfd : PyData := .str ("refused" : PySem.Str)
theorem shp_str {s : PySem.Str} (h : strOk s = true) : shp (.str s) := (sm_str h (Nat.le_refl _)).shp (by decide)
theorem ok_told : strOk ("told" : PySem.Str) = true := by decide +kernel
theorem ok_rfd : strOk ("refused" : PySem.Str) = true := by decide +kernel
theorem ok_mis : strOk ("missing" : PySem.Str) = true := by decide +kernel
theorem step1 {TL : List PyData} {LL : List (List Int)} {k c9 : Int} {t l fs ss : List Int} (hin : inR TL.length k) (hi : ix TL k = tD (eT PyData.int t)) (hl : inR LL.length k) (hix : ix LL k = l) (hb : T__law_is_basis t l = .ok true) (hsz : szOk (fs.length + ss.length)) (hsp : lawSpanG (fs ++ ss)) :
    Ends (Nx (fun _ => True)) (gdR ((inR TL.length k) ∧ (inD (ix TL k) (0 : Int)) ∧ (shp (ixD (ix TL k) (0 : Int)) ∧ shp (PyData.str ("told" : PySem.Str))) ∧ ((!PyData.eqv (ixD (ix TL k) (0 : Int)) (PyData.str ("told" : PySem.Str))) = false → (inR TL.length k) ∧ (inD (ix TL k) (1 : Int)) ∧ (szOk (fs.length + ss.length)) ∧ (lawSpanG (fs ++ ss)) ∧ (inR LL.length k) ∧ (lawIsBasisG (ixD (ix TL k) (1 : Int)) (ix LL k)))) (if ((!PyData.eqv (ixD (ix TL k) (0 : Int)) (PyData.str ("told" : PySem.Str))) || (!(lawIsBasis (ixD (ix TL k) (1 : Int)) (ix LL k)))) = true then (R.ok (Fl.ret (false, c9))) else (R.ok (Fl.nx ())))) := by
  rw [hi, hix]
  have e0 : ixD (tD (eT PyData.int t)) (0 : Int) = .str ("told" : PySem.Str) := rfl
  have e1 : ixD (tD (eT PyData.int t)) (1 : Int) = eT PyData.int t := rfl
  have d0 : inD (tD (eT PyData.int t)) (0 : Int) := (⟨by decide, by decide⟩ : inR 2 0)
  have d1 : inD (tD (eT PyData.int t)) (1 : Int) := (⟨by decide, by decide⟩ : inR 2 1)
  rw [e0, e1]
  refine en_gd ⟨hin, d0, ⟨shp_str ok_told, shp_str ok_told⟩, fun _ => ⟨hin, d1, hsz, hsp, hl, by rw [intsOf_eT], by rw [intsOf_eT]; exact hb⟩⟩ (en_ifn ?_ (en_ok ⟨(), rfl, trivial⟩))
  rw [eqv_same (d := .str ("told" : PySem.Str)) ok_told]
  unfold lawIsBasis
  simp
section
variable {f s rows : List Nat} {w g : Nat} {nums : List Int}
theorem spS_congr {A B : List Nat} (h : ∀ x, Sp A x ↔ Sp B x) : spS A = spS B := spS_eq (pw_spS B) fun x => by rw [mem_spS, h]
theorem sm_ci {ns : List Nat} {L : Nat} (h : ∀ n ∈ ns, n < 2 ^ 17) (hl : ns.length ≤ L) : Sm 1 (L * 42) (eT PyData.int (ci ns)) := (sm_tup (sm_ints (ns := ci ns) fun x hx => by
  obtain ⟨n, hn, rfl⟩ := List.mem_map.mp hx
  have := h n hn
  have e : ((n : Int)).natAbs = n := Int.natAbs_natCast n
  show ((n : Int)).natAbs < 10 ^ 12
  rw [e]
  omega)).mono (Nat.le_refl _) (by simp; omega)
theorem lt17 {n : Nat} (hw : w ≤ 17) (h : n < 2 ^ w) : n < 2 ^ 17 := Nat.lt_of_lt_of_le h (Nat.pow_le_pow_right (by decide) hw)
theorem wide_eq (hw : w ≤ 16) (hf : ∀ r ∈ f, r < 2 ^ w) : ((irange 0 ((1 : Int) * 2 ^ ((w : Int)).toNat)).filter fun row16 => (!((((ci f).map fun other_17 => (lawOdd (Builtin.bitAnd row16 other_17))).map (· != 0)).any id))) = ci (spS (acrB w f)) := by
  rw [pow_cast, irange_ci]
  unfold ci
  rw [List.filter_map]
  congr 1
  symm
  refine spS_eq (List.Pairwise.filter _ List.pairwise_lt_range) fun x => ?_
  rw [List.mem_filter, List.mem_range, acrB_sp hf]
  have key : ((((f.map fun n : Nat => (n : Int)).map fun other_17 => (lawOdd (Builtin.bitAnd (x : Int) other_17))).map (· != 0)).any id) = f.any fun y => dot 17 x y := by
    rw [List.any_map, List.any_map, List.any_map]
    congr 1
    funext y
    show (lawOdd (Builtin.bitAnd (x : Int) (y : Int)) != 0) = dot 17 x y
    rw [odd_dot]
    cases dot 17 x y <;> rfl
  have key' : ((fun row16 : Int => (!((((f.map fun n : Nat => (n : Int)).map fun other_17 => (lawOdd (Builtin.bitAnd row16 other_17))).map (· != 0)).any id))) ∘ fun n : Nat => (n : Int)) x = !(f.any fun y => dot 17 x y) := congrArg (!·) key
  rw [key']
  constructor
  · rintro ⟨hx, h⟩
    refine ⟨hx, fun r hr => ?_⟩
    rw [← dot_ext hx (by omega : w ≤ 17)]
    have h : (f.any fun y => dot 17 x y) = false := by simpa using h
    rw [List.any_eq_false] at h
    simpa using h r hr
  · rintro ⟨hx, h⟩
    refine ⟨hx, ?_⟩
    have h' : (f.any fun y => dot 17 x y) = false := by
      rw [List.any_eq_false]
      intro r hr
      rw [dot_ext hx (by omega : w ≤ 17), h r hr]
      simp
    rw [h']; rfl
theorem both_eq (hf : ∀ r ∈ f, r < 2 ^ w) (hs : ∀ r ∈ s, r < 2 ^ w) : ((ci (spS f)).filter fun row23 => (decide (row23 ∈ ci (spS s)))) = ci (spS (acrB w (acrB w f ++ acrB w s))) := by
  have e : ((ci (spS f)).filter fun row23 => (decide (row23 ∈ ci (spS s)))) = ci ((spS f).filter fun x => decide (x ∈ spS s)) := by
    unfold ci
    rw [List.filter_map]
    congr 1
    refine List.filter_congr fun x _ => ?_
    show decide ((x : Int) ∈ ci (spS s)) = decide (x ∈ spS s)
    by_cases q : x ∈ spS s
    · rw [decide_eq_true q, decide_eq_true (mem_ci.mpr q)]
    · rw [decide_eq_false q, decide_eq_false fun z => q (mem_ci.mp z)]
  rw [e]
  congr 1
  symm
  refine spS_eq (List.Pairwise.filter _ (pw_spS f)) fun x => ?_
  rw [List.mem_filter, decide_eq_true_iff, mem_spS, mem_spS, both_sp hf hs]
theorem bas0 (hw : w ≤ 16) (hf : ∀ r ∈ f, r < 2 ^ w) (hl : f.length ≤ 16) : T__law_is_basis (ci (bas f)) (ci (spS f)) = .ok true := by
  have h := bas_inv f
  refine is_basis_ok h.red h.srt (fun b hb => lt17 (by omega) (bas_lt hf b hb)) (by have := h.len; omega) ?_
  rw [span_cast, spS_congr h.sp]
theorem bas1 (hw : w ≤ 16) (hf : ∀ r ∈ f, r < 2 ^ w) : T__law_is_basis (ci (acrB w f)) (ci (spS (acrB w f))) = .ok true := by
  have h := bas_inv (acr w (bas f))
  have l : (acrB w f).length ≤ w := acrB_len
  exact is_basis_ok h.red h.srt (fun b hb => lt17 (by omega) (acrB_lt hf b hb)) (by show (acrB w f).length ≤ 16; omega) (span_cast _)
theorem bas2 (hw : w ≤ 16) (hf : ∀ r ∈ f, r < 2 ^ w) (hs : ∀ r ∈ s, r < 2 ^ w) : T__law_is_basis (ci (acrB w (acrB w f ++ acrB w s))) (ci (spS (acrB w (acrB w f ++ acrB w s)))) = .ok true :=
  bas1 hw fun r hr => by
    rcases List.mem_append.mp hr with hr | hr
    · exact acrB_lt hf r hr
    · exact acrB_lt hs r hr
theorem bas3 (hw : w ≤ 16) (hf : ∀ r ∈ f, r < 2 ^ w) (hs : ∀ r ∈ s, r < 2 ^ w) (hl : f.length + s.length ≤ 16) : T__law_is_basis (ci (bas (bas f ++ bas s))) (lawSpan (ci f ++ ci s)) = .ok true := by
  have h := bas_inv (bas f ++ bas s)
  have l1 := (bas_inv f).len
  have l2 := (bas_inv s).len
  have l3 := h.len
  rw [List.length_append] at l3
  have hlt : ∀ r ∈ bas f ++ bas s, r < 2 ^ w := fun r hr => by
    rcases List.mem_append.mp hr with hr | hr
    · exact bas_lt hf r hr
    · exact bas_lt hs r hr
  refine is_basis_ok h.red h.srt (fun b hb => lt17 (by omega) (bas_lt hlt b hb)) (by omega) ?_
  have e : ci f ++ ci s = ci (f ++ s) := by simp [ci]
  rw [e, span_cast, span_cast, spS_congr fun x => one_sp]
/-! refused -/
theorem span_bad {r : List Int} (h : T_check_rows (w : Int) r = .exc 1) : T_span (w : Int) r = .exc 1 := by unfold T_span; rw [h]; rfl
theorem across_bad {w : Int} {r : List Int} (h : T_check_rows w r = .exc 1) : T_across w r = .exc 1 := by unfold T_across; rw [h]; rfl
theorem isin_bad {r : List Int} {x : Int} (h : T_check_rows (w : Int) r = .exc 1) : T_is_in (w : Int) r x = .exc 1 := by unfold T_is_in; rw [h]; rfl
theorem parts_bad {r : List Int} {x : Int} (h : T_check_rows (w : Int) r = .exc 1) : T_parts (w : Int) r x = .exc 1 := by unfold T_parts; rw [h]; rfl
theorem are_bad {r ps : List Int} {x : Int} (h : T_check_rows (w : Int) r = .exc 1) : T_are_parts (w : Int) r x ps = .exc 1 := by unfold T_are_parts; rw [h]; rfl
theorem isin_bad2 {r : List Int} {x : Int} (h : T_check_rows (w : Int) r = .ok ()) (h2 : T_check_rows (w : Int) [x] = .exc 1) : T_is_in (w : Int) r x = .exc 1 := by unfold T_is_in; rw [h, R.ok_bind, h2]; rfl
theorem parts_bad2 {r : List Int} {x : Int} (h : T_check_rows (w : Int) r = .ok ()) (h2 : T_check_rows (w : Int) [x] = .exc 1) : T_parts (w : Int) r x = .exc 1 := by unfold T_parts; rw [h, R.ok_bind, h2]; rfl
theorem are_bad2 {r ps : List Int} {x : Int} (h : T_check_rows (w : Int) r = .ok ()) (h2 : T_check_rows (w : Int) [x] = .exc 1) : T_are_parts (w : Int) r x ps = .exc 1 := by unfold T_are_parts; rw [h, R.ok_bind, h2]; rfl
theorem both_bad2 {r x : List Int} {v : List Int} (h : T_across (w : Int) r = .ok v) (h2 : T_check_rows (w : Int) x = .exc 1) : T_in_both (w : Int) r x = .exc 1 := by unfold T_in_both; rw [h, R.ok_bind, across_bad h2]; rfl
theorem inone_bad2 {r x : List Int} (h : T_check_rows (w : Int) r = .ok ()) (h2 : T_check_rows (w : Int) x = .exc 1) : T_in_one (w : Int) r x = .exc 1 := by unfold T_in_one; rw [h, R.ok_bind, h2]; rfl
theorem okx : okT (.exc 1 : R (List Int)) := rfl
theorem okxB : okT (.exc 1 : R Bool) := rfl
end
end K35
end
section
set_option Elab.async false
set_option linter.all false
set_option maxRecDepth 100000
set_option maxHeartbeats 4000000
/-! K35k: the law's goals; one turn; the law -/
namespace K35
open Mi
open PySem (PyData)
open PySem PySem.PyData
section
variable {f s : List Nat} {w : Nat} {nums : List Int}
theorem goal_of (hw : w ≤ 16) (hf : ∀ r ∈ f, r < 2 ^ w) {x i j : Int} (hx : 0 ≤ x ∧ x < 2 ^ w) (hi : 0 ≤ i ∧ i < ((ci (spS f)).length : Int)) (hj : 0 ≤ j ∧ j < 2) : ∃ g : Nat, ix ([x, ix (ci (spS f)) i] : List Int) j = (g : Int) ∧ g < 2 ^ w := by
  have : j = 0 ∨ j = 1 := by omega
  rcases this with rfl | rfl
  · show ∃ g : Nat, x = (g : Int) ∧ _
    obtain ⟨n, rfl⟩ := Int.eq_ofNat_of_zero_le hx.1
    refine ⟨n, rfl, ?_⟩
    have h2 := hx.2
    rw [pow_cast'] at h2
    exact Int.ofNat_lt.mp h2
  · show ∃ g : Nat, ix (ci (spS f)) i = (g : Int) ∧ _
    obtain ⟨n, rfl⟩ := Int.eq_ofNat_of_zero_le hi.1
    have hn : n < (spS f).length := by have := hi.2; simp at this; exact this
    refine ⟨(spS f)[n], ?_, (mem_spS.mp (List.getElem_mem hn)).lt hf⟩
    show ix (ci (spS f)) ((n : Nat) : Int) = _
    rw [ix_nat (by simpa using hn)]; simp
theorem told4_eq {g : Nat} (h1 : 1 ≤ w) (h2 : w ≤ 16) (hl : f.length ≤ 60) (hf : ∀ r ∈ f, r < 2 ^ w) (hg : g < 2 ^ w) (d : PyData) : told4G (4 : Int) (w : Int) (ci f) (g : Int) d ∧ told4 (4 : Int) (w : Int) (ci f) (g : Int) d = tD (.bool (decide ((g : Int) ∈ ci (spS f)))) := by
  have e := is_in_ok h1 h2 hl hf hg
  have q : decide (lo (bas f) g = 0) = decide ((g : Int) ∈ ci (spS f)) := by
    have : lo (bas f) g = 0 ↔ (g : Int) ∈ ci (spS f) := by
      rw [lo_zero (bas_inv f).red.ech, (bas_inv f).sp, mem_ci, mem_spS]
    by_cases z : (g : Int) ∈ ci (spS f)
    · rw [decide_eq_true z, decide_eq_true (this.mpr z)]
    · rw [decide_eq_false z, decide_eq_false fun y => z (this.mp y)]
  refine ⟨⟨rfl, by rw [e]; trivial⟩, ?_⟩
  unfold told4
  rw [e, q]; rfl
theorem placesG {g : Nat} (h1 : 1 ≤ w) (h2 : w ≤ 16) (hl : f.length ≤ 60) (hf : ∀ r ∈ f, r < 2 ^ w) (hg : g < 2 ^ w) {ds : List PyData} (h : ∀ d ∈ ds, ∃ ns : List Int, d = eT PyData.int ns ∧ ns.length < 4000) (hd : ds.length ≤ 100000) : (ds.length ≤ 100000) ∧ (∀ places58 ∈ ds, (told6bG (6 : Int) (w : Int) (ci f) (g : Int) places58) ∧ (lawMadeDG (ci f) (g : Int) places58) ∧ (sameG (told6b (6 : Int) (w : Int) (ci f) (g : Int) places58) ((eP PyData.str PyData.bool) (("told" : PySem.Str), (lawMadeD (ci f) (g : Int) places58))))) := by
  refine ⟨hd, fun d hd' => ?_⟩
  obtain ⟨ns, e, hn⟩ := h d hd'
  exact place_ok h1 h2 hl hf hg e hn
theorem all_true (ds : List PyData) : ¬ (!((ds.map fun places55 => true).all id)) = true := by
  have : (ds.map fun places55 => true).all id = true := by
    rw [List.all_map, List.all_eq_true]
    intro x _; rfl
  rw [this]; simp
theorem revDT_eT (ns : List Int) : revDT (eT PyData.int ns) = eT PyData.int ns.reverse := by
  show PyData.tuple (ns.map PyData.int).reverse = _
  rw [← List.map_reverse]
theorem cutDT_eT (ns : List Int) (lo hi : Option Int) : ∃ ms : List Int, cutDT (eT PyData.int ns) lo hi = eT PyData.int ms ∧ ms.length ≤ ns.length := by
  refine ⟨cutD ns lo hi, ?_, ?_⟩
  · show PyData.tuple (cutD (ns.map PyData.int) lo hi) = PyData.tuple ((cutD ns lo hi).map PyData.int)
    rw [cutD_map]
  · unfold cutD
    exact Nat.le_trans (List.length_take_le' _ _) (by rw [List.length_drop]; omega)
theorem step2 (h0 : 0 < nums.length) (hN : nums.length < 10000) (h1 : 1 ≤ w) (h2 : w ≤ 8) (hl : f.length ≤ 6) (hf : ∀ r ∈ f, r < 2 ^ w) {b : Int} (hb : 0 ≤ b) (hb2 : b < 800000) :
    Ends (Nx (fun b' => b ≤ b' ∧ b' ≤ b + 9)) ((gdR ((L2.CPow (1 : Int) (w : Int)) ∧ (nxG nums b ((1 : Int) * 2 ^ (w : Int).toNat)) ∧ (nxG nums (b + 1) ((ci (spS f)).length : Int)) ∧ (inR (ci (spS f)).length (nxt nums (b + 1) ((ci (spS f)).length : Int))) ∧ (nxG nums ((b + 1) + 1) (2 : Int)) ∧ (inR ([(nxt nums b ((1 : Int) * 2 ^ (w : Int).toNat)), (ix (ci (spS f)) (nxt nums (b + 1) ((ci (spS f)).length : Int)))] : List Int).length (nxt nums ((b + 1) + 1) (2 : Int)))) (letR (ix ([(nxt nums b ((1 : Int) * 2 ^ (w : Int).toNat)), (ix (ci (spS f)) (nxt nums (b + 1) ((ci (spS f)).length : Int)))] : List Int) (nxt nums ((b + 1) + 1) (2 : Int))) fun goal39 => letR (((b + 1) + 1) + 1) fun c_40 => (gdR ((told5G (5 : Int) (w : Int) (ci f) goal39 (PyData.int (0 : Int)))) (letR (told5 (5 : Int) (w : Int) (ci f) goal39 (PyData.int (0 : Int))) fun answer42 => (gdR ((told4G (4 : Int) (w : Int) (ci f) goal39 (PyData.int (0 : Int))) ∧ (sameG (told4 (4 : Int) (w : Int) (ci f) goal39 (PyData.int (0 : Int))) ((eP PyData.str PyData.bool) (("told" : PySem.Str), (decide (goal39 ∈ (ci (spS f))))))) ∧ ((!true) = false → (shp answer42 ∧ shp (PyData.str ("missing" : PySem.Str))))) (if ((!true) || (!decide ((PyData.eqv answer42 (PyData.str ("missing" : PySem.Str))) = (!decide (goal39 ∈ (ci (spS f))))))) = true then (R.ok (Fl.ret (false, c_40))) else (gdR ((rOk ((ci f).length : Int)) ∧ ((irange 0 ((ci f).length : Int)).length ≤ 100000) ∧ (allC (fun at_45 c_46 => (nxG nums c_46 (2 : Int))) (fun at_45 c_46 => (c_46 + 1)) (irange 0 ((ci f).length : Int)) c_40)) (letR ([(PyData.tuple []), ((eT PyData.int) (filterC (fun at_45 c_46 => ((decide ((nxt nums c_46 (2 : Int)) = (0 : Int))), (c_46 + 1))) (fun at_45 => at_45) (irange 0 ((ci f).length : Int)) c_40).1), (.tuple [(PyData.int (0 : Int)), (PyData.int (0 : Int))]), ((eT PyData.int) ([((ci f).length : Int)] : List Int)), ((eT PyData.int) ([(-(1 : Int))] : List Int))] : List PyData) fun rows49 => letR ((filterC (fun at_45 c_46 => ((decide ((nxt nums c_46 (2 : Int)) = (0 : Int))), (c_46 + 1))) (fun at_45 => at_45) (irange 0 ((ci f).length : Int)) c_40).2) fun c_50 => (if (decide (goal39 ∈ (ci (spS f)))) = true then (gdR ((inD answer42 (1 : Int)) ∧ (notDict (ixD answer42 (1 : Int))) ∧ ((!(isTup (ixD answer42 (1 : Int)))) = false → (inD answer42 (1 : Int)) ∧ (lawMadeDG (ci f) goal39 (ixD answer42 (1 : Int))))) (if ((!(isTup (ixD answer42 (1 : Int)))) || (!(lawMadeD (ci f) goal39 (ixD answer42 (1 : Int))))) = true then (R.ok (Fl.ret (false, c_50))) else (gdR ((inD answer42 (1 : Int)) ∧ (inD answer42 (1 : Int)) ∧ (isTup (ixD answer42 (1 : Int)) = true) ∧ (inD answer42 (1 : Int)) ∧ (isTup (ixD answer42 (1 : Int)) = true) ∧ (szOk (rows49.length + ([(ixD answer42 (1 : Int)), (revDT (ixD answer42 (1 : Int))), (cutDT (ixD answer42 (1 : Int)) (some (1 : Int)) none)] : List PyData).length))) (letR (rows49 ++ ([(ixD answer42 (1 : Int)), (revDT (ixD answer42 (1 : Int))), (cutDT (ixD answer42 (1 : Int)) (some (1 : Int)) none)] : List PyData)) fun rows54 => (gdR ((rows54.length ≤ 100000) ∧ (∀ places55 ∈ rows54, (told6bG (6 : Int) (w : Int) (ci f) goal39 places55) ∧ (lawMadeDG (ci f) goal39 places55) ∧ (sameG (told6b (6 : Int) (w : Int) (ci f) goal39 places55) ((eP PyData.str PyData.bool) (("told" : PySem.Str), (lawMadeD (ci f) goal39 places55)))))) (if (!((rows54.map fun places55 => true).all id)) = true then (R.ok (Fl.ret (false, c_50))) else (R.ok (Fl.nx c_50)))))))) else (gdR ((rows49.length ≤ 100000) ∧ (∀ places58 ∈ rows49, (told6bG (6 : Int) (w : Int) (ci f) goal39 places58) ∧ (lawMadeDG (ci f) goal39 places58) ∧ (sameG (told6b (6 : Int) (w : Int) (ci f) goal39 places58) ((eP PyData.str PyData.bool) (("told" : PySem.Str), (lawMadeD (ci f) goal39 places58)))))) (if (!((rows49.map fun places58 => true).all id)) = true then (R.ok (Fl.ret (false, c_50))) else (R.ok (Fl.nx c_50))))))))))))) : R (Fl Int (Bool × Int))) := by
  have pw : (0 : Int) < 2 ^ w := by rw [pow_cast']; exact Int.natCast_pos.mpr (Nat.two_pow_pos w)
  have ep : (1 : Int) * 2 ^ ((w : Int)).toNat = 2 ^ w := by rw [Int.one_mul, Int.toNat_natCast]
  have hlo : 0 < (ci (spS f)).length := by rw [List.length_map]; exact spS_ne f
  have g1 : nxG nums b ((1 : Int) * 2 ^ ((w : Int)).toNat) := nxG_of h0 hN hb (by omega) (by rw [ep]; exact pw)
  have g2 : nxG nums (b + 1) ((ci (spS f)).length : Int) := nxG_of h0 hN (by omega) (by omega) (by omega)
  have g3 : nxG nums (b + 1 + 1) 2 := nxG_of h0 hN (by omega) (by omega) (by omega)
  have l1 := nxt_lo g1
  have u1 : nxt nums b ((1 : Int) * 2 ^ ((w : Int)).toNat) < 2 ^ w := Int.lt_of_lt_of_le (nxt_hi g1) (by rw [ep]; exact Int.le_refl _)
  have l2 := nxt_lo g2
  have u2 := nxt_hi g2
  have l3 := nxt_lo g3
  have u3 := nxt_hi g3
  obtain ⟨g, eg, hg⟩ := goal_of (by omega) hf ⟨l1, u1⟩ ⟨l2, u2⟩ ⟨l3, u3⟩
  refine en_gd ⟨cpow_w (by omega), g1, g2, ⟨by omega, u2⟩, g3, (⟨by omega, u3⟩ : inR 2 (nxt nums (b + 1 + 1) 2))⟩ (en_let eg (en_let rfl ?_))
  have h16 : w ≤ 16 := by omega
  have h60 : f.length ≤ 60 := by omega
  obtain ⟨t4, e4⟩ := told4_eq h1 h16 h60 hf hg (PyData.int (0 : Int))
  obtain ⟨⟨u, hp⟩, hn⟩ := parts_ok h1 h16 h60 hf hg
  have hs4 : sameG (told4 (4 : Int) (w : Int) (ci f) (g : Int) (PyData.int (0 : Int))) ((eP PyData.str PyData.bool) (("told" : PySem.Str), (decide ((g : Int) ∈ ci (spS f))))) := by
    rw [e4]
    exact ⟨rfl, rok_tb _⟩
  have hirl : (irange 0 ((ci f).length : Int)).length = f.length := by rw [len_irange]; simp
  obtain ⟨f1, f2, f3, f4⟩ := filt_go h0 hN (irange 0 ((ci f).length : Int)) (b + 1 + 1 + 1) (by omega) (by omega)
  have hlf : (ci f).length = f.length := by simp
  have hroF : rOk ((ci f).length : Int) := ⟨by omega, by omega⟩
  by_cases hsp : Sp f g
  · obtain ⟨hc, hT⟩ := hp hsp
    have hin : (g : Int) ∈ ci (spS f) := mem_ci.mpr (mem_spS.mpr hsp)
    have e5 : told5 (5 : Int) (w : Int) (ci f) (g : Int) (PyData.int (0 : Int)) = tD (eT PyData.int (ci (placesOf f u))) := by unfold told5; rw [hT]; rfl
    have g5 : told5G (5 : Int) (w : Int) (ci f) (g : Int) (PyData.int (0 : Int)) := ⟨rfl, by rw [hT]; trivial⟩
    have hpl : (ci (placesOf f u)).length ≤ 6 := by
      have : (placesOf f u).length ≤ f.length := Nat.le_trans (List.length_filter_le _ _) (by simp)
      simp; omega
    have sA : shp (tD (eT PyData.int (ci (placesOf f u)))) := by
      refine (sm_told (sm_ci (L := 6) (fun n hn => ?_) (by simpa using hpl))).shp (by decide)
      have := List.mem_range.mp (List.mem_filter.mp hn).1
      omega
    refine en_gd g5 (en_let e5 (en_gd ⟨t4, hs4, fun _ => ⟨sA, shp_str ok_mis⟩⟩ (en_ifn ?_ (en_gd ⟨hroF, by omega, f1⟩ ?_))))
    · have : PyData.eqv (tD (eT PyData.int (ci (placesOf f u)))) (PyData.str ("missing" : PySem.Str)) = false := rfl
      rw [this, decide_eq_true hin]; simp
    have hrows : ∀ d ∈ ([(PyData.tuple []), ((eT PyData.int) (filterC (fun at_45 c_46 => ((decide ((nxt nums c_46 (2 : Int)) = (0 : Int))), (c_46 + 1))) (fun at_45 => at_45) (irange 0 ((ci f).length : Int)) (b + 1 + 1 + 1)).1), (.tuple [(PyData.int (0 : Int)), (PyData.int (0 : Int))]), ((eT PyData.int) ([((ci f).length : Int)] : List Int)), ((eT PyData.int) ([(-(1 : Int))] : List Int))] : List PyData), ∃ ns : List Int, d = eT PyData.int ns ∧ ns.length < 4000 := by
      intro d hd
      simp only [List.mem_cons, List.not_mem_nil, or_false] at hd
      rcases hd with rfl | rfl | rfl | rfl | rfl
      · exact ⟨[], rfl, by decide⟩
      · exact ⟨_, rfl, by omega⟩
      · exact ⟨[0, 0], rfl, by decide⟩
      · exact ⟨[((ci f).length : Int)], rfl, by simp⟩
      · exact ⟨[-1], rfl, by decide⟩
    refine en_let rfl (en_let f4 (en_ifp (decide_eq_true hin) ?_))
    have x1 : ixD (tD (eT PyData.int (ci (placesOf f u)))) (1 : Int) = eT PyData.int (ci (placesOf f u)) := rfl
    have i1 : inD (tD (eT PyData.int (ci (placesOf f u)))) (1 : Int) := (⟨by decide, by decide⟩ : inR 2 1)
    rw [x1]
    have hgood : lawMadeDG (ci f) (g : Int) (eT PyData.int (ci (placesOf f u))) := ⟨by rw [intsOf_eT], by rw [intsOf_eT]; exact ⟨_, made_ok h60 hc⟩⟩
    have hmade : lawMadeD (ci f) (g : Int) (eT PyData.int (ci (placesOf f u))) = true := by
      unfold lawMadeD lawMade
      rw [intsOf_eT, made_ok h60 hc]; rfl
    refine en_gd ⟨i1, trivial, fun _ => ⟨i1, hgood⟩⟩ (en_ifn (by rw [hmade]; simp [isTup]) (en_gd ⟨i1, i1, rfl, i1, rfl, by unfold szOk; simp⟩ (en_let rfl (en_gd (placesG h1 h16 h60 hf hg (fun d hd => ?_) (by simp)) (en_ifn (all_true _) (en_ok ⟨_, rfl, by omega, by omega⟩))))))
    rcases List.mem_append.mp hd with hd | hd
    · exact hrows d hd
    · simp only [List.mem_cons, List.not_mem_nil, or_false] at hd
      rcases hd with rfl | rfl | rfl
      · exact ⟨_, rfl, by omega⟩
      · rw [revDT_eT]; exact ⟨_, rfl, by simp at hpl ⊢; omega⟩
      · obtain ⟨ms, e, hm⟩ := cutDT_eT (ci (placesOf f u)) (some 1) none
        rw [e]; exact ⟨ms, rfl, by omega⟩
  · have hT := hn hsp
    have hin : ¬ (g : Int) ∈ ci (spS f) := fun z => hsp (mem_spS.mp (mem_ci.mp z))
    have e5 : told5 (5 : Int) (w : Int) (ci f) (g : Int) (PyData.int (0 : Int)) = .str ("missing" : PySem.Str) := by unfold told5; rw [hT]; rfl
    have g5 : told5G (5 : Int) (w : Int) (ci f) (g : Int) (PyData.int (0 : Int)) := ⟨rfl, by rw [hT]; rfl⟩
    refine en_gd g5 (en_let e5 (en_gd ⟨t4, hs4, fun _ => ⟨shp_str ok_mis, shp_str ok_mis⟩⟩ (en_ifn ?_ (en_gd ⟨hroF, by omega, f1⟩ ?_))))
    · rw [eqv_same (d := PyData.str ("missing" : PySem.Str)) ok_mis, decide_eq_false hin]; simp
    have hrows : ∀ d ∈ ([(PyData.tuple []), ((eT PyData.int) (filterC (fun at_45 c_46 => ((decide ((nxt nums c_46 (2 : Int)) = (0 : Int))), (c_46 + 1))) (fun at_45 => at_45) (irange 0 ((ci f).length : Int)) (b + 1 + 1 + 1)).1), (.tuple [(PyData.int (0 : Int)), (PyData.int (0 : Int))]), ((eT PyData.int) ([((ci f).length : Int)] : List Int)), ((eT PyData.int) ([(-(1 : Int))] : List Int))] : List PyData), ∃ ns : List Int, d = eT PyData.int ns ∧ ns.length < 4000 := by
      intro d hd
      simp only [List.mem_cons, List.not_mem_nil, or_false] at hd
      rcases hd with rfl | rfl | rfl | rfl | rfl
      · exact ⟨[], rfl, by decide⟩
      · exact ⟨_, rfl, by omega⟩
      · exact ⟨[0, 0], rfl, by decide⟩
      · exact ⟨[((ci f).length : Int)], rfl, by simp⟩
      · exact ⟨[-1], rfl, by decide⟩
    refine en_let rfl (en_let f4 (en_ifn (by rw [decide_eq_false hin]; simp) ?_))
    exact en_gd (placesG h1 h16 h60 hf hg hrows (by simp)) (en_ifn (all_true _) (en_ok ⟨_, rfl, by omega, by omega⟩))
end
end K35
end
section
set_option Elab.async false
set_option linter.all false
set_option maxRecDepth 100000
set_option maxHeartbeats 4000000
/-! K35l: one turn of the law -/
namespace K35
open Mi
open PySem (PyData)
open PySem PySem.PyData
section
variable {nums : List Int}
theorem sz_of {n : Nat} (h : n ≤ 1000) : szOk n := by unfold szOk; omega
theorem fits_ok (h0 : 0 < nums.length) (hN : nums.length < 10000) {c : Int} (hc : 0 ≤ c) (hc2 : c < 700000) : Ends (fun p => p.1 = true ∧ c ≤ p.2 ∧ p.2 ≤ c + 200) (T__law_fits nums c) := by
  have g8 : nxG nums c 8 := nxG_of h0 hN hc (by omega) (by decide)
  have l8 := nxt_lo g8
  have u8 := nxt_hi g8
  obtain ⟨w, ew, h1, h8⟩ : ∃ w : Nat, (1 : Int) + nxt nums c 8 = (w : Int) ∧ 1 ≤ w ∧ w ≤ 8 := ⟨(1 + nxt nums c 8).toNat, by omega, by omega, by omega⟩
  have h16 : w ≤ 16 := by omega
  unfold T__law_fits
  refine en_gd g8 (en_let ew (en_let rfl ?_))
  obtain ⟨f, c1, sg1, e1, hf, lf, b1, b1'⟩ := some_ok (w := w) h0 hN h1 h16 (c := c + 1) (by omega) (by omega)
  obtain ⟨s, c2, sg2, e2, hs, ls, b2, b2'⟩ := some_ok (w := w) h0 hN h1 h16 (c := c1) (by omega) (by omega)
  refine en_gd sg1 (en_let (a' := ci f) (by rw [e1]) (en_let (a' := c1) (by rw [e1]) (en_gd sg2 (en_let (a' := ci s) (by rw [e2]) (en_let (a' := c2) (by rw [e2]) ?_)))))
  have f60 : f.length ≤ 60 := by omega
  have s60 : s.length ≤ 60 := by omega
  have f17 : ∀ n ∈ f, n < 2 ^ 17 := fun n hn => lt17 (by omega) (hf n hn)
  have s17 : ∀ n ∈ s, n < 2 ^ 17 := fun n hn => lt17 (by omega) (hs n hn)
  have hrok : Rok ((eP (eT PyData.int) (eT PyData.int)) (ci f, ci s)) := Sm.rok (k := 2) (N := (6 * 42) + 1 + ((6 * 42) + 1 + 0)) (sm_tup (sm_cons (sm_ci f17 lf) (sm_cons (sm_ci s17 ls) sm_nil))) (by decide) (by decide)
  have hlf : (ci f).length = f.length := by simp
  have hls : (ci s).length = s.length := by simp
  have sgf : lawSpanG (ci f) := by unfold lawSpanG; omega
  have sgs : lawSpanG (ci s) := by unfold lawSpanG; omega
  refine en_gd hrok (en_let rfl (en_gd sgf (en_let (span_cast f) (en_gd sgs (en_let (span_cast s) ?_)))))
  have pw256 : 2 ^ w ≤ 256 := Nat.pow_le_pow_right (n := 2) (by decide) h8
  have wg : (L2.CPow (1 : Int) (w : Int)) ∧ (rOk ((1 : Int) * 2 ^ ((w : Int)).toNat)) ∧ ((irange 0 ((1 : Int) * 2 ^ ((w : Int)).toNat)).length ≤ 100000) ∧ (∀ row16 ∈ (irange 0 ((1 : Int) * 2 ^ ((w : Int)).toNat)), ((ci f).length ≤ 100000) ∧ (∀ other_17 ∈ (ci f), (lawOddG (Builtin.bitAnd row16 other_17)))) := by
    rw [pow_cast]
    have pn : (0 : Int) ≤ ((2 ^ w : Nat) : Int) := Int.natCast_nonneg _
    have pl : ((2 ^ w : Nat) : Int) ≤ 256 := Int.ofNat_le.mpr pw256
    refine ⟨cpow_w (by omega), ⟨by omega, by omega⟩, by rw [len_irange]; omega, fun r hr => ⟨by omega, fun o ho => ?_⟩⟩
    obtain ⟨n, rfl⟩ := Int.eq_ofNat_of_zero_le (mem_irange.mp hr).1
    obtain ⟨m, _, rfl⟩ := List.mem_map.mp ho
    unfold lawOddG
    show 0 ≤ Builtin.bitAnd ((n : Nat) : Int) (m : Int)
    rw [and_cast]
    exact Int.natCast_nonneg _
  have spl : (ci (spS f)).length ≤ 100000 := by
    have h2 : (spS f).length ≤ 2 ^ f.length := spS_len
    have h3 : 2 ^ f.length ≤ 2 ^ 6 := Nat.pow_le_pow_right (by decide) lf
    simp; omega
  refine en_gd wg (en_let (wide_eq h16 hf) (en_gd spl (en_let (both_eq hf hs) ?_)))
  have T0 := span_ok h1 h16 f60 hf
  have T1 := across_ok h1 h16 f60 hf
  have T2 := in_both_ok h1 h16 f60 s60 hf hs
  have T3 := in_one_ok h1 h16 f60 s60 hf hs
  have k0 : told0 (0 : Int) (w : Int) (ci f) (PyData.int (0 : Int)) (PyData.int (0 : Int)) = tD (eT PyData.int (ci (bas f))) := by unfold told0; rw [T0]; rfl
  have k1 : told1 (1 : Int) (w : Int) (ci f) (PyData.int (0 : Int)) (PyData.int (0 : Int)) = tD (eT PyData.int (ci (acrB w f))) := by unfold told1; rw [T1]; rfl
  have k2 : told2 (2 : Int) (w : Int) (ci f) (ci s) (PyData.int (0 : Int)) = tD (eT PyData.int (ci (acrB w (acrB w f ++ acrB w s)))) := by unfold told2; rw [T2]; rfl
  have k3 : told3 (3 : Int) (w : Int) (ci f) (ci s) (PyData.int (0 : Int)) = tD (eT PyData.int (ci (bas (bas f ++ bas s)))) := by unfold told3; rw [T3]; rfl
  refine en_gd ⟨⟨rfl, by rw [T0]; trivial⟩, ⟨rfl, by rw [T1]; trivial⟩, ⟨rfl, by rw [T2]; trivial⟩, ⟨rfl, by rw [T3]; trivial⟩⟩ (en_let (a' := [tD (eT PyData.int (ci (bas f))), tD (eT PyData.int (ci (acrB w f))), tD (eT PyData.int (ci (acrB w (acrB w f ++ acrB w s)))), tD (eT PyData.int (ci (bas (bas f ++ bas s))))]) (by rw [k0, k1, k2, k3]) ?_)
  have hsz : szOk ((ci f).length + (ci s).length) := sz_of (by omega)
  have hsp : lawSpanG (ci f ++ ci s) := by unfold lawSpanG; rw [List.length_append]; omega
  refine en_forF (fun _ _ => True) trivial (fun x hx j b hj _ => ?_) fun _ _ => ?_
  · have hx4 : x = 0 ∨ x = 1 ∨ x = 2 ∨ x = 3 := by have := mem_irange.mp hx; omega
    rcases hx4 with rfl | rfl | rfl | rfl
    · exact step1 (t := ci (bas f)) (l := ci (spS f)) (⟨by decide, by decide⟩ : inR 4 0) rfl (⟨by decide, by decide⟩ : inR 4 0) rfl (bas0 h16 hf (by omega)) hsz hsp
    · exact step1 (t := ci (acrB w f)) (l := ci (spS (acrB w f))) (⟨by decide, by decide⟩ : inR 4 1) rfl (⟨by decide, by decide⟩ : inR 4 1) rfl (bas1 h16 hf) hsz hsp
    · exact step1 (t := ci (acrB w (acrB w f ++ acrB w s))) (l := ci (spS (acrB w (acrB w f ++ acrB w s)))) (⟨by decide, by decide⟩ : inR 4 2) rfl (⟨by decide, by decide⟩ : inR 4 2) rfl (bas2 h16 hf hs) hsz hsp
    · exact step1 (t := ci (bas (bas f ++ bas s))) (l := lawSpan (ci f ++ ci s)) (⟨by decide, by decide⟩ : inR 4 3) rfl (⟨by decide, by decide⟩ : inR 4 3) rfl (bas3 h16 hf hs (by omega)) hsz hsp
  have x1 : ixD (ix [tD (eT PyData.int (ci (bas f))), tD (eT PyData.int (ci (acrB w f))), tD (eT PyData.int (ci (acrB w (acrB w f ++ acrB w s)))), tD (eT PyData.int (ci (bas (bas f ++ bas s))))] (1 : Int)) (1 : Int) = eT PyData.int (ci (acrB w f)) := rfl
  have x0 : ixD (ix [tD (eT PyData.int (ci (bas f))), tD (eT PyData.int (ci (acrB w f))), tD (eT PyData.int (ci (acrB w (acrB w f ++ acrB w s)))), tD (eT PyData.int (ci (bas (bas f ++ bas s))))] (0 : Int)) (1 : Int) = eT PyData.int (ci (bas f)) := rfl
  rw [x1, x0]
  have TA := across_ok (rows := acrB w f) h1 h16 (by have : (acrB w f).length ≤ w := acrB_len; omega) (acrB_lt hf)
  rw [acrB_twice hf] at TA
  have ea : acrossV (w : Int) (eT PyData.int (ci (acrB w f))) = ci (bas f) := by unfold acrossV; rw [intsOf_eT, TA]; rfl
  have sB : Sm 1 (6 * 42) (eT PyData.int (ci (bas f))) := sm_ci (fun n hn => lt17 (by omega) (bas_lt hf n hn)) (by have := (bas_inv f).len; omega)
  refine en_gd ⟨(⟨by decide, by decide⟩ : inR 4 1), (⟨by decide, by decide⟩ : inR 2 1), ⟨by rw [intsOf_eT], by rw [intsOf_eT]; exact ⟨_, TA⟩⟩, (⟨by decide, by decide⟩ : inR 4 0), (⟨by decide, by decide⟩ : inR 2 1), by rw [ea]; exact ⟨sB.shp (by decide), sB.shp (by decide)⟩⟩ (en_ifn (by rw [ea, eqv_same sB.lay]; simp) ?_)
  refine en_forF (fun j b => c2 ≤ b ∧ b ≤ c2 + 9 * j) ⟨Int.le_refl _, by omega⟩ (fun x hx j b hj hI => ?_) fun b hb => ?_
  · have hj4 : j < 4 := by rw [len_irange] at hj; exact hj
    obtain ⟨z, ez, b', rfl, h3, h4⟩ := step2 (f := f) h0 hN h1 h8 lf hf (b := b) (by omega) (by omega)
    exact ⟨_, ez, b', rfl, by omega, by omega⟩
  rw [len_irange] at hb
  have hb4 : b ≤ c2 + 9 * 4 := hb.2
  refine en_gd (cpow_w (by omega)) (en_let (pow_cast w) ?_)
  have r0 : T_check_rows (w : Int) (ci f) = .ok () := rows_ok h1 h16 f60 hf
  have r1 : T_check_rows (w : Int) (ci f ++ ([((2 ^ w : Nat) : Int)] : List Int)) = .exc 1 := rows_bad h1 h16 (r := ((2 ^ w : Nat) : Int)) (by simp) (.inr (Int.le_refl _))
  have r2 : T_check_rows (w : Int) (ci f ++ ([(-(1 : Int))] : List Int)) = .exc 1 := rows_bad h1 h16 (r := -1) (by simp) (.inl (by decide))
  have r3 : T_check_rows (w : Int) ([((2 ^ w : Nat) : Int)] : List Int) = .exc 1 := rows_bad h1 h16 (r := ((2 ^ w : Nat) : Int)) (by simp) (.inr (Int.le_refl _))
  revert r1 r3
  generalize ((2 ^ w : Nat) : Int) = far
  intro r1 r3
  have z1 : szOk ((ci f).length + ([far] : List Int).length) := sz_of (by simp; omega)
  have z2 : szOk ((ci f).length + ([(-(1 : Int))] : List Int).length) := sz_of (by simp; omega)
  have a0 : told0G (0 : Int) (w : Int) (ci f ++ ([far] : List Int)) (PyData.int (0 : Int)) (PyData.tuple []) := ⟨rfl, by rw [span_bad r1]; exact okx⟩
  have a1 : told1G (1 : Int) (w : Int) (ci f ++ ([far] : List Int)) (PyData.int (0 : Int)) (PyData.tuple []) := ⟨rfl, by rw [across_bad r1]; exact okx⟩
  have a2 : told2bG (2 : Int) (w : Int) (ci f ++ ([far] : List Int)) (0 : Int) (PyData.tuple []) := ⟨rfl, across_bad r1⟩
  have a3 : told3bG (3 : Int) (w : Int) (ci f ++ ([far] : List Int)) (0 : Int) (PyData.tuple []) := ⟨rfl, r1⟩
  have a4 : told4G (4 : Int) (w : Int) (ci f ++ ([far] : List Int)) (0 : Int) (PyData.tuple []) := ⟨rfl, by rw [isin_bad r1]; exact okxB⟩
  have a5 : told5G (5 : Int) (w : Int) (ci f ++ ([far] : List Int)) (0 : Int) (PyData.tuple []) := ⟨rfl, by rw [parts_bad r1]; exact okx⟩
  have a6 : told6G (6 : Int) (w : Int) (ci f ++ ([far] : List Int)) (0 : Int) ([] : List Int) := ⟨rfl, by rw [are_bad r1]; exact okxB⟩
  have m0 : told0G (0 : Int) (w : Int) (ci f ++ ([(-(1 : Int))] : List Int)) (PyData.int (0 : Int)) (PyData.tuple []) := ⟨rfl, by rw [span_bad r2]; exact okx⟩
  have m1 : told1G (1 : Int) (w : Int) (ci f ++ ([(-(1 : Int))] : List Int)) (PyData.int (0 : Int)) (PyData.tuple []) := ⟨rfl, by rw [across_bad r2]; exact okx⟩
  have q2 : told2G (2 : Int) (w : Int) (ci f) ([far] : List Int) (PyData.int (0 : Int)) := ⟨rfl, by rw [both_bad2 T1 r3]; exact okx⟩
  have q3 : told3G (3 : Int) (w : Int) (ci f) ([far] : List Int) (PyData.int (0 : Int)) := ⟨rfl, by rw [inone_bad2 r0 r3]; exact okx⟩
  have q4 : told4G (4 : Int) (w : Int) (ci f) far (PyData.tuple []) := ⟨rfl, by rw [isin_bad2 r0 r3]; exact okxB⟩
  have q5 : told5G (5 : Int) (w : Int) (ci f) far (PyData.tuple []) := ⟨rfl, by rw [parts_bad2 r0 r3]; exact okx⟩
  have q6 : told6G (6 : Int) (w : Int) (ci f) far ([] : List Int) := ⟨rfl, by rw [are_bad2 r0 r3]; exact okxB⟩
  have a0' : told0 (0 : Int) (w : Int) (ci f ++ ([far] : List Int)) (PyData.int (0 : Int)) (PyData.tuple []) = rfd := by unfold told0; rw [span_bad r1]; rfl
  have a1' : told1 (1 : Int) (w : Int) (ci f ++ ([far] : List Int)) (PyData.int (0 : Int)) (PyData.tuple []) = rfd := by unfold told1; rw [across_bad r1]; rfl
  have a2' : told2b (2 : Int) (w : Int) (ci f ++ ([far] : List Int)) (0 : Int) (PyData.tuple []) = rfd := rfl
  have a3' : told3b (3 : Int) (w : Int) (ci f ++ ([far] : List Int)) (0 : Int) (PyData.tuple []) = rfd := rfl
  have a4' : told4 (4 : Int) (w : Int) (ci f ++ ([far] : List Int)) (0 : Int) (PyData.tuple []) = rfd := by unfold told4; rw [isin_bad r1]; rfl
  have a5' : told5 (5 : Int) (w : Int) (ci f ++ ([far] : List Int)) (0 : Int) (PyData.tuple []) = rfd := by unfold told5; rw [parts_bad r1]; rfl
  have a6' : told6 (6 : Int) (w : Int) (ci f ++ ([far] : List Int)) (0 : Int) ([] : List Int) = rfd := by unfold told6; rw [are_bad r1]; rfl
  have m0' : told0 (0 : Int) (w : Int) (ci f ++ ([(-(1 : Int))] : List Int)) (PyData.int (0 : Int)) (PyData.tuple []) = rfd := by unfold told0; rw [span_bad r2]; rfl
  have m1' : told1 (1 : Int) (w : Int) (ci f ++ ([(-(1 : Int))] : List Int)) (PyData.int (0 : Int)) (PyData.tuple []) = rfd := by unfold told1; rw [across_bad r2]; rfl
  have q2' : told2 (2 : Int) (w : Int) (ci f) ([far] : List Int) (PyData.int (0 : Int)) = rfd := by unfold told2; rw [both_bad2 T1 r3]; rfl
  have q3' : told3 (3 : Int) (w : Int) (ci f) ([far] : List Int) (PyData.int (0 : Int)) = rfd := by unfold told3; rw [inone_bad2 r0 r3]; rfl
  have q4' : told4 (4 : Int) (w : Int) (ci f) far (PyData.tuple []) = rfd := by unfold told4; rw [isin_bad2 r0 r3]; rfl
  have q5' : told5 (5 : Int) (w : Int) (ci f) far (PyData.tuple []) = rfd := by unfold told5; rw [parts_bad2 r0 r3]; rfl
  have q6' : told6 (6 : Int) (w : Int) (ci f) far ([] : List Int) = rfd := by unfold told6; rw [are_bad2 r0 r3]; rfl
  refine en_gd ⟨z1, a0, z1, a1, z1, a2, z1, a3, z1, a4, z1, a5, z1, a6, z2, m0, z2, m1, sz_of (by simp), q2, q3, sz_of (by simp), q4, q5, q6, sz_of (by simp)⟩ (en_let (a' := List.replicate 14 rfd) (by rw [a0', a1', a2', a3', a4', a5', a6', m0', m1', q2', q3', q4', q5', q6']; rfl) ?_)
  have d1 : (eL idD) ((cutD (List.replicate 14 rfd) none (some (2 : Int))) ++ (cutD (List.replicate 14 rfd) (some (4 : Int)) none)) = PyData.list (List.replicate 12 rfd) := rfl
  have d2 : (eL PyData.str) ((List.replicate (12 : Int).toNat ([("refused" : PySem.Str)] : List PySem.Str)).flatten) = PyData.list (List.replicate 12 rfd) := rfl
  have sR : Sm 1 ((List.replicate 12 rfd).length * (7 + 1)) (PyData.list (List.replicate 12 rfd)) := sm_lst (sm_all (k := 0) (N := 7) fun d hd => by rw [List.eq_of_mem_replicate hd]; exact sm_str ok_rfd (by decide +kernel))
  rw [d1, d2]
  refine en_gd ⟨sz_of (by decide), ⟨by decide, by decide, sz_of (by decide)⟩, ⟨sR.shp (by decide), sR.shp (by decide)⟩, fun _ => hrok⟩ (en_ok ⟨?_, by show c ≤ b; omega, by show b ≤ c + 200; omega⟩)
  rw [eqv_same sR.lay]
  simp
end
end K35
end
section
set_option Elab.async false
set_option linter.all false
set_option maxRecDepth 100000
set_option maxHeartbeats 4000000
/-! K35p: the law -/
namespace K35
open Mi
open PySem (PyData)
open PySem PySem.PyData
theorem bas_rep {a : Nat} (h : a ≠ 0) : ∀ n, bas (List.replicate (n + 1) a) = [a] := by
  intro n
  have s1 : stB [] a = [a] := by
    unfold stB
    rw [show lo [] a = a from rfl, if_neg h]
    simp [nxB, sortN]
  have s2 : stB [a] a = [a] := by
    unfold stB
    have : lo [a] a = 0 := by
      show (if a.testBit a.log2 = true then a ^^^ a else a) = 0
      rw [if_pos (Nat.testBit_log2 h), Nat.xor_self]
    rw [if_pos this]
  unfold bas
  rw [List.replicate_succ, List.foldl_cons, s1]
  induction n with
  | zero => rfl
  | succ n ih => rw [List.replicate_succ, List.foldl_cons, s2]; exact ih
def pows : List Nat := (List.range 16).map (2 ^ ·)
theorem acr_nil : acr 16 (bas []) = pows := by decide +kernel
theorem pows_red : Red pows.reverse := by
  unfold Red
  decide +kernel
theorem acrB_nil : acrB 16 [] = pows.reverse := by
  have h := bas_inv pows
  unfold acrB
  rw [acr_nil]
  refine red_uniq h.red pows_red h.srt (by decide +kernel) fun x => ?_
  rw [h.sp, sp_perm (List.reverse_perm pows)]
theorem pows_dn : ci pows.reverse = (irangeDn (15 : Int) (-(1 : Int))).map fun at_8 => ((1 : Int) * 2 ^ at_8.toNat) := by decide +kernel
theorem rows_widthbad {w : Int} {r : List Int} (h : w < 1 ∨ 16 < w) : T_check_rows w r = .exc 1 := by unfold T_check_rows; rw [width_bad h]; rfl
theorem span_badI {w : Int} {r : List Int} (h : T_check_rows w r = .exc 1) : T_span w r = .exc 1 := by unfold T_span; rw [h]; rfl
section
variable {nums : List Int}
abbrev due : List PyData := [tD (eT PyData.int ([(65535 : Int)] : List Int)), rfd, rfd, rfd, tD (eT PyData.int (ci pows.reverse)), tD (PyData.tuple []), PyData.int (60 : Int), PyData.int (16 : Int)]
theorem rok_due : Rok (.list [eL idD due]) := by
  have i : ∀ {i : Int}, i.natAbs < 10 ^ 12 → ∀ k, Sm k 41 (.int i) := fun h k => (sm_int h).mono (Nat.zero_le k) (Nat.le_refl _)
  have r : ∀ k, Sm k 7 rfd := fun k => (sm_str ok_rfd (by decide +kernel)).mono (Nat.zero_le k) (Nat.le_refl _)
  have a : Sm 2 (1 * 42 + 10) (tD (eT PyData.int ([(65535 : Int)] : List Int))) := sm_told (sm_ci (ns := [65535]) (L := 1) (by decide) (by decide))
  have b : Sm 2 (16 * 42 + 10) (tD (eT PyData.int (ci pows.reverse))) := sm_told (sm_ci (L := 16) (by decide +kernel) (by decide +kernel))
  have c : Sm 2 (0 * 42 + 10) (tD (PyData.tuple [])) := sm_told (sm_ci (ns := []) (L := 0) (by simp) (by simp))
  exact Sm.rok (k := 4) (N := 5000) ((sm_lst (sm_cons (sm_lst (sm_cons a (sm_cons (r 2) (sm_cons (r 2) (sm_cons (r 2) (sm_cons b (sm_cons c (sm_cons (i (by decide) 2) (sm_cons (i (by decide) 2) (sm_nil (N := 0)))))))))))  (sm_nil (N := 0)))).mono (Nat.le_refl _) (by decide)) (by decide) (by decide)
theorem law_ok (h0 : 0 < nums.length) (hN : nums.length < 10000) : Ends (fun p => p = true) (T_law nums) := by
  unfold T_law
  refine en_let rfl (en_forF (fun j b => 0 ≤ b ∧ b ≤ 200 * j) ⟨by omega, by omega⟩ (fun x hx j b hj hI => ?_) fun b _ => ?_)
  · have hj4 : j < 4 := by rw [len_irange] at hj; exact hj
    obtain ⟨p, e, hp1, hp2, hp3⟩ := fits_ok h0 hN (c := b) hI.1 (by omega)
    have ev : fitsV nums b = p := by unfold fitsV; rw [e]; rfl
    rw [ev]
    exact en_gd ⟨p, e⟩ (en_ifn (by rw [hp1]; simp) (en_ok ⟨p.2, rfl, by omega, by omega⟩))
  have e60 : (List.replicate (60 : Int).toNat ([(65535 : Int)] : List Int)).flatten = ci (List.replicate (59 + 1) 65535) := by decide +kernel
  have T0 : T_span (16 : Int) (List.replicate (60 : Int).toNat ([(65535 : Int)] : List Int)).flatten = .ok ([(65535 : Int)] : List Int) := by
    rw [e60]
    have := span_ok (w := 16) (rows := List.replicate (59 + 1) 65535) (by decide) (by decide) (by simp) (fun r hr => by rw [List.eq_of_mem_replicate hr]; decide)
    rw [bas_rep (by decide)] at this
    exact this
  have T1 : T_span (16 : Int) (List.replicate (61 : Int).toNat ([(1 : Int)] : List Int)).flatten = .exc 1 := span_badI (rows_long (w := 16) (by decide) (by decide) (by decide +kernel))
  have T2 : T_span (17 : Int) ([] : List Int) = .exc 1 := span_badI (rows_widthbad (.inr (by decide)))
  have T3 : T_across (0 : Int) ([] : List Int) = .exc 1 := across_bad (rows_widthbad (.inl (by decide)))
  have T4 : T_across (16 : Int) ([] : List Int) = .ok (ci pows.reverse) := by
    have := across_ok (w := 16) (rows := []) (by decide) (by decide) (by simp) (by simp)
    rw [acrB_nil] at this
    exact this
  have T5 : T_parts (2 : Int) ([] : List Int) (0 : Int) = .ok ([] : List Int) := by
    obtain ⟨⟨u, a⟩, _⟩ := parts_ok (w := 2) (rows := []) (g := 0) (by decide) (by decide) (by simp) (by simp) (by decide)
    exact (a .zero).2
  have k0 : told0 (0 : Int) (16 : Int) (List.replicate (60 : Int).toNat ([(65535 : Int)] : List Int)).flatten (PyData.int (0 : Int)) (PyData.int (0 : Int)) = tD (eT PyData.int ([(65535 : Int)] : List Int)) := by unfold told0; rw [T0]; rfl
  have k1 : told0 (0 : Int) (16 : Int) (List.replicate (61 : Int).toNat ([(1 : Int)] : List Int)).flatten (PyData.int (0 : Int)) (PyData.int (0 : Int)) = rfd := by unfold told0; rw [T1]; rfl
  have k2 : told0 (0 : Int) (17 : Int) ([] : List Int) (PyData.int (0 : Int)) (PyData.int (0 : Int)) = rfd := by unfold told0; rw [T2]; rfl
  have k3 : told1 (1 : Int) (0 : Int) ([] : List Int) (PyData.int (0 : Int)) (PyData.int (0 : Int)) = rfd := by unfold told1; rw [T3]; rfl
  have k4 : told1 (1 : Int) (16 : Int) ([] : List Int) (PyData.int (0 : Int)) (PyData.int (0 : Int)) = tD (eT PyData.int (ci pows.reverse)) := by unfold told1; rw [T4]; rfl
  have k5 : told5 (5 : Int) (2 : Int) ([] : List Int) (0 : Int) (PyData.int (0 : Int)) = tD (PyData.tuple []) := by unfold told5; rw [T5]; rfl
  refine en_gd ⟨⟨by decide, by decide, by decide, by decide⟩, ⟨rfl, by rw [T0]; trivial⟩, ⟨by decide, by decide, by decide, by decide⟩, ⟨rfl, by rw [T1]; exact okx⟩, ⟨rfl, by rw [T2]; exact okx⟩, ⟨rfl, by rw [T3]; exact okx⟩, ⟨rfl, by rw [T4]; trivial⟩, ⟨rfl, by rw [T5]; trivial⟩⟩ (en_let (a' := [tD (eT PyData.int ([(65535 : Int)] : List Int)), rfd, rfd, rfd, tD (eT PyData.int (ci pows.reverse)), tD (PyData.tuple [])]) (by rw [k0, k1, k2, k3, k4, k5]) ?_)
  rw [← pows_dn]
  refine en_gd ⟨sz_of (by decide), by decide +kernel, fun a ha => ?_, ⟨rfl, ?_⟩⟩ (en_ok rfl)
  · unfold irangeDn at ha
    obtain ⟨k, hk, rfl⟩ := List.mem_map.mp ha
    have := List.mem_range.mp hk
    have h16 : ((15 : Int) - (-(1 : Int))).toNat = 16 := rfl
    rw [h16] at this
    exact ⟨by omega, by omega, by decide⟩
  · exact rok_due
theorem law_true : ∀ ns : List Int, ns.length ≤ 63 → ∃ o, S_law [.dat (.list (ns.map .int))] = .ok (vB true) o := by
  intro ns hn
  obtain ⟨nums, es, hL, hL2, _⟩ := stream_ev ns hn
  obtain ⟨b, e, rfl⟩ := law_ok hL hL2
  exact ⟨_, sp_okR (t_law nums ns es) e⟩
end
end K35
end
section
set_option Elab.async false
set_option linter.all false
set_option maxRecDepth 100000
set_option maxHeartbeats 4000000
namespace K35
open PySem PySem.Spec PyProof.Rows L2 Mi
theorem all_mk {l : PySem.W.OpenLaw} {w : World} {K : PySem.W.Frag} {h : Heap} {mg : Str → Option Value} {fa : Addr} (X : K.In h) (N : h.Ns mainGlobals mg) (hfa : mg "law" = some (.ref fa))
    {C0 C1 C2 C3 C4 C5 : Addr} {f0 : Addr} {od0 an0 : Option Addr} {sl0 : Array (Option Value)} {oc0 kV0 dc0 pm0 cd0 ct0 : Value} {f1 : Addr} {od1 an1 : Option Addr} {sl1 : Array (Option Value)} {oc1 kV1 dc1 pm1 cd1 ct1 : Value} {f2 : Addr} {od2 an2 : Option Addr} {sl2 : Array (Option Value)} {oc2 kV2 dc2 pm2 cd2 ct2 : Value} {f3 : Addr} {od3 an3 : Option Addr} {sl3 : Array (Option Value)} {oc3 kV3 dc3 pm3 cd3 ct3 : Value} {f4 : Addr} {od4 an4 : Option Addr} {sl4 : Array (Option Value)} {oc4 kV4 dc4 pm4 cd4 ct4 : Value} {f5 : Addr} {od5 an5 : Option Addr} {sl5 : Array (Option Value)} {oc5 kV5 dc5 pm5 cd5 ct5 : Value} {f6 : Addr} {od6 an6 : Option Addr} {sl6 : Array (Option Value)} {oc6 kV6 dc6 pm6 cd6 ct6 : Value} {f7 : Addr} {od7 an7 : Option Addr} {sl7 : Array (Option Value)} {oc7 kV7 dc7 pm7 cd7 ct7 : Value} {f8 : Addr} {od8 an8 : Option Addr} {sl8 : Array (Option Value)} {oc8 kV8 dc8 pm8 cd8 ct8 : Value} {f9 : Addr} {od9 an9 : Option Addr} {sl9 : Array (Option Value)} {oc9 kV9 dc9 pm9 cd9 ct9 : Value} {f10 : Addr} {od10 an10 : Option Addr} {sl10 : Array (Option Value)} {oc10 kV10 dc10 pm10 cd10 ct10 : Value} {f11 : Addr} {od11 an11 : Option Addr} {sl11 : Array (Option Value)} {oc11 kV11 dc11 pm11 cd11 ct11 : Value} {f12 : Addr} {od12 an12 : Option Addr} {sl12 : Array (Option Value)} {oc12 kV12 dc12 pm12 cd12 ct12 : Value} {f13 : Addr} {od13 an13 : Option Addr} {sl13 : Array (Option Value)} {oc13 kV13 dc13 pm13 cd13 ct13 : Value} {f14 : Addr} {od14 an14 : Option Addr} {sl14 : Array (Option Value)} {oc14 kV14 dc14 pm14 cd14 ct14 : Value} {f15 : Addr} {od15 an15 : Option Addr} {sl15 : Array (Option Value)} {oc15 kV15 dc15 pm15 cd15 ct15 : Value} {f16 : Addr} {od16 an16 : Option Addr} {sl16 : Array (Option Value)} {oc16 kV16 dc16 pm16 cd16 ct16 : Value} {f17 : Addr} {od17 an17 : Option Addr} {sl17 : Array (Option Value)} {oc17 kV17 dc17 pm17 cd17 ct17 : Value} {f18 : Addr} {od18 an18 : Option Addr} {sl18 : Array (Option Value)} {oc18 kV18 dc18 pm18 cd18 ct18 : Value} {f19 : Addr} {od19 an19 : Option Addr} {sl19 : Array (Option Value)} {oc19 kV19 dc19 pm19 cd19 ct19 : Value} {f20 : Addr} {od20 an20 : Option Addr} {sl20 : Array (Option Value)} {oc20 kV20 dc20 pm20 cd20 ct20 : Value} {f21 : Addr} {od21 an21 : Option Addr} {sl21 : Array (Option Value)} {oc21 kV21 dc21 pm21 cd21 ct21 : Value} {f22 : Addr} {od22 an22 : Option Addr} {sl22 : Array (Option Value)} {oc22 kV22 dc22 pm22 cd22 ct22 : Value} {f23 : Addr} {od23 an23 : Option Addr} {sl23 : Array (Option Value)} {oc23 kV23 dc23 pm23 cd23 ct23 : Value} {f24 : Addr} {od24 an24 : Option Addr} {sl24 : Array (Option Value)} {oc24 kV24 dc24 pm24 cd24 ct24 : Value} {f25 : Addr} {od25 an25 : Option Addr} {sl25 : Array (Option Value)} {oc25 kV25 dc25 pm25 cd25 ct25 : Value}
    (a0 : PySem.W.nsIn K mainGlobals "check_width" = some (some (.ref f0))) (l0 : K.lookup f0 = some ⟨oc0, od0, .func (PySem.W.fnOf "check_width" "check_width" (defArgs s_check_width) (defBody s_check_width) (defScope s_check_width) .none kV0 dc0 pm0 an0 cd0 ct0), sl0⟩) (c0 : PySem.W.codeIn K cd0 "check_width" = true) (k0 : PySem.W.keepIn K (.ref f0) = true)
    (a1 : PySem.W.nsIn K mainGlobals "check_rows" = some (some (.ref f1))) (l1 : K.lookup f1 = some ⟨oc1, od1, .func (PySem.W.fnOf "check_rows" "check_rows" (defArgs s_check_rows) (defBody s_check_rows) (defScope s_check_rows) .none kV1 dc1 pm1 an1 cd1 ct1), sl1⟩) (c1 : PySem.W.codeIn K cd1 "check_rows" = true) (k1 : PySem.W.keepIn K (.ref f1) = true)
    (a2 : PySem.W.nsIn K mainGlobals "top_of" = some (some (.ref f2))) (l2 : K.lookup f2 = some ⟨oc2, od2, .func (PySem.W.fnOf "top_of" "top_of" (defArgs s_top_of) (defBody s_top_of) (defScope s_top_of) .none kV2 dc2 pm2 an2 cd2 ct2), sl2⟩) (c2 : PySem.W.codeIn K cd2 "top_of" = true) (k2 : PySem.W.keepIn K (.ref f2) = true)
    (a3 : PySem.W.nsIn K mainGlobals "left_over" = some (some (.ref f3))) (l3 : K.lookup f3 = some ⟨oc3, od3, .func (PySem.W.fnOf "left_over" "left_over" (defArgs s_left_over) (defBody s_left_over) (defScope s_left_over) .none kV3 dc3 pm3 an3 cd3 ct3), sl3⟩) (c3 : PySem.W.codeIn K cd3 "left_over" = true) (k3 : PySem.W.keepIn K (.ref f3) = true)
    (a4 : PySem.W.nsIn K mainGlobals "basis_of" = some (some (.ref f4))) (l4 : K.lookup f4 = some ⟨oc4, od4, .func (PySem.W.fnOf "basis_of" "basis_of" (defArgs s_basis_of) (defBody s_basis_of) (defScope s_basis_of) .none kV4 dc4 pm4 an4 cd4 ct4), sl4⟩) (c4 : PySem.W.codeIn K cd4 "basis_of" = true) (k4 : PySem.W.keepIn K (.ref f4) = true)
    (a5 : PySem.W.nsIn K mainGlobals "span" = some (some (.ref f5))) (l5 : K.lookup f5 = some ⟨oc5, od5, .func (PySem.W.fnOf "span" "span" (defArgs s_span) (defBody s_span) (defScope s_span) .none kV5 dc5 pm5 an5 cd5 ct5), sl5⟩) (c5 : PySem.W.codeIn K cd5 "span" = true) (k5 : PySem.W.keepIn K (.ref f5) = true)
    (a6 : PySem.W.nsIn K mainGlobals "is_in" = some (some (.ref f6))) (l6 : K.lookup f6 = some ⟨oc6, od6, .func (PySem.W.fnOf "is_in" "is_in" (defArgs s_is_in) (defBody s_is_in) (defScope s_is_in) .none kV6 dc6 pm6 an6 cd6 ct6), sl6⟩) (c6 : PySem.W.codeIn K cd6 "is_in" = true) (k6 : PySem.W.keepIn K (.ref f6) = true)
    (a7 : PySem.W.nsIn K mainGlobals "across" = some (some (.ref f7))) (l7 : K.lookup f7 = some ⟨oc7, od7, .func (PySem.W.fnOf "across" "across" (defArgs s_across) (defBody s_across) (defScope s_across) .none kV7 dc7 pm7 an7 cd7 ct7), sl7⟩) (c7 : PySem.W.codeIn K cd7 "across" = true) (k7 : PySem.W.keepIn K (.ref f7) = true)
    (a8 : PySem.W.nsIn K mainGlobals "in_both" = some (some (.ref f8))) (l8 : K.lookup f8 = some ⟨oc8, od8, .func (PySem.W.fnOf "in_both" "in_both" (defArgs s_in_both) (defBody s_in_both) (defScope s_in_both) .none kV8 dc8 pm8 an8 cd8 ct8), sl8⟩) (c8 : PySem.W.codeIn K cd8 "in_both" = true) (k8 : PySem.W.keepIn K (.ref f8) = true)
    (a9 : PySem.W.nsIn K mainGlobals "in_one" = some (some (.ref f9))) (l9 : K.lookup f9 = some ⟨oc9, od9, .func (PySem.W.fnOf "in_one" "in_one" (defArgs s_in_one) (defBody s_in_one) (defScope s_in_one) .none kV9 dc9 pm9 an9 cd9 ct9), sl9⟩) (c9 : PySem.W.codeIn K cd9 "in_one" = true) (k9 : PySem.W.keepIn K (.ref f9) = true)
    (a10 : PySem.W.nsIn K mainGlobals "parts_for" = some (some (.ref f10))) (l10 : K.lookup f10 = some ⟨oc10, od10, .func (PySem.W.fnOf "parts_for" "parts_for" (defArgs s_parts_for) (defBody s_parts_for) (defScope s_parts_for) .none kV10 dc10 pm10 an10 cd10 ct10), sl10⟩) (c10 : PySem.W.codeIn K cd10 "parts_for" = true) (k10 : PySem.W.keepIn K (.ref f10) = true)
    (a11 : PySem.W.nsIn K mainGlobals "parts" = some (some (.ref f11))) (l11 : K.lookup f11 = some ⟨oc11, od11, .func (PySem.W.fnOf "parts" "parts" (defArgs s_parts) (defBody s_parts) (defScope s_parts) .none kV11 dc11 pm11 an11 cd11 ct11), sl11⟩) (c11 : PySem.W.codeIn K cd11 "parts" = true) (k11 : PySem.W.keepIn K (.ref f11) = true)
    (a12 : PySem.W.nsIn K mainGlobals "are_parts" = some (some (.ref f12))) (l12 : K.lookup f12 = some ⟨oc12, od12, .func (PySem.W.fnOf "are_parts" "are_parts" (defArgs s_are_parts) (defBody s_are_parts) (defScope s_are_parts) .none kV12 dc12 pm12 an12 cd12 ct12), sl12⟩) (c12 : PySem.W.codeIn K cd12 "are_parts" = true) (k12 : PySem.W.keepIn K (.ref f12) = true)
    (a13 : PySem.W.nsIn K mainGlobals "_law_same" = some (some (.ref f13))) (l13 : K.lookup f13 = some ⟨oc13, od13, .func (PySem.W.fnOf "_law_same" "_law_same" (defArgs s__law_same) (defBody s__law_same) (defScope s__law_same) .none kV13 dc13 pm13 an13 cd13 ct13), sl13⟩) (c13 : PySem.W.codeIn K cd13 "_law_same" = true) (k13 : PySem.W.keepIn K (.ref f13) = true)
    (a14 : PySem.W.nsIn K mainGlobals "_law_stream" = some (some (.ref f14))) (l14 : K.lookup f14 = some ⟨oc14, od14, .func (PySem.W.fnOf "_law_stream" "_law_stream" (defArgs s__law_stream) (defBody s__law_stream) (defScope s__law_stream) .none kV14 dc14 pm14 an14 cd14 ct14), sl14⟩) (c14 : PySem.W.codeIn K cd14 "_law_stream" = true) (k14 : PySem.W.keepIn K (.ref f14) = true)
    (a15 : PySem.W.nsIn K mainGlobals "_law_next" = some (some (.ref f15))) (l15 : K.lookup f15 = some ⟨oc15, od15, .func (PySem.W.fnOf "_law_next" "_law_next" (defArgs s__law_next) (defBody s__law_next) (defScope s__law_next) .none kV15 dc15 pm15 an15 cd15 ct15), sl15⟩) (c15 : PySem.W.codeIn K cd15 "_law_next" = true) (k15 : PySem.W.keepIn K (.ref f15) = true)
    (a16 : PySem.W.nsIn K mainGlobals "_law_error" = some (some (.ref f16))) (l16 : K.lookup f16 = some ⟨oc16, od16, .func (PySem.W.fnOf "_law_error" "_law_error" (defArgs s__law_error) (defBody s__law_error) (defScope s__law_error) .none kV16 dc16 pm16 an16 cd16 ct16), sl16⟩) (c16 : PySem.W.codeIn K cd16 "_law_error" = true) (k16 : PySem.W.keepIn K (.ref f16) = true)
    (a17 : PySem.W.nsIn K mainGlobals "_law_span" = some (some (.ref f17))) (l17 : K.lookup f17 = some ⟨oc17, od17, .func (PySem.W.fnOf "_law_span" "_law_span" (defArgs s__law_span) (defBody s__law_span) (defScope s__law_span) .none kV17 dc17 pm17 an17 cd17 ct17), sl17⟩) (c17 : PySem.W.codeIn K cd17 "_law_span" = true) (k17 : PySem.W.keepIn K (.ref f17) = true)
    (a18 : PySem.W.nsIn K mainGlobals "_law_top" = some (some (.ref f18))) (l18 : K.lookup f18 = some ⟨oc18, od18, .func (PySem.W.fnOf "_law_top" "_law_top" (defArgs s__law_top) (defBody s__law_top) (defScope s__law_top) .none kV18 dc18 pm18 an18 cd18 ct18), sl18⟩) (c18 : PySem.W.codeIn K cd18 "_law_top" = true) (k18 : PySem.W.keepIn K (.ref f18) = true)
    (a19 : PySem.W.nsIn K mainGlobals "_law_odd" = some (some (.ref f19))) (l19 : K.lookup f19 = some ⟨oc19, od19, .func (PySem.W.fnOf "_law_odd" "_law_odd" (defArgs s__law_odd) (defBody s__law_odd) (defScope s__law_odd) .none kV19 dc19 pm19 an19 cd19 ct19), sl19⟩) (c19 : PySem.W.codeIn K cd19 "_law_odd" = true) (k19 : PySem.W.keepIn K (.ref f19) = true)
    (a20 : PySem.W.nsIn K mainGlobals "_law_some_rows" = some (some (.ref f20))) (l20 : K.lookup f20 = some ⟨oc20, od20, .func (PySem.W.fnOf "_law_some_rows" "_law_some_rows" (defArgs s__law_some_rows) (defBody s__law_some_rows) (defScope s__law_some_rows) .none kV20 dc20 pm20 an20 cd20 ct20), sl20⟩) (c20 : PySem.W.codeIn K cd20 "_law_some_rows" = true) (k20 : PySem.W.keepIn K (.ref f20) = true)
    (a21 : PySem.W.nsIn K mainGlobals "_law_told" = some (some (.ref f21))) (l21 : K.lookup f21 = some ⟨oc21, od21, .func (PySem.W.fnOf "_law_told" "_law_told" (defArgs s__law_told) (defBody s__law_told) (defScope s__law_told) .none kV21 dc21 pm21 an21 cd21 ct21), sl21⟩) (c21 : PySem.W.codeIn K cd21 "_law_told" = true) (k21 : PySem.W.keepIn K (.ref f21) = true)
    (a22 : PySem.W.nsIn K mainGlobals "_law_is_basis" = some (some (.ref f22))) (l22 : K.lookup f22 = some ⟨oc22, od22, .func (PySem.W.fnOf "_law_is_basis" "_law_is_basis" (defArgs s__law_is_basis) (defBody s__law_is_basis) (defScope s__law_is_basis) .none kV22 dc22 pm22 an22 cd22 ct22), sl22⟩) (c22 : PySem.W.codeIn K cd22 "_law_is_basis" = true) (k22 : PySem.W.keepIn K (.ref f22) = true)
    (a23 : PySem.W.nsIn K mainGlobals "_law_made" = some (some (.ref f23))) (l23 : K.lookup f23 = some ⟨oc23, od23, .func (PySem.W.fnOf "_law_made" "_law_made" (defArgs s__law_made) (defBody s__law_made) (defScope s__law_made) .none kV23 dc23 pm23 an23 cd23 ct23), sl23⟩) (c23 : PySem.W.codeIn K cd23 "_law_made" = true) (k23 : PySem.W.keepIn K (.ref f23) = true)
    (a24 : PySem.W.nsIn K mainGlobals "_law_fits" = some (some (.ref f24))) (l24 : K.lookup f24 = some ⟨oc24, od24, .func (PySem.W.fnOf "_law_fits" "_law_fits" (defArgs s__law_fits) (defBody s__law_fits) (defScope s__law_fits) .none kV24 dc24 pm24 an24 cd24 ct24), sl24⟩) (c24 : PySem.W.codeIn K cd24 "_law_fits" = true) (k24 : PySem.W.keepIn K (.ref f24) = true)
    (a25 : PySem.W.nsIn K mainGlobals "law" = some (some (.ref f25))) (l25 : K.lookup f25 = some ⟨oc25, od25, .func (PySem.W.fnOf "law" "law" (defArgs s_law) (defBody s_law) (defScope s_law) .none kV25 dc25 pm25 an25 cd25 ct25), sl25⟩) (c25 : PySem.W.codeIn K cd25 "law" = true) (k25 : PySem.W.keepIn K (.ref f25) = true)
    (xa0 : PySem.W.nsIn K mainGlobals "MaieuticError" = some (some (.ref C0))) (xe0 : PySem.W.excIn K C0 bmV "ValueError.__new__" = true) (xk0 : PySem.W.keepIn K (.ref C0) = true) (xb0 : PySem.W.subIn K (.ref C0) (.type "BaseException") = some true) (xt0 : PySem.W.typeIn K (.ref C0) = some (.type "type"))
    (xa1 : PySem.W.nsIn K mainGlobals "NotAllowed" = some (some (.ref C1))) (xe1 : PySem.W.excIn K C1 bmV "ValueError.__new__" = true) (xk1 : PySem.W.keepIn K (.ref C1) = true) (xb1 : PySem.W.subIn K (.ref C1) (.type "BaseException") = some true) (xt1 : PySem.W.typeIn K (.ref C1) = some (.type "type"))
    (xa2 : PySem.W.nsIn K mainGlobals "BadForm" = some (some (.ref C2))) (xe2 : PySem.W.excIn K C2 bmV "ValueError.__new__" = true) (xk2 : PySem.W.keepIn K (.ref C2) = true) (xb2 : PySem.W.subIn K (.ref C2) (.type "BaseException") = some true) (xt2 : PySem.W.typeIn K (.ref C2) = some (.type "type"))
    (xa3 : PySem.W.nsIn K mainGlobals "Missing" = some (some (.ref C3))) (xe3 : PySem.W.excIn K C3 bmV "ValueError.__new__" = true) (xk3 : PySem.W.keepIn K (.ref C3) = true) (xb3 : PySem.W.subIn K (.ref C3) (.type "BaseException") = some true) (xt3 : PySem.W.typeIn K (.ref C3) = some (.type "type"))
    (xa4 : PySem.W.nsIn K mainGlobals "Alike" = some (some (.ref C4))) (xe4 : PySem.W.excIn K C4 bmV "ValueError.__new__" = true) (xk4 : PySem.W.keepIn K (.ref C4) = true) (xb4 : PySem.W.subIn K (.ref C4) (.type "BaseException") = some true) (xt4 : PySem.W.typeIn K (.ref C4) = some (.type "type"))
    (xa5 : PySem.W.nsIn K mainGlobals "Wrong" = some (some (.ref C5))) (xe5 : PySem.W.excIn K C5 bmV "ValueError.__new__" = true) (xk5 : PySem.W.keepIn K (.ref C5) = true) (xb5 : PySem.W.subIn K (.ref C5) (.type "BaseException") = some true) (xt5 : PySem.W.typeIn K (.ref C5) = some (.type "type"))
    (yg1 : PySem.W.findIn K (.ref C1) "__getattribute__" = some (some (.builtin "BaseException.__getattribute__"))) (yh1 : PySem.W.findIn K (.ref C1) "__getattr__" = some none) (yd1 : PySem.W.hasDictIn K C1 = true) (ya1 : PySem.W.findIn K (.ref C1) "__class__" = some (some (.builtin "object.__class__"))) (ym1 : PySem.W.mroIn K C1 (.type "object") = some true) (yx1 : PySem.W.subIn K (.ref C1) (.ref C0) = some true)
    (yg2 : PySem.W.findIn K (.ref C2) "__getattribute__" = some (some (.builtin "BaseException.__getattribute__"))) (yh2 : PySem.W.findIn K (.ref C2) "__getattr__" = some none) (yd2 : PySem.W.hasDictIn K C2 = true) (ya2 : PySem.W.findIn K (.ref C2) "__class__" = some (some (.builtin "object.__class__"))) (ym2 : PySem.W.mroIn K C2 (.type "object") = some true) (yx2 : PySem.W.subIn K (.ref C2) (.ref C0) = some true)
    (yg3 : PySem.W.findIn K (.ref C3) "__getattribute__" = some (some (.builtin "BaseException.__getattribute__"))) (yh3 : PySem.W.findIn K (.ref C3) "__getattr__" = some none) (yd3 : PySem.W.hasDictIn K C3 = true) (ya3 : PySem.W.findIn K (.ref C3) "__class__" = some (some (.builtin "object.__class__"))) (ym3 : PySem.W.mroIn K C3 (.type "object") = some true) (yx3 : PySem.W.subIn K (.ref C3) (.ref C0) = some true)
    (yg4 : PySem.W.findIn K (.ref C4) "__getattribute__" = some (some (.builtin "BaseException.__getattribute__"))) (yh4 : PySem.W.findIn K (.ref C4) "__getattr__" = some none) (yd4 : PySem.W.hasDictIn K C4 = true) (ya4 : PySem.W.findIn K (.ref C4) "__class__" = some (some (.builtin "object.__class__"))) (ym4 : PySem.W.mroIn K C4 (.type "object") = some true) (yx4 : PySem.W.subIn K (.ref C4) (.ref C0) = some true)
    (yg5 : PySem.W.findIn K (.ref C5) "__getattribute__" = some (some (.builtin "BaseException.__getattribute__"))) (yh5 : PySem.W.findIn K (.ref C5) "__getattr__" = some none) (yd5 : PySem.W.hasDictIn K C5 = true) (ya5 : PySem.W.findIn K (.ref C5) "__class__" = some (some (.builtin "object.__class__"))) (ym5 : PySem.W.mroIn K C5 (.type "object") = some true) (yx5 : PySem.W.subIn K (.ref C5) (.ref C0) = some true)
    (yn : PySem.W.specialIn K (.builtin "object.__class__") "__get__" = some (some (.builtin "getset_descriptor.__get__"))) (yt : PySem.W.takesIn K (.builtin "object.__class__") = some true) (yd0 : PySem.W.hasDictIn K C0 = true) (nz : [C1, C2, C3, C4, C5].Nodup)
    (z12 : PySem.W.subIn K (.ref C1) (.ref C2) = some false)
    (z13 : PySem.W.subIn K (.ref C1) (.ref C3) = some false)
    (z14 : PySem.W.subIn K (.ref C1) (.ref C4) = some false)
    (z15 : PySem.W.subIn K (.ref C1) (.ref C5) = some false)
    (z21 : PySem.W.subIn K (.ref C2) (.ref C1) = some false)
    (z23 : PySem.W.subIn K (.ref C2) (.ref C3) = some false)
    (z24 : PySem.W.subIn K (.ref C2) (.ref C4) = some false)
    (z25 : PySem.W.subIn K (.ref C2) (.ref C5) = some false)
    (z31 : PySem.W.subIn K (.ref C3) (.ref C1) = some false)
    (z32 : PySem.W.subIn K (.ref C3) (.ref C2) = some false)
    (z34 : PySem.W.subIn K (.ref C3) (.ref C4) = some false)
    (z35 : PySem.W.subIn K (.ref C3) (.ref C5) = some false)
    (z41 : PySem.W.subIn K (.ref C4) (.ref C1) = some false)
    (z42 : PySem.W.subIn K (.ref C4) (.ref C2) = some false)
    (z43 : PySem.W.subIn K (.ref C4) (.ref C3) = some false)
    (z45 : PySem.W.subIn K (.ref C4) (.ref C5) = some false)
    (z51 : PySem.W.subIn K (.ref C5) (.ref C1) = some false)
    (z52 : PySem.W.subIn K (.ref C5) (.ref C2) = some false)
    (z53 : PySem.W.subIn K (.ref C5) (.ref C3) = some false)
    (z54 : PySem.W.subIn K (.ref C5) (.ref C4) = some false)
    (b_list : PySem.W.nsIn K mainGlobals "list" = some none)
    (b_sorted : PySem.W.nsIn K mainGlobals "sorted" = some none)
    (b_set : PySem.W.nsIn K mainGlobals "set" = some none)
    (b_all : PySem.W.nsIn K mainGlobals "all" = some none)
    (b_any : PySem.W.nsIn K mainGlobals "any" = some none)
    (b_tuple : PySem.W.nsIn K mainGlobals "tuple" = some none)
    (b_len : PySem.W.nsIn K mainGlobals "len" = some none)
    (b_abs : PySem.W.nsIn K mainGlobals "abs" = some none)
    (b_int : PySem.W.nsIn K mainGlobals "int" = some none)
    (b_range : PySem.W.nsIn K mainGlobals "range" = some none)
    (b_repr : PySem.W.nsIn K mainGlobals "repr" = some none)
    (b_sum : PySem.W.nsIn K mainGlobals "sum" = some none)
    (b_isinstance : PySem.W.nsIn K mainGlobals "isinstance" = some none)
    (b_max : PySem.W.nsIn K mainGlobals "max" = some none)
    (b_min : PySem.W.nsIn K mainGlobals "min" = some none)
    (b_zip : PySem.W.nsIn K mainGlobals "zip" = some none)
    (b_enumerate : PySem.W.nsIn K mainGlobals "enumerate" = some none)
    {tk_MAX_WIDTH : Tok} (g_MAX_WIDTH : PySem.W.nsIn K mainGlobals "MAX_WIDTH" = some (some (.int 16 tk_MAX_WIDTH)))
    {tk_MAX_SHOWN_ROWS : Tok} (g_MAX_SHOWN_ROWS : PySem.W.nsIn K mainGlobals "MAX_SHOWN_ROWS" = some (some (.int 60 tk_MAX_SHOWN_ROWS)))
    : ∃ fd : FuncData, (∀ (s : Shared) (v : Value), BindsTo s fd ⟨[v], []⟩ [("script", v)]) ∧ ∀ base : Heap, K.In base → base.Ns mainGlobals mg → FnG l.prog w K mg base 40 fa fd ["script"] (spV ⟨K, w, eaOf C0 C1 C2 C3 C4 C5, fun _ => 0⟩ [false] S_law) := by
  have e := hfa.symm.trans (PySem.W.mg_of X N a25)
  cases e
  have B : NoG mg blts := nog_in X N (nog_cons b_list (nog_cons b_sorted (nog_cons b_set (nog_cons b_all (nog_cons b_any (nog_cons b_tuple (nog_cons b_len (nog_cons b_abs (nog_cons b_int (nog_cons b_range (nog_cons b_repr (nog_cons b_sum (nog_cons b_isinstance (nog_cons b_max (nog_cons b_min (nog_cons b_zip (nog_cons b_enumerate nog_nil)))))))))))))))))
  have x_MaieuticError : Exc1 K mg "MaieuticError" C0 := exc_in X N xa0 xe0 xk0 xb0 xt0
  have x_NotAllowed : Exc1 K mg "NotAllowed" C1 := exc_in X N xa1 xe1 xk1 xb1 xt1
  have x_BadForm : Exc1 K mg "BadForm" C2 := exc_in X N xa2 xe2 xk2 xb2 xt2
  have x_Missing : Exc1 K mg "Missing" C3 := exc_in X N xa3 xe3 xk3 xb3 xt3
  have x_Alike : Exc1 K mg "Alike" C4 := exc_in X N xa4 xe4 xk4 xb4 xt4
  have x_Wrong : Exc1 K mg "Wrong" C5 := exc_in X N xa5 xe5 xk5 xb5 xt5
  have T_MAX_WIDTH : ∃ t, mg "MAX_WIDTH" = some (Value.int 16 t) := ⟨_, PySem.W.mg_of X N g_MAX_WIDTH⟩
  have T_MAX_SHOWN_ROWS : ∃ t, mg "MAX_SHOWN_ROWS" = some (Value.int 60 t) := ⟨_, PySem.W.mg_of X N g_MAX_SHOWN_ROWS⟩
  have XC : ∀ c, 0 < c → c < 6 → ExcC K (eaOf C0 C1 C2 C3 C4 C5 c) := fun c h1 h2 => by
    have : c = 1 ∨ c = 2 ∨ c = 3 ∨ c = 4 ∨ c = 5 := by omega
    rcases this with rfl | rfl | rfl | rfl | rfl
    · exact ⟨yg1, yh1, xb1, yd1, ya1, yn, yt, ym1⟩
    · exact ⟨yg2, yh2, xb2, yd2, ya2, yn, yt, ym2⟩
    · exact ⟨yg3, yh3, xb3, yd3, ya3, yn, yt, ym3⟩
    · exact ⟨yg4, yh4, xb4, yd4, ya4, yn, yt, ym4⟩
    · exact ⟨yg5, yh5, xb5, yd5, ya5, yn, yt, ym5⟩
  have kit : ∀ i j, i < 6 → j < 6 → 0 < i → 0 < j → PySem.W.kitOne K (.ref (eaOf C0 C1 C2 C3 C4 C5 i)) (.ref (eaOf C0 C1 C2 C3 C4 C5 j)) = some (decide (i = j)) := fun i j h1 h2 h3 h4 => by
    have hi : i = 1 ∨ i = 2 ∨ i = 3 ∨ i = 4 ∨ i = 5 := by omega
    have hj : j = 1 ∨ j = 2 ∨ j = 3 ∨ j = 4 ∨ j = 5 := by omega
    rcases hi with rfl | rfl | rfl | rfl | rfl <;> rcases hj with rfl | rfl | rfl | rfl | rfl
    · exact kit_same
    · exact kit_no (nd_ne nz 0 1 rfl rfl (by decide)) yd2 xt2 z12
    · exact kit_no (nd_ne nz 0 2 rfl rfl (by decide)) yd3 xt3 z13
    · exact kit_no (nd_ne nz 0 3 rfl rfl (by decide)) yd4 xt4 z14
    · exact kit_no (nd_ne nz 0 4 rfl rfl (by decide)) yd5 xt5 z15
    · exact kit_no (nd_ne nz 1 0 rfl rfl (by decide)) yd1 xt1 z21
    · exact kit_same
    · exact kit_no (nd_ne nz 1 2 rfl rfl (by decide)) yd3 xt3 z23
    · exact kit_no (nd_ne nz 1 3 rfl rfl (by decide)) yd4 xt4 z24
    · exact kit_no (nd_ne nz 1 4 rfl rfl (by decide)) yd5 xt5 z25
    · exact kit_no (nd_ne nz 2 0 rfl rfl (by decide)) yd1 xt1 z31
    · exact kit_no (nd_ne nz 2 1 rfl rfl (by decide)) yd2 xt2 z32
    · exact kit_same
    · exact kit_no (nd_ne nz 2 3 rfl rfl (by decide)) yd4 xt4 z34
    · exact kit_no (nd_ne nz 2 4 rfl rfl (by decide)) yd5 xt5 z35
    · exact kit_no (nd_ne nz 3 0 rfl rfl (by decide)) yd1 xt1 z41
    · exact kit_no (nd_ne nz 3 1 rfl rfl (by decide)) yd2 xt2 z42
    · exact kit_no (nd_ne nz 3 2 rfl rfl (by decide)) yd3 xt3 z43
    · exact kit_same
    · exact kit_no (nd_ne nz 3 4 rfl rfl (by decide)) yd5 xt5 z45
    · exact kit_no (nd_ne nz 4 0 rfl rfl (by decide)) yd1 xt1 z51
    · exact kit_no (nd_ne nz 4 1 rfl rfl (by decide)) yd2 xt2 z52
    · exact kit_no (nd_ne nz 4 2 rfl rfl (by decide)) yd3 xt3 z53
    · exact kit_no (nd_ne nz 4 3 rfl rfl (by decide)) yd4 xt4 z54
    · exact kit_same
  have er_sub : ∀ c t, errR c = some t → PySem.W.exmOne K (.ref (eaOf C0 C1 C2 C3 C4 C5 c)) (.ref (eaOf C0 C1 C2 C3 C4 C5 0)) = some true := fun c t hr => by
    have hc := errR_lt hr
    have : c = 1 ∨ c = 2 ∨ c = 3 ∨ c = 4 ∨ c = 5 := by omega
    rcases this with rfl | rfl | rfl | rfl | rfl
    · exact PySem.W.exm_ref xb0 yd0 xt0 yx1
    · exact PySem.W.exm_ref xb0 yd0 xt0 yx2
    · exact PySem.W.exm_ref xb0 yd0 xt0 yx3
    · exact PySem.W.exm_ref xb0 yd0 xt0 yx4
    · exact PySem.W.exm_ref xb0 yd0 xt0 yx5
  have d_check_width : Def ⟨K, w, eaOf C0 C1 C2 C3 C4 C5, fun _ => 0⟩ mg "check_width" s_check_width ["width"] := def_in X N a0 l0 c0 k0 fun _ _ _ _ _ _ us hl => match us, hl with | [_], _ => rfl
  have d_check_rows : Def ⟨K, w, eaOf C0 C1 C2 C3 C4 C5, fun _ => 0⟩ mg "check_rows" s_check_rows ["width", "rows"] := def_in X N a1 l1 c1 k1 fun _ _ _ _ _ _ us hl => match us, hl with | [_, _], _ => rfl
  have d_top_of : Def ⟨K, w, eaOf C0 C1 C2 C3 C4 C5, fun _ => 0⟩ mg "top_of" s_top_of ["row"] := def_in X N a2 l2 c2 k2 fun _ _ _ _ _ _ us hl => match us, hl with | [_], _ => rfl
  have d_left_over : Def ⟨K, w, eaOf C0 C1 C2 C3 C4 C5, fun _ => 0⟩ mg "left_over" s_left_over ["basis", "row"] := def_in X N a3 l3 c3 k3 fun _ _ _ _ _ _ us hl => match us, hl with | [_, _], _ => rfl
  have d_basis_of : Def ⟨K, w, eaOf C0 C1 C2 C3 C4 C5, fun _ => 0⟩ mg "basis_of" s_basis_of ["rows"] := def_in X N a4 l4 c4 k4 fun _ _ _ _ _ _ us hl => match us, hl with | [_], _ => rfl
  have d_span : Def ⟨K, w, eaOf C0 C1 C2 C3 C4 C5, fun _ => 0⟩ mg "span" s_span ["width", "rows"] := def_in X N a5 l5 c5 k5 fun _ _ _ _ _ _ us hl => match us, hl with | [_, _], _ => rfl
  have d_is_in : Def ⟨K, w, eaOf C0 C1 C2 C3 C4 C5, fun _ => 0⟩ mg "is_in" s_is_in ["width", "rows", "row"] := def_in X N a6 l6 c6 k6 fun _ _ _ _ _ _ us hl => match us, hl with | [_, _, _], _ => rfl
  have d_across : Def ⟨K, w, eaOf C0 C1 C2 C3 C4 C5, fun _ => 0⟩ mg "across" s_across ["width", "rows"] := def_in X N a7 l7 c7 k7 fun _ _ _ _ _ _ us hl => match us, hl with | [_, _], _ => rfl
  have d_in_both : Def ⟨K, w, eaOf C0 C1 C2 C3 C4 C5, fun _ => 0⟩ mg "in_both" s_in_both ["width", "first", "second"] := def_in X N a8 l8 c8 k8 fun _ _ _ _ _ _ us hl => match us, hl with | [_, _, _], _ => rfl
  have d_in_one : Def ⟨K, w, eaOf C0 C1 C2 C3 C4 C5, fun _ => 0⟩ mg "in_one" s_in_one ["width", "first", "second"] := def_in X N a9 l9 c9 k9 fun _ _ _ _ _ _ us hl => match us, hl with | [_, _, _], _ => rfl
  have d_parts_for : Def ⟨K, w, eaOf C0 C1 C2 C3 C4 C5, fun _ => 0⟩ mg "parts_for" s_parts_for ["rows", "goal"] := def_in X N a10 l10 c10 k10 fun _ _ _ _ _ _ us hl => match us, hl with | [_, _], _ => rfl
  have d_parts : Def ⟨K, w, eaOf C0 C1 C2 C3 C4 C5, fun _ => 0⟩ mg "parts" s_parts ["width", "rows", "goal"] := def_in X N a11 l11 c11 k11 fun _ _ _ _ _ _ us hl => match us, hl with | [_, _, _], _ => rfl
  have d_are_parts : Def ⟨K, w, eaOf C0 C1 C2 C3 C4 C5, fun _ => 0⟩ mg "are_parts" s_are_parts ["width", "rows", "goal", "places"] := def_in X N a12 l12 c12 k12 fun _ _ _ _ _ _ us hl => match us, hl with | [_, _, _, _], _ => rfl
  have d__law_same : Def ⟨K, w, eaOf C0 C1 C2 C3 C4 C5, fun _ => 0⟩ mg "_law_same" s__law_same ["told", "due"] := def_in X N a13 l13 c13 k13 fun _ _ _ _ _ _ us hl => match us, hl with | [_, _], _ => rfl
  have d__law_stream : Def ⟨K, w, eaOf C0 C1 C2 C3 C4 C5, fun _ => 0⟩ mg "_law_stream" s__law_stream ["script"] := def_in X N a14 l14 c14 k14 fun _ _ _ _ _ _ us hl => match us, hl with | [_], _ => rfl
  have d__law_next : Def ⟨K, w, eaOf C0 C1 C2 C3 C4 C5, fun _ => 0⟩ mg "_law_next" s__law_next ["state", "many"] := def_in X N a15 l15 c15 k15 fun _ _ _ _ _ _ us hl => match us, hl with | [_, _], _ => rfl
  have d__law_error : Def ⟨K, w, eaOf C0 C1 C2 C3 C4 C5, fun _ => 0⟩ mg "_law_error" s__law_error ["e"] := def_in X N a16 l16 c16 k16 fun _ _ _ _ _ _ us hl => match us, hl with | [_], _ => rfl
  have d__law_span : Def ⟨K, w, eaOf C0 C1 C2 C3 C4 C5, fun _ => 0⟩ mg "_law_span" s__law_span ["rows"] := def_in X N a17 l17 c17 k17 fun _ _ _ _ _ _ us hl => match us, hl with | [_], _ => rfl
  have d__law_top : Def ⟨K, w, eaOf C0 C1 C2 C3 C4 C5, fun _ => 0⟩ mg "_law_top" s__law_top ["row"] := def_in X N a18 l18 c18 k18 fun _ _ _ _ _ _ us hl => match us, hl with | [_], _ => rfl
  have d__law_odd : Def ⟨K, w, eaOf C0 C1 C2 C3 C4 C5, fun _ => 0⟩ mg "_law_odd" s__law_odd ["row"] := def_in X N a19 l19 c19 k19 fun _ _ _ _ _ _ us hl => match us, hl with | [_], _ => rfl
  have d__law_some_rows : Def ⟨K, w, eaOf C0 C1 C2 C3 C4 C5, fun _ => 0⟩ mg "_law_some_rows" s__law_some_rows ["state", "width", "most"] := def_in X N a20 l20 c20 k20 fun _ _ _ _ _ _ us hl => match us, hl with | [_, _, _], _ => rfl
  have d__law_told : Def ⟨K, w, eaOf C0 C1 C2 C3 C4 C5, fun _ => 0⟩ mg "_law_told" s__law_told ["kind", "width", "rows", "one", "two"] := def_in X N a21 l21 c21 k21 fun _ _ _ _ _ _ us hl => match us, hl with | [_, _, _, _, _], _ => rfl
  have d__law_is_basis : Def ⟨K, w, eaOf C0 C1 C2 C3 C4 C5, fun _ => 0⟩ mg "_law_is_basis" s__law_is_basis ["told", "rows"] := def_in X N a22 l22 c22 k22 fun _ _ _ _ _ _ us hl => match us, hl with | [_, _], _ => rfl
  have d__law_made : Def ⟨K, w, eaOf C0 C1 C2 C3 C4 C5, fun _ => 0⟩ mg "_law_made" s__law_made ["rows", "goal", "places"] := def_in X N a23 l23 c23 k23 fun _ _ _ _ _ _ us hl => match us, hl with | [_, _, _], _ => rfl
  have d__law_fits : Def ⟨K, w, eaOf C0 C1 C2 C3 C4 C5, fun _ => 0⟩ mg "_law_fits" s__law_fits ["state"] := def_in X N a24 l24 c24 k24 fun _ _ _ _ _ _ us hl => match us, hl with | [_], _ => rfl
  refine ⟨PySem.W.fnOf "law" "law" (defArgs s_law) (defBody s_law) (defScope s_law) .none kV25 dc25 pm25 an25 cd25 ct25, fun s v => .of_eq rfl, fun base _ _ => ?_⟩
  have c_check_width := (k_check_width (P := l.prog) (base := base) d_check_width x_NotAllowed T_MAX_WIDTH).imp e_check_width
  have c_check_rows := (k_check_rows (P := l.prog) (base := base) d_check_rows B c_check_width x_NotAllowed T_MAX_SHOWN_ROWS).imp e_check_rows
  have c_top_of := (k_top_of (P := l.prog) (base := base) d_top_of ).imp e_top_of
  have c_left_over := (k_left_over (P := l.prog) (base := base) d_left_over c_top_of).imp e_left_over
  have c_basis_of := (k_basis_of (P := l.prog) (base := base) d_basis_of B c_top_of c_left_over).imp e_basis_of
  have c_span := (k_span (P := l.prog) (base := base) d_span c_basis_of c_check_rows).imp e_span
  have c_is_in := (k_is_in (P := l.prog) (base := base) d_is_in c_left_over c_basis_of c_check_rows).imp e_is_in
  have c_across := (k_across (P := l.prog) (base := base) d_across B c_basis_of c_top_of c_check_rows).imp e_across
  have c_in_both := (k_in_both (P := l.prog) (base := base) d_in_both c_across).imp e_in_both
  have c_in_one := (k_in_one (P := l.prog) (base := base) d_in_one c_basis_of c_check_rows).imp e_in_one
  have c_parts_for := (k_parts_for (P := l.prog) (base := base) d_parts_for B c_top_of).imp e_parts_for
  have c_parts := (k_parts (P := l.prog) (base := base) d_parts c_parts_for c_check_rows x_Missing).imp e_parts
  have c_are_parts := (k_are_parts (P := l.prog) (base := base) d_are_parts B c_check_rows).imp e_are_parts
  have c__law_same := (k__law_same (P := l.prog) (base := base) d__law_same B).imp e__law_same
  have c__law_stream := (k__law_stream (P := l.prog) (base := base) d__law_stream B).imp e__law_stream
  have c__law_next := (k__law_next (P := l.prog) (base := base) d__law_next B).imp e__law_next
  have er__law_error := k__law_error (P := l.prog) (base := base) d__law_error B x_NotAllowed x_BadForm x_Missing x_Alike x_Wrong XC kit
  have c__law_span := (k__law_span (P := l.prog) (base := base) d__law_span B).imp e__law_span
  have c__law_top := (k__law_top (P := l.prog) (base := base) d__law_top B).imp e__law_top
  have c__law_odd := (k__law_odd (P := l.prog) (base := base) d__law_odd B).imp e__law_odd
  have c__law_some_rows := (k__law_some_rows (P := l.prog) (base := base) d__law_some_rows B c__law_next).imp e__law_some_rows
  have c__law_told := (k__law_told (P := l.prog) (base := base) d__law_told c_are_parts c_in_both c_in_one c_is_in c_parts c_span c_across x_MaieuticError er__law_error er_sub).imp e__law_told
  have c__law_is_basis := (k__law_is_basis (P := l.prog) (base := base) d__law_is_basis B c__law_span c__law_top).imp e__law_is_basis
  have c__law_made := (k__law_made (P := l.prog) (base := base) d__law_made B).imp e__law_made
  have c__law_fits := (k__law_fits (P := l.prog) (base := base) d__law_fits B c__law_told c__law_same c__law_made c__law_next c_across c__law_is_basis c__law_span c__law_odd c__law_some_rows).imp e__law_fits
  exact (spec_imp (k_law (P := l.prog) (base := base) (G := ⟨K, w, eaOf C0 C1 C2 C3 C4 C5, fun _ => 0⟩) (fun_mk l25 c25 k25) B c__law_same c__law_told c__law_fits c__law_stream T_MAX_WIDTH T_MAX_SHOWN_ROWS) e_law).mono (by decide)
end K35

open PySem PySem.W PyProof.Rows in
set_option maxRecDepth 100000 in
set_option maxHeartbeats 0 in
theorem PySem.Challenge.cw_askcraft_k35_whole_spans_holds : PySem.Challenge.rw_askcraft_k35_whole_spans.Holds := by
  w_on; o_law; k_head; (case hw => w_witness2)
  k_fill
  refine Mi.walk_G (l := PySem.Challenge.rw_askcraft_k35_whole_spans) (k := 40) (x := "script") (S := K35.S_law) (ea := fun _ => Mi.eaOf 24 37 49 61 73 85) (cl := fun _ _ => 0) rfl rfl ⟨rfl, by decide, by decide⟩ (fun w h Y => PySem.W.kIn_of Y) ?F K35.law_true
  case F =>
    intro w mg fa h KX G hmg
    refine' K35.all_mk KX G hmg ?a0 ?l0 ?c0 ?k0 ?a1 ?l1 ?c1 ?k1 ?a2 ?l2 ?c2 ?k2 ?a3 ?l3 ?c3 ?k3 ?a4 ?l4 ?c4 ?k4 ?a5 ?l5 ?c5 ?k5 ?a6 ?l6 ?c6 ?k6 ?a7 ?l7 ?c7 ?k7 ?a8 ?l8 ?c8 ?k8 ?a9 ?l9 ?c9 ?k9 ?a10 ?l10 ?c10 ?k10 ?a11 ?l11 ?c11 ?k11 ?a12 ?l12 ?c12 ?k12 ?a13 ?l13 ?c13 ?k13 ?a14 ?l14 ?c14 ?k14 ?a15 ?l15 ?c15 ?k15 ?a16 ?l16 ?c16 ?k16 ?a17 ?l17 ?c17 ?k17 ?a18 ?l18 ?c18 ?k18 ?a19 ?l19 ?c19 ?k19 ?a20 ?l20 ?c20 ?k20 ?a21 ?l21 ?c21 ?k21 ?a22 ?l22 ?c22 ?k22 ?a23 ?l23 ?c23 ?k23 ?a24 ?l24 ?c24 ?k24 ?a25 ?l25 ?c25 ?k25 ?xa0 ?xe0 ?xk0 ?xb0 ?xt0 ?xa1 ?xe1 ?xk1 ?xb1 ?xt1 ?xa2 ?xe2 ?xk2 ?xb2 ?xt2 ?xa3 ?xe3 ?xk3 ?xb3 ?xt3 ?xa4 ?xe4 ?xk4 ?xb4 ?xt4 ?xa5 ?xe5 ?xk5 ?xb5 ?xt5 ?yg1 ?yh1 ?yd1 ?ya1 ?ym1 ?yx1 ?yg2 ?yh2 ?yd2 ?ya2 ?ym2 ?yx2 ?yg3 ?yh3 ?yd3 ?ya3 ?ym3 ?yx3 ?yg4 ?yh4 ?yd4 ?ya4 ?ym4 ?yx4 ?yg5 ?yh5 ?yd5 ?ya5 ?ym5 ?yx5 ?yn ?yt ?yd0 ?nz ?z12 ?z13 ?z14 ?z15 ?z21 ?z23 ?z24 ?z25 ?z31 ?z32 ?z34 ?z35 ?z41 ?z42 ?z43 ?z45 ?z51 ?z52 ?z53 ?z54 ?b_list ?b_sorted ?b_set ?b_all ?b_any ?b_tuple ?b_len ?b_abs ?b_int ?b_range ?b_repr ?b_sum ?b_isinstance ?b_max ?b_min ?b_zip ?b_enumerate ?g_MAX_WIDTH ?g_MAX_SHOWN_ROWS
    (case a0 => k_is)
    (case l0 => k_is)
    (case c0 => k_is)
    (case k0 => k_is)
    (case a1 => k_is)
    (case l1 => k_is)
    (case c1 => k_is)
    (case k1 => k_is)
    (case a2 => k_is)
    (case l2 => k_is)
    (case c2 => k_is)
    (case k2 => k_is)
    (case a3 => k_is)
    (case l3 => k_is)
    (case c3 => k_is)
    (case k3 => k_is)
    (case a4 => k_is)
    (case l4 => k_is)
    (case c4 => k_is)
    (case k4 => k_is)
    (case a5 => k_is)
    (case l5 => k_is)
    (case c5 => k_is)
    (case k5 => k_is)
    (case a6 => k_is)
    (case l6 => k_is)
    (case c6 => k_is)
    (case k6 => k_is)
    (case a7 => k_is)
    (case l7 => k_is)
    (case c7 => k_is)
    (case k7 => k_is)
    (case a8 => k_is)
    (case l8 => k_is)
    (case c8 => k_is)
    (case k8 => k_is)
    (case a9 => k_is)
    (case l9 => k_is)
    (case c9 => k_is)
    (case k9 => k_is)
    (case a10 => k_is)
    (case l10 => k_is)
    (case c10 => k_is)
    (case k10 => k_is)
    (case a11 => k_is)
    (case l11 => k_is)
    (case c11 => k_is)
    (case k11 => k_is)
    (case a12 => k_is)
    (case l12 => k_is)
    (case c12 => k_is)
    (case k12 => k_is)
    (case a13 => k_is)
    (case l13 => k_is)
    (case c13 => k_is)
    (case k13 => k_is)
    (case a14 => k_is)
    (case l14 => k_is)
    (case c14 => k_is)
    (case k14 => k_is)
    (case a15 => k_is)
    (case l15 => k_is)
    (case c15 => k_is)
    (case k15 => k_is)
    (case a16 => k_is)
    (case l16 => k_is)
    (case c16 => k_is)
    (case k16 => k_is)
    (case a17 => k_is)
    (case l17 => k_is)
    (case c17 => k_is)
    (case k17 => k_is)
    (case a18 => k_is)
    (case l18 => k_is)
    (case c18 => k_is)
    (case k18 => k_is)
    (case a19 => k_is)
    (case l19 => k_is)
    (case c19 => k_is)
    (case k19 => k_is)
    (case a20 => k_is)
    (case l20 => k_is)
    (case c20 => k_is)
    (case k20 => k_is)
    (case a21 => k_is)
    (case l21 => k_is)
    (case c21 => k_is)
    (case k21 => k_is)
    (case a22 => k_is)
    (case l22 => k_is)
    (case c22 => k_is)
    (case k22 => k_is)
    (case a23 => k_is)
    (case l23 => k_is)
    (case c23 => k_is)
    (case k23 => k_is)
    (case a24 => k_is)
    (case l24 => k_is)
    (case c24 => k_is)
    (case k24 => k_is)
    (case a25 => k_is)
    (case l25 => k_is)
    (case c25 => k_is)
    (case k25 => k_is)
    (case xa0 => k_is)
    (case xe0 => k_exc)
    (case xk0 => k_is)
    (case xb0 => k_is)
    (case xt0 => k_is)
    (case xa1 => k_is)
    (case xe1 => k_exc)
    (case xk1 => k_is)
    (case xb1 => k_is)
    (case xt1 => k_is)
    (case xa2 => k_is)
    (case xe2 => k_exc)
    (case xk2 => k_is)
    (case xb2 => k_is)
    (case xt2 => k_is)
    (case xa3 => k_is)
    (case xe3 => k_exc)
    (case xk3 => k_is)
    (case xb3 => k_is)
    (case xt3 => k_is)
    (case xa4 => k_is)
    (case xe4 => k_exc)
    (case xk4 => k_is)
    (case xb4 => k_is)
    (case xt4 => k_is)
    (case xa5 => k_is)
    (case xe5 => k_exc)
    (case xk5 => k_is)
    (case xb5 => k_is)
    (case xt5 => k_is)
    (case yg1 => k_is)
    (case yh1 => k_is)
    (case yd1 => k_is)
    (case ya1 => k_is)
    (case ym1 => k_is)
    (case yx1 => k_is)
    (case yg2 => k_is)
    (case yh2 => k_is)
    (case yd2 => k_is)
    (case ya2 => k_is)
    (case ym2 => k_is)
    (case yx2 => k_is)
    (case yg3 => k_is)
    (case yh3 => k_is)
    (case yd3 => k_is)
    (case ya3 => k_is)
    (case ym3 => k_is)
    (case yx3 => k_is)
    (case yg4 => k_is)
    (case yh4 => k_is)
    (case yd4 => k_is)
    (case ya4 => k_is)
    (case ym4 => k_is)
    (case yx4 => k_is)
    (case yg5 => k_is)
    (case yh5 => k_is)
    (case yd5 => k_is)
    (case ya5 => k_is)
    (case ym5 => k_is)
    (case yx5 => k_is)
    (case yn => k_is)
    (case yt => k_is)
    (case yd0 => k_is)
    (case nz => decide)
    (case z12 => k_is)
    (case z13 => k_is)
    (case z14 => k_is)
    (case z15 => k_is)
    (case z21 => k_is)
    (case z23 => k_is)
    (case z24 => k_is)
    (case z25 => k_is)
    (case z31 => k_is)
    (case z32 => k_is)
    (case z34 => k_is)
    (case z35 => k_is)
    (case z41 => k_is)
    (case z42 => k_is)
    (case z43 => k_is)
    (case z45 => k_is)
    (case z51 => k_is)
    (case z52 => k_is)
    (case z53 => k_is)
    (case z54 => k_is)
    (case b_list => k_is)
    (case b_sorted => k_is)
    (case b_set => k_is)
    (case b_all => k_is)
    (case b_any => k_is)
    (case b_tuple => k_is)
    (case b_len => k_is)
    (case b_abs => k_is)
    (case b_int => k_is)
    (case b_range => k_is)
    (case b_repr => k_is)
    (case b_sum => k_is)
    (case b_isinstance => k_is)
    (case b_max => k_is)
    (case b_min => k_is)
    (case b_zip => k_is)
    (case b_enumerate => k_is)
    (case g_MAX_WIDTH => k_is)
    (case g_MAX_SHOWN_ROWS => k_is)
#print axioms PySem.Challenge.cw_askcraft_k35_whole_spans_holds
end
