import PyProof.Rows.All
import Wide.All
import OpenK.AllK
import Wide.FinOn
import HandS.ForMost
import HandS.ForExc
import HandS.Strs
import HandS.Flow
import HandS.TupAny
import HandS.TupMul
import HandS.Deep
import KE.SortData
import KE.DataMinMax
import PyProof.ReprLen
import PyProof.ReprText
import HandS.Exc
import HandS.RaiseMore
import HandS.ExcCtx
import HandS.Conv
import HandS.SortKw
import HandS.SetFor
import HandS.HotCalls
import HandS.Ends
import HandS.WordsExc
import HandS.Hot
import HandS.Comp
import HandS.ExcIs
import PyProof.Rows.FactsN_isinstance
import PyProof.P3Eq
import KE.GoesMore
import KE.GoesNew
import KE.GoesEnum
import HandS.Zip
import HandS.IsInst
import HandS.Star
import HandS.Style
import KE.KRevSl
import HandS.CallRecv
import PySem.Challenge.RW_askcraft_k49_sums_behind_wrong_values
section
set_option Elab.async false
set_option linter.all false
set_option maxRecDepth 100000
/-! Ev1: values, environments, what the heap holds of them -/
namespace Mi
open PySem L2

/-- what a slot or a temporary holds, apart from the heap -/
inductive Vl where
  /-- frozen data -/
  | dat (d : PyData)
  /-- an owned list of frozen items; an owned list of owned lists -/
  | ml (ds : List PyData)
  | mml (dss : List (List PyData))
  /-- an owned instance of the class number c; its fields are frozen -/
  | ob (c : Nat) (fs : List (Str × PyData))
  /-- a set of ints: those of ns -/
  | st (ns : List Int)

/-- an operand: a value, or the slot that holds it -/
inductive Opd where
  | val (w : Vl)
  | brw (i : Nat)

abbrev Rho := List (Option Vl)

inductive Out (α : Type) where
  | ok (a : α) (ρ : Rho)
  | exc (c : Nat) (ρ : Rho)
  | stk

abbrev FE := Rho → Out Opd
abbrev Ad := Addr → Prop

/-- where the law's own classes stand -/
structure Glb where
  K : PySem.W.Frag
  w : World
  ea : Nat → Addr
  cl : Nat → Addr

/-! ### frozen data over a part of the heap -/
theorem sqT_mono {K : PySem.W.Frag} {H H' : Hp} {a : Addr} {xs : List V} (e : Same H H') (h : SqT K H a xs) : SqT K H' a xs := by
  rcases h with (h | ⟨o, h⟩) | h
  · exact .inl (.inl (e _ _ h))
  · exact .inl (.inr ⟨o, e _ _ h⟩)
  · exact .inr h
mutual
theorem dp_mono {K : PySem.W.Frag} {H H' : Hp} (e : Same H H') : ∀ (d : PyData) (v : V), Dp K H v d → Dp K H' v d
  | .none, _, h => by cases h; exact .non
  | .bool _, _, h => by cases h; exact .bl _
  | .int _, _, h => by cases h; exact .int _
  | .str _, _, h => by cases h; exact .str _
  | .list ds, _, h => by
    cases h with
    | lst hs ha => exact .lst (e.seq hs) (dpa_mono e ds _ ha)
  | .tuple ds, _, h => by
    cases h with
    | tup hs ha => exact .tup (sqT_mono e hs) (dpa_mono e ds _ ha)
  | .dict _, _, h => by cases h
theorem dpa_mono {K : PySem.W.Frag} {H H' : Hp} (e : Same H H') : ∀ (ds : List PyData) (vs : List V), DpAll K H vs ds → DpAll K H' vs ds
  | [], _, h => by cases h; exact .nil
  | d :: ds, _, h => by
    cases h with
    | cons h1 h2 => exact .cons (dp_mono e d _ h1) (dpa_mono e ds _ h2)
end
theorem dpa_len {K : PySem.W.Frag} {H : Hp} : ∀ (ds : List PyData) (vs : List V), DpAll K H vs ds → vs.length = ds.length
  | [], _, h => by cases h; rfl
  | d :: ds, _, h => by
    cases h with
    | cons h1 h2 => simp [dpa_len ds _ h2]
theorem dpa_get {K : PySem.W.Frag} {H : Hp} : ∀ (ds : List PyData) (vs : List V), DpAll K H vs ds → ∀ (i : Nat) (d : PyData), ds[i]? = some d → ∃ v, vs[i]? = some v ∧ Dp K H v d
  | [], _, h, i, d, e => by simp at e
  | x :: ds, _, h, 0, d, e => by
    cases h with
    | cons h1 h2 => simp at e; subst e; exact ⟨_, rfl, h1⟩
  | x :: ds, _, h, i + 1, d, e => by
    cases h with
    | cons h1 h2 =>
      obtain ⟨v, e1, e2⟩ := dpa_get ds _ h2 i d (by simpa using e)
      exact ⟨v, by simpa using e1, e2⟩
theorem dpa_get' {K : PySem.W.Frag} {H : Hp} : ∀ (ds : List PyData) (vs : List V), DpAll K H vs ds → ∀ (i : Nat) (v : V), vs[i]? = some v → ∃ d, ds[i]? = some d ∧ Dp K H v d
  | [], _, h, i, d, e => by cases h; simp at e
  | x :: ds, _, h, 0, d, e => by
    cases h with
    | cons h1 h2 => simp at e; subst e; exact ⟨_, rfl, h1⟩
  | x :: ds, _, h, i + 1, d, e => by
    cases h with
    | cons h1 h2 =>
      obtain ⟨v, e1, e2⟩ := dpa_get' ds _ h2 i d (by simpa using e)
      exact ⟨v, by simpa using e1, e2⟩
theorem dpa_app {K : PySem.W.Frag} {H : Hp} : ∀ {ds es : List PyData} {vs us : List V}, DpAll K H vs ds → DpAll K H us es → DpAll K H (vs ++ us) (ds ++ es)
  | [], _, _, _, h, g => by cases h; exact g
  | d :: ds, _, _, _, h, g => by
    cases h with
    | cons h1 h2 => exact .cons h1 (dpa_app h2 g)
theorem dpa_set {K : PySem.W.Frag} {H : Hp} {d : PyData} {v : V} (hd : Dp K H v d) : ∀ {ds : List PyData} {vs : List V} (i : Nat), DpAll K H vs ds → DpAll K H (vs.set i v) (ds.set i d)
  | [], _, _, h => by cases h; exact .nil
  | x :: ds, _, 0, h => by
    cases h with
    | cons h1 h2 => exact .cons hd h2
  | x :: ds, _, i + 1, h => by
    cases h with
    | cons h1 h2 => exact .cons h1 (dpa_set hd i h2)
theorem dpa_take {K : PySem.W.Frag} {H : Hp} : ∀ {ds : List PyData} {vs : List V} (i : Nat), DpAll K H vs ds → DpAll K H (vs.take i) (ds.take i)
  | _, _, 0, h => by simpa using DpAll.nil
  | [], _, i + 1, h => by cases h; simpa using DpAll.nil
  | x :: ds, _, i + 1, h => by
    cases h with
    | cons h1 h2 => exact .cons h1 (dpa_take i h2)
theorem dpa_drop {K : PySem.W.Frag} {H : Hp} : ∀ {ds : List PyData} {vs : List V} (i : Nat), DpAll K H vs ds → DpAll K H (vs.drop i) (ds.drop i)
  | _, _, 0, h => by simpa using h
  | [], _, i + 1, h => by cases h; simpa using DpAll.nil
  | x :: ds, _, i + 1, h => by
    cases h with
    | cons h1 h2 => exact dpa_drop i h2
theorem dpa_rev {K : PySem.W.Frag} {H : Hp} : ∀ {ds : List PyData} {vs : List V}, DpAll K H vs ds → DpAll K H vs.reverse ds.reverse
  | [], _, h => by cases h; exact .nil
  | x :: ds, _, h => by
    cases h with
    | cons h1 h2 => simpa using dpa_app (dpa_rev h2) (.cons h1 .nil)

/-! ### owned things -/
def Rows (G : Glb) (P H : Hp) (S : Ad) : List Addr → List (List PyData) → Prop
  | [], [] => True
  | b :: as, ds :: dss => S b ∧ b ∉ as ∧ (∃ ys, H b = some (.lst ys) ∧ DpAll G.K P ys ds) ∧ Rows G P H S as dss
  | _, _ => False
def Flds (G : Glb) (P : Hp) : List (Str × V) → List (Str × PyData) → Prop
  | [], [] => True
  | (f, v) :: r, (g, d) :: t => f = g ∧ Dp G.K P v d ∧ Flds G P r t
  | _, _ => False
def Ow (G : Glb) (P H : Hp) (S : Ad) (v : V) : Vl → Prop
  | .dat d => Dp G.K P v d
  | .ml ds => ∃ a xs, v = .ref a ∧ S a ∧ H a = some (.lst xs) ∧ DpAll G.K P xs ds
  | .mml dss => ∃ a as, v = .ref a ∧ S a ∧ a ∉ as ∧ H a = some (.lst (as.map V.ref)) ∧ Rows G P H S as dss
  | .ob c fs => ∃ a dx fv, v = .ref a ∧ S a ∧ H a = some (.ins (G.cl c) dx fv) ∧ Flds G P fv fs
  | .st ns => ∃ a m n, v = .ref a ∧ S a ∧ H a = some (SetO G.w a m n) ∧ ∀ k, m k = true ↔ k ∈ ns
section
variable {G : Glb} {P P' H H' : Hp} {S S' : Ad} {v : V} {w : Vl}
theorem Rows.mono (e : Same P P') (k : ∀ b o, S b → H b = some o → H' b = some o) (s : ∀ b, S b → S' b) : ∀ {as : List Addr} {dss : List (List PyData)}, Rows G P H S as dss → Rows G P' H' S' as dss
  | [], [], _ => trivial
  | b :: as, ds :: dss, ⟨h1, h0, ⟨ys, h2, h3⟩, h4⟩ => ⟨s b h1, h0, ⟨ys, k b _ h1 h2, dpa_mono e _ _ h3⟩, Rows.mono e k s h4⟩
  | [], _ :: _, h => h.elim
  | _ :: _, [], h => h.elim
theorem Flds.mono (e : Same P P') : ∀ {fv : List (Str × V)} {fs : List (Str × PyData)}, Flds G P fv fs → Flds G P' fv fs
  | [], [], _ => trivial
  | (f, v) :: r, (g, d) :: t, ⟨h1, h2, h3⟩ => ⟨h1, dp_mono e _ _ h2, Flds.mono e h3⟩
  | [], _ :: _, h => h.elim
  | _ :: _, [], h => h.elim
theorem Ow.mono (h : Ow G P H S v w) (e : Same P P') (k : ∀ b o, S b → H b = some o → H' b = some o) (s : ∀ b, S b → S' b) : Ow G P' H' S' v w := by
  cases w with
  | dat d => exact dp_mono e _ _ h
  | ml ds => obtain ⟨a, xs, h1, h2, h3, h4⟩ := h; exact ⟨a, xs, h1, s a h2, k a _ h2 h3, dpa_mono e _ _ h4⟩
  | mml dss => obtain ⟨a, as, h1, h2, h3, h4, h5⟩ := h; exact ⟨a, as, h1, s a h2, h3, k a _ h2 h4, h5.mono e k s⟩
  | ob c fs => obtain ⟨a, dx, fv, h1, h2, h3, h4⟩ := h; exact ⟨a, dx, fv, h1, s a h2, k a _ h2 h3, h4.mono e⟩
  | st ns => obtain ⟨a, m, n, h1, h2, h3, h4⟩ := h; exact ⟨a, m, n, h1, s a h2, k a _ h2 h3, h4⟩
end

/-! ### the environment -/
/-- what may be owned: no tuple, nothing locked -/
def ownK : HO → Bool
  | .lst _ => true
  | .ins _ _ _ => true
  | .ext _ => true
  | .dK _ => true
  | .dT _ => true
  | _ => false
structure Now (G : Glb) (P H : Hp) (σ : L2.St) (ρ : Rho) (F : Nat → Ad) : Prop where
  ex : Same P H
  dj : ∀ i j a, F i a → F j a → i = j
  np : ∀ i a, F i a → P a = none
  al : ∀ i a, F i a → H a ≠ none
  rd : ∀ i w, ρ[i]? = some (some w) → ∃ v, σ[i]? = some (some v) ∧ Ow G P H (F i) v w
  kd : ∀ i b o, F i b → H b = some o → ownK o = true

/-- what a step leaves: all but the environment's own things is as it was -/
structure Stp (P H : Hp) (F : Nat → Ad) (P' H' : Hp) (F' : Nat → Ad) : Prop where
  ex : Same P P'
  fr : ∀ b o, H b = some o → (∀ i, ¬ F i b) → H' b = some o
  sub : ∀ i b, F' i b → (∃ j, F j b) ∨ H b = none
  pn : ∀ b, P' b ≠ none → P b ≠ none ∨ (∃ j, F j b) ∨ H b = none
  al : ∀ b, H b ≠ none → H' b ≠ none

/-- a temporary: its own things are nobody else's -/
structure Tmp (G : Glb) (P H : Hp) (F : Nat → Ad) (S : Ad) (v : V) (w : Vl) : Prop where
  ow : Ow G P H S v w
  np : ∀ b, S b → P b = none
  al : ∀ b, S b → H b ≠ none
  dj : ∀ b, S b → ∀ i, ¬ F i b
  kd : ∀ b o, S b → H b = some o → ownK o = true

theorem Stp.refl {P H : Hp} {F : Nat → Ad} : Stp P H F P H F := ⟨Same.refl P, fun _ _ h _ => h, fun i b h => .inl ⟨i, h⟩, fun _ h => .inl h, fun _ h => h⟩
section
variable {G : Glb} {P H P1 H1 P2 H2 : Hp} {F F1 F2 : Nat → Ad} {σ : L2.St} {ρ : Rho} {S : Ad} {v : V} {w : Vl}
/-- what was nobody's stays -/
theorem Stp.out (s : Stp P H F P1 H1 F1) {b : Addr} (h : H b ≠ none) (hf : ∀ i, ¬ F i b) : ∀ i, ¬ F1 i b := fun i hi => by
  rcases s.sub i b hi with ⟨j, hj⟩ | z
  · exact hf j hj
  · exact h z
theorem Stp.trans (s : Stp P H F P1 H1 F1) (t : Stp P1 H1 F1 P2 H2 F2) : Stp P H F P2 H2 F2 := by
  have back : ∀ b, H1 b = none → H b = none := fun b z => Classical.byContradiction fun q => s.al b q z
  refine ⟨s.ex.trans t.ex, fun b o h hf => t.fr b o (s.fr b o h hf) (s.out (by rw [h]; exact fun z => nomatch z) hf), fun i b h => ?_, fun b h => ?_, fun b h => t.al b (s.al b h)⟩
  · rcases t.sub i b h with ⟨j, hj⟩ | z
    · exact s.sub j b hj
    · exact .inr (back b z)
  · rcases t.pn b h with z | ⟨j, hj⟩ | z
    · exact s.pn b z
    · rcases s.sub j b hj with y | y
      · exact .inr (.inl y)
      · exact .inr (.inr y)
    · exact .inr (.inr (back b z))
theorem Tmp.step (h : Tmp G P H F S v w) (s : Stp P H F P1 H1 F1) : Tmp G P1 H1 F1 S v w := by
  refine ⟨h.ow.mono s.ex (fun b o hb e => s.fr b o e (h.dj b hb)) fun _ z => z, fun b hb => ?_, fun b hb => s.al b (h.al b hb), fun b hb => s.out (h.al b hb) (h.dj b hb), fun b o hb e => ?_⟩
  · refine Classical.byContradiction fun q => ?_
    rcases s.pn b q with z | ⟨j, hj⟩ | z
    · exact z (h.np b hb)
    · exact h.dj b hb j hj
    · exact h.al b hb z
  · obtain ⟨u, hu⟩ := Option.ne_none_iff_exists'.mp (h.al b hb)
    have := s.fr b u hu (h.dj b hb)
    rw [this] at e
    cases e
    exact h.kd b _ hb hu
end
end Mi
end
section
set_option Elab.async false
set_option linter.all false
set_option maxRecDepth 100000
/-! Ev2: readings of evaluators, the general rules for operators, calls, displays -/
namespace Mi
open PySem L2

/-! ### new objects -/
structure Alc (P H P' H' : Hp) (S : Ad) : Prop where
  exP : Same P P'
  exH : Same H H'
  ph : Same P' H'
  pn : ∀ b, P' b ≠ none → P b ≠ none ∨ H b = none
  new : ∀ b, S b → H b = none ∧ H' b ≠ none ∧ P' b = none
  kd : ∀ b o, S b → H' b = some o → ownK o = true
def nobody : Ad := fun _ => False
section
variable {G : Glb} {P H P' H' P1 H1 : Hp} {F F1 : Nat → Ad} {σ : L2.St} {ρ : Rho} {S S1 : Ad} {v : V} {w : Vl} {p : Addr} {o : HO}
theorem Alc.refl (e : Same P H) : Alc P H P H nobody := ⟨Same.refl P, Same.refl H, e, fun _ h => .inl h, fun _ h => h.elim, fun _ _ h => h.elim⟩
theorem same_upd (h : H p = none) : Same H (upd H p o) := fun b u e => by rw [upd_ne (ne_of_none e h)]; exact e
theorem same_none (e : Same P H) (h : H p = none) : P p = none := e.free h
/-- a new frozen object -/
theorem Alc.tup (e : Same P H) (h : H p = none) : Alc P H (upd P p o) (upd H p o) nobody := by
  refine ⟨same_upd (same_none e h), same_upd h, fun b u q => ?_, fun b q => ?_, fun _ h => h.elim, fun _ _ h => h.elim⟩
  · by_cases hb : b = p
    · subst hb; rw [upd_same] at q ⊢; exact q
    · rw [upd_ne hb] at q ⊢; exact e b u q
  · by_cases hb : b = p
    · subst hb; exact .inr h
    · rw [upd_ne hb] at q; exact .inl q
/-- a new owned object -/
theorem Alc.own (e : Same P H) (h : H p = none) (ho : ownK o = true := by rfl) : Alc P H P (upd H p o) (fun b => b = p) := by
  refine ⟨Same.refl P, same_upd h, e.trans (same_upd h), fun _ q => .inl q, fun b q => ?_, fun b u q e => ?_⟩
  · subst q
    exact ⟨h, by rw [upd_same]; exact (fun z => nomatch z), same_none e h⟩
  · subst q
    rw [upd_same] at e
    cases e
    exact ho
theorem Alc.now (a : Alc P H P' H' S) (n : Now G P H σ ρ F) : Now G P' H' σ ρ F := by
  refine ⟨a.ph, n.dj, fun i b h => ?_, fun i b h => ?_, fun i w h => ?_, fun i b u h e => ?_⟩
  · refine Classical.byContradiction fun q => ?_
    rcases a.pn b q with z | z
    · exact z (n.np i b h)
    · exact n.al i b h z
  · obtain ⟨o, e⟩ := Option.ne_none_iff_exists'.mp (n.al i b h)
    rw [a.exH b o e]; exact fun z => nomatch z
  · obtain ⟨v, h1, h2⟩ := n.rd i w h
    exact ⟨v, h1, h2.mono a.exP (fun b o _ e => a.exH b o e) fun _ z => z⟩
  · obtain ⟨o, e'⟩ := Option.ne_none_iff_exists'.mp (n.al i b h)
    rw [a.exH b o e'] at e
    cases e
    exact n.kd i b _ h e'
theorem Alc.stp (a : Alc P H P' H' S) : Stp P H F P' H' F := by
  refine ⟨a.exP, fun b o e _ => a.exH b o e, fun i b h => .inl ⟨i, h⟩, fun b h => ?_, fun b h => ?_⟩
  · rcases a.pn b h with z | z
    · exact .inl z
    · exact .inr (.inr z)
  · obtain ⟨o, e⟩ := Option.ne_none_iff_exists'.mp h
    rw [a.exH b o e]; exact fun z => nomatch z
theorem Alc.tmp (a : Alc P H P' H' S) (n : Now G P H σ ρ F) (o : Ow G P' H' S v w) : Tmp G P' H' F S v w :=
  ⟨o, fun b h => (a.new b h).2.2, fun b h => (a.new b h).2.1, fun b h i q => n.al i b q (a.new b h).1, a.kd⟩
end

/-! ### operands -/
def look (ρ : Rho) : Opd → Option Vl
  | .val w => some w
  | .brw i => (ρ[i]?).join
def Has (G : Glb) (P H : Hp) (F : Nat → Ad) (σ : L2.St) (S : Ad) (v : V) : Opd → Prop
  | .val w => Tmp G P H F S v w
  | .brw i => σ[i]? = some (some v)
/-- a view: the value is held, by whomever -/
def OwE (G : Glb) (P H : Hp) (v : V) (w : Vl) : Prop := ∃ S, Ow G P H S v w
section
variable {G : Glb} {P H P1 H1 : Hp} {F F1 : Nat → Ad} {σ : L2.St} {ρ : Rho} {S : Ad} {v : V} {o : Opd} {w : Vl}
theorem Has.step (h : Has G P H F σ S v o) (s : Stp P H F P1 H1 F1) : Has G P1 H1 F1 σ S v o := by
  cases o with
  | val w => exact Tmp.step h s
  | brw i => exact h
theorem Has.look (h : Has G P H F σ S v o) (n : Now G P H σ ρ F) (e : look ρ o = some w) : OwE G P H v w := by
  cases o with
  | val w' =>
    have e' : w' = w := Option.some.inj e
    subst e'
    exact ⟨S, h.ow⟩
  | brw i =>
    have e' : (ρ[i]?).join = some w := e
    have e2 : ρ[i]? = some (some w) := by
      cases q : ρ[i]? with
      | none => rw [q] at e'; cases e'
      | some x => rw [q] at e'; have : x = some w := e'; rw [this]
    obtain ⟨v', h1, h2⟩ := n.rd i w e2
    have h3 : σ[i]? = some (some v) := h
    rw [h3] at h1
    have e3 : v = v' := by simpa using h1
    subst e3
    exact ⟨F i, h2⟩
end

/-! ### what an evaluator promises -/
def EndO (G : Glb) (W : WX) (P H : Hp) (F : Nat → Ad) (σ : L2.St) (Q : VK) : Out Opd → Prop
  | .ok o ρ' => ∀ v P' H' F' S, Now G P' H' σ ρ' F' → Stp P H F P' H' F' → Has G P' H' F' σ S v o → (∀ b, S b → (∃ i, F i b) ∨ H b = none) → Q v H'
  | .exc c ρ' => ∀ P' H' F', Now G P' H' σ ρ' F' → Stp P H F P' H' F' → W (.ref (G.ea c)) none σ H'
  | .stk => False
def tE (G : Glb) (W : WX) (f : FE) : TE := fun σ H Q => ∃ ρ P F, Now G P H σ ρ F ∧ EndO G W P H F σ Q (f ρ)
abbrev FT := Rho → Out Bool
def EndT (G : Glb) (W : WX) (P H : Hp) (F : Nat → Ad) (σ : L2.St) (Q : Bool → Hp → Prop) : Out Bool → Prop
  | .ok b ρ' => ∀ P' H' F', Now G P' H' σ ρ' F' → Stp P H F P' H' F' → Q b H'
  | .exc c ρ' => ∀ P' H' F', Now G P' H' σ ρ' F' → Stp P H F P' H' F' → W (.ref (G.ea c)) none σ H'
  | .stk => False
def tT (G : Glb) (W : WX) (f : FT) : TT := fun σ H Q => ∃ ρ P F, Now G P H σ ρ F ∧ EndT G W P H F σ Q (f ρ)
abbrev FA := Rho → Out (List Opd)
/-- the operands of a list, one's own things apart from the others' -/
def HasL (G : Glb) (P H : Hp) (F : Nat → Ad) (σ : L2.St) : Ad → List V → List Opd → Prop
  | _, [], [] => True
  | S, v :: vs, o :: os => ∃ S1 S2, Has G P H F σ S1 v o ∧ HasL G P H F σ S2 vs os ∧ (∀ b, S1 b → S b ∧ ¬ S2 b) ∧ ∀ b, S2 b → S b
  | _, _, _ => False
def EndA (G : Glb) (W : WX) (P H : Hp) (F : Nat → Ad) (σ : L2.St) (Q : List V → Hp → Prop) : Out (List Opd) → Prop
  | .ok os ρ' => ∀ vs P' H' F' S, Now G P' H' σ ρ' F' → Stp P H F P' H' F' → HasL G P' H' F' σ S vs os → (∀ b, S b → (P' b = none ∧ H' b ≠ none ∧ ∀ i, ¬ F' i b) ∧ ((∃ i, F i b) ∨ H b = none)) → Q vs H'
  | .exc c ρ' => ∀ P' H' F', Now G P' H' σ ρ' F' → Stp P H F P' H' F' → W (.ref (G.ea c)) none σ H'
  | .stk => False
def tA (G : Glb) (W : WX) (f : FA) : TA := fun σ H Q => ∃ ρ P F, Now G P H σ ρ F ∧ EndA G W P H F σ Q (f ρ)

theorem PE.imp {X : Cx} {e : Expr} {t t' : TE} (h : PE X e t) (i : ∀ σ H Q, t' σ H Q → t σ H Q) : PE X e t' := ⟨fun pins s σ H Q I q => h.run pins s σ H Q I (i σ H Q q)⟩
theorem PT.imp {X : Cx} {e : Expr} {t t' : TT} (h : PT X e t) (i : ∀ σ H Q, t' σ H Q → t σ H Q) : PT X e t' := ⟨fun pins s σ H Q I q => h.run pins s σ H Q I (i σ H Q q)⟩
theorem PA.imp {X : Cx} {e : List Expr} {t t' : TA} (h : PA X e t) (i : ∀ σ H Q, t' σ H Q → t σ H Q) : PA X e t' := ⟨fun pos pins s σ H Q I q => h.run pos pins s σ H Q I (i σ H Q q)⟩

section
variable {G : Glb} {W : WX} {P H P1 H1 : Hp} {F F1 : Nat → Ad} {σ : L2.St} {ρ : Rho} {S : Ad} {v : V} {o : Opd} {w : Vl}
theorem HasL.step (s : Stp P H F P1 H1 F1) : ∀ {vs : List V} {os : List Opd} {S : Ad}, HasL G P H F σ S vs os → HasL G P1 H1 F1 σ S vs os
  | [], [], _, _ => trivial
  | v :: vs, o :: os, _, ⟨S1, S2, h1, h2, h3, h4⟩ => ⟨S1, S2, h1.step s, HasL.step s h2, h3, h4⟩
  | [], _ :: _, _, h => h.elim
  | _ :: _, [], _, h => h.elim
theorem EndO.trans {Q : VK} {r : Out Opd} (s : Stp P H F P1 H1 F1) (h : EndO G W P H F σ Q r) : EndO G W P1 H1 F1 σ Q r := by
  cases r with
  | ok o ρ' =>
    intro v P' H' F' S n t hs hq
    refine h v P' H' F' S n (s.trans t) hs fun b hb => ?_
    rcases hq b hb with ⟨i, hi⟩ | z
    · exact s.sub i b hi
    · exact .inr (Classical.byContradiction fun q => s.al b q z)
  | exc c ρ' => exact fun P' H' F' n t => h P' H' F' n (s.trans t)
  | stk => exact h
theorem EndT.trans {Q : Bool → Hp → Prop} {r : Out Bool} (s : Stp P H F P1 H1 F1) (h : EndT G W P H F σ Q r) : EndT G W P1 H1 F1 σ Q r := by
  cases r with
  | ok o ρ' => exact fun P' H' F' n t => h P' H' F' n (s.trans t)
  | exc c ρ' => exact fun P' H' F' n t => h P' H' F' n (s.trans t)
  | stk => exact h
theorem EndA.trans {Q : List V → Hp → Prop} {r : Out (List Opd)} (s : Stp P H F P1 H1 F1) (h : EndA G W P H F σ Q r) : EndA G W P1 H1 F1 σ Q r := by
  cases r with
  | ok o ρ' =>
    intro v P' H' F' S n t hs hq
    refine h v P' H' F' S n (s.trans t) hs fun b hb => ⟨(hq b hb).1, ?_⟩
    rcases (hq b hb).2 with ⟨i, hi⟩ | z
    · exact s.sub i b hi
    · exact .inr (Classical.byContradiction fun q => s.al b q z)
  | exc c ρ' => exact fun P' H' F' n t => h P' H' F' n (s.trans t)
  | stk => exact h
end

/-! ### sequencing -/
def Out.bind {α β : Type} (x : Out α) (k : α → Rho → Out β) : Out β :=
  match x with
  | .ok a ρ => k a ρ
  | .exc c ρ => .exc c ρ
  | .stk => .stk
/-- a plain result -/
def ret (ρ : Rho) : Option Vl → Out Opd
  | some w => .ok (.val w) ρ
  | none => .stk

section
variable {G : Glb} {W : WX} {P H P1 H1 : Hp} {F F1 : Nat → Ad} {σ : L2.St} {ρ : Rho} {S : Ad} {v : V} {o : Opd} {w : Vl} {f : FE}
/-- first f, then what k says -/
theorem tE_bind {Q : VK} {β : Type} {k : Opd → Rho → Out β} {End : Hp → Hp → (Nat → Ad) → Out β → Prop} (n : Now G P H σ ρ F) (hE : End P H F ((f ρ).bind k))
    (hx : ∀ c ρ', End P H F (.exc c ρ') → ∀ P' H' F', Now G P' H' σ ρ' F' → Stp P H F P' H' F' → W (.ref (G.ea c)) none σ H') (hs : ¬ End P H F .stk)
    (h : ∀ o ρ1 v P1 H1 F1 S, f ρ = .ok o ρ1 → End P H F (k o ρ1) → Now G P1 H1 σ ρ1 F1 → Stp P H F P1 H1 F1 → Has G P1 H1 F1 σ S v o → (∀ b, S b → (∃ i, F i b) ∨ H b = none) → Q v H1) : tE G W f σ H Q := by
  refine ⟨ρ, P, F, n, ?_⟩
  cases e : f ρ with
  | ok o ρ1 =>
    rw [e] at hE
    exact fun v P1 H1 F1 S n1 s1 h1 q1 => h o ρ1 v P1 H1 F1 S e hE n1 s1 h1 q1
  | exc c ρ' =>
    rw [e] at hE
    exact hx c ρ' hE
  | stk =>
    rw [e] at hE
    exact (hs hE).elim
theorem endO_val {Q : VK} {r : Option Vl} (h : EndO G W P H F σ Q (ret ρ r)) : ∃ w, r = some w ∧ EndO G W P H F σ Q (.ok (.val w) ρ) := by
  cases r with
  | none => exact h.elim
  | some w => exact ⟨w, rfl, h⟩
/-- a result that is made of new things alone -/
theorem EndO.alc {Q : VK} {P' H' : Hp} (h : EndO G W P H F σ Q (.ok (.val w) ρ)) (n : Now G P H σ ρ F) (a : Alc P H P' H' S) (o : Ow G P' H' S v w) : Q v H' :=
  h v P' H' F S (a.now n) a.stp (a.tmp n o) fun b hb => .inr (a.new b hb).1
theorem EndO.same {Q : VK} (h : EndO G W P H F σ Q (.ok (.val w) ρ)) (n : Now G P H σ ρ F) (o : Ow G P H nobody v w) : Q v H := h.alc n (Alc.refl n.ex) o
end

/-! ### operators by views -/
/-- r answers what g says of what the operands hold -/
def OpOk (G : Glb) (r : R2) (g : Vl → Vl → Option Vl) : Prop :=
  ∀ (P H : Hp) (x y : V) (a b w : Vl) (Q : VK), Same P H → OwE G P H x a → OwE G P H y b → g a b = some w → (∀ v P' H' S, Alc P H P' H' S → Ow G P' H' S v w → Q v H') → r x y H Q
def bin (g : Vl → Vl → Option Vl) (fa fb : FE) : FE := fun ρ => (fa ρ).bind fun x ρ1 => (fb ρ1).bind fun y ρ2 => ret ρ2 ((look ρ2 x).bind fun a => (look ρ2 y).bind fun b => g a b)
theorem bin_ok {G : Glb} {W : WX} {r : R2} {g : Vl → Vl → Option Vl} (ok : OpOk G r g) {fa fb : FE} {σ : L2.St} {H : Hp} {Q : VK} (h : tE G W (bin g fa fb) σ H Q) : tOp r (tE G W fa) (tE G W fb) σ H Q := by
  obtain ⟨ρ, P, F, n, h⟩ := h
  refine tE_bind (End := fun P H F => EndO G W P H F σ Q) n h (fun _ _ z => z) (fun z => z) fun x ρ1 vx P1 H1 F1 S1 e1 h1 n1 s1 hx q1 => ?_
  refine tE_bind (End := fun P H F => EndO G W P H F σ Q) n1 (EndO.trans s1 h1) (fun _ _ z => z) (fun z => z) fun y ρ2 vy P2 H2 F2 S2 e2 h2 n2 s2 hy q2 => ?_
  have h2 := EndO.trans s2 h2
  obtain ⟨w, hw, h2⟩ := endO_val h2
  cases ea : look ρ2 x with
  | none => rw [ea] at hw; cases hw
  | some a =>
    cases eb : look ρ2 y with
    | none => rw [ea, eb] at hw; cases hw
    | some b =>
      rw [ea, eb] at hw
      have hx' := (hx.step s2).look n2 ea
      have hy' := hy.look n2 eb
      exact ok P2 H2 vx vy a b w Q n2.ex hx' hy' hw fun v P' H' S a o => h2.alc n2 a o
def UnOk (G : Glb) (r : V → Hp → VK → Prop) (g : Vl → Option Vl) : Prop :=
  ∀ (P H : Hp) (x : V) (a w : Vl) (Q : VK), Same P H → OwE G P H x a → g a = some w → (∀ v P' H' S, Alc P H P' H' S → Ow G P' H' S v w → Q v H') → r x H Q
def una (g : Vl → Option Vl) (fa : FE) : FE := fun ρ => (fa ρ).bind fun x ρ1 => ret ρ1 ((look ρ1 x).bind g)
theorem una_ok {G : Glb} {W : WX} {r : V → Hp → VK → Prop} {g : Vl → Option Vl} (ok : UnOk G r g) {fa : FE} {σ : L2.St} {H : Hp} {Q : VK} (h : tE G W (una g fa) σ H Q) : tE G W fa σ H (fun x H1 => r x H1 Q) := by
  obtain ⟨ρ, P, F, n, h⟩ := h
  refine tE_bind (End := fun P H F => EndO G W P H F σ Q) n h (fun _ _ z => z) (fun z => z) fun x ρ1 vx P1 H1 F1 S1 e1 h1 n1 s1 hx q1 => ?_
  obtain ⟨w, hw, h2⟩ := endO_val (EndO.trans s1 h1)
  cases ea : look ρ1 x with
  | none => rw [ea] at hw; cases hw
  | some a =>
    rw [ea] at hw
    exact ok P1 H1 vx a w Q n1.ex (hx.look n1 ea) hw fun v P' H' S a o => h2.alc n1 a o

/-! ### arguments -/
def aNil : FA := fun ρ => .ok [] ρ
def aCons (f : FE) (g : FA) : FA := fun ρ => (f ρ).bind fun x ρ1 => (g ρ1).bind fun xs ρ2 => .ok (x :: xs) ρ2
theorem pa_nilV {X : Cx} {G : Glb} {W : WX} : PA X [] (tA G W aNil) := PA.imp pa_nil fun σ H Q h => by
  obtain ⟨ρ, P, F, n, h⟩ := h
  exact h [] P H F nobody n Stp.refl trivial fun b z => z.elim
theorem pa_consV {X : Cx} {G : Glb} {W : WX} {e : Expr} {es : List Expr} {f : FE} {g : FA} (he : PE X e (tE G W f)) (hr : PA X es (tA G W g)) (hs : starEach (e :: es) X.env = (false, eval e X.env) :: starEach es X.env := by rfl) : PA X (e :: es) (tA G W (aCons f g)) := PA.imp (pa_cons he hr hs) fun σ H Q h => by
  obtain ⟨ρ, P, F, n, h⟩ := h
  refine tE_bind (End := fun P H F => EndA G W P H F σ Q) n h (fun _ _ z => z) (fun z => z) fun x ρ1 vx P1 H1 F1 S1 e1 h1 n1 s1 hx q1 => ?_
  refine ⟨ρ1, P1, F1, n1, ?_⟩
  cases e : g ρ1 with
  | stk => rw [e] at h1; exact h1.elim
  | exc c ρ2 =>
    rw [e] at h1
    exact fun P2 H2 F2 n2 s2 => h1 P2 H2 F2 n2 (s1.trans s2)
  | ok xs ρ2 =>
    rw [e] at h1
    intro vs P2 H2 F2 S2 n2 s2 hs2 q2
    have hx2 := hx.step s2
    have back : ∀ b, S2 b → (∃ i, F i b) ∨ H b = none := fun b hb => by
      rcases (q2 b hb).2 with ⟨i, hi⟩ | z
      · exact s1.sub i b hi
      · exact .inr (Classical.byContradiction fun q => s1.al b q z)
    cases x with
    | val w =>
      have t2 : Tmp G P2 H2 F2 S1 vx w := hx2
      have t1 : Tmp G P1 H1 F1 S1 vx w := hx
      refine h1 (vx :: vs) P2 H2 F2 (fun b => S1 b ∨ S2 b) n2 (s1.trans s2) ⟨S1, S2, hx2, hs2, fun b hb => ⟨.inl hb, fun z => ?_⟩, fun b hb => .inr hb⟩ fun b hb => ?_
      · rcases (q2 b z).2 with ⟨i, hi⟩ | y
        · exact t1.dj b hb i hi
        · exact t1.al b hb y
      · rcases hb with hb | hb
        · exact ⟨⟨t2.np b hb, t2.al b hb, t2.dj b hb⟩, q1 b hb⟩
        · exact ⟨(q2 b hb).1, back b hb⟩
    | brw i =>
      exact h1 (vx :: vs) P2 H2 F2 S2 n2 (s1.trans s2) ⟨nobody, S2, hx2, hs2, fun b hb => hb.elim, fun b hb => hb⟩ fun b hb => ⟨(q2 b hb).1, back b hb⟩
end Mi
end
section
set_option Elab.async false
set_option linter.all false
set_option maxRecDepth 100000
/-! Ev3: constants, slots, operators on data -/
namespace Mi
open PySem L2

noncomputable def gd (p : Prop) (x : Vl) : Option Vl := by classical exact if p then some x else none
theorem gd_pos {p : Prop} {x : Vl} (h : p) : gd p x = some x := by unfold gd; exact if_pos h
theorem gd_some {p : Prop} {x w : Vl} (h : gd p x = some w) : p ∧ x = w := by
  unfold gd at h
  by_cases q : p
  · rw [if_pos q] at h; exact ⟨q, Option.some.inj h⟩
  · rw [if_neg q] at h; cases h
abbrev vI (i : Int) : Vl := .dat (.int i)
abbrev vB (b : Bool) : Vl := .dat (.bool b)

/-! ### slots, constants -/
def fV (i : Nat) : FE := fun ρ => match (ρ[i]?).join with
  | some (.dat d) => .ok (.val (.dat d)) ρ
  | some _ => .ok (.brw i) ρ
  | none => .stk
def fC (d : PyData) : FE := fun ρ => .ok (.val (.dat d)) ρ
section
variable {X : Cx} {W : WX} {G : Glb} {P H : Hp} {F : Nat → Ad} {σ : L2.St} {ρ : Rho} {Q : VK}
theorem join_some {ρ : Rho} {i : Nat} {w : Vl} (h : (ρ[i]?).join = some w) : ρ[i]? = some (some w) := by
  cases q : ρ[i]? with
  | none => rw [q] at h; cases h
  | some x => rw [q] at h; have : x = some w := h; rw [this]
theorem EndO.datum {d : PyData} {v : V} (n : Now G P H σ ρ F) (h : EndO G W P H F σ Q (.ok (.val (.dat d)) ρ)) (r : Dp G.K P v d) : Q v H :=
  h v P H F nobody n Stp.refl ⟨r, fun _ z => z.elim, fun _ z => z.elim, fun _ z => z.elim, fun _ _ z => z.elim⟩ fun _ z => z.elim
theorem pv_V {i : Nat} {x : Str} {pos : Pos} (hN : X.N[i]? = some x := by rfl) (hv : Vis X.env.scope x := by first | exact Or.inl rfl | exact Or.inr (Or.inl rfl) | exact Or.inr (Or.inr rfl))
    (hd : (x == ("__debug__" : Str)) = false := by decide) (hcd : (x == ("__classdict__" : Str)) = false := by decide) : PE X (.Name x pos) (tE G W (fV i)) := PE.imp (pe_var hN hv hd hcd) fun σ H Q h => by
  obtain ⟨ρ, P, F, n, h⟩ := h
  unfold fV at h
  cases e : (ρ[i]?).join with
  | none => rw [e] at h; exact h.elim
  | some w =>
    obtain ⟨v, h1, h2⟩ := n.rd i w (join_some e)
    refine ⟨v, h1, ?_⟩
    rw [e] at h
    cases w with
    | dat d => exact h.datum n h2
    | ml ds => exact h v P H F nobody n Stp.refl h1 fun _ z => z.elim
    | mml ds => exact h v P H F nobody n Stp.refl h1 fun _ z => z.elim
    | ob c fs => exact h v P H F nobody n Stp.refl h1 fun _ z => z.elim
    | st ns => exact h v P H F nobody n Stp.refl h1 fun _ z => z.elim
theorem pc_datum {e : Expr} {v : V} {d : PyData} (he : PE X e (tC v)) (r : ∀ P : Hp, Dp G.K P v d) : PE X e (tE G W (fC d)) := PE.imp he fun σ H Q h => by
  obtain ⟨ρ, P, F, n, h⟩ := h
  exact h.datum n (r P)
theorem pc_int {i j pos} : PE X (.Constant (.int i) j pos) (tE G W (fC (.int i))) := pc_datum pe_int fun _ => .int _
theorem pc_bl {b j pos} : PE X (.Constant (.bool b) j pos) (tE G W (fC (.bool b))) := pc_datum pe_bl fun _ => .bl _
theorem pc_non {j pos} : PE X (.Constant .none j pos) (tE G W (fC .none)) := pc_datum pe_non fun _ => .non
theorem pc_str {x j pos} : PE X (.Constant (.str x) j pos) (tE G W (fC (.str x))) := pc_datum pe_str fun _ => .str _
/-- a constant of the module -/
theorem pc_glob {x : Str} {v : V} {u : Value} {d : PyData} {pos : Pos} (hg : Gl X x) (hm : X.mg x = some u) (r : RelV v u) (rd : ∀ P : Hp, Dp G.K P v d) (hd : (x == ("__debug__" : Str)) = false := by decide) : PE X (.Name x pos) (tE G W (fC d)) :=
  pc_datum (pe_glob hg hm r hd) rd
end

/-! ### ints -/
noncomputable def iop (C : Int → Int → Prop) (g : Int → Int → PyData) : Vl → Vl → Option Vl
  | .dat (.int i), .dat (.int j) => gd (C i j) (.dat (g i j))
  | _, _ => none
section
variable {G : Glb} {P H : Hp} {v : V}
theorem ow_int {i : Int} (h : OwE G P H v (.dat (.int i))) : v = .int i := by
  obtain ⟨S, h⟩ := h
  have h : Dp G.K P v (.int i) := h
  cases h; rfl
theorem ow_bool {i : Bool} (h : OwE G P H v (.dat (.bool i))) : v = .bl i := by
  obtain ⟨S, h⟩ := h
  have h : Dp G.K P v (.bool i) := h
  cases h; rfl
theorem ow_str {i : Str} (h : OwE G P H v (.dat (.str i))) : v = .str i := by
  obtain ⟨S, h⟩ := h
  have h : Dp G.K P v (.str i) := h
  cases h; rfl
theorem ow_non (h : OwE G P H v (.dat .none)) : v = .non := by
  obtain ⟨S, h⟩ := h
  have h : Dp G.K P v .none := h
  cases h; rfl
theorem okI {C : Int → Int → Prop} {g : Int → Int → V} {d : Int → Int → PyData} (r : ∀ (K : PySem.W.Frag) (P : Hp) i j, Dp K P (g i j) (d i j)) : OpOk G (rI C g) (iop C d) := by
  intro P H x y a b w Q e hx hy hw k
  unfold iop at hw
  split at hw
  · rename_i i j
    obtain ⟨hc, rfl⟩ := gd_some hw
    rw [ow_int hx, ow_int hy]
    exact ⟨i, j, rfl, rfl, hc, k _ P H nobody (Alc.refl e) (r _ _ i j)⟩
  · cases hw
abbrev tt2 : Int → Int → Prop := fun _ _ => True
theorem okI0 {g : Int → Int → V} {d : Int → Int → PyData} (r : ∀ (K : PySem.W.Frag) (P : Hp) i j, Dp K P (g i j) (d i j)) : OpOk G (rI0 g) (iop tt2 d) := by
  intro P H x y a b w Q e hx hy hw k
  unfold iop at hw
  split at hw
  · rename_i i j
    obtain ⟨hc, rfl⟩ := gd_some hw
    rw [ow_int hx, ow_int hy]
    exact ⟨i, j, rfl, rfl, k _ P H nobody (Alc.refl e) (r _ _ i j)⟩
  · cases hw
theorem okOr1 {r r' : R2} {g : Vl → Vl → Option Vl} (h : OpOk G r g) : OpOk G (fun x y H Q => r x y H Q ∨ r' x y H Q) g := fun P H x y a b w Q e hx hy hw k => .inl (h P H x y a b w Q e hx hy hw k)
def orG (g g' : Vl → Vl → Option Vl) : Vl → Vl → Option Vl := fun a b => match g a b with
  | some w => some w
  | none => g' a b
theorem okOr {r r' : R2} {g g' : Vl → Vl → Option Vl} (h : OpOk G r g) (h' : OpOk G r' g') : OpOk G (fun x y H Q => r x y H Q ∨ r' x y H Q) (orG g g') := fun P H x y a b w Q e hx hy hw k => by
  unfold orG at hw
  cases q : g a b with
  | some w' => rw [q] at hw; cases hw; exact .inl (h P H x y a b w Q e hx hy q k)
  | none => rw [q] at hw; exact .inr (h' P H x y a b w Q e hx hy hw k)
end
theorem OpR.or {X : Cx} {f : Value → Value → Sem Value} {r r' : R2} (h : OpR X f r) (h' : OpR X f r') : OpR X f (fun x y H Q => r x y H Q ∨ r' x y H Q) := by
  intro pins s σ H x y v u Q I rx ry q
  rcases q with q | q
  · exact h pins s σ H x y v u Q I rx ry q
  · exact h' pins s σ H x y v u Q I rx ry q

noncomputable def gSub := iop tt2 fun i j => .int (i - j)
noncomputable def gFDiv := iop CDiv fun i j => .int (i / j)
noncomputable def gMod := iop (fun _ j => 0 < j) fun i j => .int (i % j)
noncomputable def gPow := iop CPow fun i j => .int (i ^ j.toNat)
noncomputable def gShl := iop CPow fun i j => .int (i * 2 ^ j.toNat)
noncomputable def gShr := iop (fun _ j => 0 ≤ j) fun i j => .int (i / 2 ^ j.toNat)
noncomputable def gAnd := iop tt2 fun i j => .int (Builtin.bitAnd i j)
noncomputable def gOr := iop tt2 fun i j => .int (Builtin.bitOr i j)
noncomputable def gXor := iop tt2 fun i j => .int (Builtin.bitXor i j)
noncomputable def gLt := iop tt2 fun i j => .bool (decide (i < j))
noncomputable def gLe := iop tt2 fun i j => .bool (decide (i ≤ j))
noncomputable def gGt := iop tt2 fun i j => .bool (decide (j < i))
noncomputable def gGe := iop tt2 fun i j => .bool (decide (j ≤ i))

section
variable {X : Cx} {W : WX} {G : Glb} {a b : Expr} {fa fb : FE} {pos : Pos}
theorem pe_binV {op : Operator} {r : R2} {g : Vl → Vl → Option Vl} (ho : OpR X (binaryOp op) r) (ok : OpOk G r g) (ha : PE X a (tE G W fa)) (hb : PE X b (tE G W fb)) : PE X (.BinOp a op b pos) (tE G W (bin g fa fb)) :=
  PE.imp (pe_op ho ha hb) fun _ _ _ h => bin_ok ok h
theorem pe_cmpV {op : CmpOp} {r : R2} {g : Vl → Vl → Option Vl} (ho : OpR X (compareOp op) r) (ok : OpOk G r g) (ha : PE X a (tE G W fa)) (hb : PE X b (tE G W fb)) (hm : behindInMarks op b = false := by rfl) : PE X (.Compare a [op] [b] pos) (tE G W (bin g fa fb)) :=
  PE.imp (pe_cmpR ho ha hb hm) fun _ _ _ h => bin_ok ok h
theorem e_sub (ha : PE X a (tE G W fa)) (hb : PE X b (tE G W fb)) : PE X (.BinOp a .Sub b pos) (tE G W (bin gSub fa fb)) := pe_binV op_sub (okI0 fun _ _ _ _ => .int _) ha hb
theorem e_fdiv (ha : PE X a (tE G W fa)) (hb : PE X b (tE G W fb)) : PE X (.BinOp a .FloorDiv b pos) (tE G W (bin gFDiv fa fb)) := pe_binV op_fdiv (okI fun _ _ _ _ => .int _) ha hb
theorem e_mod (ha : PE X a (tE G W fa)) (hb : PE X b (tE G W fb)) : PE X (.BinOp a .Mod b pos) (tE G W (bin gMod fa fb)) := pe_binV op_mod (okI fun _ _ _ _ => .int _) ha hb
theorem e_pow (ha : PE X a (tE G W fa)) (hb : PE X b (tE G W fb)) : PE X (.BinOp a .Pow b pos) (tE G W (bin gPow fa fb)) := pe_binV op_pow (okI fun _ _ _ _ => .int _) ha hb
theorem e_shl (ha : PE X a (tE G W fa)) (hb : PE X b (tE G W fb)) : PE X (.BinOp a .LShift b pos) (tE G W (bin gShl fa fb)) := pe_binV op_shl (okI fun _ _ _ _ => .int _) ha hb
theorem e_shr (ha : PE X a (tE G W fa)) (hb : PE X b (tE G W fb)) : PE X (.BinOp a .RShift b pos) (tE G W (bin gShr fa fb)) := pe_binV op_shr (okI fun _ _ _ _ => .int _) ha hb
theorem e_and (ha : PE X a (tE G W fa)) (hb : PE X b (tE G W fb)) : PE X (.BinOp a .BitAnd b pos) (tE G W (bin gAnd fa fb)) := pe_binV op_and (okI0 fun _ _ _ _ => .int _) ha hb
theorem e_or (ha : PE X a (tE G W fa)) (hb : PE X b (tE G W fb)) : PE X (.BinOp a .BitOr b pos) (tE G W (bin gOr fa fb)) := pe_binV op_or (okI0 fun _ _ _ _ => .int _) ha hb
theorem e_xor (ha : PE X a (tE G W fa)) (hb : PE X b (tE G W fb)) : PE X (.BinOp a .BitXor b pos) (tE G W (bin gXor fa fb)) := pe_binV op_xor (okI0 fun _ _ _ _ => .int _) ha hb
theorem e_lt (ha : PE X a (tE G W fa)) (hb : PE X b (tE G W fb)) : PE X (.Compare a [.Lt] [b] pos) (tE G W (bin gLt fa fb)) := pe_cmpV op_lt (okI0 fun _ _ _ _ => .bl _) ha hb (nomark _)
theorem e_le (ha : PE X a (tE G W fa)) (hb : PE X b (tE G W fb)) : PE X (.Compare a [.LtE] [b] pos) (tE G W (bin gLe fa fb)) := pe_cmpV op_le (okI0 fun _ _ _ _ => .bl _) ha hb (nomark _)
theorem e_gt (ha : PE X a (tE G W fa)) (hb : PE X b (tE G W fb)) : PE X (.Compare a [.Gt] [b] pos) (tE G W (bin gGt fa fb)) := pe_cmpV op_gt (okI0 fun _ _ _ _ => .bl _) ha hb (nomark _)
theorem e_ge (ha : PE X a (tE G W fa)) (hb : PE X b (tE G W fb)) : PE X (.Compare a [.GtE] [b] pos) (tE G W (bin gGe fa fb)) := pe_cmpV op_ge (okI0 fun _ _ _ _ => .bl _) ha hb (nomark _)
end

/-! ### data: views, ==, in -/
def viewD : Vl → Option PyData
  | .dat d => some d
  | .ml ds => some (.list ds)
  | .mml dss => some (.list (dss.map .list))
  | .ob _ _ => none
  | .st _ => none
def asL : Vl → Option (List PyData)
  | .dat (.list ds) => some ds
  | .ml ds => some ds
  | _ => none
def asT : Vl → Option (List PyData)
  | .dat (.tuple ds) => some ds
  | _ => none
section
variable {G : Glb} {P H : Hp} {v : V} {w : Vl} {d : PyData} {ds : List PyData}
theorem rows_dpa {S : Ad} (e : Same P H) : ∀ {as : List Addr} {dss : List (List PyData)}, Rows G P H S as dss → DpAll G.K H (as.map V.ref) (dss.map PyData.list)
  | [], [], _ => .nil
  | b :: as, ds :: dss, ⟨_, _, ⟨ys, h2, h3⟩, h4⟩ => .cons (.lst (SqL.of h2) (dpa_mono e _ _ h3)) (rows_dpa e h4)
  | [], _ :: _, h => h.elim
  | _ :: _, [], h => h.elim
theorem OwE.dp (h : OwE G P H v w) (e : Same P H) (hv : viewD w = some d) : Dp G.K H v d := by
  obtain ⟨S, h⟩ := h
  cases w with
  | dat d' => cases hv; exact dp_mono e _ _ h
  | ml ds => cases hv; obtain ⟨a, xs, rfl, _, h3, h4⟩ := h; exact .lst (SqL.of h3) (dpa_mono e _ _ h4)
  | mml dss => cases hv; obtain ⟨a, as, rfl, _, _, h4, h5⟩ := h; exact .lst (SqL.of h4) (rows_dpa e h5)
  | ob c fs => cases hv
  | st ns => cases hv
theorem OwE.lst (h : OwE G P H v w) (e : Same P H) (hv : asL w = some ds) : ∃ a xs, v = .ref a ∧ SqL G.K H a xs ∧ DpAll G.K P xs ds := by
  obtain ⟨S, h⟩ := h
  cases w with
  | dat d =>
    cases d with
    | list ds' =>
      cases hv
      have h : Dp G.K P v (.list ds) := h
      cases h with
      | lst hs ha => exact ⟨_, _, rfl, e.seq hs, ha⟩
    | _ => cases hv
  | ml ds => cases hv; obtain ⟨a, xs, rfl, _, h3, h4⟩ := h; exact ⟨a, xs, rfl, SqL.of h3, h4⟩
  | mml dss => cases hv
  | ob c fs => cases hv
  | st ns => cases hv
theorem OwE.tup (h : OwE G P H v w) (e : Same P H) (hv : asT w = some ds) : ∃ a xs, v = .ref a ∧ SqT G.K H a xs ∧ DpAll G.K P xs ds := by
  obtain ⟨S, h⟩ := h
  cases w with
  | dat d =>
    cases d with
    | tuple ds' =>
      cases hv
      have h : Dp G.K P v (.tuple ds) := h
      cases h with
      | tup hs ha => exact ⟨_, _, rfl, sqT_mono e hs, ha⟩
    | _ => cases hv
  | ml ds => cases hv
  | mml dss => cases hv
  | ob c fs => cases hv
  | st ns => cases hv
end
abbrev shp (d : PyData) : Prop := SeqAt.shaped d = true
noncomputable def gEqD (a b : Vl) : Option Vl := (viewD a).bind fun d => (viewD b).bind fun e => gd (shp d ∧ shp e) (vB (PyData.eqv d e))
noncomputable def gNeD (a b : Vl) : Option Vl := (viewD a).bind fun d => (viewD b).bind fun e => gd (shp d ∧ shp e) (vB (!PyData.eqv d e))
def gEqS : Vl → Vl → Option Vl
  | .dat (.str i), .dat (.str j) => some (vB (decide (i = j)))
  | _, _ => none
def gNeS : Vl → Vl → Option Vl
  | .dat (.str i), .dat (.str j) => some (vB (!decide (i = j)))
  | _, _ => none
noncomputable def gEq : Vl → Vl → Option Vl := orG gEqS gEqD
noncomputable def gNe : Vl → Vl → Option Vl := orG gNeS gNeD
noncomputable def gIn (a b : Vl) : Option Vl := (viewD a).bind fun d => (viewD b).bind fun e => match e with
  | .list ds => gd (shp d ∧ shp e) (vB (ds.any fun z => PyData.eqv z d))
  | .tuple ds => gd (shp d ∧ shp e) (vB (ds.any fun z => PyData.eqv z d))
  | _ => none
noncomputable def gNotIn (a b : Vl) : Option Vl := (viewD a).bind fun d => (viewD b).bind fun e => match e with
  | .list ds => gd (shp d ∧ shp e) (vB (!ds.any fun z => PyData.eqv z d))
  | .tuple ds => gd (shp d ∧ shp e) (vB (!ds.any fun z => PyData.eqv z d))
  | _ => none
def rInT (K : PySem.W.Frag) (neg : Bool) : R2 := fun x y H Q => ∃ d ds, Dp K H x d ∧ Dp K H y (.tuple ds) ∧ SeqAt.shaped d = true ∧ SeqAt.shaped (.tuple ds) = true ∧ Q (.bl (if neg then !ds.any (fun z => PyData.eqv z d) else ds.any fun z => PyData.eqv z d)) H
section
variable {X : Cx}
theorem op_inT (hu : X.A.units + 65 < cLine) : OpR X (compareOp .In) (rInT X.K false) := by
  intro pins s σ H x y v u Q I rx ry h
  obtain ⟨d, ds, hd, he, sd, se, q⟩ := h
  obtain ⟨as, r1⟩ := Dp.reads I d x v hd rx
  obtain ⟨bs, r2⟩ := Dp.reads I (.tuple ds) y u he ry
  exact SeqAt.in_tuple_reads r2 r1 (SeqAt.canLay_of_shaped se) (SeqAt.canLay_of_shaped sd) (PyProof.Rows.room_in_shaped sd hu) ⟨.bl _, H, I, rfl, q⟩
theorem op_notInT (hu : X.A.units + 65 < cLine) : OpR X (compareOp .NotIn) (rInT X.K true) := by
  intro pins s σ H x y v u Q I rx ry h
  obtain ⟨d, ds, hd, he, sd, se, q⟩ := h
  obtain ⟨as, r1⟩ := Dp.reads I d x v hd rx
  obtain ⟨bs, r2⟩ := Dp.reads I (.tuple ds) y u he ry
  exact SeqAt.notIn_tuple_reads r2 r1 (SeqAt.canLay_of_shaped se) (SeqAt.canLay_of_shaped sd) (PyProof.Rows.room_in_shaped sd hu) ⟨.bl _, H, I, rfl, q⟩
end
end Mi
end
section
set_option Elab.async false
set_option linter.all false
set_option maxRecDepth 100000
/-! Ev4: the context; ==, in, +, *, subscripts, slices; tests; displays; calls of built-ins -/
namespace Mi
open PySem L2

/-- what a rule may lean on -/
structure Cxt (G : Glb) (X : Cx) (W : WX) (k : Nat) : Prop where
  K : X.K = G.K
  calm : X.calm = true
  room : Room k X.A
  gd : X.A.guards = some []
  tk : L2N.Takes X W
  nd : X.N.Nodup
theorem Cxt.u65 {G : Glb} {X : Cx} {W : WX} {k : Nat} (c : Cxt G X W k) : X.A.units + 65 < cLine := by have := c.room.un; omega
theorem Cxt.u64 {G : Glb} {X : Cx} {W : WX} {k : Nat} (c : Cxt G X W k) : X.A.units + 64 < cLine := by have := c.room.un; omega

section
variable {X : Cx} {W : WX} {G : Glb} {k : Nat} {a b e : Expr} {fa fb f : FE} {pos : Pos} {K : PySem.W.Frag}
theorem okEqD (h : K = G.K) : OpOk G (rEqD K) gEqD := by
  subst h
  intro P H x y a b w Q e hx hy hw q
  unfold gEqD at hw
  cases ea : viewD a with
  | none => rw [ea] at hw; cases hw
  | some d =>
    cases eb : viewD b with
    | none => rw [ea, eb] at hw; cases hw
    | some d' =>
      rw [ea, eb] at hw
      obtain ⟨⟨h1, h2⟩, rfl⟩ := gd_some hw
      exact ⟨d, d', hx.dp e ea, hy.dp e eb, h1, h2, q _ P H nobody (Alc.refl e) (Dp.bl _)⟩
theorem okNeD (h : K = G.K) : OpOk G (rNeD K) gNeD := by
  subst h
  intro P H x y a b w Q e hx hy hw q
  unfold gNeD at hw
  cases ea : viewD a with
  | none => rw [ea] at hw; cases hw
  | some d =>
    cases eb : viewD b with
    | none => rw [ea, eb] at hw; cases hw
    | some d' =>
      rw [ea, eb] at hw
      obtain ⟨⟨h1, h2⟩, rfl⟩ := gd_some hw
      exact ⟨d, d', hx.dp e ea, hy.dp e eb, h1, h2, q _ P H nobody (Alc.refl e) (Dp.bl _)⟩
theorem okEqS : OpOk G rEq gEqS := by
  intro P H x y a b w Q e hx hy hw q
  unfold gEqS at hw
  split at hw
  · rename_i i j
    cases hw
    rw [ow_str hx, ow_str hy]
    refine ⟨rfl, ?_⟩
    rw [show decide (V.str i = V.str j) = decide (i = j) from by simp]
    exact q _ P H nobody (Alc.refl e) (Dp.bl _)
  · cases hw
theorem okNeS : OpOk G rNe gNeS := by
  intro P H x y a b w Q e hx hy hw q
  unfold gNeS at hw
  split at hw
  · rename_i i j
    cases hw
    rw [ow_str hx, ow_str hy]
    refine ⟨rfl, ?_⟩
    rw [show decide (V.str i = V.str j) = decide (i = j) from by simp]
    exact q _ P H nobody (Alc.refl e) (Dp.bl _)
  · cases hw
theorem okEq (h : K = G.K) : OpOk G (fun x y H Q => rEq x y H Q ∨ rEqD K x y H Q) gEq := okOr okEqS (okEqD h)
theorem okNe (h : K = G.K) : OpOk G (fun x y H Q => rNe x y H Q ∨ rNeD K x y H Q) gNe := okOr okNeS (okNeD h)
theorem okIn (h : K = G.K) : OpOk G (fun x y H Q => rInD K x y H Q ∨ rInT K false x y H Q) gIn := by
  subst h
  intro P H x y a b w Q e hx hy hw q
  unfold gIn at hw
  cases ea : viewD a with
  | none => rw [ea] at hw; cases hw
  | some d =>
    cases eb : viewD b with
    | none => rw [ea, eb] at hw; cases hw
    | some d' =>
      rw [ea, eb] at hw
      cases d' with
      | list ds =>
        obtain ⟨⟨h1, h2⟩, rfl⟩ := gd_some hw
        exact .inl ⟨d, ds, hx.dp e ea, hy.dp e eb, h1, h2, q _ P H nobody (Alc.refl e) (Dp.bl _)⟩
      | tuple ds =>
        obtain ⟨⟨h1, h2⟩, rfl⟩ := gd_some hw
        exact .inr ⟨d, ds, hx.dp e ea, hy.dp e eb, h1, h2, q _ P H nobody (Alc.refl e) (Dp.bl _)⟩
      | _ => cases hw
theorem okNotIn (h : K = G.K) : OpOk G (fun x y H Q => rNotInD K x y H Q ∨ rInT K true x y H Q) gNotIn := by
  subst h
  intro P H x y a b w Q e hx hy hw q
  unfold gNotIn at hw
  cases ea : viewD a with
  | none => rw [ea] at hw; cases hw
  | some d =>
    cases eb : viewD b with
    | none => rw [ea, eb] at hw; cases hw
    | some d' =>
      rw [ea, eb] at hw
      cases d' with
      | list ds =>
        obtain ⟨⟨h1, h2⟩, rfl⟩ := gd_some hw
        exact .inl ⟨d, ds, hx.dp e ea, hy.dp e eb, h1, h2, q _ P H nobody (Alc.refl e) (Dp.bl _)⟩
      | tuple ds =>
        obtain ⟨⟨h1, h2⟩, rfl⟩ := gd_some hw
        exact .inr ⟨d, ds, hx.dp e ea, hy.dp e eb, h1, h2, q _ P H nobody (Alc.refl e) (Dp.bl _)⟩
      | _ => cases hw
theorem e_eq (c : Cxt G X W k) (ha : PE X a (tE G W fa)) (hb : PE X b (tE G W fb)) : PE X (.Compare a [.Eq] [b] pos) (tE G W (bin gEq fa fb)) := pe_cmpV (OpR.or op_eq (op_eqD c.u64)) (okEq c.K) ha hb (nomark _)
theorem e_ne (c : Cxt G X W k) (ha : PE X a (tE G W fa)) (hb : PE X b (tE G W fb)) : PE X (.Compare a [.NotEq] [b] pos) (tE G W (bin gNe fa fb)) := pe_cmpV (OpR.or op_ne (op_neD c.u64)) (okNe c.K) ha hb (nomark _)
theorem e_in (c : Cxt G X W k) (ha : PE X a (tE G W fa)) (hb : PE X b (tE G W fb)) (hm : behindInMarks .In b = false := by rfl) : PE X (.Compare a [.In] [b] pos) (tE G W (bin gIn fa fb)) := pe_cmpV (OpR.or (op_inD c.u65) (op_inT c.u65)) (okIn c.K) ha hb hm
theorem e_notIn (c : Cxt G X W k) (ha : PE X a (tE G W fa)) (hb : PE X b (tE G W fb)) (hm : behindInMarks .NotIn b = false := by rfl) : PE X (.Compare a [.NotIn] [b] pos) (tE G W (bin gNotIn fa fb)) := pe_cmpV (OpR.or (op_notInD c.u65) (op_notInT c.u65)) (okNotIn c.K) ha hb hm

/-! ### is None -/
def gIsN (neg : Bool) (a b : Vl) : Option Vl := match b with
  | .dat .none => match a with
    | .dat .none => some (vB (if neg then false else true))
    | _ => some (vB (if neg then true else false))
  | _ => none
theorem ow_ne_non {P H : Hp} {v : V} {w : Vl} (h : OwE G P H v w) (n : w ≠ .dat .none) : v ≠ .non := by
  obtain ⟨S, h⟩ := h
  intro z
  subst z
  cases w with
  | dat d =>
    have h : Dp G.K P .non d := h
    cases h; exact n rfl
  | ml ds => obtain ⟨a, xs, z, _⟩ := h; cases z
  | mml ds => obtain ⟨a, xs, z, _⟩ := h; cases z
  | ob c fs => obtain ⟨a, xs, fv, z, _⟩ := h; cases z
  | st ns => obtain ⟨a, m, n, z, _⟩ := h; cases z
theorem isN_core {neg : Bool} {P H : Hp} {x y : V} {a b w : Vl} {Q : VK} (e : Same P H) (hx : OwE G P H x a) (hy : OwE G P H y b) (hw : gIsN neg a b = some w) (q : ∀ v P' H' S, Alc P H P' H' S → Ow G P' H' S v w → Q v H') :
    y = .non ∧ Q (.bl (if neg then !decide (x = .non) else decide (x = .non))) H := by
  unfold gIsN at hw
  split at hw
  · refine ⟨ow_non hy, ?_⟩
    split at hw
    · cases hw
      rw [ow_non hx]
      cases neg <;> exact q _ P H nobody (Alc.refl e) (Dp.bl _)
    · rename_i h1
      cases hw
      have hne := ow_ne_non hx (fun z => h1 z)
      rw [decide_eq_false hne]
      cases neg <;> exact q _ P H nobody (Alc.refl e) (Dp.bl _)
  · cases hw
theorem okIsN : OpOk G (fun x y H Q => y = .non ∧ Q (.bl (decide (x = .non))) H) (gIsN false) := fun P H x y a b w Q e hx hy hw q => isN_core (neg := false) e hx hy hw q
theorem okNotN : OpOk G (fun x y H Q => y = .non ∧ Q (.bl (!decide (x = .non))) H) (gIsN true) := fun P H x y a b w Q e hx hy hw q => isN_core (neg := true) e hx hy hw q
theorem e_isN (ha : PE X a (tE G W fa)) (hb : PE X b (tE G W fb)) : PE X (.Compare a [.Is] [b] pos) (tE G W (bin (gIsN false) fa fb)) := pe_cmpV op_isN okIsN ha hb (nomark _)
theorem e_notN (ha : PE X a (tE G W fa)) (hb : PE X b (tE G W fb)) : PE X (.Compare a [.IsNot] [b] pos) (tE G W (bin (gIsN true) fa fb)) := pe_cmpV op_notN okNotN ha hb (nomark _)

/-! ### +, * -/
def rCatL (K : PySem.W.Frag) : R2 := fun x y H Q => ∃ l b xs zs, x = .ref l ∧ y = .ref b ∧ SqL K H l xs ∧ SqL K H b zs ∧ xs.length + zs.length ≤ sizeLine ∧ ∀ p, H p = none → Q (.ref p) (upd H p (.lst (xs ++ zs)))
theorem op_catL : OpR X (binaryOp .Add) (rCatL X.K) := by
  intro pins s σ H x y v u Q I rx ry h
  obtain ⟨l, b, xs, zs, rfl, rfl, hH, hB, hz, q⟩ := h
  cases rx
  cases ry
  obtain ⟨its, r, ⟨⟨cls, dd, data, sl⟩, n, ho, hc, hd0, hd⟩, _⟩ := I.list hH
  obtain ⟨its2, r2, ⟨⟨cls2, dd2, data2, sl2⟩, n2, ho2, hc2, hd02, hd2⟩, _⟩ := I.list hB
  simp only at hc hd hc2 hd2
  subst hc hd hc2 hd2
  have l1 := r.length
  have l2 := r2.length
  have ea : its.toArray ++ its2.toArray = (its ++ its2).toArray := by simp
  refine concat_meets ⟨_, ho, rfl⟩ ⟨_, ho2, rfl⟩ noFill_list_add seq_list_add PySem.F.slot_list_add PySem.F.entry_list_add (PySem.F.args_list_add_2 _ _) (PyProof.Rows.list_addW l b its.toArray its2.toArray n n2 dd dd2 sl sl2 (by rw [List.size_toArray, List.size_toArray]; omega)) ⟨ho, ho2, ?_⟩
  rw [ea]
  exact ⟨.ref _, _, I.lnew (t' := s.toks) (r.append r2) (by rw [List.length_append]; omega), rfl, q _ I.fresh⟩
noncomputable def gCatL (a b : Vl) : Option Vl := (asL a).bind fun ds => (asL b).bind fun es => gd (ds.length + es.length ≤ sizeLine) (.ml (ds ++ es))
noncomputable def gCatT (a b : Vl) : Option Vl := (asT a).bind fun ds => (asT b).bind fun es => gd (ds.length + es.length ≤ sizeLine) (.dat (.tuple (ds ++ es)))
noncomputable def gCatS : Vl → Vl → Option Vl
  | .dat (.str x), .dat (.str y) => gd (x.length + y.length ≤ sizeLine) (.dat (.str (x ++ y)))
  | _, _ => none
theorem okCatL (h : K = G.K) : OpOk G (rCatL K) gCatL := by
  subst h
  intro P H x y a b w Q e hx hy hw q
  unfold gCatL at hw
  cases ea : asL a with
  | none => rw [ea] at hw; cases hw
  | some ds =>
    cases eb : asL b with
    | none => rw [ea, eb] at hw; cases hw
    | some es =>
      rw [ea, eb] at hw
      obtain ⟨hz, rfl⟩ := gd_some hw
      obtain ⟨p1, xs, rfl, h1, h2⟩ := hx.lst e ea
      obtain ⟨p2, ys, rfl, h3, h4⟩ := hy.lst e eb
      have l1 := dpa_len _ _ h2
      have l2 := dpa_len _ _ h4
      exact ⟨p1, p2, xs, ys, rfl, rfl, h1, h3, by omega, fun p hp => q _ P _ _ (Alc.own e hp) ⟨p, _, rfl, rfl, upd_same, dpa_app h2 h4⟩⟩
theorem okCatT (h : K = G.K) : OpOk G (rCatA K) gCatT := by
  subst h
  intro P H x y a b w Q e hx hy hw q
  unfold gCatT at hw
  cases ea : asT a with
  | none => rw [ea] at hw; cases hw
  | some ds =>
    cases eb : asT b with
    | none => rw [ea, eb] at hw; cases hw
    | some es =>
      rw [ea, eb] at hw
      obtain ⟨hz, rfl⟩ := gd_some hw
      have hx0 := hx
      have hy0 := hy
      obtain ⟨p1, xs, rfl, h1, h2⟩ := hx.tup e ea
      obtain ⟨p2, ys, rfl, h3, h4⟩ := hy.tup e eb
      have l1 := dpa_len _ _ h2
      have l2 := dpa_len _ _ h4
      have ra : a = .dat (.tuple ds) := by
        cases a with
        | dat d => cases d <;> first | (cases ea; rfl) | cases ea
        | _ => cases ea
      have rb : b = .dat (.tuple es) := by
        cases b with
        | dat d => cases d <;> first | (cases eb; rfl) | cases eb
        | _ => cases eb
      subst ra
      subst rb
      obtain ⟨S1, o1⟩ := hx0
      obtain ⟨S2, o2⟩ := hy0
      have o1 : Dp G.K P (.ref p1) (.tuple ds) := o1
      have o2 : Dp G.K P (.ref p2) (.tuple es) := o2
      refine ⟨p1, p2, xs, ys, rfl, rfl, h1, h3, by omega, fun z => ?_, fun _ z => ?_, fun _ _ p hp => ?_⟩
      · have : ds = [] := by cases ds with | nil => rfl | cons d ds => rw [z] at l1; simp at l1
        subst this
        exact q _ P H nobody (Alc.refl e) o2
      · have : es = [] := by cases es with | nil => rfl | cons d ds => rw [z] at l2; simp at l2
        subst this
        rw [List.append_nil] at q
        exact q _ P H nobody (Alc.refl e) o1
      · exact q _ _ _ _ (Alc.tup (o := .tup (xs ++ ys)) e hp) (Dp.tup (SqT.of upd_same) (dpa_mono (same_upd (same_none e hp)) _ _ (dpa_app h2 h4)))
theorem okCatS : OpOk G (fun x y H Q => ∃ i j, x = V.str i ∧ y = V.str j ∧ i.length + j.length ≤ sizeLine ∧ Q (.str (i ++ j)) H) gCatS := by
  intro P H x y a b w Q e hx hy hw q
  unfold gCatS at hw
  split at hw
  · obtain ⟨hz, rfl⟩ := gd_some hw
    exact ⟨_, _, ow_str hx, ow_str hy, hz, q _ P H nobody (Alc.refl e) (Dp.str _)⟩
  · cases hw
noncomputable def gAddI := iop tt2 fun i j => .int (i + j)
noncomputable def gAdd : Vl → Vl → Option Vl := orG gAddI (orG gCatL (orG gCatT gCatS))
theorem e_add (c : Cxt G X W k) (ha : PE X a (tE G W fa)) (hb : PE X b (tE G W fb)) : PE X (.BinOp a .Add b pos) (tE G W (bin gAdd fa fb)) :=
  pe_binV (OpR.or op_add (OpR.or op_catL (OpR.or op_catA op_add_str))) (okOr (okI0 fun _ _ _ _ => .int _) (okOr (okCatL c.K) (okOr (okCatT c.K) okCatS))) ha hb
def asM : Vl → Option (List PyData)
  | .ml ds => some ds
  | _ => none
noncomputable def gRepL : Vl → Vl → Option Vl
  | .ml ds, .dat (.int k) => gd (-(2 ^ 63) ≤ k ∧ k < 2 ^ 63 ∧ ds.length * k.toNat ≤ sizeLine) (.ml (List.replicate k.toNat ds).flatten)
  | _, _ => none
noncomputable def gRepT : Vl → Vl → Option Vl
  | .dat (.tuple ds), .dat (.int k) => gd (ds ≠ [] ∧ 2 ≤ k ∧ k ≤ 1000 ∧ ds.length ≤ 1000) (.dat (.tuple (List.replicate k.toNat ds).flatten))
  | _, _ => none
theorem dpa_rep {P : Hp} {ds : List PyData} {xs : List V} (h : DpAll K P xs ds) : ∀ n : Nat, DpAll K P (List.replicate n xs).flatten (List.replicate n ds).flatten
  | 0 => .nil
  | n + 1 => by
    rw [List.replicate_succ, List.replicate_succ, List.flatten_cons, List.flatten_cons]
    exact dpa_app h (dpa_rep h n)
theorem okRepL : OpOk G rRep gRepL := by
  intro P H x y a b w Q e hx hy hw q
  unfold gRepL at hw
  split at hw
  · obtain ⟨⟨h1, h2, h3⟩, rfl⟩ := gd_some hw
    obtain ⟨S, l, xs, rfl, _, h4, h5⟩ := hx
    have l1 := dpa_len _ _ h5
    exact ⟨l, _, xs, rfl, ow_int hy, h4, h1, h2, by rw [l1]; exact h3, fun p hp => q _ P _ _ (Alc.own e hp) ⟨p, _, rfl, rfl, upd_same, dpa_rep h5 _⟩⟩
  · cases hw
theorem okRepT (h : K = G.K) : OpOk G (rRepT K) gRepT := by
  subst h
  intro P H x y a b w Q e hx hy hw q
  unfold gRepT at hw
  split at hw
  · rename_i ds k
    obtain ⟨⟨h0, h1, h2, h3⟩, rfl⟩ := gd_some hw
    obtain ⟨p1, xs, rfl, h4, h5⟩ := hx.tup e (show asT (.dat (.tuple ds)) = some ds from rfl)
    have l1 := dpa_len _ _ h5
    refine ⟨p1, _, xs, rfl, ow_int hy, h4, fun z => ?_, h1, h2, by omega, fun p hp => ?_⟩
    · subst z
      exact h0 (List.eq_nil_of_length_eq_zero l1.symm)
    · exact q _ _ _ _ (Alc.tup (o := .tup _) e hp) (Dp.tup (SqT.of upd_same) (dpa_mono (same_upd (same_none e hp)) _ _ (dpa_rep h5 _)))
  · cases hw
noncomputable def gMulI := iop CMul fun i j => .int (i * j)
noncomputable def gMul : Vl → Vl → Option Vl := orG gMulI (orG gRepL gRepT)
theorem e_mul (c : Cxt G X W k) (ha : PE X a (tE G W fa)) (hb : PE X b (tE G W fb)) : PE X (.BinOp a .Mult b pos) (tE G W (bin gMul fa fb)) :=
  pe_binV (OpR.or op_mul (OpR.or op_rep op_repT)) (okOr (okI fun _ _ _ _ => .int _) (okOr okRepL (okRepT c.K))) ha hb

/-! ### unary -/
noncomputable def gU (g : Int → Int) : Vl → Option Vl
  | .dat (.int i) => some (vI (g i))
  | _ => none
theorem okU {g : Int → Int} : UnOk G (rU fun i => .int (g i)) (gU g) := by
  intro P H x a w Q e hx hw q
  unfold gU at hw
  split at hw
  · cases hw
    exact ⟨_, ow_int hx, q _ P H nobody (Alc.refl e) (Dp.int _)⟩
  · cases hw
theorem e_neg (ha : PE X a (tE G W fa)) : PE X (.UnaryOp .USub a pos) (tE G W (una (gU fun i => -i) fa)) := PE.imp (pe_un un_neg ha) fun _ _ _ h => una_ok okU h
theorem e_inv (ha : PE X a (tE G W fa)) : PE X (.UnaryOp .Invert a pos) (tE G W (una (gU Builtin.bitNot) fa)) := PE.imp (pe_un un_inv ha) fun _ _ _ h => una_ok okU h

/-! ### subscripts -/
def gIx : Vl → Vl → Option Vl := fun a b => match b with
  | .dat (.int i) => match asL a with
    | some ds => (atI ds i).map .dat
    | none => match asT a with
      | some ds => (atI ds i).map .dat
      | none => none
  | _ => none
theorem at_rel {P : Hp} {ds : List PyData} {xs : List V} {i : Int} {d : PyData} (h : DpAll K P xs ds) (e : atI ds i = some d) : ∃ v, atI xs i = some v ∧ Dp K P v d := by
  unfold atI at e ⊢
  rw [dpa_len _ _ h]
  cases q : ixN ds.length i with
  | none => rw [q] at e; cases e
  | some j =>
    rw [q] at e
    exact dpa_get _ _ h j d e
theorem okIx (h : K = G.K) : OpOk G (fun x y H Q => rIxL K x y H Q ∨ rIxT K x y H Q) gIx := by
  subst h
  intro P H x y a b w Q e hx hy hw q
  unfold gIx at hw
  split at hw
  · rename_i i
    have hi := ow_int hy
    subst hi
    cases ea : asL a with
    | some ds =>
      rw [ea] at hw
      obtain ⟨p1, xs, rfl, h1, h2⟩ := hx.lst e ea
      obtain ⟨d, hd, rfl⟩ := Option.map_eq_some_iff.mp hw
      obtain ⟨v, h3, h4⟩ := at_rel h2 hd
      exact .inl ⟨p1, xs, i, v, rfl, rfl, h1, h3, q _ P H nobody (Alc.refl e) h4⟩
    | none =>
      rw [ea] at hw
      cases eb : asT a with
      | none => rw [eb] at hw; cases hw
      | some ds =>
        rw [eb] at hw
        obtain ⟨p1, xs, rfl, h1, h2⟩ := hx.tup e eb
        obtain ⟨d, hd, rfl⟩ := Option.map_eq_some_iff.mp hw
        obtain ⟨v, h3, h4⟩ := at_rel h2 hd
        exact .inr ⟨p1, xs, i, v, rfl, rfl, h1, h3, q _ P H nobody (Alc.refl e) h4⟩
  · cases hw
theorem e_ix (c : Cxt G X W k) (ha : PE X a (tE G W fa)) (hb : PE X b (tE G W fb)) (hs : PlainIx b := by exact fun _ _ => rfl) : PE X (.Subscript a b pos) (tE G W (bin gIx fa fb)) :=
  PE.imp (pe_ix (ix_list.or ix_tup) ha hb hs) fun _ _ _ h => bin_ok (okIx c.K) h
end
end Mi
end
section
set_option Elab.async false
set_option linter.all false
set_option maxRecDepth 100000
/-! Ev5: slices, chains, tests, and, or, not, if .. else -/
namespace Mi
open PySem L2

/-! ### the general bind for tests -/
section
variable {G : Glb} {W : WX} {P H P1 H1 : Hp} {F F1 : Nat → Ad} {σ : L2.St} {ρ : Rho} {f : FT}
theorem tT_bind {Q : Bool → Hp → Prop} {β : Type} {k : Bool → Rho → Out β} {End : Hp → Hp → (Nat → Ad) → Out β → Prop} (n : Now G P H σ ρ F) (hE : End P H F ((f ρ).bind k))
    (hx : ∀ c ρ', End P H F (.exc c ρ') → ∀ P' H' F', Now G P' H' σ ρ' F' → Stp P H F P' H' F' → W (.ref (G.ea c)) none σ H') (hs : ¬ End P H F .stk)
    (h : ∀ b ρ1 P1 H1 F1, f ρ = .ok b ρ1 → End P H F (k b ρ1) → Now G P1 H1 σ ρ1 F1 → Stp P H F P1 H1 F1 → Q b H1) : tT G W f σ H Q := by
  refine ⟨ρ, P, F, n, ?_⟩
  cases e : f ρ with
  | ok b ρ1 =>
    rw [e] at hE
    exact fun P1 H1 F1 n1 s1 => h b ρ1 P1 H1 F1 e hE n1 s1
  | exc c ρ' => rw [e] at hE; exact hx c ρ' hE
  | stk => rw [e] at hE; exact (hs hE).elim
end

/-! ### truth -/
noncomputable def tru (w : Vl) : Option Bool := match w with
  | .dat .none => some false
  | .dat (.bool b) => some b
  | .dat (.int i) => some (i != 0)
  | .dat (.list ds) => some (!ds.isEmpty)
  | .dat (.tuple ds) => some (!ds.isEmpty)
  | .ml ds => some (!ds.isEmpty)
  | _ => none
section
variable {X : Cx} {W : WX} {G : Glb} {k : Nat} {a b c e : Expr} {fa fb fc f : FE} {pos p2 : Pos} {K : PySem.W.Frag} {P H : Hp} {v : V} {w : Vl}
theorem isEmpty_dpa {xs : List V} {ds : List PyData} (h : DpAll K P xs ds) : (!ds.isEmpty) = !xs.isEmpty := by cases h <;> rfl
theorem tru_ok' (h : OwE G P H v w) (e : Same P H) {b : Bool} (t : tru w = some b) : TruV G.K v H b := by
  unfold tru at t
  split at t
  · cases t; rw [ow_non h]; rfl
  · cases t; rw [ow_bool h]; rfl
  · cases t; rw [ow_int h]; rfl
  · rename_i ds
    cases t
    obtain ⟨p, xs, rfl, h1, h2⟩ := h.lst e (show asL (.dat (.list ds)) = some ds from rfl)
    exact .inl ⟨xs, h1, isEmpty_dpa h2⟩
  · rename_i ds
    cases t
    obtain ⟨p, xs, rfl, h1, h2⟩ := h.tup e (show asT (.dat (.tuple ds)) = some ds from rfl)
    exact .inr (.inl ⟨xs, h1, isEmpty_dpa h2⟩)
  · rename_i ds
    cases t
    obtain ⟨p, xs, rfl, h1, h2⟩ := h.lst e (show asL (.ml ds) = some ds from rfl)
    exact .inl ⟨xs, h1, isEmpty_dpa h2⟩
  · cases t
noncomputable def trO (ρ : Rho) (o : Opd) : Out Bool := match (look ρ o).bind tru with
  | some b => .ok b ρ
  | none => .stk
/-- a value as a test -/
noncomputable def tTr (f : FE) : FT := fun ρ => (f ρ).bind fun o ρ1 => trO ρ1 o
theorem trO_ok {ρ : Rho} {o : Opd} {W : WX} {P0 H0 : Hp} {F0 : Nat → Ad} {σ : L2.St} {Q : Bool → Hp → Prop} (h : EndT G W P0 H0 F0 σ Q (trO ρ o)) : ∃ w b, look ρ o = some w ∧ tru w = some b ∧ EndT G W P0 H0 F0 σ Q (.ok b ρ) := by
  unfold trO at h
  cases e : look ρ o with
  | none => rw [e] at h; exact h.elim
  | some w =>
    rw [e] at h
    cases e2 : tru w with
    | none => rw [Option.bind_some, e2] at h; exact h.elim
    | some b => rw [Option.bind_some, e2] at h; exact ⟨w, b, rfl, e2, h⟩
theorem t_tru (hK : X.K = G.K) (he : PE X e (tE G W f)) (hi : ∀ whole, isTrue e X.env whole = (do let v ← whole; standAt e.pos; holding [v] (truthy v)) := by intro _; rfl) : PT X e (tT G W (tTr f)) := PT.imp (pt_truth he hi) fun σ H Q h => by
  obtain ⟨ρ, P, F, n, h⟩ := h
  refine tE_bind (End := fun P H F => EndT G W P H F σ Q) n h (fun _ _ z => z) (fun z => z) fun x ρ1 vx P1 H1 F1 S1 e1 h1 n1 s1 hx q1 => ?_
  obtain ⟨w, b, hw, hb, h1⟩ := trO_ok h1
  refine ⟨b, ?_, h1 P1 H1 F1 n1 s1⟩
  rw [hK]
  exact tru_ok' (hx.look n1 hw) n1.ex hb

/-! ### comparisons, bundled -/
structure CmpV (G : Glb) (X : Cx) (op : CmpOp) (g : Vl → Vl → Option Vl) : Prop where
  ex : ∃ r, OpR X (compareOp op) r ∧ OpOk G r g
  nm : op ≠ .In ∧ op ≠ .NotIn
theorem c_lt : CmpV G X .Lt gLt := ⟨⟨_, op_lt, okI0 fun _ _ _ _ => .bl _⟩, by decide, by decide⟩
theorem c_le : CmpV G X .LtE gLe := ⟨⟨_, op_le, okI0 fun _ _ _ _ => .bl _⟩, by decide, by decide⟩
theorem c_gt : CmpV G X .Gt gGt := ⟨⟨_, op_gt, okI0 fun _ _ _ _ => .bl _⟩, by decide, by decide⟩
theorem c_ge : CmpV G X .GtE gGe := ⟨⟨_, op_ge, okI0 fun _ _ _ _ => .bl _⟩, by decide, by decide⟩
theorem c_eq (c : Cxt G X W k) : CmpV G X .Eq gEq := ⟨⟨_, OpR.or op_eq (op_eqD c.u64), okEq c.K⟩, by decide, by decide⟩
theorem c_ne (c : Cxt G X W k) : CmpV G X .NotEq gNe := ⟨⟨_, OpR.or op_ne (op_neD c.u64), okNe c.K⟩, by decide, by decide⟩
theorem c_isN : CmpV G X .Is (gIsN false) := ⟨⟨_, op_isN, okIsN⟩, by decide, by decide⟩
theorem c_notN : CmpV G X .IsNot (gIsN true) := ⟨⟨_, op_notN, okNotN⟩, by decide, by decide⟩
theorem e_cmp {op : CmpOp} {g : Vl → Vl → Option Vl} (h : CmpV G X op g) (ha : PE X a (tE G W fa)) (hb : PE X b (tE G W fb)) : PE X (.Compare a [op] [b] pos) (tE G W (bin g fa fb)) := by
  obtain ⟨⟨r, ho, ok⟩, h1, h2⟩ := h
  exact pe_cmpV ho ok ha hb (nobehind b h1 h2)
/-- a truth value as a test -/
noncomputable def boO (ρ : Rho) (o : Opd) : Out Bool := match look ρ o with
  | some (.dat (.bool b)) => .ok b ρ
  | _ => .stk
noncomputable def tBo (f : FE) : FT := fun ρ => (f ρ).bind fun o ρ1 => boO ρ1 o
theorem boO_ok {ρ : Rho} {o : Opd} {W : WX} {P0 H0 : Hp} {F0 : Nat → Ad} {σ : L2.St} {Q : Bool → Hp → Prop} (h : EndT G W P0 H0 F0 σ Q (boO ρ o)) : ∃ b, look ρ o = some (vB b) ∧ EndT G W P0 H0 F0 σ Q (.ok b ρ) := by
  unfold boO at h
  split at h
  · rename_i b e; exact ⟨b, e, h⟩
  · exact h.elim
theorem bo_rd {σ : L2.St} {H : Hp} {Q : Bool → Hp → Prop} {f : FE} (h : tT G W (tBo f) σ H Q) : tE G W f σ H (fun x H' => ∃ k, x = .bl k ∧ Q k H') := by
  obtain ⟨ρ, P, F, n, h⟩ := h
  refine tE_bind (End := fun P H F => EndT G W P H F σ Q) n h (fun _ _ z => z) (fun z => z) fun x ρ1 vx P1 H1 F1 S1 e1 h1 n1 s1 hx q1 => ?_
  obtain ⟨b, hb, h1⟩ := boO_ok h1
  exact ⟨b, ow_bool (hx.look n1 hb), h1 P1 H1 F1 n1 s1⟩
theorem t_cmp {op : CmpOp} {g : Vl → Vl → Option Vl} (h : CmpV G X op g) (ha : PE X a (tE G W fa)) (hb : PE X b (tE G W fb)) : PT X (.Compare a [op] [b] pos) (tT G W (tBo (bin g fa fb))) := by
  obtain ⟨⟨r, ho, ok⟩, h1, h2⟩ := h
  exact PT.imp (pt_cmpR ho ha hb (nobehind b h1 h2)) fun _ _ _ h => bin_ok ok (bo_rd h)
theorem t_in (c : Cxt G X W k) (ha : PE X a (tE G W fa)) (hb : PE X b (tE G W fb)) (hm : behindInMarks .In b = false := by rfl) : PT X (.Compare a [.In] [b] pos) (tT G W (tBo (bin gIn fa fb))) :=
  PT.imp (pt_cmpR (OpR.or (op_inD c.u65) (op_inT c.u65)) ha hb hm) fun _ _ _ h => bin_ok (okIn c.K) (bo_rd h)
theorem t_notIn (c : Cxt G X W k) (ha : PE X a (tE G W fa)) (hb : PE X b (tE G W fb)) (hm : behindInMarks .NotIn b = false := by rfl) : PT X (.Compare a [.NotIn] [b] pos) (tT G W (tBo (bin gNotIn fa fb))) :=
  PT.imp (pt_cmpR (OpR.or (op_notInD c.u65) (op_notInT c.u65)) ha hb hm) fun _ _ _ h => bin_ok (okNotIn c.K) (bo_rd h)

/-! ### chains -/
noncomputable def chain (g g' : Vl → Vl → Option Vl) (fa fb fc : FE) : FE := fun ρ => (fa ρ).bind fun x ρ1 => (fb ρ1).bind fun y ρ2 =>
  match (look ρ2 x).bind fun a => (look ρ2 y).bind fun b => g a b with
  | some (.dat (.bool true)) => (fc ρ2).bind fun z ρ3 => ret ρ3 ((look ρ3 y).bind fun b => (look ρ3 z).bind fun c => g' b c)
  | some (.dat (.bool false)) => .ok (.val (vB false)) ρ2
  | _ => .stk
theorem chain_rd {r r' : R2} {g g' : Vl → Vl → Option Vl} (ok : OpOk G r g) (ok' : OpOk G r' g') {σ : L2.St} {H : Hp} {Q : VK} (h : tE G W (chain g g' fa fb fc) σ H Q) : tChain r r' (tE G W fa) (tE G W fb) (tE G W fc) σ H Q := by
  obtain ⟨ρ, P, F, n, h⟩ := h
  refine tE_bind (End := fun P H F => EndO G W P H F σ Q) n h (fun _ _ z => z) (fun z => z) fun x ρ1 vx P1 H1 F1 S1 e1 h1 n1 s1 hx q1 => ?_
  refine tE_bind (End := fun P H F => EndO G W P H F σ Q) n1 (EndO.trans s1 h1) (fun _ _ z => z) (fun z => z) fun y ρ2 vy P2 H2 F2 S2 e2 h2 n2 s2 hy q2 => ?_
  have h2 := EndO.trans s2 h2
  cases ea : look ρ2 x with
  | none => rw [ea] at h2; exact h2.elim
  | some a =>
    cases eb : look ρ2 y with
    | none => rw [ea, eb] at h2; exact h2.elim
    | some b =>
      rw [ea, eb] at h2
      have hx' := (hx.step s2).look n2 ea
      have hy' := hy.look n2 eb
      simp only [Option.bind_some] at h2
      split at h2
      · rename_i eg
        refine ok P2 H2 vx vy a b _ _ n2.ex hx' hy' eg fun v P3 H3 S3 al o => ?_
        have o : Dp G.K P3 v (.bool true) := o
        cases o
        refine ⟨true, rfl, ?_⟩
        rw [if_pos rfl]
        have n3 := al.now n2
        have h3 := EndO.trans (al.stp (F := F2)) h2
        refine tE_bind (End := fun P H F => EndO G W P H F σ Q) n3 h3 (fun _ _ z => z) (fun z => z) fun z ρ4 vz P4 H4 F4 S4 e4 h4 n4 s4 hz q4 => ?_
        obtain ⟨w, hw, h4⟩ := endO_val (EndO.trans s4 h4)
        cases ec : look ρ4 y with
        | none => rw [ec] at hw; cases hw
        | some b' =>
          cases ed : look ρ4 z with
          | none => rw [ec, ed] at hw; cases hw
          | some c' =>
            rw [ec, ed] at hw
            exact ok' P4 H4 vy vz b' c' w Q n4.ex (((hy.step al.stp).step s4).look n4 ec) (hz.look n4 ed) hw fun v P' H' S a o => h4.alc n4 a o
      · rename_i eg
        refine ok P2 H2 vx vy a b _ _ n2.ex hx' hy' eg fun v P3 H3 S3 al o => ?_
        have o : Dp G.K P3 v (.bool false) := o
        cases o
        refine ⟨false, rfl, ?_⟩
        rw [if_neg Bool.false_ne_true]
        exact (EndO.trans (al.stp (F := F2)) h2).datum (al.now n2) (Dp.bl _)
      · exact h2.elim
theorem e_chain {op op' : CmpOp} {g g' : Vl → Vl → Option Vl} (h : CmpV G X op g) (h' : CmpV G X op' g') (ha : PE X a (tE G W fa)) (hb : PE X b (tE G W fb)) (hc : PE X c (tE G W fc)) (hm : lastMarks [op, op'] [b, c] = false := by with_unfolding_all rfl) :
    PE X (.Compare a [op, op'] [b, c] pos) (tE G W (chain g g' fa fb fc)) := by
  obtain ⟨⟨r, ho, ok⟩, _⟩ := h
  obtain ⟨⟨r', ho', ok'⟩, _⟩ := h'
  exact PE.imp (pe_chain ho ho' ha hb hc hm) fun _ _ _ h => chain_rd ok ok' h
theorem t_chain {op op' : CmpOp} {g g' : Vl → Vl → Option Vl} (h : CmpV G X op g) (h' : CmpV G X op' g') (ha : PE X a (tE G W fa)) (hb : PE X b (tE G W fb)) (hc : PE X c (tE G W fc)) (hm : lastMarks [op, op'] [b, c] = false := by with_unfolding_all rfl) :
    PT X (.Compare a [op, op'] [b, c] pos) (tT G W (tBo (chain g g' fa fb fc))) := by
  obtain ⟨⟨r, ho, ok⟩, _⟩ := h
  obtain ⟨⟨r', ho', ok'⟩, _⟩ := h'
  exact PT.imp (pt_chain ho ho' ha hb hc hm) fun _ _ _ h => chain_rd ok ok' (bo_rd h)

/-! ### and, or, not, if .. else -/
def tAndV (f g : FT) : FT := fun ρ => (f ρ).bind fun b ρ1 => if b = true then g ρ1 else .ok false ρ1
def tOrV (f g : FT) : FT := fun ρ => (f ρ).bind fun b ρ1 => if b = true then .ok true ρ1 else g ρ1
def tNotV (f : FT) : FT := fun ρ => (f ρ).bind fun b ρ1 => .ok (!b) ρ1
variable {ft gt : FT} {rest : List Expr}
theorem PW.imp {t t' : TT} (h : PW X e t) (i : ∀ σ H Q, t' σ H Q → t σ H Q) : PW X e t' := ⟨fun wh pins s σ H Q I q => h.run wh pins s σ H Q I (i σ H Q q)⟩
theorem w_and1 (ha : PT X a (tT G W ft)) : PW X (.BoolOp .And [a] pos) (tT G W ft) := pw_and1 ha
theorem w_or1 (ha : PT X a (tT G W ft)) : PW X (.BoolOp .Or [a] pos) (tT G W ft) := pw_or1 ha
theorem w_and (ha : PT X a (tT G W ft)) (hb : PW X (.BoolOp .And (b :: rest) pos) (tT G W gt)) : PW X (.BoolOp .And (a :: b :: rest) pos) (tT G W (tAndV ft gt)) := PW.imp (pw_and ha hb) fun σ H Q h => by
  obtain ⟨ρ, P, F, n, h⟩ := h
  refine tT_bind (End := fun P H F => EndT G W P H F σ Q) n h (fun _ _ z => z) (fun z => z) fun b ρ1 P1 H1 F1 e1 h1 n1 s1 => ?_
  cases b with
  | true => exact ⟨ρ1, P1, F1, n1, EndT.trans s1 h1⟩
  | false => exact h1 P1 H1 F1 n1 s1
theorem w_or (ha : PT X a (tT G W ft)) (hb : PW X (.BoolOp .Or (b :: rest) pos) (tT G W gt)) : PW X (.BoolOp .Or (a :: b :: rest) pos) (tT G W (tOrV ft gt)) := PW.imp (pw_or ha hb) fun σ H Q h => by
  obtain ⟨ρ, P, F, n, h⟩ := h
  refine tT_bind (End := fun P H F => EndT G W P H F σ Q) n h (fun _ _ z => z) (fun z => z) fun b ρ1 P1 H1 F1 e1 h1 n1 s1 => ?_
  cases b with
  | true => exact h1 P1 H1 F1 n1 s1
  | false => exact ⟨ρ1, P1, F1, n1, EndT.trans s1 h1⟩
theorem t_not (ha : PT X a (tT G W ft)) : PT X (.UnaryOp .Not a pos) (tT G W (tNotV ft)) := PT.imp (pt_not ha) fun σ H Q h => by
  obtain ⟨ρ, P, F, n, h⟩ := h
  exact tT_bind (End := fun P H F => EndT G W P H F σ Q) n h (fun _ _ z => z) (fun z => z) fun b ρ1 P1 H1 F1 e1 h1 n1 s1 => h1 P1 H1 F1 n1 s1
/-- .. as values -/
noncomputable def fAnd (f g : FE) : FE := fun ρ => (f ρ).bind fun x ρ1 => (trO ρ1 x).bind fun b _ => if b = true then g ρ1 else .ok x ρ1
noncomputable def fOr (f g : FE) : FE := fun ρ => (f ρ).bind fun x ρ1 => (trO ρ1 x).bind fun b _ => if b = true then .ok x ρ1 else g ρ1
noncomputable def fNot (f : FE) : FE := fun ρ => (f ρ).bind fun x ρ1 => (trO ρ1 x).bind fun b _ => .ok (.val (vB (!b))) ρ1
theorem trO_bind {ρ : Rho} {o : Opd} {P0 H0 : Hp} {F0 : Nat → Ad} {σ : L2.St} {Q : VK} {kk : Bool → Out Opd} (h : EndO G W P0 H0 F0 σ Q ((trO ρ o).bind fun b _ => kk b)) : ∃ w b, look ρ o = some w ∧ tru w = some b ∧ EndO G W P0 H0 F0 σ Q (kk b) := by
  unfold trO at h
  cases e : look ρ o with
  | none => rw [e] at h; exact h.elim
  | some w =>
    rw [e] at h
    cases e2 : tru w with
    | none => rw [Option.bind_some, e2] at h; exact h.elim
    | some b => rw [Option.bind_some, e2] at h; exact ⟨w, b, rfl, e2, h⟩
theorem e_one {op : BoolOp} (ha : PE X a (tE G W fa)) : PE X (.BoolOp op [a] pos) (tE G W fa) := pe_one ha
theorem e_andV (hK : X.K = G.K) (ha : PE X a (tE G W fa)) (hb : PE X (.BoolOp .And (b :: rest) pos) (tE G W fb)) : PE X (.BoolOp .And (a :: b :: rest) pos) (tE G W (fAnd fa fb)) := PE.imp (pe_andT ha hb) fun σ H Q h => by
  obtain ⟨ρ, P, F, n, h⟩ := h
  refine tE_bind (End := fun P H F => EndO G W P H F σ Q) n h (fun _ _ z => z) (fun z => z) fun x ρ1 vx P1 H1 F1 S1 e1 h1 n1 s1 hx q1 => ?_
  obtain ⟨w, b, hw, hb, h1⟩ := trO_bind (kk := fun b => if b = true then fb ρ1 else .ok x ρ1) h1
  refine ⟨b, by rw [hK]; exact tru_ok' (hx.look n1 hw) n1.ex hb, ?_⟩
  cases b with
  | true => exact ⟨ρ1, P1, F1, n1, EndO.trans s1 h1⟩
  | false => exact h1 vx P1 H1 F1 S1 n1 s1 hx q1
theorem e_orV (hK : X.K = G.K) (ha : PE X a (tE G W fa)) (hb : PE X (.BoolOp .Or (b :: rest) pos) (tE G W fb)) : PE X (.BoolOp .Or (a :: b :: rest) pos) (tE G W (fOr fa fb)) := PE.imp (pe_orT ha hb) fun σ H Q h => by
  obtain ⟨ρ, P, F, n, h⟩ := h
  refine tE_bind (End := fun P H F => EndO G W P H F σ Q) n h (fun _ _ z => z) (fun z => z) fun x ρ1 vx P1 H1 F1 S1 e1 h1 n1 s1 hx q1 => ?_
  obtain ⟨w, b, hw, hb, h1⟩ := trO_bind (kk := fun b => if b = true then .ok x ρ1 else fb ρ1) h1
  refine ⟨b, by rw [hK]; exact tru_ok' (hx.look n1 hw) n1.ex hb, ?_⟩
  cases b with
  | true => exact h1 vx P1 H1 F1 S1 n1 s1 hx q1
  | false => exact ⟨ρ1, P1, F1, n1, EndO.trans s1 h1⟩
theorem e_notV (hK : X.K = G.K) (ha : PE X a (tE G W fa)) : PE X (.UnaryOp .Not a pos) (tE G W (fNot fa)) := PE.imp (pe_notT ha) fun σ H Q h => by
  obtain ⟨ρ, P, F, n, h⟩ := h
  refine tE_bind (End := fun P H F => EndO G W P H F σ Q) n h (fun _ _ z => z) (fun z => z) fun x ρ1 vx P1 H1 F1 S1 e1 h1 n1 s1 hx q1 => ?_
  obtain ⟨w, b, hw, hb, h1⟩ := trO_bind (kk := fun b => .ok (.val (vB (!b))) ρ1) h1
  exact ⟨b, by rw [hK]; exact tru_ok' (hx.look n1 hw) n1.ex hb, (EndO.trans s1 h1).datum n1 (Dp.bl _)⟩
def fIf (t : FT) (f g : FE) : FE := fun ρ => (t ρ).bind fun b ρ1 => if b = true then f ρ1 else g ρ1
theorem e_if (ht : PT X c (tT G W ft)) (ha : PE X a (tE G W fa)) (hb : PE X b (tE G W fb)) : PE X (.IfExp c a b pos) (tE G W (fIf ft fa fb)) := PE.imp (pe_ifExp ht ha hb) fun σ H Q h => by
  obtain ⟨ρ, P, F, n, h⟩ := h
  refine tT_bind (End := fun P H F => EndO G W P H F σ Q) n h (fun _ _ z => z) (fun z => z) fun b ρ1 P1 H1 F1 e1 h1 n1 s1 => ?_
  cases b with
  | true => exact ⟨ρ1, P1, F1, n1, EndO.trans s1 h1⟩
  | false => exact ⟨ρ1, P1, F1, n1, EndO.trans s1 h1⟩

/-! ### slices -/
abbrev FP := Rho → Out (Option Int)
def pNo : FP := fun ρ => .ok none ρ
def pSo (f : FE) : FP := fun ρ => (f ρ).bind fun o ρ1 => match look ρ1 o with
  | some (.dat (.int i)) => .ok (some i) ρ1
  | _ => .stk
def EndP (G : Glb) (W : WX) (P H : Hp) (F : Nat → Ad) (σ : L2.St) (Q : Option Int → Hp → Prop) : Out (Option Int) → Prop
  | .ok b ρ' => ∀ P' H' F', Now G P' H' σ ρ' F' → Stp P H F P' H' F' → Q b H'
  | .exc c ρ' => ∀ P' H' F', Now G P' H' σ ρ' F' → Stp P H F P' H' F' → W (.ref (G.ea c)) none σ H'
  | .stk => False
def tP (G : Glb) (W : WX) (f : FP) : TO := fun σ H Q => ∃ ρ P F, Now G P H σ ρ F ∧ EndP G W P H F σ Q (f ρ)
theorem PO.imp {eo : Option Expr} {t t' : TO} (h : PO X eo t) (i : ∀ σ H Q, t' σ H Q → t σ H Q) : PO X eo t' := ⟨fun pins s σ H Q I q => h.run pins s σ H Q I (i σ H Q q)⟩
theorem o_no : PO X none (tP G W pNo) := PO.imp po_none fun σ H Q h => by
  obtain ⟨ρ, P, F, n, h⟩ := h
  exact h P H F n Stp.refl
theorem o_so (he : PE X e (tE G W f)) : PO X (some e) (tP G W (pSo f)) := PO.imp (po_some he) fun σ H Q h => by
  obtain ⟨ρ, P, F, n, h⟩ := h
  refine tE_bind (End := fun P H F => EndP G W P H F σ Q) n h (fun _ _ z => z) (fun z => z) fun x ρ1 vx P1 H1 F1 S1 e1 h1 n1 s1 hx q1 => ?_
  split at h1
  · rename_i i hi
    exact ⟨i, ow_int (hx.look n1 hi), h1 P1 H1 F1 n1 s1⟩
  · exact h1.elim
def cutD {α : Type} (xs : List α) (lo hi : Option Int) : List α := (xs.drop (HT.sIx xs.length 0 lo)).take (HT.sIx xs.length xs.length hi - HT.sIx xs.length 0 lo)
def gSl (a : Vl) (lo hi : Option Int) : Option Vl := match asL a with
  | some ds => some (.ml (cutD ds lo hi))
  | none => match asT a with
    | some ds => some (.dat (.tuple (cutD ds lo hi)))
    | none => none
def fSl (f : FE) (lo hi : FP) : FE := fun ρ => (f ρ).bind fun o ρ1 => (lo ρ1).bind fun l ρ2 => (hi ρ2).bind fun h ρ3 => ret ρ3 ((look ρ3 o).bind fun a => gSl a l h)
theorem tP_bind {σ : L2.St} {H : Hp} {ρ : Rho} {P : Hp} {F : Nat → Ad} {f : FP} {Q : Option Int → Hp → Prop} {β : Type} {kk : Option Int → Rho → Out β} {End : Hp → Hp → (Nat → Ad) → Out β → Prop} (n : Now G P H σ ρ F) (hE : End P H F ((f ρ).bind kk))
    (hx : ∀ c ρ', End P H F (.exc c ρ') → ∀ P' H' F', Now G P' H' σ ρ' F' → Stp P H F P' H' F' → W (.ref (G.ea c)) none σ H') (hs : ¬ End P H F .stk)
    (h : ∀ b ρ1 P1 H1 F1, f ρ = .ok b ρ1 → End P H F (kk b ρ1) → Now G P1 H1 σ ρ1 F1 → Stp P H F P1 H1 F1 → Q b H1) : tP G W f σ H Q := by
  refine ⟨ρ, P, F, n, ?_⟩
  cases e : f ρ with
  | ok b ρ1 =>
    rw [e] at hE
    exact fun P1 H1 F1 n1 s1 => h b ρ1 P1 H1 F1 e hE n1 s1
  | exc c ρ' => rw [e] at hE; exact hx c ρ' hE
  | stk => rw [e] at hE; exact (hs hE).elim
theorem dpa_cut {xs : List V} {ds : List PyData} {lo hi : Option Int} (h : DpAll K P xs ds) : DpAll K P (cutV xs lo hi) (cutD ds lo hi) := by
  unfold cutV cutD
  rw [dpa_len _ _ h]
  exact dpa_take _ (dpa_drop _ h)
theorem whole_cut {α : Type} {xs : List α} {lo hi : Option Int} (h : HT.sIx xs.length 0 lo = 0 ∧ HT.sIx xs.length xs.length hi = xs.length) : cutD xs lo hi = xs := by
  unfold cutD
  rw [h.1, h.2]
  simp
theorem e_sl {lo hi : Option Expr} {fl fh : FP} (hK : X.K = G.K) (ha : PE X a (tE G W fa)) (hl : PO X lo (tP G W fl)) (hh : PO X hi (tP G W fh)) : PE X (.Subscript a (.Slice lo hi none p2) pos) (tE G W (fSl fa fl fh)) := PE.imp (pe_slice (sl_list.or sl_tupA) ha hl hh) fun σ H Q h => by
  obtain ⟨ρ, P, F, n, h⟩ := h
  refine tE_bind (End := fun P H F => EndO G W P H F σ Q) n h (fun _ _ z => z) (fun z => z) fun x ρ1 vx P1 H1 F1 S1 e1 h1 n1 s1 hx q1 => ?_
  refine tP_bind (End := fun P H F => EndO G W P H F σ Q) n1 (EndO.trans s1 h1) (fun _ _ z => z) (fun z => z) fun l ρ2 P2 H2 F2 e2 h2 n2 s2 => ?_
  refine tP_bind (End := fun P H F => EndO G W P H F σ Q) n2 (EndO.trans s2 h2) (fun _ _ z => z) (fun z => z) fun u ρ3 P3 H3 F3 e3 h3 n3 s3 => ?_
  obtain ⟨w, hw, h3⟩ := endO_val (EndO.trans s3 h3)
  cases ea : look ρ3 x with
  | none => rw [ea] at hw; cases hw
  | some a =>
    rw [ea] at hw
    have ow := ((hx.step s2).step s3).look n3 ea
    have hw : gSl a l u = some w := hw
    unfold gSl at hw
    cases eb : asL a with
    | some ds =>
      rw [eb] at hw
      cases hw
      obtain ⟨p, xs, rfl, hq, hd⟩ := ow.lst n3.ex eb
      refine .inl ⟨p, xs, rfl, by rw [hK]; exact hq, fun p hp => h3.alc n3 (Alc.own n3.ex hp) ⟨p, _, rfl, rfl, upd_same, dpa_cut hd⟩⟩
    | none =>
      rw [eb] at hw
      cases ec : asT a with
      | none => rw [ec] at hw; cases hw
      | some ds =>
        rw [ec] at hw
        cases hw
        have ra : a = .dat (.tuple ds) := by
          cases a with
          | dat d => cases d <;> first | (cases ec; rfl) | cases ec
          | _ => cases ec
        obtain ⟨S9, ow9⟩ := id ow
        subst ra
        have ow9 : Dp G.K P3 vx (.tuple ds) := ow9
        obtain ⟨p, xs, rfl, hq, hd⟩ := ow.tup n3.ex ec
        have hl := dpa_len _ _ hd
        refine .inr ⟨p, xs, rfl, by rw [hK]; exact hq, fun z => ?_, fun _ p hp => ?_⟩
        · rw [hl] at z
          rw [whole_cut z] at h3
          exact h3.datum n3 ow9
        · exact h3.alc n3 (Alc.tup (o := .tup (cutV xs l u)) n3.ex hp) (Dp.tup (SqT.of upd_same) (dpa_mono (same_upd (same_none n3.ex hp)) _ _ (dpa_cut hd)))
end
end Mi
end
section
set_option Elab.async false
set_option linter.all false
set_option maxRecDepth 100000
/-! Ev6: freezing, displays, calls of built-ins -/
namespace Mi
open PySem L2

/-! ### freezing -/
noncomputable def froz (P H : Hp) (S : Ad) : Hp := by classical exact fun b => if S b then H b else P b
section
variable {G : Glb} {P H : Hp} {F : Nat → Ad} {σ : L2.St} {ρ ρ' : Rho} {S : Ad} {v : V} {w : Vl} {d : PyData} {i : Nat}
theorem froz_in {b : Addr} (h : S b) : froz P H S b = H b := by unfold froz; exact if_pos h
theorem froz_out {b : Addr} (h : ¬ S b) : froz P H S b = P b := by unfold froz; exact if_neg h
theorem froz_mono (h : ∀ b, S b → P b = none) : Same P (froz P H S) := fun b o e => by
  by_cases q : S b
  · rw [h b q] at e; cases e
  · rw [froz_out q]; exact e
theorem froz_sub (e : Same P H) : Same (froz P H S) H := fun b o h => by
  by_cases q : S b
  · rw [froz_in q] at h; exact h
  · rw [froz_out q] at h; exact e b o h
theorem froz_new {b : Addr} (h : froz P H S b ≠ none) : P b ≠ none ∨ S b := by
  by_cases q : S b
  · exact .inr q
  · rw [froz_out q] at h; exact .inl h
theorem rows_froz (h0 : ∀ b, S b → P b = none) : ∀ {as : List Addr} {dss : List (List PyData)}, Rows G P H S as dss → DpAll G.K (froz P H S) (as.map V.ref) (dss.map PyData.list)
  | [], [], _ => .nil
  | b :: as, ds :: dss, ⟨h1, _, ⟨ys, h2, h3⟩, h4⟩ => .cons (.lst (SqL.of (by rw [froz_in h1]; exact h2)) (dpa_mono (froz_mono h0) _ _ h3)) (rows_froz h0 h4)
  | [], _ :: _, h => h.elim
  | _ :: _, [], h => h.elim
/-- an owned value, frozen -/
theorem ow_froz (h0 : ∀ b, S b → P b = none) (h : Ow G P H S v w) (hv : viewD w = some d) : Dp G.K (froz P H S) v d := by
  cases w with
  | dat d' => cases hv; exact dp_mono (froz_mono h0) _ _ h
  | ml ds =>
    cases hv
    obtain ⟨a, xs, rfl, h2, h3, h4⟩ := h
    exact .lst (SqL.of (by rw [froz_in h2]; exact h3)) (dpa_mono (froz_mono h0) _ _ h4)
  | mml dss =>
    cases hv
    obtain ⟨a, as, rfl, h2, h3, h4, h5⟩ := h
    exact .lst (SqL.of (by rw [froz_in h2]; exact h4)) (rows_froz h0 h5)
  | ob c fs => cases hv
  | st ns => cases hv

structure Fz (P H : Hp) (F : Nat → Ad) (P' : Hp) (F' : Nat → Ad) (S : Ad) : Prop where
  ex : Same P P'
  ph : Same P' H
  sub : ∀ i b, F' i b → F i b
  pn : ∀ b, P' b ≠ none → P b ≠ none ∨ S b ∨ ∃ i, F i b
theorem Fz.stp {P0 H0 P' : Hp} {F0 F' : Nat → Ad} (z : Fz P H F P' F' S) (s : Stp P0 H0 F0 P H F) (q : ∀ b, S b → (∃ i, F0 i b) ∨ H0 b = none) : Stp P0 H0 F0 P' H F' := by
  refine ⟨s.ex.trans z.ex, s.fr, fun i b h => s.sub i b (z.sub i b h), fun b h => ?_, s.al⟩
  rcases z.pn b h with y | y | ⟨i, y⟩
  · exact s.pn b y
  · exact .inr (q b y)
  · exact .inr (s.sub i b y)
def upR (ρ : Rho) (i : Nat) (d : PyData) : Rho := ρ.set i (some (.dat d))
def frz1 (ρ : Rho) : Opd → Option (PyData × Rho)
  | .val w => (viewD w).map fun d => (d, ρ)
  | .brw i => ((look ρ (.brw i)).bind viewD).map fun d => (d, upR ρ i d)
def frzL (ρ : Rho) : List Opd → Option (List PyData × Rho)
  | [] => some ([], ρ)
  | o :: os => (frz1 ρ o).bind fun p => (frzL p.2 os).map fun q => (p.1 :: q.1, q.2)
/-- a slot's own things are frozen -/
def offF (F : Nat → Ad) (i : Nat) : Nat → Ad := fun j b => j ≠ i ∧ F j b
theorem frz1_ok {o : Opd} (n : Now G P H σ ρ F) (h : Has G P H F σ S v o) (e : frz1 ρ o = some (d, ρ')) : ∃ P' F', Now G P' H σ ρ' F' ∧ Dp G.K P' v d ∧ Fz P H F P' F' S := by
  cases o with
  | val w =>
    have t : Tmp G P H F S v w := h
    have e : (viewD w).map (fun d => (d, ρ)) = some (d, ρ') := e
    obtain ⟨d', hv, e2⟩ := Option.map_eq_some_iff.mp e
    cases e2
    refine ⟨froz P H S, F, ⟨froz_sub n.ex, n.dj, fun i b h => ?_, n.al, fun i w h => ?_, n.kd⟩, ow_froz t.np t.ow hv, froz_mono t.np, froz_sub n.ex, fun _ _ h => h, fun b h => (froz_new h).imp id .inl⟩
    · rw [froz_out fun q => t.dj b q i h]; exact n.np i b h
    · obtain ⟨v, h1, h2⟩ := n.rd i w h
      exact ⟨v, h1, h2.mono (froz_mono t.np) (fun _ _ _ e => e) fun _ z => z⟩
  | brw i =>
    have hs : σ[i]? = some (some v) := h
    have e : ((look ρ (.brw i)).bind viewD).map (fun d => (d, upR ρ i d)) = some (d, ρ') := e
    obtain ⟨d', hv, e2⟩ := Option.map_eq_some_iff.mp e
    cases e2
    obtain ⟨w, hw, hv2⟩ := Option.bind_eq_some_iff.mp hv
    clear hv
    obtain ⟨v', h1, h2⟩ := n.rd i w (join_some hw)
    rw [hs] at h1
    have ev : v = v' := by simpa using h1
    subst ev
    have hnp := n.np i
    refine ⟨froz P H (F i), offF F i, ⟨froz_sub n.ex, fun j k a h1 h2 => n.dj j k a h1.2 h2.2, fun j b h => ?_, fun j b h => n.al j b h.2, fun j w' h => ?_, fun j b u h e => n.kd j b u h.2 e⟩, ow_froz hnp h2 hv2, froz_mono hnp, froz_sub n.ex, fun _ _ h => h.2, fun b h => ?_⟩
    · rw [froz_out fun q => h.1 (n.dj j i b h.2 q)]; exact n.np j b h.2
    · unfold upR at h
      by_cases hj : j = i
      · subst hj
        have hl : j < ρ.length := by
          have := join_some hw
          exact (List.getElem?_eq_some_iff.mp this).1
        rw [List.getElem?_set_self hl] at h
        cases h
        exact ⟨v, hs, ow_froz hnp h2 hv2⟩
      · rw [List.getElem?_set_ne (Ne.symm hj)] at h
        obtain ⟨v2, h3, h4⟩ := n.rd j w' h
        exact ⟨v2, h3, h4.mono (froz_mono hnp) (fun _ _ _ e => e) fun b z => ⟨hj, z⟩⟩
    · rcases froz_new h with z | z
      · exact .inl z
      · exact .inr (.inr ⟨i, z⟩)
theorem Has.fz {P' : Hp} {F' : Nat → Ad} {S1 : Ad} {o : Opd} (h : Has G P H F σ S v o) (z : Fz P H F P' F' S1) (d : ∀ b, S b → ¬ S1 b) : Has G P' H F' σ S v o := by
  cases o with
  | val w =>
    have t : Tmp G P H F S v w := h
    refine ⟨t.ow.mono z.ex (fun _ _ _ e => e) fun _ y => y, fun b hb => ?_, t.al, fun b hb i q => t.dj b hb i (z.sub i b q), t.kd⟩
    refine Classical.byContradiction fun q => ?_
    rcases z.pn b q with y | y | ⟨i, y⟩
    · exact y (t.np b hb)
    · exact d b hb y
    · exact t.dj b hb i y
  | brw i => exact h
theorem HasL.fz {P' : Hp} {F' : Nat → Ad} {S1 : Ad} (z : Fz P H F P' F' S1) : ∀ {vs : List V} {os : List Opd} {S : Ad}, HasL G P H F σ S vs os → (∀ b, S b → ¬ S1 b) → HasL G P' H F' σ S vs os
  | [], [], _, _, _ => trivial
  | v :: vs, o :: os, _, ⟨S2, S3, h1, h2, h3, h4⟩, d => ⟨S2, S3, h1.fz z fun b hb => d b (h3 b hb).1, HasL.fz z h2 fun b hb => d b (h4 b hb), h3, h4⟩
  | [], _ :: _, _, h, _ => h.elim
  | _ :: _, [], _, h, _ => h.elim
theorem frzL_ok : ∀ {os : List Opd} {vs : List V} {S : Ad} {ρ ρ' : Rho} {P : Hp} {F : Nat → Ad} {ds : List PyData}, Now G P H σ ρ F → HasL G P H F σ S vs os → frzL ρ os = some (ds, ρ') →
    ∃ P' F', Now G P' H σ ρ' F' ∧ DpAll G.K P' vs ds ∧ Fz P H F P' F' S
  | [], [], S, ρ, ρ', P, F, ds, n, _, e => by
    have e : some ([], ρ) = some (ds, ρ') := e
    cases e
    exact ⟨P, F, n, .nil, Same.refl P, n.ex, fun _ _ h => h, fun _ h => .inl h⟩
  | o :: os, v :: vs, S, ρ, ρ', P, F, ds, n, ⟨S1, S2, h1, h2, h3, h4⟩, e => by
    have e : (frz1 ρ o).bind (fun p => (frzL p.2 os).map fun q => (p.1 :: q.1, q.2)) = some (ds, ρ') := e
    obtain ⟨⟨d, ρ1⟩, e1, e⟩ := Option.bind_eq_some_iff.mp e
    obtain ⟨⟨ds', ρ2⟩, e2, e3⟩ := Option.map_eq_some_iff.mp e
    cases e3
    obtain ⟨P1, F1, n1, d1, z1⟩ := frz1_ok n h1 e1
    obtain ⟨P2, F2, n2, d2, z2⟩ := frzL_ok n1 (HasL.fz z1 h2 fun b hb q => (h3 b q).2 hb) e2
    refine ⟨P2, F2, n2, .cons (dp_mono z2.ex _ _ d1) d2, z1.ex.trans z2.ex, z2.ph, fun i b h => z1.sub i b (z2.sub i b h), fun b h => ?_⟩
    rcases z2.pn b h with y | y | ⟨i, y⟩
    · rcases z1.pn b y with x | x | x
      · exact .inl x
      · exact .inr (.inl (h3 b x).1)
      · exact .inr (.inr x)
    · exact .inr (.inl (h4 b y))
    · exact .inr (.inr ⟨i, z1.sub i b y⟩)
  | [], _ :: _, _, _, _, _, _, _, _, h, _ => h.elim
  | _ :: _, [], _, _, _, _, _, _, _, h, _ => h.elim
end

/-! ### the general bind for arguments -/
section
variable {G : Glb} {W : WX} {P H P1 H1 : Hp} {F F1 : Nat → Ad} {σ : L2.St} {ρ : Rho} {f : FA}
theorem tA_bind {Q : List V → Hp → Prop} {β : Type} {k : List Opd → Rho → Out β} {End : Hp → Hp → (Nat → Ad) → Out β → Prop} (n : Now G P H σ ρ F) (hE : End P H F ((f ρ).bind k))
    (hx : ∀ c ρ', End P H F (.exc c ρ') → ∀ P' H' F', Now G P' H' σ ρ' F' → Stp P H F P' H' F' → W (.ref (G.ea c)) none σ H') (hs : ¬ End P H F .stk)
    (h : ∀ os ρ1 vs P1 H1 F1 S, f ρ = .ok os ρ1 → End P H F (k os ρ1) → Now G P1 H1 σ ρ1 F1 → Stp P H F P1 H1 F1 → HasL G P1 H1 F1 σ S vs os → (∀ b, S b → (P1 b = none ∧ H1 b ≠ none ∧ ∀ i, ¬ F1 i b) ∧ ((∃ i, F i b) ∨ H b = none)) → Q vs H1) : tA G W f σ H Q := by
  refine ⟨ρ, P, F, n, ?_⟩
  cases e : f ρ with
  | ok os ρ1 =>
    rw [e] at hE
    exact fun vs P1 H1 F1 S n1 s1 h1 q1 => h os ρ1 vs P1 H1 F1 S e hE n1 s1 h1 q1
  | exc c ρ' => rw [e] at hE; exact hx c ρ' hE
  | stk => rw [e] at hE; exact (hs hE).elim
end

/-! ### displays -/
noncomputable def mkT (ρ : Rho) (os : List Opd) : Out Opd := match frzL ρ os with
  | some (ds, ρ2) => if ds.length ≤ 100000 then .ok (.val (.dat (.tuple ds))) ρ2 else .stk
  | none => .stk
noncomputable def mkL (ρ : Rho) (os : List Opd) : Out Opd := match frzL ρ os with
  | some (ds, ρ2) => if ds.length ≤ 100000 then .ok (.val (.ml ds)) ρ2 else .stk
  | none => .stk
noncomputable def fTup (fa : FA) : FE := fun ρ => (fa ρ).bind fun os ρ1 => mkT ρ1 os
noncomputable def fLst (fa : FA) : FE := fun ρ => (fa ρ).bind fun os ρ1 => mkL ρ1 os
theorem line5 {n : Nat} (h : n ≤ 100000) : n ≤ sizeLine := by rw [sizeLine_eq]; omega
section
variable {X : Cx} {W : WX} {G : Glb} {k : Nat} {es : List Expr} {e : Expr} {fa : FA} {f : FE} {pos : Pos}
theorem e_tup {x1} (h : PA X es (tA G W fa)) : PE X (.Tuple es x1 pos) (tE G W (fTup fa)) := PE.imp (pe_tup h) fun σ H Q h => by
  obtain ⟨ρ, P, F, n, h⟩ := h
  refine tA_bind (End := fun P H F => EndO G W P H F σ Q) n h (fun _ _ z => z) (fun z => z) fun os ρ1 vs P1 H1 F1 S1 e1 h1 n1 s1 hs q1 => ?_
  unfold mkT at h1
  cases e2 : frzL ρ1 os with
  | none => rw [e2] at h1; exact h1.elim
  | some p =>
    obtain ⟨ds, ρ2⟩ := p
    rw [e2] at h1
    obtain ⟨P2, F2, n2, d2, z2⟩ := frzL_ok n1 hs e2
    have hl := dpa_len _ _ d2
    by_cases hz : ds.length ≤ 100000
    · have h1 : EndO G W P H F σ Q (.ok (.val (.dat (.tuple ds))) ρ2) := by
        have h1' := h1
        simp only [hz, if_true] at h1'
        exact h1'
      refine ⟨line5 (by omega), fun p hp => ?_⟩
      have s2 := z2.stp s1 fun b hb => (q1 b hb).2
      have al := Alc.tup (o := .tup vs) n2.ex hp
      exact (EndO.trans s2 h1).alc n2 al (Dp.tup (SqT.of upd_same) (dpa_mono al.exP _ _ d2))
    · simp only [hz, if_false] at h1
      exact h1.elim
theorem e_lst (h : PA X es (tA G W fa)) : PE X (.List es pos) (tE G W (fLst fa)) := PE.imp (pe_lst h) fun σ H Q h => by
  obtain ⟨ρ, P, F, n, h⟩ := h
  refine tA_bind (End := fun P H F => EndO G W P H F σ Q) n h (fun _ _ z => z) (fun z => z) fun os ρ1 vs P1 H1 F1 S1 e1 h1 n1 s1 hs q1 => ?_
  unfold mkL at h1
  cases e2 : frzL ρ1 os with
  | none => rw [e2] at h1; exact h1.elim
  | some p =>
    obtain ⟨ds, ρ2⟩ := p
    rw [e2] at h1
    obtain ⟨P2, F2, n2, d2, z2⟩ := frzL_ok n1 hs e2
    have hl := dpa_len _ _ d2
    by_cases hz : ds.length ≤ 100000
    · have h1 : EndO G W P H F σ Q (.ok (.val (.ml ds)) ρ2) := by
        have h1' := h1
        simp only [hz, if_true] at h1'
        exact h1'
      refine ⟨line5 (by omega), fun p hp => ?_⟩
      have s2 := z2.stp s1 fun b hb => (q1 b hb).2
      have al := Alc.own (o := .lst vs) n2.ex hp
      exact (EndO.trans s2 h1).alc n2 al ⟨p, vs, rfl, rfl, upd_same, d2⟩
    · simp only [hz, if_false] at h1
      exact h1.elim
end

/-! ### calls of built-ins that only read -/
def looks (ρ : Rho) : List Opd → Option (List Vl)
  | [] => some []
  | o :: os => (look ρ o).bind fun w => (looks ρ os).map fun ws => w :: ws
def OwsE (G : Glb) (P H : Hp) : List V → List Vl → Prop
  | [], [] => True
  | v :: vs, w :: ws => OwE G P H v w ∧ OwsE G P H vs ws
  | _, _ => False
theorem HasL.looks {G : Glb} {P H : Hp} {F : Nat → Ad} {σ : L2.St} {ρ : Rho} (n : Now G P H σ ρ F) : ∀ {os : List Opd} {vs : List V} {S : Ad} {ws : List Vl}, HasL G P H F σ S vs os → Mi.looks ρ os = some ws → OwsE G P H vs ws
  | [], [], _, ws, _, e => by
    have e : some [] = some ws := e
    cases e; trivial
  | o :: os, v :: vs, _, ws, ⟨S1, S2, h1, h2, _⟩, e => by
    have e : (look ρ o).bind (fun w => (Mi.looks ρ os).map fun ws => w :: ws) = some ws := e
    obtain ⟨w, e1, e⟩ := Option.bind_eq_some_iff.mp e
    obtain ⟨ws', e2, e3⟩ := Option.map_eq_some_iff.mp e
    subst e3
    exact ⟨h1.look n e1, HasL.looks n h2 e2⟩
  | [], _ :: _, _, _, h, _ => h.elim
  | _ :: _, [], _, _, h, _ => h.elim
def CallOk (G : Glb) (r : List V → Hp → VK → Prop) (g : List Vl → Option Vl) : Prop :=
  ∀ (P H : Hp) (vs : List V) (ws : List Vl) (w : Vl) (Q : VK), Same P H → OwsE G P H vs ws → g ws = some w → (∀ v P' H' S, Alc P H P' H' S → Ow G P' H' S v w → Q v H') → r vs H Q
def callB (g : List Vl → Option Vl) (fa : FA) : FE := fun ρ => (fa ρ).bind fun os ρ1 => ret ρ1 ((looks ρ1 os).bind g)
theorem callB_rd {G : Glb} {W : WX} {r : List V → Hp → VK → Prop} {g : List Vl → Option Vl} (ok : CallOk G r g) {fa : FA} {σ : L2.St} {H : Hp} {Q : VK} (h : tE G W (callB g fa) σ H Q) : tA G W fa σ H (fun vs H1 => r vs H1 Q) := by
  obtain ⟨ρ, P, F, n, h⟩ := h
  refine tA_bind (End := fun P H F => EndO G W P H F σ Q) n h (fun _ _ z => z) (fun z => z) fun os ρ1 vs P1 H1 F1 S1 e1 h1 n1 s1 hs q1 => ?_
  obtain ⟨w, hw, h1⟩ := endO_val (EndO.trans s1 h1)
  cases e2 : looks ρ1 os with
  | none => rw [e2] at hw; cases hw
  | some ws =>
    rw [e2] at hw
    exact ok P1 H1 vs ws w Q n1.ex (hs.looks n1 e2) hw fun v P' H' S a o => h1.alc n1 a o
/-- how a built-in is called -/
structure BltV (G : Glb) (X : Cx) (u : Value) (g : List Vl → Option Vl) : Prop where
  ex : ∃ r, CallR X u r ∧ CallOk G r g
section
variable {X : Cx} {W : WX} {G : Glb} {k : Nat} {es : List Expr} {e : Expr} {fa : FA} {pos p : Pos} {x : Str} {id T : String} {g : List Vl → Option Vl}
theorem e_blt (h : BltV G X (.builtin id) g) (hm : X.mg x = none) (ha : PA X (e :: es) (tA G W fa)) (hg : Gl X x := by rfl) (hv : bootBuiltins x = some (.builtin id) := by decide +kernel) (hn : x ≠ "__name__" := by decide) (hdb : (x == ("__debug__" : Str)) = false := by decide)
    (he : starEach (e :: es) X.env = (false, eval e X.env) :: starEach es X.env := by rfl) (hpl : (backTo pos (starEach es X.env)).any (·.1) = false := by rfl) : PE X (.Call (.Name x p) (e :: es) [] pos) (tE G W (callB g fa)) := by
  obtain ⟨r, hc, ok⟩ := h
  exact PE.imp (pe_callB hc hg hm hv ha hn hdb he hpl) fun _ _ _ h => callB_rd ok h
theorem e_ty (h : BltV G X (.type T) g) (hm : X.mg x = none) (ha : PA X (e :: es) (tA G W fa)) (hg : Gl X x := by rfl) (hv : bootBuiltins x = some (.type T) := by decide +kernel) (hn : x ≠ "__name__" := by decide) (hdb : (x == ("__debug__" : Str)) = false := by decide)
    (he : starEach (e :: es) X.env = (false, eval e X.env) :: starEach es X.env := by rfl) (hpl : (backTo pos (starEach es X.env)).any (·.1) = false := by rfl) : PE X (.Call (.Name x p) (e :: es) [] pos) (tE G W (callB g fa)) := by
  obtain ⟨r, hc, ok⟩ := h
  exact PE.imp (pe_callTy hc hg hm hv ha hn hdb he hpl) fun _ _ _ h => callB_rd ok h
end
end Mi
end
section
set_option Elab.async false
set_option linter.all false
set_option maxRecDepth 100000
/-! Ev7: the built-ins -/
namespace Mi
open PySem L2

def asInts : List PyData → Option (List Int)
  | [] => some []
  | .int i :: ds => (asInts ds).map fun ns => i :: ns
  | _ => none
def asBools : List PyData → Option (List Bool)
  | [] => some []
  | .bool i :: ds => (asBools ds).map fun ns => i :: ns
  | _ => none
theorem asInts_map : ∀ ns : List Int, asInts (ns.map .int) = some ns
  | [] => rfl
  | n :: ns => by show (asInts (ns.map .int)).map _ = _; rw [asInts_map ns]; rfl
theorem asBools_map : ∀ ns : List Bool, asBools (ns.map .bool) = some ns
  | [] => rfl
  | n :: ns => by show (asBools (ns.map .bool)).map _ = _; rw [asBools_map ns]; rfl
theorem asInts_eq : ∀ {ds : List PyData} {ns : List Int}, asInts ds = some ns → ds = ns.map .int
  | [], ns, h => by cases h; rfl
  | .int i :: ds, ns, h => by
    have h : (asInts ds).map (fun ns => i :: ns) = some ns := h
    obtain ⟨m, h1, h2⟩ := Option.map_eq_some_iff.mp h
    subst h2
    rw [asInts_eq h1]; rfl
  | .none :: _, _, h => by cases h
  | .bool _ :: _, _, h => by cases h
  | .str _ :: _, _, h => by cases h
  | .list _ :: _, _, h => by cases h
  | .tuple _ :: _, _, h => by cases h
  | .dict _ :: _, _, h => by cases h
theorem asBools_eq : ∀ {ds : List PyData} {ns : List Bool}, asBools ds = some ns → ds = ns.map .bool
  | [], ns, h => by cases h; rfl
  | .bool i :: ds, ns, h => by
    have h : (asBools ds).map (fun ns => i :: ns) = some ns := h
    obtain ⟨m, h1, h2⟩ := Option.map_eq_some_iff.mp h
    subst h2
    rw [asBools_eq h1]; rfl
  | .none :: _, _, h => by cases h
  | .int _ :: _, _, h => by cases h
  | .str _ :: _, _, h => by cases h
  | .list _ :: _, _, h => by cases h
  | .tuple _ :: _, _, h => by cases h
  | .dict _ :: _, _, h => by cases h
theorem dpa_ints {K : PySem.W.Frag} {P : Hp} : ∀ {ns : List Int} {xs : List V}, DpAll K P xs (ns.map .int) → xs = ns.map V.int
  | [], _, h => by cases h; rfl
  | n :: ns, _, h => by
    cases h with
    | cons h1 h2 => cases h1; rw [dpa_ints h2]; rfl
theorem dpa_bools {K : PySem.W.Frag} {P : Hp} : ∀ {ns : List Bool} {xs : List V}, DpAll K P xs (ns.map .bool) → xs = ns.map V.bl
  | [], _, h => by cases h; rfl
  | n :: ns, _, h => by
    cases h with
    | cons h1 h2 => cases h1; rw [dpa_bools h2]; rfl
theorem ints_dpa {K : PySem.W.Frag} {P : Hp} : ∀ {ns : List Int}, DpAll K P (ns.map V.int) (ns.map .int)
  | [] => .nil
  | n :: ns => .cons (.int n) ints_dpa

section
variable {X : Cx} {W : WX} {G : Glb} {k : Nat}
theorem owsE1 {P H : Hp} {vs : List V} {w : Vl} (h : OwsE G P H vs [w]) : ∃ v, vs = [v] ∧ OwE G P H v w := by
  match vs, h with
  | [v], ⟨h1, _⟩ => exact ⟨v, rfl, h1⟩
theorem owsE2 {P H : Hp} {vs : List V} {w w' : Vl} (h : OwsE G P H vs [w, w']) : ∃ v v', vs = [v, v'] ∧ OwE G P H v w ∧ OwE G P H v' w' := by
  match vs, h with
  | [v, v'], ⟨h1, h2, _⟩ => exact ⟨v, v', rfl, h1, h2⟩
/-- a call of one argument -/
def g1 (g : Vl → Option Vl) : List Vl → Option Vl
  | [w] => g w
  | _ => none
theorem callOk1 {r : List V → Hp → VK → Prop} {g : Vl → Option Vl} (h : ∀ (P H : Hp) (v : V) (a w : Vl) (Q : VK), Same P H → OwE G P H v a → g a = some w → (∀ v P' H' S, Alc P H P' H' S → Ow G P' H' S v w → Q v H') → r [v] H Q) : CallOk G r (g1 g) := by
  intro P H vs ws w Q e ho hw q
  unfold g1 at hw
  split at hw
  · obtain ⟨v, rfl, h1⟩ := owsE1 ho
    exact h P H v _ w Q e h1 hw q
  · cases hw
def gLen (a : Vl) : Option Vl := (viewD a).bind fun d => match d with
  | .list ds => some (vI ds.length)
  | .tuple ds => some (vI ds.length)
  | _ => none
theorem b_len (c : Cxt G X W k) : BltV G X (.builtin "len") (g1 gLen) := ⟨⟨_, call_len, callOk1 fun P H v a w Q e h hw q => by
  unfold gLen at hw
  obtain ⟨d, hd, hw⟩ := Option.bind_eq_some_iff.mp hw
  have dp := h.dp e hd
  rw [c.K]
  cases dp with
  | lst hs ha =>
    have hw : some (vI _) = some w := hw
    cases hw
    exact ⟨_, _, rfl, .inl ⟨_, hs, rfl⟩, by rw [dpa_len _ _ ha]; exact q _ P H nobody (Alc.refl e) (Dp.int _)⟩
  | tup hs ha =>
    have hw : some (vI _) = some w := hw
    cases hw
    exact ⟨_, _, rfl, .inr ⟨_, hs, rfl⟩, by rw [dpa_len _ _ ha]; exact q _ P H nobody (Alc.refl e) (Dp.int _)⟩
  | _ => cases hw⟩⟩
def gInt : Vl → Option Vl
  | .dat (.int i) => some (vI i)
  | .dat (.bool b) => some (vI (if b then 1 else 0))
  | _ => none
theorem b_int : BltV G X (.type "int") (g1 gInt) := ⟨⟨_, call_int1, callOk1 fun P H v a w Q e h hw q => by
  unfold gInt at hw
  split at hw
  · cases hw
    exact .inl ⟨_, by rw [ow_int h], q _ P H nobody (Alc.refl e) (Dp.int _)⟩
  · cases hw
    exact .inr ⟨_, by rw [ow_bool h], q _ P H nobody (Alc.refl e) (Dp.int _)⟩
  · cases hw⟩⟩
def gAbs : Vl → Option Vl
  | .dat (.int i) => some (vI (if i < 0 then -i else i))
  | _ => none
theorem b_abs : BltV G X (.builtin "abs") (g1 gAbs) := ⟨⟨_, call_abs, callOk1 fun P H v a w Q e h hw q => by
  unfold gAbs at hw
  split at hw
  · cases hw
    exact ⟨_, by rw [ow_int h], q _ P H nobody (Alc.refl e) (Dp.int _)⟩
  · cases hw⟩⟩
def gSum (a : Vl) : Option Vl := (asL a).bind fun ds => (asInts ds).map fun ns => vI ns.sum
theorem b_sum (c : Cxt G X W k) : BltV G X (.builtin "sum") (g1 gSum) := ⟨⟨_, cr_sum c.calm, callOk1 fun P H v a w Q e h hw q => by
  obtain ⟨ds, hd, hw⟩ := Option.bind_eq_some_iff.mp hw
  obtain ⟨ns, hn, rfl⟩ := Option.map_eq_some_iff.mp hw
  obtain ⟨p, xs, rfl, hs, ha⟩ := h.lst e hd
  rw [asInts_eq hn] at ha
  rw [dpa_ints ha] at hs
  exact ⟨p, ns, rfl, by rw [c.K]; exact hs, q _ P H nobody (Alc.refl e) (Dp.int _)⟩⟩⟩
def gAny (a : Vl) : Option Vl := (asL a).bind fun ds => (asBools ds).map fun ns => vB (ns.any id)
def gAll (a : Vl) : Option Vl := (asL a).bind fun ds => (asBools ds).map fun ns => vB (ns.all id)
theorem b_any (c : Cxt G X W k) : BltV G X (.builtin "any") (g1 gAny) := ⟨⟨_, cr_any c.calm, callOk1 fun P H v a w Q e h hw q => by
  obtain ⟨ds, hd, hw⟩ := Option.bind_eq_some_iff.mp hw
  obtain ⟨ns, hn, rfl⟩ := Option.map_eq_some_iff.mp hw
  obtain ⟨p, xs, rfl, hs, ha⟩ := h.lst e hd
  rw [asBools_eq hn] at ha
  rw [dpa_bools ha] at hs
  exact ⟨p, ns, rfl, by rw [c.K]; exact hs, q _ P H nobody (Alc.refl e) (Dp.bl _)⟩⟩⟩
theorem b_all (c : Cxt G X W k) : BltV G X (.builtin "all") (g1 gAll) := ⟨⟨_, cr_all c.calm, callOk1 fun P H v a w Q e h hw q => by
  obtain ⟨ds, hd, hw⟩ := Option.bind_eq_some_iff.mp hw
  obtain ⟨ns, hn, rfl⟩ := Option.map_eq_some_iff.mp hw
  obtain ⟨p, xs, rfl, hs, ha⟩ := h.lst e hd
  rw [asBools_eq hn] at ha
  rw [dpa_bools ha] at hs
  exact ⟨p, ns, rfl, by rw [c.K]; exact hs, q _ P H nobody (Alc.refl e) (Dp.bl _)⟩⟩⟩
/-- greatest, least of ints -/
def maxI : List Int → Int
  | [] => 0
  | n :: ns => ns.foldl max n
def minI : List Int → Int
  | [] => 0
  | n :: ns => ns.foldl min n
theorem maxI_fold : ∀ (ns : List Int) (n : Int), n ≤ ns.foldl max n ∧ (∀ y ∈ ns, y ≤ ns.foldl max n) ∧ (ns.foldl max n = n ∨ ns.foldl max n ∈ ns)
  | [], n => ⟨Int.le_refl _, fun _ h => absurd h (by simp), .inl rfl⟩
  | a :: ns, n => by
    obtain ⟨h1, h2, h3⟩ := maxI_fold ns (max n a)
    rw [List.foldl_cons]
    refine ⟨by omega, fun y hy => ?_, ?_⟩
    · rcases List.mem_cons.mp hy with rfl | hy
      · omega
      · exact h2 y hy
    · rcases h3 with h3 | h3
      · rcases (show max n a = n ∨ max n a = a by omega) with q | q
        · exact .inl (h3.trans q)
        · exact .inr (List.mem_cons.mpr (.inl (h3.trans q)))
      · exact .inr (List.mem_cons_of_mem _ h3)
theorem minI_fold : ∀ (ns : List Int) (n : Int), ns.foldl min n ≤ n ∧ (∀ y ∈ ns, ns.foldl min n ≤ y) ∧ (ns.foldl min n = n ∨ ns.foldl min n ∈ ns)
  | [], n => ⟨Int.le_refl _, fun _ h => absurd h (by simp), .inl rfl⟩
  | a :: ns, n => by
    obtain ⟨h1, h2, h3⟩ := minI_fold ns (min n a)
    rw [List.foldl_cons]
    refine ⟨by omega, fun y hy => ?_, ?_⟩
    · rcases List.mem_cons.mp hy with rfl | hy
      · omega
      · exact h2 y hy
    · rcases h3 with h3 | h3
      · rcases (show min n a = n ∨ min n a = a by omega) with q | q
        · exact .inl (h3.trans q)
        · exact .inr (List.mem_cons.mpr (.inl (h3.trans q)))
      · exact .inr (List.mem_cons_of_mem _ h3)
theorem maxI_mem {ns : List Int} (h : 0 < ns.length) : maxI ns ∈ ns := by
  cases ns with
  | nil => simp at h
  | cons n ns =>
    rcases (maxI_fold ns n).2.2 with q | q
    · exact List.mem_cons.mpr (.inl q)
    · exact List.mem_cons_of_mem _ q
theorem maxI_le {ns : List Int} {y : Int} (h : y ∈ ns) : y ≤ maxI ns := by
  cases ns with
  | nil => cases h
  | cons n ns =>
    rcases List.mem_cons.mp h with rfl | h
    · exact (maxI_fold ns y).1
    · exact (maxI_fold ns n).2.1 y h
theorem minI_mem {ns : List Int} (h : 0 < ns.length) : minI ns ∈ ns := by
  cases ns with
  | nil => simp at h
  | cons n ns =>
    rcases (minI_fold ns n).2.2 with q | q
    · exact List.mem_cons.mpr (.inl q)
    · exact List.mem_cons_of_mem _ q
theorem minI_le {ns : List Int} {y : Int} (h : y ∈ ns) : minI ns ≤ y := by
  cases ns with
  | nil => cases h
  | cons n ns =>
    rcases List.mem_cons.mp h with rfl | h
    · exact (minI_fold ns y).1
    · exact (minI_fold ns n).2.1 y h
theorem CallR.or {u : Value} {r r' : List V → Hp → VK → Prop} (h : CallR X u r) (h' : CallR X u r') : CallR X u (fun vs H Q => r vs H Q ∨ r' vs H Q) := by
  intro pins s σ H vs us Q I rv q
  rcases q with q | q
  · exact h pins s σ H vs us Q I rv q
  · exact h' pins s σ H vs us Q I rv q
def orC (g g' : List Vl → Option Vl) : List Vl → Option Vl := fun ws => match g ws with
  | some w => some w
  | none => g' ws
theorem callOr {r r' : List V → Hp → VK → Prop} {g g' : List Vl → Option Vl} (h : CallOk G r g) (h' : CallOk G r' g') : CallOk G (fun vs H Q => r vs H Q ∨ r' vs H Q) (orC g g') := fun P H vs ws w Q e ho hw q => by
  unfold orC at hw
  cases z : g ws with
  | some w' => rw [z] at hw; cases hw; exact .inl (h P H vs ws w Q e ho z q)
  | none => rw [z] at hw; exact .inr (h' P H vs ws w Q e ho hw q)
theorem BltV.or {u : Value} {g g' : List Vl → Option Vl} (h : BltV G X u g) (h' : BltV G X u g') : BltV G X u (orC g g') := by
  obtain ⟨r, a, b⟩ := h
  obtain ⟨r', a', b'⟩ := h'
  exact ⟨⟨_, CallR.or a a', callOr b b'⟩⟩
def g2I (f : Int → Int → Int) : List Vl → Option Vl
  | [.dat (.int i), .dat (.int j)] => some (vI (f i j))
  | _ => none
theorem b_max2 (c : Cxt G X W k) : BltV G X (.builtin "max") (g2I fun i j => if j > i then j else i) := ⟨⟨_, call_max2 c.calm, fun P H vs ws w Q e ho hw q => by
  unfold g2I at hw
  split at hw
  · cases hw
    obtain ⟨v, v', rfl, h1, h2⟩ := owsE2 ho
    exact ⟨_, _, by rw [ow_int h1, ow_int h2], q _ P H nobody (Alc.refl e) (Dp.int _)⟩
  · cases hw⟩⟩
theorem b_min2 (c : Cxt G X W k) : BltV G X (.builtin "min") (g2I fun i j => if j < i then j else i) := ⟨⟨_, call_min2 c.calm, fun P H vs ws w Q e ho hw q => by
  unfold g2I at hw
  split at hw
  · cases hw
    obtain ⟨v, v', rfl, h1, h2⟩ := owsE2 ho
    exact ⟨_, _, by rw [ow_int h1, ow_int h2], q _ P H nobody (Alc.refl e) (Dp.int _)⟩
  · cases hw⟩⟩
noncomputable def gMax1 (a : Vl) : Option Vl := (asL a).bind fun ds => (asInts ds).bind fun ns => gd (0 < ns.length) (vI (maxI ns))
noncomputable def gMin1 (a : Vl) : Option Vl := (asL a).bind fun ds => (asInts ds).bind fun ns => gd (0 < ns.length) (vI (minI ns))
theorem b_max1 (c : Cxt G X W k) : BltV G X (.builtin "max") (g1 gMax1) := ⟨⟨_, cr_max c.calm, callOk1 fun P H v a w Q e h hw q => by
  obtain ⟨ds, hd, hw⟩ := Option.bind_eq_some_iff.mp hw
  obtain ⟨ns, hn, hw⟩ := Option.bind_eq_some_iff.mp hw
  obtain ⟨h0, rfl⟩ := gd_some hw
  obtain ⟨p, xs, rfl, hs, ha⟩ := h.lst e hd
  rw [asInts_eq hn] at ha
  rw [dpa_ints ha] at hs
  refine ⟨p, ns, rfl, by rw [c.K]; exact hs, h0, fun m hm hle => ?_⟩
  have : m = maxI ns := Int.le_antisymm (maxI_le hm) (hle _ (maxI_mem h0))
  rw [this]
  exact q _ P H nobody (Alc.refl e) (Dp.int _)⟩⟩
theorem b_min1 (c : Cxt G X W k) : BltV G X (.builtin "min") (g1 gMin1) := ⟨⟨_, cr_min c.calm, callOk1 fun P H v a w Q e h hw q => by
  obtain ⟨ds, hd, hw⟩ := Option.bind_eq_some_iff.mp hw
  obtain ⟨ns, hn, hw⟩ := Option.bind_eq_some_iff.mp hw
  obtain ⟨h0, rfl⟩ := gd_some hw
  obtain ⟨p, xs, rfl, hs, ha⟩ := h.lst e hd
  rw [asInts_eq hn] at ha
  rw [dpa_ints ha] at hs
  refine ⟨p, ns, rfl, by rw [c.K]; exact hs, h0, fun m hm hle => ?_⟩
  have : m = minI ns := Int.le_antisymm (hle _ (minI_mem h0)) (minI_le hm)
  rw [this]
  exact q _ P H nobody (Alc.refl e) (Dp.int _)⟩⟩
def gList (a : Vl) : Option Vl := match asL a with
  | some ds => some (.ml ds)
  | none => (asT a).map .ml
theorem b_list (c : Cxt G X W k) : BltV G X (.type "list") (g1 gList) := ⟨⟨_, call_list_of, callOk1 fun P H v a w Q e h hw q => by
  unfold gList at hw
  rw [c.K]
  cases ea : asL a with
  | some ds =>
    rw [ea] at hw
    cases hw
    obtain ⟨p, xs, rfl, hs, ha⟩ := h.lst e ea
    exact ⟨p, xs, rfl, .inl hs, fun l hl => q _ P _ _ (Alc.own e hl) ⟨l, xs, rfl, rfl, upd_same, ha⟩⟩
  | none =>
    rw [ea] at hw
    obtain ⟨ds, hd, rfl⟩ := Option.map_eq_some_iff.mp hw
    obtain ⟨p, xs, rfl, hs, ha⟩ := h.tup e hd
    exact ⟨p, xs, rfl, .inr hs, fun l hl => q _ P _ _ (Alc.own e hl) ⟨l, xs, rfl, rfl, upd_same, ha⟩⟩⟩⟩
theorem asT_eq {a : Vl} {ds : List PyData} (h : asT a = some ds) : a = .dat (.tuple ds) := by
  cases a with
  | dat d => cases d <;> first | (cases h; rfl) | cases h
  | _ => cases h
def gTuple (a : Vl) : Option Vl := match asL a with
  | some ds => some (.dat (.tuple ds))
  | none => (asT a).map fun ds => .dat (.tuple ds)
theorem b_tuple (c : Cxt G X W k) : BltV G X (.type "tuple") (g1 gTuple) := ⟨⟨_, call_tuple_of, callOk1 fun P H v a w Q e h hw q => by
  unfold gTuple at hw
  rw [c.K]
  cases ea : asL a with
  | some ds =>
    rw [ea] at hw
    cases hw
    obtain ⟨p, xs, rfl, hs, ha⟩ := h.lst e ea
    exact ⟨p, xs, rfl, .inl ⟨hs, fun l hl => q _ _ _ _ (Alc.tup (o := .tup xs) e hl) (Dp.tup (SqT.of upd_same) (dpa_mono (same_upd (same_none e hl)) _ _ ha))⟩⟩
  | none =>
    rw [ea] at hw
    obtain ⟨ds, hd, rfl⟩ := Option.map_eq_some_iff.mp hw
    have hr := asT_eq hd
    subst hr
    obtain ⟨S, ow⟩ := id h
    obtain ⟨p, xs, rfl, hs, ha⟩ := h.tup e hd
    exact ⟨p, xs, rfl, .inr ⟨hs, q _ P H nobody (Alc.refl e) ow⟩⟩⟩⟩

/-! ### sorted -/
structure Srt (ds : List PyData) : Prop where
  al : PySem.W.AllAlike ds
  so : PySem.W.Sortable ds
  dp : ∀ d ∈ ds, d.depth ≤ 64
noncomputable def sortD (rev : Bool) (ds : List PyData) : List PyData := ds.mergeSort (PySem.W.dataLe rev id)
noncomputable def gSorted (a : Vl) : Option Vl := (asL a).bind fun ds => gd (Srt ds) (.ml (sortD false ds))
def EachD (K : PySem.W.Frag) (P : Hp) (v : Value) (d : PyData) : Prop := ∃ x, RelV x v ∧ Dp K P x d
theorem eachD {K : PySem.W.Frag} {P : Hp} : ∀ {xs : List V} {us : List Value} {ds : List PyData}, Vals xs us → DpAll K P xs ds → PySem.W.EachIs (EachD K P) us ds
  | [], _, _, r, h => by cases r; cases h; exact .nil
  | x :: xs, _, _, r, h => by
    cases r with
    | cons r1 r2 =>
      cases h with
      | cons h1 h2 => exact .cons ⟨x, r1, h1⟩ (eachD r2 h2)
theorem dOfEach {K : PySem.W.Frag} {P : Hp} : ∀ {us : List Value} {ds : List PyData}, PySem.W.EachIs (EachD K P) us ds → ∃ xs, Vals xs us ∧ DpAll K P xs ds
  | [], _, h => by cases h; exact ⟨[], .nil, .nil⟩
  | u :: us, _, h => by
    cases h with
    | cons h1 h2 =>
      obtain ⟨x, r, d⟩ := h1
      obtain ⟨xs, r2, d2⟩ := dOfEach h2
      exact ⟨x :: xs, .cons r r2, .cons d d2⟩
theorem eachReads {pins : List (Addr × Obj)} {s : Shared} {σ : L2.St} {H P : Hp} (I : L2.Inv X pins σ H s) (e : Same P H) : ∀ {us : List Value} {ds : List PyData}, PySem.W.EachIs (EachD X.K P) us ds → PySem.W.EachIs (fun v b => ∃ as, Reads s.heap v (id b) as) us ds
  | [], _, h => by cases h; exact .nil
  | u :: us, _, h => by
    cases h with
    | cons h1 h2 =>
      obtain ⟨x, r, d⟩ := h1
      exact .cons (Dp.reads I _ _ _ (dp_mono e _ _ d) r) (eachReads I e h2)
def rSortD (K : PySem.W.Frag) : List V → Hp → VK → Prop := fun vs H Q => ∃ (P : Hp) (a : Addr) (xs : List V) (ds : List PyData), Same P H ∧ vs = [V.ref a] ∧ SqL K H a xs ∧ DpAll K P xs ds ∧ Srt ds ∧
  ∀ (ys : List V) (p : Addr), DpAll K P ys (sortD false ds) → H p = none → Q (.ref p) (upd H p (.lst ys))
theorem cr_sortD (c : Cxt G X W k) : CallR X (.builtin "sorted") (rSortD X.K) := by
  intro pins s σ H vs us Q I r h
  obtain ⟨P, a, xs, ds, e, rfl, hs, ha, so, q⟩ := h
  obtain ⟨its, rv, hl, hz⟩ := I.list hs
  rw [Vals.ref1 r]
  have hlen := rv.length
  have hlen2 := dpa_len _ _ ha
  have ed := eachD rv ha
  refine PySem.W.sorted_data (enc := id) hl.isList ed (eachReads I e ed) (by rw [List.map_id]; exact so.al) (by rw [List.map_id]; exact so.so) (by omega) (fun b hb => ?_) fun out ho eo => ?_
  · have := so.dp b hb
    have := c.room.un
    show X.A.units + 2 + b.depth < cLine
    omega
  · obtain ⟨ys, ry, dy⟩ := dOfEach eo
    obtain ⟨ep, he'⟩ := PyProof.Rows.sortedAll_at s.heap its out.toArray
    have hy := ry.length
    exact ⟨.ref _, upd H (s.heap.objs.size + 1) (.lst ys), I.laid (t' := s.toks) (fun _ _ => PyProof.Rows.sortedAll_old) (Nat.le_succ _) ⟨by omega, out, ep, ry, he'⟩, rfl, q ys _ dy (I.hok.fresh (Nat.le_succ _))⟩
theorem b_sorted (c : Cxt G X W k) : BltV G X (.builtin "sorted") (g1 gSorted) := ⟨⟨_, cr_sortD c, callOk1 fun P H v a w Q e h hw q => by
  obtain ⟨ds, hd, hw⟩ := Option.bind_eq_some_iff.mp hw
  obtain ⟨so, rfl⟩ := gd_some hw
  obtain ⟨p, xs, rfl, hs, ha⟩ := h.lst e hd
  rw [c.K]
  exact ⟨P, p, xs, ds, e, rfl, hs, ha, so, fun ys l dy hl => q _ P _ _ (Alc.own e hl) ⟨l, ys, rfl, rfl, upd_same, dy⟩⟩⟩⟩

/-! ### repr -/
structure Rok (d : PyData) : Prop where
  sh : d.showable = true
  nd : d.hasDict = false
  dp : d.depth ≤ 64
  sz : d.shown.length ≤ sizeLine
def isRef : PyData → Bool
  | .list _ => true
  | .tuple _ => true
  | _ => false
noncomputable def gRepr (a : Vl) : Option Vl := (viewD a).bind fun d => gd (Rok d ∧ isRef d = true) (.dat (.str d.shown))
def rReprD (K : PySem.W.Frag) : List V → Hp → VK → Prop := fun vs H Q => ∃ (v : V) (d : PyData), vs = [v] ∧ Dp K H v d ∧ Rok d ∧ isRef d = true ∧ Q (.str d.shown) H
theorem cr_reprD (c : Cxt G X W k) : CallR X (.builtin "repr") (rReprD X.K) := by
  intro pins s σ H vs us Q I r h
  obtain ⟨v, d, rfl, dp, ok, hr, q⟩ := h
  cases r with
  | cons r1 r2 =>
    cases r2
    obtain ⟨as, rd⟩ := Dp.reads I d v _ dp r1
    have hu := c.room.un
    have hdp := ok.dp
    cases dp with
    | lst hs ha =>
      cases r1
      exact repr_of_reads' rd ok.sh (fun z => by rw [ok.nd] at z; cases z) c.gd (by omega) (fun _ _ z => z) (fun h' u tk hk => ⟨.str _, H, I.kept hk, ⟨_, rfl⟩, q⟩) ok.sz
    | tup hs ha =>
      cases r1
      exact repr_of_reads' rd ok.sh (fun z => by rw [ok.nd] at z; cases z) c.gd (by omega) (fun _ _ z => z) (fun h' u tk hk => ⟨.str _, H, I.kept hk, ⟨_, rfl⟩, q⟩) ok.sz
    | _ => cases hr
theorem b_repr (c : Cxt G X W k) : BltV G X (.builtin "repr") (g1 gRepr) := ⟨⟨_, cr_reprD c, callOk1 fun P H v a w Q e h hw q => by
  obtain ⟨d, hd, hw⟩ := Option.bind_eq_some_iff.mp hw
  obtain ⟨⟨ok, hr⟩, rfl⟩ := gd_some hw
  rw [c.K]
  exact ⟨v, d, rfl, h.dp e hd, ok, hr, q _ P H nobody (Alc.refl e) (Dp.str _)⟩⟩⟩
end
end Mi
end
section
set_option Elab.async false
set_option linter.all false
set_option maxRecDepth 100000
/-! Ev8a: set(list of ints); sorted of such a set, of any size: at the library's level -/
namespace Mi
open PySem PySem.Spec PyProof.Rows L2
section
variable {P : Program} {w : World} {A : Around} {E : Value → Shared → Prop} {s : Shared}
/-- a set as it is made -/
abbrev bornSet (w : World) : Obj := { cls := .type "set", dict := none, data := .set #[] 0 (.fresh 0 0 (!w.params.followText "set-order")) }
set_option maxRecDepth 100000 in
set_option maxHeartbeats 3200000 in
theorem set_of_list {l : Addr} {items : Array Value} (ns : List Int) {Q : Value → Shared → Prop} (hh : A.handled = none) (hl : s.heap.IsList l items) (hit : IntsAre items.toList ns) (hb : ns.length + 1 < scanBound)
    (fin : ∀ (h' : Heap) (tk c : Nat), SetR w h' s.heap.objs.size (fun j => decide (j ∈ ns)) c → c ≤ ns.length → (∀ b o, s.heap.get? b = some o → h'.get? b = some o) → Q (.ref s.heap.objs.size) { s with heap := h', toks := tk }) :
    wpAny (model P w) A (call (.type "set") [.ref l]) Q E s := by
  have many : items.size = ns.length := by
    have q := IntsAre.length hit
    rwa [Array.length_toList] at q
  obtain ⟨mc, mtl, mmro⟩ := F.called_set.mro
  have m1 := F.called_set.made
  have m2 := F.called_set.sub
  refine wpAny_call (codeAny_of_tree ?_)
  show wpAny _ _ (callAny (.type "set") _) _ _ _
  refine wpAny_pure ⟨Code.quiet_builtin _ (by decide +kernel), codeAny_builtin F.entry_type_call ?_⟩
  rw [Around.under_plain (weight_type_call_type "set" [.ref l] []) rfl]
  have m3 := F.called_set.notType
  have m4 := F.called_set.canCreate
  have m5 := F.typeCall_set_1 (.ref l)
  repeat (any_goals (first | assumption | wp_step))
  refine codeAny_mono (code_set_led1 (.ref l) (E := E) (Q₁ := fun made s₁ => made = .ref s.heap.objs.size ∧ s₁ = { s with heap := s.heap.push (bornSet w) }) ⟨rfl, rfl⟩) fun res s₁ got => ?_
  cases res with
  | error e => exact got
  | ok fl =>
    cases fl with
    | ret made =>
      obtain ⟨rfl, rfl⟩ := got
      have atS : (s.heap.push (bornSet w)).get? s.heap.objs.size = some (bornSet w) := Heap.get?_push_size _ rfl
      have isS : Shared.TypeIs { s with heap := s.heap.push (bornSet w) } (.ref s.heap.objs.size) "set" := ⟨_, atS, rfl⟩
      have m6 := F.called_set.init.lookup
      have m7 := F.called_set.init.bind (.ref s.heap.objs.size)
      repeat (any_goals (first | assumption | wp_step))
      refine codeAny_mono (codeAny_call_builtin (R := wants (fun res s₂ => res = .none ∧ ∃ h' tk c, s₂ = { s with heap := h', toks := tk } ∧ SetR w h' s.heap.objs.size (fun j => decide (j ∈ ns)) c ∧ c ≤ ns.length ∧ (∀ b o, s.heap.get? b = some o → h'.get? b = some o)) E)
        F.called_set.init.plain F.entry_set_init (check_set_init_1 isS ?_)) fun res2 s₂ got2 => ?_
      · obtain ⟨⟨lc, ld, ldat, lsl⟩, hol, hcl, nl, hdl⟩ := hl
        simp only at hcl hdl
        subst hcl; subst hdl
        have atL : (s.heap.push (bornSet w)).get? l = some { cls := .type "list", dict := ld, data := .seq items nl, slots := lsl } := Heap.get?_push_of_some _ hol
        have n1 := F.sub_list_set
        have n2 := F.sub_list_frozenset
        have n3 : (Value.type "list" == Value.type "dict") = false := by decide
        have isL : (s.heap.push (bornSet w)).IsList l items := ⟨_, atL, rfl, nl, rfl⟩
        unfold Builtin.«set.__init__» noKeywords Builtin.Frozenset.updateFrom
        generalize hPI : pyIter = PI
        wp_walk
        subst hPI
        refine wpAny_pyIter_list isL ?_
        refine wpAny_bind (wpAny_runValue ?_)
        have lS : l < s.heap.objs.size := Heap.lt_size hol
        have noh : A.in1.in1.in1.handled = none := by simp [hh]
        have lI : l ≠ (s.heap.push (bornSet w)).objs.size := by
          rw [Heap.size_push]; exact Nat.ne_of_lt (Nat.lt_succ_of_lt lS)
        have sI : s.heap.objs.size ∉ [(s.heap.push (bornSet w)).objs.size, l] := by
          rw [Heap.size_push]; simp only [List.mem_cons, List.mem_singleton, List.not_mem_nil, or_false, not_or]
          exact ⟨Nat.ne_of_lt (Nat.lt_succ_self _), Nat.ne_of_gt lS⟩
        have each : ∀ (i : Nat) (v : Value), items[i]? = some v → ∃ k t, ns[i]? = some k ∧ v = .int k t := fun i v hv => by
          have hi : i < ns.length := by rw [← many]; exact (Array.getElem?_eq_some_iff.mp hv).1
          obtain ⟨t, e⟩ := PyProof.Rows.IntsAre.int_at hit i v (by rw [Array.getElem?_toList]; exact hv)
          refine ⟨ns[i], t, List.getElem?_eq_getElem hi, ?_⟩
          rw [e, List.getD_eq_getElem?_getD, List.getElem?_eq_getElem hi] <;> rfl
        refine set_update_ints ((Walks.list noh _ l lI items).toS) s.heap.objs.size sI ns many hb each (items.size - 0) 0 _ (by omega) (Nat.zero_le _) ⟨⟨_, Heap.get?_push_size _ rfl, rfl, rfl⟩, (isL.push _)⟩ ?first ?last
        case first => exact ⟨0, Nat.le_refl 0, setR_new_at (Heap.get?_push_of_some _ atS)⟩
        case last =>
          intro s' c' mv hc' hS'
          obtain ⟨h', g2, d', tk', os'⟩ := s'
          obtain rfl : g2 = s.gens := mv.gens
          obtain rfl : d' = s.drawn := mv.drawn
          obtain rfl : os' = s.os := mv.os
          show wpAny _ _ _ _ _ _
          refine wpAny_pure ?_
          show wpAny _ _ (PySem.ret Value.none) _ _ _
          rw [many] at hc'
          refine wpAny_pure ⟨rfl, h', tk', c', rfl, hS', hc', fun b o e => ?_⟩
          have b0 : b < s.heap.objs.size := Heap.lt_size e
          refine mv.heap b o ?_ (Heap.get?_push_of_some _ (Heap.get?_push_of_some _ e))
          rw [Heap.size_push]
          simp only [List.mem_cons, List.mem_singleton, List.not_mem_nil, or_false, not_or]
          exact ⟨Nat.ne_of_lt b0, Nat.ne_of_lt (Nat.lt_succ_of_lt b0)⟩
      · cases res2 with
        | error e => exact got2
        | ok fl₂ =>
          cases fl₂ with
          | ret r =>
            obtain ⟨rfl, h', tk, c', rfl, hS', hc', hk'⟩ := got2
            repeat (any_goals (first | assumption | wp_step))
            exact fin _ _ _ hS' hc' hk'
          | _ => exact got2.elim
    | _ => exact got.elim
/-- sorted of a set of ints, however many -/
theorem sorted_of_set {a : Addr} {S : Int → Bool} {n : Nat} {Q : Value → Shared → Prop} (R : SetR w s.heap a S n) (hh : A.handled = none) (hu : A.units + 200 < cLine)
    (fin : ∀ s' p (out : Array Value) (c : Nat) (ns : List Int), (∀ b o, s.heap.get? b = some o → s'.heap.get? b = some o) → s'.gens = s.gens → s'.os = s.os → s.heap.objs.size ≤ p →
      s'.heap.get? p = some (seqObj "list" out c) → IntsAre out.toList ns → ns.Pairwise (· < ·) → (∀ k, k ∈ ns ↔ S k = true) → ns.length = n → Q (.ref p) s') :
    wpAny (model P w) A (call (.builtin "sorted") [.ref a]) Q E s := by
  obtain ⟨o, es, ep, t, ho, hex, hd, g, nd, hm, hb, hf, hn, hr, hl⟩ := R
  refine Calls.call_function_entry kind_sorted plain_sorted entry_sorted (args_sorted1 _) ?_
  unfold Builtin.«sorted»
  refine wpAny_bind (m := checkCount "sorted" 1 1 _) (wpAny_pure ?_)
  refine wpAny_bind (collect_set (A := A.in1) hh ⟨o, ho, hex.1, hd⟩ hf hb hr hl fun s1 vs k1 hz g1 o1 pm => ?_)
  have cnt : vs.length = n := by rw [pm.length_eq, List.length_map, Array.length_toList]; exact hn
  have all : IntsAre vs (vs.map Builtin.Re.reRawOf) := ints_of vs fun v hv => by
    obtain ⟨e, he, q⟩ := List.mem_map.mp (pm.mem_iff.mp hv)
    obtain ⟨k, tk, h1, _⟩ := g e he
    exact ⟨k, tk, by rw [← q]; exact h1⟩
  have pk : (vs.map Builtin.Re.reRawOf).Perm (es.toList.map keyOf) := by
    have q := pm.map Builtin.Re.reRawOf
    rwa [List.map_map] at q
  have small : vs.length ≤ sizeLine := by
    have : scanBound = 4096 := rfl
    rw [cnt, sizeLine_eq]; omega
  refine wpAny_bind (wpAny_newList ?_ small)
  have atL : (s1.heap.push (seqObj "list" vs.toArray 0)).get? s1.heap.objs.size = some (seqObj "list" vs.toArray 0) := Heap.get?_push_size _ rfl
  have rel : ∀ {us : List Value} {ms : List Int}, IntsAre us ms → PySem.W.EachIs (fun v (k : Int) => ∃ t, v = Value.int k t) us ms := by
    intro us ms h
    induction h with
    | nil => exact .nil
    | cons k t h ih => exact .cons ⟨t, rfl⟩ ih
  have back : ∀ {us : List Value} {ms : List Int}, PySem.W.EachIs (fun v (k : Int) => ∃ t, v = Value.int k t) us ms → IntsAre us ms := by
    intro us ms h
    induction h with
    | nil => exact .nil
    | cons h1 h2 ih => obtain ⟨t, rfl⟩ := h1; exact .cons _ t ih
  refine wpAny_bind (wpAny_holding (PySem.W.list_sort_data (enc := PyData.int) (bs := vs.map Builtin.Re.reRawOf) (R := fun v (k : Int) => ∃ t, v = Value.int k t) atL (rel all) ((rel all).mono fun v b h => ?_) ?_ ?_ (by rw [List.length_map]; exact small) (fun b _ => ?_) fun out lo eo => ?_))
  · obtain ⟨t, rfl⟩ := h
    exact ⟨[], .int b t, by simp⟩
  · intro d hd d' hd'
    obtain ⟨i, _, rfl⟩ := List.mem_map.mp hd
    obtain ⟨j, _, rfl⟩ := List.mem_map.mp hd'
    rfl
  · refine .inr fun d hd => ?_
    obtain ⟨i, _, rfl⟩ := List.mem_map.mp hd
    exact ⟨(fun z => nomatch z), (fun _ z => nomatch z)⟩
  · show A.units + 1 + 1 + 0 < cLine
    omega
  · obtain ⟨c, hc⟩ := sortedHeap_at (vs := vs) (out := out.toArray) atL
    have out' := back eo
    rw [show PySem.W.dataLe false PyData.int = fun a b : Int => decide (a ≤ b) from PySem.W.dataLe_int (fun b => b)] at out'
    have pm2 := List.mergeSort_perm (vs.map Builtin.Re.reRawOf) (fun a b : Int => decide (a ≤ b))
    have srt : ((vs.map Builtin.Re.reRawOf).mergeSort (fun a b : Int => decide (a ≤ b))).Pairwise (· ≤ ·) := by
      have q := List.pairwise_mergeSort (le := fun a b : Int => decide (a ≤ b)) (fun a b c h1 h2 => by simp only [decide_eq_true_eq] at *; omega) (fun a b => by simp only [Bool.or_eq_true, decide_eq_true_eq]; omega) (vs.map Builtin.Re.reRawOf)
      exact q.imp fun h => of_decide_eq_true h
    have pn := pm2.trans pk
    refine wpAny_pure ⟨_, rfl, fin _ s1.heap.objs.size out.toArray c _ (fun b u e => ?_) g1 o1 hz hc out' (lt_of_le_nodup _ srt (pn.nodup_iff.mpr nd)) (fun k => by rw [pn.mem_iff, ← hm k]) (by rw [pn.length_eq, List.length_map, Array.length_toList]; exact hn)⟩
    have q := k1 b u e
    have lt := Heap.lt_size q
    show (sortedHeap (s1.heap.push (seqObj "list" vs.toArray 0)) s1.heap.objs.size vs out.toArray).get? b = some u
    rw [sortedHeap_old (Nat.ne_of_lt lt) (by rw [Heap.size_push]; exact Nat.lt_succ_of_lt lt)]
    exact Heap.get?_push_of_some _ q
end
end Mi
end
section
set_option Elab.async false
set_option linter.all false
set_option maxRecDepth 100000
/-! Ev8: sets of ints, in the layer -/
namespace Mi
open PySem L2

/-- the members, ascending, each once -/
def insS (k : Int) : List Int → List Int
  | [] => [k]
  | x :: xs => if k < x then k :: x :: xs else if k = x then x :: xs else x :: insS k xs
def sortSet (ns : List Int) : List Int := ns.foldr insS []
theorem mem_insS {k j : Int} : ∀ {xs : List Int}, j ∈ insS k xs ↔ j = k ∨ j ∈ xs
  | [] => by simp [insS]
  | x :: xs => by
    unfold insS
    split
    · simp
    · split
      · rename_i h; subst h; simp
      · rw [List.mem_cons, mem_insS (xs := xs), List.mem_cons]
        constructor
        · rintro (h | h | h)
          · exact .inr (.inl h)
          · exact .inl h
          · exact .inr (.inr h)
        · rintro (h | h | h)
          · exact .inr (.inl h)
          · exact .inl h
          · exact .inr (.inr h)
theorem asc_insS {k : Int} : ∀ {xs : List Int}, xs.Pairwise (· < ·) → (insS k xs).Pairwise (· < ·)
  | [], _ => by simp [insS]
  | x :: xs, h => by
    obtain ⟨h1, h2⟩ := List.pairwise_cons.mp h
    unfold insS
    split
    · rename_i hk
      refine List.pairwise_cons.mpr ⟨fun y hy => ?_, h⟩
      rcases List.mem_cons.mp hy with rfl | hy
      · exact hk
      · have := h1 y hy; omega
    · split
      · exact h
      · rename_i a b
        refine List.pairwise_cons.mpr ⟨fun y hy => ?_, asc_insS h2⟩
        rcases mem_insS.mp hy with rfl | hy
        · omega
        · exact h1 y hy
theorem mem_sortSet {j : Int} : ∀ {ns : List Int}, j ∈ sortSet ns ↔ j ∈ ns
  | [] => by simp [sortSet]
  | n :: ns => by
    show j ∈ insS n (sortSet ns) ↔ _
    rw [mem_insS, mem_sortSet (ns := ns), List.mem_cons]
theorem asc_sortSet : ∀ {ns : List Int}, (sortSet ns).Pairwise (· < ·)
  | [] => by simp [sortSet]
  | n :: ns => by
    show (insS n (sortSet ns)).Pairwise (· < ·)
    exact asc_insS asc_sortSet
/-- an ascending list is told by its members -/
theorem asc_ext : ∀ {xs ys : List Int}, xs.Pairwise (· < ·) → ys.Pairwise (· < ·) → (∀ j, j ∈ xs ↔ j ∈ ys) → xs = ys
  | [], [], _, _, _ => rfl
  | [], y :: ys, _, _, h => by have := (h y).mpr (List.mem_cons_self); simp at this
  | x :: xs, [], _, _, h => by have := (h x).mp (List.mem_cons_self); simp at this
  | x :: xs, y :: ys, hx, hy, h => by
    obtain ⟨a1, a2⟩ := List.pairwise_cons.mp hx
    obtain ⟨b1, b2⟩ := List.pairwise_cons.mp hy
    have e : x = y := by
      have p := (h x).mp List.mem_cons_self
      have q := (h y).mpr List.mem_cons_self
      rcases List.mem_cons.mp p with p | p
      · exact p
      · rcases List.mem_cons.mp q with q | q
        · exact q.symm
        · have := b1 x p; have := a1 y q; omega
    subst e
    rw [asc_ext a2 b2 fun j => ?_]
    constructor
    · intro hj
      rcases List.mem_cons.mp ((h j).mp (List.mem_cons_of_mem _ hj)) with q | q
      · subst q; have := a1 j hj; omega
      · exact q
    · intro hj
      rcases List.mem_cons.mp ((h j).mpr (List.mem_cons_of_mem _ hj)) with q | q
      · subst q; have := b1 j hj; omega
      · exact q

section
variable {X : Cx} {W : WX} {G : Glb} {k : Nat}
def rSetI (K : PySem.W.Frag) (w : World) : List V → Hp → VK → Prop := fun vs H Q => ∃ (a : Addr) (ns : List Int), vs = [V.ref a] ∧ (SqL K H a (ns.map V.int) ∨ SqT K H a (ns.map V.int)) ∧ ns.length < 4000 ∧
  ∀ (p : Addr) (n : Nat), H p = none → Q (.ref p) (upd H p (SetO w p (fun j => decide (j ∈ ns)) n))
theorem cr_setI (c : Cxt G X W k) : CallR X (.type "set") (rSetI X.K X.w) := by
  intro pins s σ H vs us Q I r h
  obtain ⟨a, ns, rfl, hs, hz, q⟩ := h
  rw [Vals.ref1 r]
  have hb : ns.length + 1 < scanBound := by show ns.length + 1 < 4096; omega
  rcases hs with hs | hs
  · obtain ⟨its, rv, hl, _⟩ := I.list hs
    refine set_of_list ns (I.ok.hd c.calm) hl.isList (by simpa using rv.ints) hb fun h' tk n R _ kp => ?_
    exact ⟨.ref _, upd H s.heap.objs.size (SetO X.w s.heap.objs.size (fun j => decide (j ∈ ns)) n), I.laid (t' := tk) kp (Nat.le_refl _) (setO_new R), rfl, q _ n (I.hok.fresh (Nat.le_refl _))⟩
  · obtain ⟨its, rv, hl, _⟩ := I.tuple hs
    refine call_set_tupI ns (I.ok.hd c.calm) (show s.heap.IsTuple a its.toArray from hl) (by simpa using rv.ints) hb fun h' tk n R _ kp => ?_
    exact ⟨.ref _, upd H s.heap.objs.size (SetO X.w s.heap.objs.size (fun j => decide (j ∈ ns)) n), I.laid (t' := tk) kp (Nat.le_refl _) (setO_new R), rfl, q _ n (I.hok.fresh (Nat.le_refl _))⟩
def rSortS (w : World) : List V → Hp → VK → Prop := fun vs H Q => ∃ (a : Addr) (m : Int → Bool) (n : Nat), vs = [V.ref a] ∧ H a = some (SetO w a m n) ∧
  ∀ (ns : List Int) (p : Addr), ns.Pairwise (· < ·) → (∀ k : Int, k ∈ ns ↔ m k = true) → H p = none → Q (.ref p) (upd H p (.lst (ns.map V.int)))
theorem cr_sortS (c : Cxt G X W k) : CallR X (.builtin "sorted") (rSortS X.w) := by
  intro pins s σ H vs us Q I r h
  obtain ⟨a, m, n, rfl, ha, q⟩ := h
  have R := setO_get I ha
  rw [Vals.ref1 r]
  have small : n < 4096 := by
    have ⟨_, _, _, _, _, _, _, _, _, _, hb, _, hn, _⟩ := R
    have hb : _ < 4096 := hb
    omega
  refine sorted_of_set R (I.ok.hd c.calm) (by have := c.room.un; omega) fun s' p out cap ns kp eg eo hp hg hi hs hm hl => ?_
  have fresh : H p = none := I.hok.fresh hp
  have J : L2.Inv X pins σ (upd H p (.lst (ns.map V.int))) { s with heap := s'.heap, gens := s'.gens, drawn := s'.drawn, toks := s'.toks } :=
    I.call (ch := []) (Un.laid kp hp fresh) (I.hok.laid kp hp ⟨by rw [List.length_map, sizeLine_eq]; omega, out.toList, cap, vals_of_ints hi, hg⟩) (by rw [eg]; exact I.bare) (fun _ z => nomatch z)
  have e : s' = { s with heap := s'.heap, gens := s'.gens, drawn := s'.drawn, toks := s'.toks } := by
    cases s'; cases s; cases eo; rfl
  rw [e]
  exact ⟨.ref p, _, J, rfl, q ns p hs hm fresh⟩
noncomputable def gSet (a : Vl) : Option Vl := ((asL a).orElse fun _ => asT a).bind fun ds => (asInts ds).bind fun ns => gd (ns.length < 4000) (.st ns)
theorem b_set (c : Cxt G X W k) (hw : X.w = G.w) : BltV G X (.type "set") (g1 gSet) := ⟨⟨_, cr_setI c, callOk1 fun P H v a w Q e h hq q => by
  obtain ⟨ds, hd, hq⟩ := Option.bind_eq_some_iff.mp hq
  obtain ⟨ns, hn, hq⟩ := Option.bind_eq_some_iff.mp hq
  obtain ⟨h0, rfl⟩ := gd_some hq
  rw [c.K, hw]
  have eds := asInts_eq hn
  have fin : ∀ (p : Addr) (n : Nat), H p = none → Q (.ref p) (upd H p (SetO G.w p (fun j => decide (j ∈ ns)) n)) := fun p n hp =>
    q _ P _ _ (Alc.own e hp) ⟨p, fun j => decide (j ∈ ns), n, rfl, rfl, upd_same, fun k => by simp⟩
  cases ea : asL a with
  | some ds' =>
    rw [ea] at hd
    have hd : some ds' = some ds := hd
    cases hd
    obtain ⟨p, xs, rfl, hs, ha⟩ := h.lst e ea
    rw [eds] at ha
    rw [dpa_ints ha] at hs
    exact ⟨p, ns, rfl, .inl hs, h0, fin⟩
  | none =>
    rw [ea] at hd
    have hd : asT a = some ds := hd
    obtain ⟨p, xs, rfl, hs, ha⟩ := h.tup e hd
    rw [eds] at ha
    rw [dpa_ints ha] at hs
    exact ⟨p, ns, rfl, .inr hs, h0, fin⟩⟩⟩
def gSortS : Vl → Option Vl
  | .st ns => some (.ml ((sortSet ns).map .int))
  | _ => none
theorem b_sortS (c : Cxt G X W k) (hw : X.w = G.w) : BltV G X (.builtin "sorted") (g1 gSortS) := ⟨⟨_, cr_sortS c, callOk1 fun P H v a w Q e h hq q => by
  unfold gSortS at hq
  split at hq
  · rename_i ns
    cases hq
    obtain ⟨S, p, m, n, rfl, _, hp, hm⟩ := h
    rw [hw]
    refine ⟨p, m, n, rfl, hp, fun ms l h1 h2 hl => ?_⟩
    have : ms = sortSet ns := asc_ext h1 asc_sortSet fun j => by rw [h2, hm, mem_sortSet]
    subst this
    exact q _ P _ _ (Alc.own e hl) ⟨l, _, rfl, rfl, upd_same, ints_dpa⟩
  · cases hq⟩⟩
/-- sorted of a list, or of a set of ints -/
theorem b_sorted2 (c : Cxt G X W k) (hw : X.w = G.w) : BltV G X (.builtin "sorted") (orC (g1 gSortS) (g1 gSorted)) := BltV.or (b_sortS c hw) (b_sorted c)
end
end Mi
end
section
set_option Elab.async false
set_option linter.all false
set_option maxRecDepth 100000
/-! Ev9: what a def promises, by a function of what its arguments hold; calls -/
namespace Mi
open PySem L2

inductive COut where
  | ok (w : Vl) (outs : List (Option Vl))
  | exc (c : Nat) (outs : List (Option Vl))
  | stk
abbrev CSpec := List Vl → COut
def ioAt (io : List Bool) (j : Nat) : Bool := io.getD j false
/-- what a call leaves, in the callee's eyes -/
def EndC (G : Glb) (io : List Bool) (vs : List V) (P H : Hp) (F : Nat → Ad) (Q : VK) (E : XK) : COut → Prop
  | .ok w outs => ∀ v P' H' F' S, Now G P' H' (vs.map some) outs F' → (∀ j b, F' j b → ioAt io j = true) → Stp P H F P' H' F' → Tmp G P' H' F' S v w → (∀ b, S b → (∃ i, F i b) ∨ H b = none) → outs.length = io.length → Q v H'
  | .exc c outs => ∀ P' H' F', Now G P' H' (vs.map some) outs F' → (∀ j b, F' j b → ioAt io j = true) → Stp P H F P' H' F' → outs.length = io.length → E (.ref (G.ea c)) none H'
  | .stk => False
def spV (G : Glb) (io : List Bool) (spec : CSpec) : Sp := fun vs H Q E => ∃ ws P F, vs.length = io.length ∧ ws.length = io.length ∧ Now G P H (vs.map some) (ws.map some) F ∧ (∀ j b, F j b → ioAt io j = true) ∧ EndC G io vs P H F Q E (spec ws)
theorem spV_len {G : Glb} {io : List Bool} {spec : CSpec} {vs : List V} {H : Hp} {Q : VK} {E : XK} (h : spV G io spec vs H Q E) : vs.length = io.length := by
  obtain ⟨ws, P, F, h1, _⟩ := h
  exact h1

/-! ### the arguments, by value or by slot -/
def argW (ρ : Rho) : List Bool → List Opd → Option (List Vl)
  | [], [] => some []
  | true :: io, .brw i :: os => (look ρ (.brw i)).bind fun w => (argW ρ io os).map fun ws => w :: ws
  | false :: io, o :: os => ((look ρ o).bind viewD).bind fun d => (argW ρ io os).map fun ws => .dat d :: ws
  | _, _ => none
def isB (i : Nat) : Opd → Bool
  | .brw j => j == i
  | _ => false
def ioC (io : List Bool) (os : List Opd) : Bool := (io.zip os).all fun p => !p.1 || (match p.2 with
  | .brw i => os.countP (isB i) == 1
  | .val _ => false)
def noBor (io : List Bool) (os : List Opd) : Bool := (io.zip os).all fun p => p.1 || (match p.2 with
  | .brw _ => false
  | .val _ => true)
mutual
def noL : PyData → Bool
  | .none => true
  | .bool _ => true
  | .int _ => true
  | .str _ => true
  | .list _ => false
  | .tuple ds => noLs ds
  | .dict _ => false
def noLs : List PyData → Bool
  | [] => true
  | d :: ds => noL d && noLs ds
end
def clean : Vl → Bool
  | .dat d => noL d
  | .ml ds => noLs ds
  | .mml dss => dss.all noLs
  | .ob _ fs => fs.all fun p => noL p.2
  | .st _ => true
def cleanO : Option Vl → Bool
  | some w => clean w
  | none => true
def setIO (ρ : Rho) : List Bool → List Opd → List (Option Vl) → Rho
  | true :: io, .brw i :: os, w :: outs => setIO (ρ.set i w) io os outs
  | _ :: io, _ :: os, _ :: outs => setIO ρ io os outs
  | _, _, _ => ρ
def fCall (io : List Bool) (spec : CSpec) (fa : FA) : FE := fun ρ => (fa ρ).bind fun os ρ1 => if ioC io os = true then
    match argW ρ1 io os with
    | some ws => match spec ws with
      | .ok w outs => if noBor io os || (clean w && outs.all cleanO) then .ok (.val w) (setIO ρ1 io os outs) else .stk
      | .exc c outs => if noBor io os || outs.all cleanO then .exc c (setIO ρ1 io os outs) else .stk
      | .stk => .stk
    | none => .stk
  else .stk

section
variable {G : Glb} {P H : Hp} {F : Nat → Ad} {σ : L2.St} {ρ : Rho} {S : Ad} {v : V} {w : Vl}
theorem ioAt_cons0 {b : Bool} {io : List Bool} : ioAt (b :: io) 0 = b := rfl
theorem ioAt_cons {b : Bool} {io : List Bool} {j : Nat} : ioAt (b :: io) (j + 1) = ioAt io j := rfl
theorem countP_two {α : Type} {p : α → Bool} : ∀ {os : List α} {j k : Nat} {x y : α}, os[j]? = some x → os[k]? = some y → p x = true → p y = true → j < k → 2 ≤ os.countP p
  | [], j, k, x, y, h, _, _, _, _ => by simp at h
  | o :: os, 0, 0, x, y, _, _, _, _, h => absurd h (Nat.lt_irrefl _)
  | o :: os, 0, k + 1, x, y, h1, h2, hx, hy, _ => by
    have e : o = x := by simpa using h1
    subst e
    have : 1 ≤ os.countP p := List.countP_pos_iff.mpr ⟨y, List.mem_of_getElem? (by simpa using h2), hy⟩
    rw [List.countP_cons, hx, if_pos rfl]
    omega
  | o :: os, j + 1, k + 1, x, y, h1, h2, hx, hy, h => by
    have := countP_two (os := os) (by simpa using h1) (by simpa using h2) hx hy (Nat.lt_of_succ_lt_succ h)
    rw [List.countP_cons]; omega
  | o :: os, j + 1, 0, x, y, _, _, _, _, h => by omega
theorem ioC_one {io : List Bool} {os : List Opd} (h : ioC io os = true) {j k i : Nat} (h1 : ioAt io j = true) (h2 : os[j]? = some (.brw i)) (h3 : os[k]? = some (.brw i)) : j = k := by
  have hz : (io.zip os)[j]? = some (true, .brw i) := by
    rw [List.getElem?_zip_eq_some]
    refine ⟨?_, h2⟩
    unfold ioAt at h1
    rw [List.getD_eq_getElem?_getD] at h1
    cases q : io[j]? with
    | none => rw [q] at h1; cases h1
    | some b => rw [q] at h1; have : b = true := h1; rw [this]
  have hm := List.mem_of_getElem? hz
  have := List.all_eq_true.mp h _ hm
  have hc : os.countP (isB i) = 1 := by simpa using this
  rcases Nat.lt_trichotomy j k with q | q | q
  · have := countP_two (p := isB i) h2 h3 (by simp [isB]) (by simp [isB]) q; omega
  · exact q
  · have := countP_two (p := isB i) h3 h2 (by simp [isB]) (by simp [isB]) q; omega
theorem noBor_not {io : List Bool} {os : List Opd} (h : noBor io os = true) {j i : Nat} (hl : os.length = io.length) (h2 : os[j]? = some (.brw i)) : ioAt io j = true := by
  have hj : j < io.length := by rw [← hl]; exact (List.getElem?_eq_some_iff.mp h2).1
  have hz : (io.zip os)[j]? = some (io[j], .brw i) := by
    rw [List.getElem?_zip_eq_some]
    exact ⟨List.getElem?_eq_getElem hj, h2⟩
  have := List.all_eq_true.mp h _ (List.mem_of_getElem? hz)
  have e : io[j] = true := by simpa using this
  unfold ioAt
  rw [List.getD_eq_getElem?_getD, List.getElem?_eq_getElem hj]
  exact e
/-- each argument: its operand, its value -/
theorem argW_at : ∀ {io : List Bool} {os : List Opd} {vs : List V} {S : Ad} {ws : List Vl}, HasL G P H F σ S vs os → argW ρ io os = some ws →
    os.length = io.length ∧ vs.length = io.length ∧ ws.length = io.length ∧ ∀ j w, ws[j]? = some w → ∃ o v S', os[j]? = some o ∧ vs[j]? = some v ∧ Has G P H F σ S' v o ∧ (∀ b, S' b → S b) ∧
      ((ioAt io j = true ∧ ∃ i, o = .brw i ∧ look ρ (.brw i) = some w) ∨ (ioAt io j = false ∧ ∃ w0 d, look ρ o = some w0 ∧ viewD w0 = some d ∧ w = .dat d))
  | [], [], [], S, ws, _, e => by
    have e : some [] = some ws := e
    cases e
    exact ⟨rfl, rfl, rfl, fun j w h => by simp at h⟩
  | true :: io, .brw i :: os, v :: vs, S, ws, ⟨S1, S2, h1, h2, h3, h4⟩, e => by
    have e : (look ρ (.brw i)).bind (fun w => (argW ρ io os).map fun ws => w :: ws) = some ws := e
    obtain ⟨w, e1, e⟩ := Option.bind_eq_some_iff.mp e
    obtain ⟨ws', e2, rfl⟩ := Option.map_eq_some_iff.mp e
    obtain ⟨l1, l2, l3, ih⟩ := argW_at h2 e2
    refine ⟨by simp [l1], by simp [l2], by simp [l3], fun j w' hj => ?_⟩
    cases j with
    | zero =>
      have : w = w' := by simpa using hj
      subst this
      exact ⟨_, v, S1, rfl, rfl, h1, fun b hb => (h3 b hb).1, .inl ⟨rfl, i, rfl, e1⟩⟩
    | succ j =>
      obtain ⟨o, v', S', a1, a2, a3, a4, a5⟩ := ih j w' (by simpa using hj)
      exact ⟨o, v', S', by simpa using a1, by simpa using a2, a3, fun b hb => h4 b (a4 b hb), by simpa only [ioAt_cons] using a5⟩
  | false :: io, o :: os, v :: vs, S, ws, ⟨S1, S2, h1, h2, h3, h4⟩, e => by
    have e : ((look ρ o).bind viewD).bind (fun d => (argW ρ io os).map fun ws => Vl.dat d :: ws) = some ws := by
      cases o <;> exact e
    obtain ⟨d, e1, e⟩ := Option.bind_eq_some_iff.mp e
    obtain ⟨w0, e0, e1⟩ := Option.bind_eq_some_iff.mp e1
    obtain ⟨ws', e2, rfl⟩ := Option.map_eq_some_iff.mp e
    obtain ⟨l1, l2, l3, ih⟩ := argW_at h2 e2
    refine ⟨by simp [l1], by simp [l2], by simp [l3], fun j w' hj => ?_⟩
    cases j with
    | zero =>
      have : Vl.dat d = w' := by simpa using hj
      subst this
      exact ⟨_, v, S1, rfl, rfl, h1, fun b hb => (h3 b hb).1, .inr ⟨rfl, w0, d, e0, e1, rfl⟩⟩
    | succ j =>
      obtain ⟨o', v', S', a1, a2, a3, a4, a5⟩ := ih j w' (by simpa using hj)
      exact ⟨o', v', S', by simpa using a1, by simpa using a2, a3, fun b hb => h4 b (a4 b hb), by simpa only [ioAt_cons] using a5⟩
  | true :: io, .val w :: os, v :: vs, S, ws, _, e => by
    have e : (none : Option (List Vl)) = some ws := e
    cases e
  | [], o :: os, vs, S, ws, _, e => by
    have e : (none : Option (List Vl)) = some ws := by cases o <;> exact e
    cases e
  | b :: io, [], vs, S, ws, _, e => by
    have e : (none : Option (List Vl)) = some ws := by cases b <;> exact e
    cases e
  | _, [], _ :: _, _, _, h, _ => h.elim
  | _, _ :: _, [], _, _, h, _ => h.elim
theorem setIO_at : ∀ {io : List Bool} {os : List Opd} {outs : List (Option Vl)} {ρ : Rho} {i : Nat} {w : Vl}, os.length = io.length → outs.length = io.length → (setIO ρ io os outs)[i]? = some (some w) →
    (∃ j, ioAt io j = true ∧ os[j]? = some (.brw i) ∧ outs[j]? = some (some w)) ∨ ((∀ j, ioAt io j = true → os[j]? ≠ some (.brw i)) ∧ ρ[i]? = some (some w))
  | [], [], [], ρ, i, w, _, _, h => .inr ⟨fun j _ => by simp, h⟩
  | true :: io, .brw k :: os, x :: outs, ρ, i, w, l1, l2, h => by
    have h : (setIO (ρ.set k x) io os outs)[i]? = some (some w) := h
    rcases setIO_at (by simpa using l1) (by simpa using l2) h with ⟨j, a, b, c⟩ | ⟨a, b⟩
    · exact .inl ⟨j + 1, a, by simpa using b, by simpa using c⟩
    · by_cases e : k = i
      · subst e
        by_cases hk : k < ρ.length
        · rw [List.getElem?_set_self hk] at b
          have : x = some w := by simpa using b
          subst this
          exact .inl ⟨0, rfl, rfl, rfl⟩
        · rw [List.getElem?_eq_none (by simp; omega)] at b; cases b
      · rw [List.getElem?_set_ne e] at b
        refine .inr ⟨fun j hj q => ?_, b⟩
        cases j with
        | zero =>
          have : k = i := by simpa using q
          exact e this
        | succ j => exact a j hj (by simpa using q)
  | false :: io, o :: os, x :: outs, ρ, i, w, l1, l2, h => by
    have h : (setIO ρ io os outs)[i]? = some (some w) := by cases o <;> exact h
    rcases setIO_at (by simpa using l1) (by simpa using l2) h with ⟨j, a, b, c⟩ | ⟨a, b⟩
    · exact .inl ⟨j + 1, a, by simpa using b, by simpa using c⟩
    · refine .inr ⟨fun j hj q => ?_, b⟩
      cases j with
      | zero => cases hj
      | succ j => exact a j hj (by simpa using q)
  | true :: io, .val y :: os, x :: outs, ρ, i, w, l1, l2, h => by
    have h : (setIO ρ io os outs)[i]? = some (some w) := h
    rcases setIO_at (by simpa using l1) (by simpa using l2) h with ⟨j, a, b, c⟩ | ⟨a, b⟩
    · exact .inl ⟨j + 1, a, by simpa using b, by simpa using c⟩
    · refine .inr ⟨fun j hj q => ?_, b⟩
      cases j with
      | zero =>
        have : Opd.val y = .brw i := by simpa using q
        cases this
      | succ j => exact a j hj (by simpa using q)
  | [], _ :: _, _, _, _, _, l1, _, _ => by simp at l1
  | _ :: _, [], _, _, _, _, l1, _, _ => by simp at l1
  | [], [], _ :: _, _, _, _, _, l2, _ => by simp at l2
  | _ :: _, _ :: _, [], _, _, _, _, l2, _ => by simp at l2

/-! ### clean data don't hang on borrowed lists -/
mutual
theorem dp_clean {K : PySem.W.Frag} {P P' : Hp} (h : ∀ b u, P b = some u → ownK u = false → P' b = some u) : ∀ (d : PyData) (v : V), noL d = true → Dp K P v d → Dp K P' v d
  | .none, _, _, h => by cases h; exact .non
  | .bool _, _, _, h => by cases h; exact .bl _
  | .int _, _, _, h => by cases h; exact .int _
  | .str _, _, _, h => by cases h; exact .str _
  | .list _, _, c, _ => by cases c
  | .tuple ds, _, c, q => by
    cases q with
    | tup hs ha =>
      have c : noLs ds = true := by
        have c' := c
        unfold noL at c'
        exact c'
      refine .tup ?_ (dpa_clean h ds _ c ha)
      rcases hs with (hs | ⟨o, hs⟩) | hs
      · exact .inl (.inl (h _ _ hs rfl))
      · exact .inl (.inr ⟨o, h _ _ hs rfl⟩)
      · exact .inr hs
  | .dict _, _, c, _ => by cases c
theorem dpa_clean {K : PySem.W.Frag} {P P' : Hp} (h : ∀ b u, P b = some u → ownK u = false → P' b = some u) : ∀ (ds : List PyData) (vs : List V), noLs ds = true → DpAll K P vs ds → DpAll K P' vs ds
  | [], _, _, q => by cases q; exact .nil
  | d :: ds, _, c, q => by
    unfold noLs at c
    have c := Bool.and_eq_true_iff.mp c
    cases q with
    | cons h1 h2 => exact .cons (dp_clean h d _ c.1 h1) (dpa_clean h ds _ c.2 h2)
end
theorem rows_clean {P' : Hp} (h : ∀ b u, P b = some u → ownK u = false → P' b = some u) : ∀ {as : List Addr} {dss : List (List PyData)}, dss.all noLs = true → Rows G P H S as dss → Rows G P' H S as dss
  | [], [], _, _ => trivial
  | b :: as, ds :: dss, c, ⟨h1, h0, ⟨ys, h2, h3⟩, h4⟩ => by
    rw [List.all_cons, Bool.and_eq_true] at c
    exact ⟨h1, h0, ⟨ys, h2, dpa_clean h _ _ c.1 h3⟩, rows_clean h c.2 h4⟩
  | [], _ :: _, _, h => h.elim
  | _ :: _, [], _, h => h.elim
theorem flds_clean {P' : Hp} (h : ∀ b u, P b = some u → ownK u = false → P' b = some u) : ∀ {fv : List (Str × V)} {fs : List (Str × PyData)}, (fs.all fun p => noL p.2) = true → Flds G P fv fs → Flds G P' fv fs
  | [], [], _, _ => trivial
  | (f, v) :: r, (g, d) :: t, c, ⟨h1, h2, h3⟩ => by
    rw [List.all_cons, Bool.and_eq_true] at c
    exact ⟨h1, dp_clean h _ _ c.1 h2, flds_clean h c.2 h3⟩
  | [], _ :: _, _, h => h.elim
  | _ :: _, [], _, h => h.elim
theorem ow_clean {P' : Hp} (h : ∀ b u, P b = some u → ownK u = false → P' b = some u) (c : clean w = true) (o : Ow G P H S v w) : Ow G P' H S v w := by
  cases w with
  | dat d => exact dp_clean h d v c o
  | ml ds => obtain ⟨a, xs, h1, h2, h3, h4⟩ := o; exact ⟨a, xs, h1, h2, h3, dpa_clean h _ _ c h4⟩
  | mml dss => obtain ⟨a, as, h1, h2, h3, h4, h5⟩ := o; exact ⟨a, as, h1, h2, h3, h4, rows_clean h c h5⟩
  | ob n fs => obtain ⟨a, dx, fv, h1, h2, h3, h4⟩ := o; exact ⟨a, dx, fv, h1, h2, h3, flds_clean h c h4⟩
  | st ns => exact o
end
end Mi
end
section
set_option Elab.async false
set_option linter.all false
set_option maxRecDepth 100000
/-! Ev10: a call, in the caller's eyes -/
namespace Mi
open PySem L2
section
variable {G : Glb} {P H P1 H1 P' H' : Hp} {F F1 F' : Nat → Ad} {σ : L2.St} {ρ1 : Rho} {S1 : Ad} {W : WX} {io : List Bool} {os : List Opd} {vs : List V} {ws : List Vl} {outs : List (Option Vl)} {spec : CSpec} {fa : FA}
def Bor (io : List Bool) (os : List Opd) (F1 : Nat → Ad) : Ad := fun b => ∃ j i, ioAt io j = false ∧ os[j]? = some (.brw i) ∧ F1 i b
def inZ (io : List Bool) (os : List Opd) (F1 : Nat → Ad) (S1 : Ad) : Ad := fun b => S1 b ∨ Bor io os F1 b
def inF (io : List Bool) (os : List Opd) (F1 : Nat → Ad) : Nat → Ad := fun j b => ioAt io j = true ∧ ∃ i, os[j]? = some (.brw i) ∧ F1 i b
theorem call_in (n1 : Now G P1 H1 σ ρ1 F1) (hs : HasL G P1 H1 F1 σ S1 vs os) (q1 : ∀ b, S1 b → P1 b = none ∧ H1 b ≠ none ∧ ∀ i, ¬ F1 i b) (hc : ioC io os = true) (ha : argW ρ1 io os = some ws) :
    Now G (froz P1 H1 (inZ io os F1 S1)) H1 (vs.map some) (ws.map some) (inF io os F1) := by
  obtain ⟨l1, l2, l3, args⟩ := argW_at hs ha
  have hZ : ∀ b, inZ io os F1 S1 b → P1 b = none := fun b hb => by
    rcases hb with hb | ⟨j, i, _, _, hb⟩
    · exact (q1 b hb).1
    · exact n1.np i b hb
  refine ⟨froz_sub n1.ex, ?_, ?_, ?_, ?_, ?_⟩
  · rintro j k a ⟨hj, i, e1, f1⟩ ⟨hk, i', e2, f2⟩
    have := n1.dj i i' a f1 f2
    subst this
    exact ioC_one hc hj e1 e2
  · rintro j b ⟨hj, i, e1, f1⟩
    have : ¬ inZ io os F1 S1 b := by
      rintro (z | ⟨j', i', hj', e', f'⟩)
      · exact (q1 b z).2.2 i f1
      · have := n1.dj i i' b f1 f'
        subst this
        have := ioC_one hc hj e1 e'
        subst this
        rw [hj] at hj'; cases hj'
    rw [froz_out this]
    exact n1.np i b f1
  · rintro j b ⟨hj, i, e1, f1⟩
    exact n1.al i b f1
  · intro j w hj
    have hj : ws[j]? = some w := by
      rw [List.getElem?_map] at hj
      cases q : ws[j]? with
      | none => rw [q] at hj; cases hj
      | some x => rw [q] at hj; have : x = w := by simpa using hj
                  rw [this]
    obtain ⟨o, v, S', ho, hv, hh, hS, cs⟩ := args j w hj
    refine ⟨v, by rw [List.getElem?_map, hv]; rfl, ?_⟩
    rcases cs with ⟨hio, i, rfl, hw⟩ | ⟨hio, w0, d, hw, hd, rfl⟩
    · obtain ⟨v', h1, h2⟩ := n1.rd i w (join_some hw)
      have hh : σ[i]? = some (some v) := hh
      rw [hh] at h1
      have : v = v' := by simpa using h1
      subst this
      exact h2.mono (froz_mono hZ) (fun _ _ _ e => e) fun b hb => ⟨hio, i, ho, hb⟩
    · show Dp G.K _ v d
      cases o with
      | val w1 =>
        have : w1 = w0 := Option.some.inj hw
        subst this
        have t : Tmp G P1 H1 F1 S' v w1 := hh
        exact ow_froz hZ (t.ow.mono (Same.refl _) (fun _ _ _ e => e) fun b hb => .inl (hS b hb)) hd
      | brw i =>
        obtain ⟨v', h1, h2⟩ := n1.rd i w0 (join_some hw)
        have hh : σ[i]? = some (some v) := hh
        rw [hh] at h1
        have : v = v' := by simpa using h1
        subst this
        exact ow_froz hZ (h2.mono (Same.refl _) (fun _ _ _ e => e) fun b hb => .inr ⟨j, i, hio, ho, hb⟩) hd
  · rintro j b u ⟨hj, i, e1, f1⟩ e
    exact n1.kd i b u f1 e
theorem call_back (n1 : Now G P1 H1 σ ρ1 F1) (s1 : Stp P H F P1 H1 F1) (hs : HasL G P1 H1 F1 σ S1 vs os) (q1 : ∀ b, S1 b → (P1 b = none ∧ H1 b ≠ none ∧ ∀ i, ¬ F1 i b) ∧ ((∃ i, F i b) ∨ H b = none)) (hc : ioC io os = true) (ha : argW ρ1 io os = some ws)
    (nF : Now G P' H' (vs.map some) outs F') (hF : ∀ j b, F' j b → ioAt io j = true) (st : Stp (froz P1 H1 (inZ io os F1 S1)) H1 (inF io os F1) P' H' F') (lo : outs.length = io.length) (cl : (noBor io os || outs.all cleanO) = true) :
    ∃ Pa F2, Now G Pa H' σ (setIO ρ1 io os outs) F2 ∧ Stp P H F Pa H' F2 ∧ (∀ S v w, (noBor io os = true ∨ clean w = true) → Ow G P' H' S v w → Ow G Pa H' S v w) ∧ (∀ b, P' b = none → Pa b = none) ∧
      (∀ i b, F2 i b → (∃ j, F' j b) ∨ (F1 i b ∧ ∀ j, ¬ inF io os F1 j b)) := by
  obtain ⟨l1, l2, l3, args⟩ := argW_at hs ha
  have hZ : ∀ b, inZ io os F1 S1 b → P1 b = none := fun b hb => by
    rcases hb with hb | ⟨j, i, _, _, hb⟩
    · exact (q1 b hb).1.1
    · exact n1.np i b hb
  -- the caller's frozen part afterwards
  obtain ⟨Pa, pa1, pa2⟩ : ∃ Pa : Hp, (∀ b, Bor io os F1 b → Pa b = none) ∧ ∀ b, ¬ Bor io os F1 b → Pa b = P' b := by
    classical
    exact ⟨fun b => if Bor io os F1 b then none else P' b, fun b h => if_pos h, fun b h => if_neg h⟩
  have paNone : ∀ b, P' b = none → Pa b = none := fun b h => by
    by_cases q : Bor io os F1 b
    · exact pa1 b q
    · rw [pa2 b q]; exact h
  have paSome : ∀ b u, Pa b = some u → P' b = some u := fun b u h => by
    by_cases q : Bor io os F1 b
    · rw [pa1 b q] at h; cases h
    · rw [← pa2 b q]; exact h
  have agree : ∀ b u, P' b = some u → ownK u = false → Pa b = some u := fun b u h hu => by
    by_cases q : Bor io os F1 b
    · obtain ⟨j, i, hj, e, f⟩ := id q
      obtain ⟨o, ho⟩ := Option.ne_none_iff_exists'.mp (n1.al i b f)
      have h2 : froz P1 H1 (inZ io os F1 S1) b = some o := by rw [froz_in (.inr q)]; exact ho
      have h3 := st.ex b o h2
      rw [h] at h3; cases h3
      rw [n1.kd i b u f ho] at hu; cases hu
    · rw [pa2 b q]; exact h
  have keep : ∀ S v w, (noBor io os = true ∨ clean w = true) → Ow G P' H' S v w → Ow G Pa H' S v w := fun S v w hcw o => by
    rcases hcw with z | z
    · have : Same P' Pa := fun b u h => by
        rw [pa2 b fun ⟨j, i, hj, e, f⟩ => by rw [noBor_not z l1 e] at hj; cases hj]; exact h
      exact o.mono this (fun _ _ _ e => e) fun _ y => y
    · exact ow_clean agree z o
  have p1a : Same P1 Pa := fun b u h => by
    rw [pa2 b fun q => by rw [hZ b (.inr q)] at h; cases h]
    exact st.ex b u (froz_mono hZ b u h)
  have nonio : ∀ {i b}, (∀ j, ioAt io j = true → os[j]? ≠ some (.brw i)) → F1 i b → ∀ j, ¬ inF io os F1 j b := fun {i b} hn f j ⟨hj, i', e', f'⟩ => by
    have := n1.dj i i' b f f'
    subst this
    exact hn j hj e'
  refine ⟨Pa, fun i b => (∃ j, ioAt io j = true ∧ os[j]? = some (.brw i) ∧ F' j b) ∨ ((∀ j, ioAt io j = true → os[j]? ≠ some (.brw i)) ∧ F1 i b), ⟨fun b u h => nF.ex b u (paSome b u h), ?_, ?_, ?_, ?_, ?_⟩, ⟨?_, ?_, ?_, ?_, ?_⟩, keep, paNone, ?_⟩
  · rintro i k a (⟨j, hj, e, f⟩ | ⟨hn, f⟩) (⟨j', hj', e', f'⟩ | ⟨hn', f'⟩)
    · have := nF.dj j j' a f f'
      subst this
      rw [e] at e'
      simpa using e'
    · rcases st.sub j a f with ⟨j2, z⟩ | z
      · exact (nonio hn' f' j2 z).elim
      · exact (n1.al k a f' z).elim
    · rcases st.sub j' a f' with ⟨j2, z⟩ | z
      · exact (nonio hn f j2 z).elim
      · exact (n1.al i a f z).elim
    · exact n1.dj i k a f f'
  · rintro i b (⟨j, hj, e, f⟩ | ⟨hn, f⟩)
    · exact paNone b (nF.np j b f)
    · refine Classical.byContradiction fun q => ?_
      by_cases hb : Bor io os F1 b
      · exact q (pa1 b hb)
      · rw [pa2 b hb] at q
        rcases st.pn b q with z | ⟨j, z⟩ | z
        · rcases froz_new z with y | y | y
          · exact y (n1.np i b f)
          · exact (q1 b y).1.2.2 i f
          · exact hb y
        · exact nonio hn f j z
        · exact n1.al i b f z
  · rintro i b (⟨j, hj, e, f⟩ | ⟨hn, f⟩)
    · exact nF.al j b f
    · exact st.al b (n1.al i b f)
  · intro i w hw
    rcases setIO_at l1 lo hw with ⟨j, hj, e, ho⟩ | ⟨hn, hr⟩
    · obtain ⟨v', h1, h2⟩ := nF.rd j w ho
      have hjl : j < ws.length := by rw [l3, ← l1]; exact (List.getElem?_eq_some_iff.mp e).1
      obtain ⟨o, v, S', a1, a2, a3, a4, a5⟩ := args j ws[j] (List.getElem?_eq_getElem hjl)
      rw [e] at a1
      have : o = .brw i := by simpa using a1.symm
      subst this
      have a3 : σ[i]? = some (some v) := a3
      rw [List.getElem?_map, a2] at h1
      have : v = v' := by simpa using h1
      subst this
      refine ⟨v, a3, (keep (F' j) v w ?_ h2).mono (Same.refl _) (fun _ _ _ e => e) fun b hb => .inl ⟨j, hj, e, hb⟩⟩
      rcases Bool.or_eq_true_iff.mp cl with z | z
      · exact .inl z
      · exact .inr (List.all_eq_true.mp z _ (List.mem_of_getElem? ho))
    · obtain ⟨v, h1, h2⟩ := n1.rd i w hr
      exact ⟨v, h1, h2.mono p1a (fun b o hb e => st.fr b o e (nonio hn hb)) fun b hb => .inr ⟨hn, hb⟩⟩
  · rintro i b u (⟨j, hj, e, f⟩ | ⟨hn, f⟩) hu
    · exact nF.kd j b u f hu
    · obtain ⟨o, ho⟩ := Option.ne_none_iff_exists'.mp (n1.al i b f)
      rw [st.fr b o ho (nonio hn f)] at hu
      cases hu
      exact n1.kd i b _ f ho
  · exact s1.ex.trans p1a
  · intro b o h hf
    refine st.fr b o (s1.fr b o h hf) fun j ⟨hj, i, e, f⟩ => ?_
    exact s1.out (by rw [h]; exact fun z => nomatch z) hf i f
  · rintro i b (⟨j, hj, e, f⟩ | ⟨hn, f⟩)
    · rcases st.sub j b f with ⟨j2, _, i2, _, z⟩ | z
      · exact s1.sub i2 b z
      · exact .inr (Classical.byContradiction fun q => s1.al b q z)
    · exact s1.sub i b f
  · intro b q
    have hb : ¬ Bor io os F1 b := fun z => q (pa1 b z)
    rw [pa2 b hb] at q
    rcases st.pn b q with z | ⟨j, _, i, _, z⟩ | z
    · rcases froz_new z with y | y | y
      · exact s1.pn b y
      · exact .inr (q1 b y).2
      · exact (hb y).elim
    · exact .inr (s1.sub i b z)
    · exact .inr (.inr (Classical.byContradiction fun q => s1.al b q z))
  · exact fun b h => st.al b (s1.al b h)
  · rintro i b (⟨j, hj, e, f⟩ | ⟨hn, f⟩)
    · exact .inl ⟨j, f⟩
    · exact .inr ⟨f, nonio hn f⟩
theorem call_rd {H : Hp} {Q : VK} (h : tE G W (fCall io spec fa) σ H Q) : tA G W fa σ H (fun vs H1 => spV G io spec vs H1 Q (fun cls d H' => W cls d σ H')) := by
  obtain ⟨ρ, P, F, n, h⟩ := h
  refine tA_bind (End := fun P H F => EndO G W P H F σ Q) n h (fun _ _ z => z) (fun z => z) fun os ρ1 vs P1 H1 F1 S1 e1 h1 n1 s1 hs q1 => ?_
  by_cases hc : ioC io os = true
  · rw [if_pos hc] at h1
    cases ha : argW ρ1 io os with
    | none => rw [ha] at h1; exact h1.elim
    | some ws =>
      rw [ha] at h1
      obtain ⟨l1, l2, l3, _⟩ := argW_at hs ha
      refine ⟨ws, _, _, l2, l3, call_in n1 hs (fun b hb => (q1 b hb).1) hc ha, fun j b h => h.1, ?_⟩
      cases hsp : spec ws with
      | stk => simp only [hsp] at h1; exact h1.elim
      | exc c outs =>
        simp only [hsp] at h1
        by_cases cl : (noBor io os || outs.all cleanO) = true
        · rw [if_pos cl] at h1
          intro P' H' F' nF hF st lo
          obtain ⟨Pa, F2, n2, s2, _⟩ := call_back n1 s1 hs q1 hc ha nF hF st lo cl
          exact h1 Pa H' F2 n2 s2
        · rw [if_neg cl] at h1; exact h1.elim
      | ok w outs =>
        simp only [hsp] at h1
        by_cases cl : (noBor io os || (clean w && outs.all cleanO)) = true
        · rw [if_pos cl] at h1
          intro v P' H' F' S nF hF st tm src lo
          have cl2 : (noBor io os || outs.all cleanO) = true := by
            rcases Bool.or_eq_true_iff.mp cl with z | z
            · rw [z, Bool.true_or]
            · rw [(Bool.and_eq_true_iff.mp z).2, Bool.or_true]
          obtain ⟨Pa, F2, n2, s2, keep, paN, off⟩ := call_back n1 s1 hs q1 hc ha nF hF st lo cl2
          refine h1 v Pa H' F2 S n2 s2 ⟨keep S v w ?_ tm.ow, fun b hb => paN b (tm.np b hb), tm.al, fun b hb i q => ?_, tm.kd⟩ fun b hb => ?_
          · rcases Bool.or_eq_true_iff.mp cl with z | z
            · exact .inl z
            · exact .inr (Bool.and_eq_true_iff.mp z).1
          · rcases off i b q with ⟨j, y⟩ | ⟨y, no⟩
            · exact tm.dj b hb j y
            · rcases src b hb with ⟨j, x⟩ | x
              · exact no j x
              · exact n1.al i b y x
          · rcases src b hb with ⟨j, _, i, _, x⟩ | x
            · exact s1.sub i b x
            · exact .inr (Classical.byContradiction fun q => s1.al b q x)
        · rw [if_neg cl] at h1; exact h1.elim
  · rw [if_neg hc] at h1
    exact h1.elim
end
end Mi
end
section
set_option Elab.async false
set_option linter.all false
set_option maxRecDepth 100000
/-! Ev11: defs, their promises, their calls -/
namespace Mi
open PySem PySem.Spec PyProof.Rows L2

structure RoomG (k : Nat) (A : Around) : Prop where
  rm : Room k A
  gd : A.guards = some []
theorem RoomG.mono {j k : Nat} {A : Around} (r : RoomG k A) (h : j ≤ k) : RoomG j A := ⟨r.rm.mono h, r.gd⟩
theorem RoomG.deeper {k : Nat} {A : Around} (r : RoomG (k + 1) A) (env : Env) : RoomG k (A.deeper env) := ⟨r.rm.deeper env, r.gd⟩
theorem make_guards {A : Around} {C : Addr} {us : List Value} {kw : List (Str × Value)} (h : A.guards = some []) : (A.under (.builtin "type.__call__" ⟨.ref C :: us, kw⟩)).guards = some [] := by
  simp [Around.under, Code.guards, Code.isGuard, guardIds, pushGuards, h]
theorem RoomG.make {k : Nat} {A : Around} (r : RoomG (k + 1) A) (C : Addr) (us : List Value) (kw : List (Str × Value)) : RoomG k (A.under (.builtin "type.__call__" ⟨.ref C :: us, kw⟩)) := ⟨r.rm.make C us kw, make_guards r.gd⟩

structure FnG (P : Program) (w : World) (K : PySem.W.Frag) (mg : Str → Option Value) (base : Heap) (k : Nat) (f : Addr) (fd : FuncData) (ps : List Str) (sp : Sp) : Prop where
  len : ∀ vs H Q E, sp vs H Q E → vs.length = ps.length
  run : ∀ (A : Around) (outer : List Env) (s : Shared) (H : Hp) (args : Args) (us : List Value) (vs : List V) (Q : VK) (E : XK), RoomG k A → Env0 P w K mg base A outer s H → BindsTo s fd args (ps.zip us) → Vals vs us → sp vs H Q E →
    codeAny (model P w) A (.call (.ref f) args) (CR (L2N.CX P w) outer P w H s Q E) s
section
variable {P : Program} {w : World} {K : PySem.W.Frag} {mg : Str → Option Value} {base : Heap}
theorem FnG.mono {j k : Nat} {f : Addr} {fd : FuncData} {ps : List Str} {sp : Sp} (F : FnG P w K mg base j f fd ps sp) (h : j ≤ k) : FnG P w K mg base k f fd ps sp :=
  ⟨F.len, fun A outer s H args us vs Q E hr => F.run A outer s H args us vs Q E (hr.mono h)⟩
theorem FnG.imp {k : Nat} {f : Addr} {fd : FuncData} {ps : List Str} {sp sp' : Sp} (F : FnG P w K mg base k f fd ps sp) (h : ∀ vs H Q E, sp' vs H Q E → sp vs H Q E) : FnG P w K mg base k f fd ps sp' :=
  ⟨fun vs H Q E q => F.len vs H Q E (h _ _ _ _ q), fun A outer s H args us vs Q E hr he hb hv hs => F.run A outer s H args us vs Q E hr he hb hv (h _ _ _ _ hs)⟩
theorem FnG.of {k : Nat} {f : Addr} {fd : FuncData} {ps : List Str} {sp : Sp} (F : FnOk P w K mg base (L2N.CX P w) k f fd ps sp) : FnG P w K mg base k f fd ps sp :=
  ⟨F.len, fun A outer s H args us vs Q E hr => F.run A outer s H args us vs Q E hr.rm⟩
theorem fn_ofG {k : Nat} {f : Addr} {name qual : Str} {params : Arguments} {body : List Stmt} {scope : Scope} {dV kV doc pm cdv ct oc : Value} {an od : Option Addr}
    {osl : Array (Option Value)} {N ps : List Str} {sp : Sp} (lk : K.lookup f = some ⟨oc, od, .func (PySem.W.fnOf name qual params body scope dV kV doc pm an cdv ct), osl⟩) (hcd : PySem.W.codeIn K cdv qual = true) (S : FnScope N ps scope)
    (len : ∀ vs H Q E, sp vs H Q E → vs.length = ps.length)
    (hbody : ∀ (A : Around) (outer : List Env) (s : Shared) (H : Hp) (vs : List V) (Q : VK) (E : XK), RoomG k (A.deeper (envOfC qual scope s.heap.objs.size f cdv)) → sp vs H Q E →
      ∃ t, PSs (cxOf (L2N.CX P w) P w K mg base N qual scope f cdv A outer s H E) body t ∧ t { nx := fun _ H' => Q .non H', rt := Q } (L2.start N vs) H) :
    FnG P w K mg base (k + 1) f (PySem.W.fnOf name qual params body scope dV kV doc pm an cdv ct) ps sp := by
  constructor
  · exact len
  intro A outer s H args us vs Q E room env bind vals prom
  have keepB : ∀ b o, base.get? b = some o → s.heap.get? b = some o := fun b o q => (env.bs b o q).1
  have KH : K.In s.heap := env.mod.kin.keeps keepB
  have noLim : s.heap.NoLimit := env.mod.nolimit.keeps keepB
  have kinds : ∀ y ∈ ps.zip us, scope.names.lookup y.1 = some .local ∨ (scope.names.lookup y.1 = some .cell ∧ ((cellsFrom (s.heap.objs.size + 1) scope.names []).lookup y.1).isSome = true) := by
    rintro ⟨n, v⟩ hy
    rcases S.par n (List.of_mem_zip hy).1 with q | q
    · exact .inl q
    · exact .inr ⟨q, PySem.W.cellsFrom_some _ _ _ (.inl q)⟩
  refine codeAny_call_function room.rm.depth (KH _ _ lk) rfl S.co S.gen rfl (PySem.W.codeRec_of KH hcd) ?_
  refine bind _ _ _ _ (wpAny_newFunctionEnv_cells S.kind kinds ?_)
  rintro _ rfl s1 x
  refine ⟨noLim.keeps x.toInCall.keep, codeAny_func ?_⟩
  obtain ⟨t, bodyOk, rd⟩ := hbody A outer s H vs Q E (room.deeper _) prom
  have I0 := inv_start (CX := L2N.CX P w) (E := E) (mg := mg) (cd := cdv) (qual := qual) (f := f) S room.rm.hd env (len _ _ _ _ prom) vals x
  refine wpAny_mono (bodyOk.run [] s1 _ H _ I0 rd) (fun fl s' out => ?_) fun _ _ z => z
  cases fl with
  | brk => obtain ⟨_, _, _, z⟩ := out; exact z.elim
  | cont => obtain ⟨_, _, _, z⟩ := out; exact z.elim
  | next =>
    obtain ⟨σ', H', J, q⟩ := out
    exact ⟨V.non, H', J.os, J.bare, J.base, J.hok, rfl, q⟩
  | ret u =>
    obtain ⟨v, σ', H', J, rel, q⟩ := out
    exact ⟨v, H', J.os, J.bare, J.base, J.hok, rel, q⟩
end

/-! ### calls -/
section
variable {X : Cx} {W : WX} {G : Glb} {k : Nat} {f C : Addr} {fd : FuncData} {ps : List Str} {sp : Sp} {x m : Str} {p pos apos : Pos} {e o : Expr} {es : List Expr}
theorem run_fnG {pins : List (Addr × Obj)} {σ : L2.St} {H : Hp} {s : Shared} {Q : VK} {us : List Value} {vs : List V} (F : FnG X.prog X.w X.K X.mg X.base k f fd ps sp) (c : Cxt G X W k) (hb : Binds X.K fd ps [])
    (I : Inv X pins σ H s) (r : Vals vs us) (h : sp vs H Q (fun cls d H' => W cls d σ H')) : wpAny (model X.prog X.w) X.A (call (.ref f) us) (EP X pins σ Q) X.xe s := by
  have hl : us.length = ps.length := r.length.symm.trans (F.len _ _ _ _ h)
  have b := hb s us I.kIn (by rw [List.append_nil]; exact hl)
  rw [List.append_nil] at b
  refine wpAny_call (codeAny_mono (F.run X.A X.stack s H _ us vs Q _ ⟨c.room, c.gd⟩ I.env0 b r h) ?_)
  intro res s' out
  match res, out with
  | .error e, out => exact L2N.passAt c.tk σ pins H s e s' I out
  | .ok (.ret u), out => exact I.after out
/-- f(e, ..) -/
theorem e_call {io : List Bool} {spec : CSpec} {fa : FA} (c : Cxt G X W k) (F : FnG X.prog X.w X.K X.mg X.base k f fd ps (spV G io spec)) (hm : X.mg x = some (.ref f)) (hk : PySem.W.keepIn X.K (.ref f) = true) (hb : Binds X.K fd ps [])
    (ha : PA X (e :: es) (tA G W fa)) (hg : Gl X x := by rfl) (hdb : (x == ("__debug__" : Str)) = false := by decide) (he : starEach (e :: es) X.env = (false, eval e X.env) :: starEach es X.env := by rfl) (hpl : (backTo pos (starEach es X.env)).any (·.1) = false := by rfl) :
    PE X (.Call (.Name x p) (e :: es) [] pos) (tE G W (fCall io spec fa)) := by
  constructor
  intro pins s σ H Q I h
  refine wpAny_Call_Name_kw (ld_glob I hg hm (PySem.W.callWith_K (h₀ := X.base) I.ok.mod.kin hk (thn (ha.run pos pins s σ H _ I (call_rd h)) ?_) he hpl) hdb)
  rintro us s1 ⟨vs, H1, I1, r, q⟩
  exact ⟨I1.kIn, run_fnG F c hb I1 r q⟩
end
end Mi
end
section
set_option Elab.async false
set_option linter.all false
set_option maxRecDepth 100000
/-! Ev12: statements -/
namespace Mi
open PySem L2

inductive SO where
  | nx (ρ : Rho)
  | bk (ρ : Rho)
  | ct (ρ : Rho)
  | ret (w : Vl) (ρ : Rho)
  | exc (c : Nat) (ρ : Rho)
  | stk
abbrev FS := Rho → SO
/-- the slots' number stays, and what is pinned stays where it is -/
structure Kp (n : Nat) (π : List Bool) (σ σ' : L2.St) : Prop where
  len : σ'.length = n
  pin : ∀ j, ioAt π j = true → σ'[j]? = σ[j]?
theorem Kp.refl {n : Nat} {π : List Bool} {σ : L2.St} (h : σ.length = n) : Kp n π σ σ := ⟨h, fun _ _ => rfl⟩
theorem Kp.trans {n : Nat} {π : List Bool} {σ σ1 σ2 : L2.St} (a : Kp n π σ σ1) (b : Kp n π σ1 σ2) : Kp n π σ σ2 := ⟨b.len, fun j h => (b.pin j h).trans (a.pin j h)⟩
theorem Kp.set {n i : Nat} {π : List Bool} {σ : L2.St} {x : Option V} (h : σ.length = n) (hi : ioAt π i = false) : Kp n π σ (σ.set i x) := ⟨by rw [List.length_set]; exact h, fun j hj => by
  have : i ≠ j := fun e => by subst e; rw [hi] at hj; cases hj
  rw [List.getElem?_set_ne this]⟩
def EndS (G : Glb) (W : WX) (n : Nat) (π : List Bool) (P H : Hp) (F : Nat → Ad) (σ : L2.St) (D : Ends) : SO → Prop
  | .nx ρ' => ∀ σ' P' H' F', Now G P' H' σ' ρ' F' → Stp P H F P' H' F' → Kp n π σ σ' → D.nx σ' H'
  | .bk ρ' => ∀ σ' P' H' F', Now G P' H' σ' ρ' F' → Stp P H F P' H' F' → Kp n π σ σ' → D.bk σ' H'
  | .ct ρ' => ∀ σ' P' H' F', Now G P' H' σ' ρ' F' → Stp P H F P' H' F' → Kp n π σ σ' → D.ct σ' H'
  | .ret w ρ' => ∀ v σ' P' H' F' S, Now G P' H' σ' ρ' F' → Stp P H F P' H' F' → Kp n π σ σ' → Tmp G P' H' F' S v w → (∀ b, S b → (∃ i, F i b) ∨ H b = none) → D.rt v H'
  | .exc c ρ' => ∀ σ' P' H' F', Now G P' H' σ' ρ' F' → Stp P H F P' H' F' → Kp n π σ σ' → W (.ref (G.ea c)) none σ' H'
  | .stk => False
def tS (G : Glb) (W : WX) (n : Nat) (π : List Bool) (f : FS) : TS := fun D σ H => ∃ ρ P F, Now G P H σ ρ F ∧ σ.length = n ∧ EndS G W n π P H F σ D (f ρ)
theorem PS.imp {X : Cx} {e : Stmt} {t t' : TS} (h : PS X e t) (i : ∀ D σ H, t' D σ H → t D σ H) : PS X e t' := ⟨fun pins s σ H D I q => h.run pins s σ H D I (i D σ H q)⟩
theorem PSs.imp {X : Cx} {e : List Stmt} {t t' : TS} (h : PSs X e t) (i : ∀ D σ H, t' D σ H → t D σ H) : PSs X e t' := ⟨fun pins s σ H D I q => h.run pins s σ H D I (i D σ H q)⟩
def Out.bindS {α : Type} (x : Out α) (k : α → Rho → SO) : SO := match x with
  | .ok a ρ => k a ρ
  | .exc c ρ => .exc c ρ
  | .stk => .stk
section
variable {G : Glb} {W : WX} {n : Nat} {π : List Bool} {P H P1 H1 : Hp} {F F1 : Nat → Ad} {σ σ1 : L2.St} {ρ : Rho} {D : Ends} {f : FE}
theorem EndS.trans {r : SO} (s : Stp P H F P1 H1 F1) (kp : Kp n π σ σ1) (h : EndS G W n π P H F σ D r) : EndS G W n π P1 H1 F1 σ1 D r := by
  cases r with
  | nx ρ' => exact fun σ' P' H' F' n t k => h σ' P' H' F' n (s.trans t) (kp.trans k)
  | bk ρ' => exact fun σ' P' H' F' n t k => h σ' P' H' F' n (s.trans t) (kp.trans k)
  | ct ρ' => exact fun σ' P' H' F' n t k => h σ' P' H' F' n (s.trans t) (kp.trans k)
  | exc c ρ' => exact fun σ' P' H' F' n t k => h σ' P' H' F' n (s.trans t) (kp.trans k)
  | ret w ρ' =>
    intro v σ' P' H' F' S n t k tm src
    refine h v σ' P' H' F' S n (s.trans t) (kp.trans k) tm fun b hb => ?_
    rcases src b hb with ⟨i, hi⟩ | z
    · exact s.sub i b hi
    · exact .inr (Classical.byContradiction fun q => s.al b q z)
  | stk => exact h
theorem tE_bindS {Q : VK} {k : Opd → Rho → SO} (nw : Now G P H σ ρ F) (hl : σ.length = n) (hE : EndS G W n π P H F σ D ((f ρ).bindS k))
    (h : ∀ o ρ1 v P1 H1 F1 S, EndS G W n π P1 H1 F1 σ D (k o ρ1) → Now G P1 H1 σ ρ1 F1 → Stp P H F P1 H1 F1 → Has G P1 H1 F1 σ S v o → (∀ b, S b → (∃ i, F i b) ∨ H b = none) → EndS G W n π P H F σ D (k o ρ1) → Q v H1) : tE G W f σ H Q := by
  refine ⟨ρ, P, F, nw, ?_⟩
  cases e : f ρ with
  | ok o ρ1 =>
    rw [e] at hE
    exact fun v P1 H1 F1 S n1 s1 h1 q1 => h o ρ1 v P1 H1 F1 S (EndS.trans s1 (Kp.refl hl) hE) n1 s1 h1 q1 hE
  | exc c ρ' =>
    rw [e] at hE
    exact fun P1 H1 F1 n1 s1 => hE σ P1 H1 F1 n1 s1 (Kp.refl hl)
  | stk =>
    rw [e] at hE
    exact hE.elim
theorem tT_bindS {f : FT} {Q : Bool → Hp → Prop} {k : Bool → Rho → SO} (nw : Now G P H σ ρ F) (hl : σ.length = n) (hE : EndS G W n π P H F σ D ((f ρ).bindS k))
    (h : ∀ o ρ1 P1 H1 F1, EndS G W n π P1 H1 F1 σ D (k o ρ1) → Now G P1 H1 σ ρ1 F1 → Q o H1) : tT G W f σ H Q := by
  refine ⟨ρ, P, F, nw, ?_⟩
  cases e : f ρ with
  | ok o ρ1 =>
    rw [e] at hE
    exact fun P1 H1 F1 n1 s1 => h o ρ1 P1 H1 F1 (EndS.trans s1 (Kp.refl hl) hE) n1
  | exc c ρ' =>
    rw [e] at hE
    exact fun P1 H1 F1 n1 s1 => hE σ P1 H1 F1 n1 s1 (Kp.refl hl)
  | stk =>
    rw [e] at hE
    exact hE.elim
/-- a slot takes a temporary -/
def setF (F : Nat → Ad) (i : Nat) (S : Ad) : Nat → Ad := fun k b => (k = i ∧ S b) ∨ (k ≠ i ∧ F k b)
theorem setF_at {i : Nat} {S : Ad} {b : Addr} (h : S b) : setF F i S i b := .inl ⟨rfl, h⟩
theorem now_set {v : V} {w : Vl} {S : Ad} {i : Nat} (nw : Now G P H σ ρ F) (t : Tmp G P H F S v w) (hi : i < σ.length) : Now G P H (σ.set i (some v)) (ρ.set i (some w)) (setF F i S) := by
  refine ⟨nw.ex, ?_, ?_, ?_, fun j w' h => ?_, ?_⟩
  · rintro j k a (⟨rfl, h1⟩ | ⟨h0, h1⟩) (⟨rfl, h2⟩ | ⟨h3, h2⟩)
    · rfl
    · exact (t.dj a h1 k h2).elim
    · exact (t.dj a h2 j h1).elim
    · exact nw.dj j k a h1 h2
  · rintro j b (⟨rfl, h1⟩ | ⟨h0, h1⟩)
    · exact t.np b h1
    · exact nw.np j b h1
  · rintro j b (⟨rfl, h1⟩ | ⟨h0, h1⟩)
    · exact t.al b h1
    · exact nw.al j b h1
  · by_cases e : i = j
    · subst e
      by_cases hl : i < ρ.length
      · rw [List.getElem?_set_self hl] at h
        cases h
        exact ⟨v, List.getElem?_set_self hi, t.ow.mono (Same.refl P) (fun _ _ _ q => q) fun b hb => setF_at hb⟩
      · rw [List.getElem?_eq_none (by rw [List.length_set]; omega)] at h
        cases h
    · rw [List.getElem?_set_ne e] at h
      obtain ⟨v', h1, h2⟩ := nw.rd j w' h
      exact ⟨v', by rw [List.getElem?_set_ne e]; exact h1, h2.mono (Same.refl P) (fun _ _ _ q => q) fun b hb => .inr ⟨Ne.symm e, hb⟩⟩
  · rintro j b u (⟨rfl, h1⟩ | ⟨h0, h1⟩) q
    · exact t.kd b u h1 q
    · exact nw.kd j b u h1 q
theorem stp_set {P0 H0 : Hp} {F0 : Nat → Ad} {S : Ad} {i : Nat} (s : Stp P0 H0 F0 P H F) (src : ∀ b, S b → (∃ i, F0 i b) ∨ H0 b = none) : Stp P0 H0 F0 P H (setF F i S) :=
  ⟨s.ex, s.fr, fun j b h => h.elim (fun z => src b z.2) fun z => s.sub j b z.2, s.pn, s.al⟩
/-- a slot's own things, as a temporary's -/
theorem now_off {v : V} {w : Vl} {i : Nat} (nw : Now G P H σ ρ F) (hs : σ[i]? = some (some v)) (hw : look ρ (.brw i) = some w) : Now G P H σ (ρ.set i none) (offF F i) ∧ Tmp G P H (offF F i) (F i) v w := by
  obtain ⟨v', h1, h2⟩ := nw.rd i w (join_some hw)
  rw [hs] at h1
  have ev : v = v' := by simpa using h1
  subst ev
  refine ⟨⟨nw.ex, fun j k a h1 h2 => nw.dj j k a h1.2 h2.2, fun j b h => nw.np j b h.2, fun j b h => nw.al j b h.2, fun j w' h => ?_, fun j b u h e => nw.kd j b u h.2 e⟩, h2, fun b h => nw.np i b h, fun b h => nw.al i b h, fun b h j q => q.1 (nw.dj j i b q.2 h), fun b u h e => nw.kd i b u h e⟩
  by_cases e : i = j
  · subst e
    by_cases hl : i < ρ.length
    · rw [List.getElem?_set_self hl] at h
      cases h
    · rw [List.getElem?_eq_none (by rw [List.length_set]; omega)] at h
      cases h
  · rw [List.getElem?_set_ne e] at h
    obtain ⟨v', h3, h4⟩ := nw.rd j w' h
    exact ⟨v', h3, h4.mono (Same.refl P) (fun _ _ _ q => q) fun b hb => ⟨Ne.symm e, hb⟩⟩
theorem stp_off {P0 H0 : Hp} {F0 : Nat → Ad} {i : Nat} (s : Stp P0 H0 F0 P H F) : Stp P0 H0 F0 P H (offF F i) := ⟨s.ex, s.fr, fun j b h => s.sub j b h.2, s.pn, s.al⟩
end

/-! ### the statements -/
def sNext : FS := fun ρ => .nx ρ
def sSeq (f g : FS) : FS := fun ρ => match f ρ with
  | .nx ρ1 => g ρ1
  | r => r
def sDrop (f : FE) : FS := fun ρ => (f ρ).bindS fun _ ρ1 => .nx ρ1
/-- an operand as a temporary -/
def own (ρ : Rho) : Opd → Option (Vl × Rho)
  | .val w => some (w, ρ)
  | .brw j => (look ρ (.brw j)).map fun w => (w, ρ.set j none)
def setO (i : Nat) (o : Opd) (ρ : Rho) : SO := match own ρ o with
  | some (w, ρ1) => .nx (ρ1.set i (some w))
  | none => .stk
def sSet (i : Nat) (f : FE) : FS := fun ρ => (f ρ).bindS fun o ρ1 => setO i o ρ1
def retO (o : Opd) (ρ : Rho) : SO := match own ρ o with
  | some (w, ρ1) => .ret w ρ1
  | none => .stk
def sRet (f : FE) : FS := fun ρ => (f ρ).bindS fun o ρ1 => retO o ρ1
def sRetN : FS := fun ρ => .ret (.dat .none) ρ
def sBrk : FS := fun ρ => .bk ρ
def sCnt : FS := fun ρ => .ct ρ
def sIf (c : FT) (a b : FS) : FS := fun ρ => (c ρ).bindS fun t ρ1 => if t = true then a ρ1 else b ρ1
def sRaise (c : Nat) : FS := fun ρ => .exc c ρ
section
variable {X : Cx} {G : Glb} {W : WX} {n k i : Nat} {π : List Bool} {st : Stmt} {rest sa sb : List Stmt} {f g : FS} {e : Expr} {fe : FE} {ft : FT} {pos p2 : Pos} {x : Str}
theorem own_ok {P H P0 H0 : Hp} {F F0 : Nat → Ad} {σ : L2.St} {ρ ρ' : Rho} {S : Ad} {v : V} {o : Opd} {w : Vl} (nw : Now G P H σ ρ F) (s : Stp P0 H0 F0 P H F) (h : Has G P H F σ S v o) (src : ∀ b, S b → (∃ i, F0 i b) ∨ H0 b = none) (e : own ρ o = some (w, ρ')) :
    ∃ F' S', Now G P H σ ρ' F' ∧ Stp P0 H0 F0 P H F' ∧ Tmp G P H F' S' v w ∧ ∀ b, S' b → (∃ i, F0 i b) ∨ H0 b = none := by
  cases o with
  | val w' =>
    have e : some (w', ρ) = some (w, ρ') := e
    cases e
    exact ⟨F, S, nw, s, h, src⟩
  | brw j =>
    have e : (look ρ (.brw j)).map (fun w => (w, ρ.set j none)) = some (w, ρ') := e
    obtain ⟨w', hw, e2⟩ := Option.map_eq_some_iff.mp e
    cases e2
    obtain ⟨n1, t1⟩ := now_off nw h hw
    exact ⟨offF F j, F j, n1, stp_off s, t1, fun b hb => s.sub j b hb⟩
theorem s_nil : PSs X [] (tS G W n π sNext) := PSs.imp pss_nil fun D σ H ⟨ρ, P, F, nw, hl, h⟩ => h σ P H F nw Stp.refl (Kp.refl hl)
theorem s_pass : PS X (.Pass pos) (tS G W n π sNext) := PS.imp ps_pass fun D σ H ⟨ρ, P, F, nw, hl, h⟩ => h σ P H F nw Stp.refl (Kp.refl hl)
theorem s_break : PS X (.Break pos) (tS G W n π sBrk) := PS.imp ps_break fun D σ H ⟨ρ, P, F, nw, hl, h⟩ => h σ P H F nw Stp.refl (Kp.refl hl)
theorem s_continue : PS X (.Continue pos) (tS G W n π sCnt) := PS.imp ps_continue fun D σ H ⟨ρ, P, F, nw, hl, h⟩ => h σ P H F nw Stp.refl (Kp.refl hl)
theorem s_cons (h1 : PS X st (tS G W n π f)) (h2 : PSs X rest (tS G W n π g)) : PSs X (st :: rest) (tS G W n π (sSeq f g)) := PSs.imp (pss_cons h1 h2) fun D σ H ⟨ρ, P, F, nw, hl, h⟩ => by
  refine ⟨ρ, P, F, nw, hl, ?_⟩
  unfold sSeq at h
  cases e : f ρ with
  | nx ρ1 =>
    rw [e] at h
    exact fun σ' P' H' F' n1 s1 k1 => ⟨ρ1, P', F', n1, k1.len, EndS.trans s1 k1 h⟩
  | bk ρ1 => rw [e] at h; exact h
  | ct ρ1 => rw [e] at h; exact h
  | ret w ρ1 => rw [e] at h; exact h
  | exc c ρ1 => rw [e] at h; exact h
  | stk => rw [e] at h; exact h
theorem s_one (h1 : PS X st (tS G W n π f)) : PSs X [st] (tS G W n π f) := pss_one h1
theorem s_expr (he : PE X e (tE G W fe)) (hs : swapsWith e none pos.line X.env = pure false := by rfl) : PS X (.Expr e pos) (tS G W n π (sDrop fe)) := PS.imp (ps_expr he hs) fun D σ H ⟨ρ, P, F, nw, hl, h⟩ =>
  tE_bindS nw hl h fun o ρ1 v P1 H1 F1 S h1 n1 s1 hs q1 _ => h1 σ P1 H1 F1 n1 Stp.refl (Kp.refl hl)
theorem set_rd {D : Ends} {σ : L2.St} {H : Hp} (hn : i < n) (hp : ioAt π i = false) (h : tS G W n π (sSet i fe) D σ H) : tE G W fe σ H (fun x H1 => D.nx (σ.set i (some x)) H1) := by
  obtain ⟨ρ, P, F, nw, hl, h⟩ := h
  refine tE_bindS nw hl h fun o ρ1 v P1 H1 F1 S _ n1 s1 hs q1 h0 => ?_
  unfold setO at h0
  cases e : own ρ1 o with
  | none => rw [e] at h0; exact h0.elim
  | some p =>
    obtain ⟨w, ρ2⟩ := p
    rw [e] at h0
    obtain ⟨F2, S2, n2, s2, t2, q2⟩ := own_ok n1 s1 hs q1 e
    exact h0 _ P1 H1 _ (now_set n2 t2 (by omega)) (stp_set s2 q2) (Kp.set hl hp)
theorem s_set (hN : X.N.Nodup) (hi : X.N[i]? = some x) (hx : Loc X.env.scope x) (hn : i < n) (hp : ioAt π i = false) (he : PE X e (tE G W fe)) (hs : swapsWith e (some (.Name x p2)) pos.line X.env = pure false := by rfl)
    (hf : X.fn x = true ∨ X.env.scope.names.lookup x = some .local := by first | exact .inl rfl | exact .inr rfl | assumption) : PS X (.Assign [.Name x p2] e pos) (tS G W n π (sSet i fe)) :=
  PS.imp (ps_set hN hi hx he hs hf) fun D σ H h => set_rd hn hp h
theorem s_ret (he : PE X e (tE G W fe)) : PS X (.Return (some e) pos) (tS G W n π (sRet fe)) := PS.imp (ps_ret he) fun D σ H ⟨ρ, P, F, nw, hl, h⟩ => by
  refine tE_bindS nw hl h fun o ρ1 v P1 H1 F1 S _ n1 s1 hs q1 h0 => ?_
  unfold retO at h0
  cases e : own ρ1 o with
  | none => rw [e] at h0; exact h0.elim
  | some p =>
    obtain ⟨w, ρ2⟩ := p
    rw [e] at h0
    obtain ⟨F2, S2, n2, s2, t2, q2⟩ := own_ok n1 s1 hs q1 e
    exact h0 v σ P1 H1 F2 S2 n2 s2 (Kp.refl hl) t2 q2
theorem s_retN : PS X (.Return none pos) (tS G W n π sRetN) := PS.imp ps_retN fun D σ H ⟨ρ, P, F, nw, hl, h⟩ =>
  h .non σ P H F nobody nw Stp.refl (Kp.refl hl) ⟨.non, fun _ z => z.elim, fun _ z => z.elim, fun _ z => z.elim, fun _ _ z => z.elim⟩ fun _ z => z.elim
theorem s_if {c : Expr} (hc : PT X c (tT G W ft)) (ha : PSs X sa (tS G W n π f)) (hb : PSs X sb (tS G W n π g)) : PS X (.If c sa sb pos) (tS G W n π (sIf ft f g)) := PS.imp (ps_if hc ha hb) fun D σ H ⟨ρ, P, F, nw, hl, h⟩ =>
  tT_bindS nw hl h fun t ρ1 P1 H1 F1 h1 n1 => by
    cases t with
    | true => exact ⟨ρ1, P1, F1, n1, hl, h1⟩
    | false => exact ⟨ρ1, P1, F1, n1, hl, h1⟩
theorem s_raise {c : Nat} (cx : Cxt G X W k) (he : L2N.PMk X e (fun _ H Q => Q (.ref (G.ea c)) none H)) : PS X (.Raise (some e) none pos) (tS G W n π (sRaise c)) := PS.imp (L2N.ps_raise cx.calm cx.tk he) fun D σ H ⟨ρ, P, F, nw, hl, h⟩ =>
  h σ P H F nw Stp.refl (Kp.refl hl)
end
end Mi
end
section
set_option Elab.async false
set_option linter.all false
set_option maxRecDepth 100000
/-! Ev13: lists that are changed -/
namespace Mi
open PySem L2
section
variable {G : Glb} {W : WX} {P H P1 H1 : Hp} {F F1 : Nat → Ad} {σ : L2.St} {ρ : Rho} {i : Nat} {a : Addr} {xs : List V} {ds : List PyData}
/-- the list of slot i is changed -/
theorem now_upd (nw : Now G P H σ ρ F) (hs : σ[i]? = some (some (.ref a))) (ha : F i a) (hd : DpAll G.K P xs ds) : Now G P (upd H a (.lst xs)) σ (ρ.set i (some (.ml ds))) F := by
  have na : ∀ b o, P b = some o → b ≠ a := fun b o h e => by rw [e, nw.np i a ha] at h; cases h
  refine ⟨fun b o h => by rw [upd_ne (na b o h)]; exact nw.ex b o h, nw.dj, nw.np, fun j b h => ?_, fun j w' h => ?_, fun j b u h e => ?_⟩
  · by_cases q : b = a
    · rw [q, upd_same]; exact fun z => nomatch z
    · rw [upd_ne q]; exact nw.al j b h
  · by_cases e : i = j
    · subst e
      by_cases hl : i < ρ.length
      · rw [List.getElem?_set_self hl] at h
        cases h
        exact ⟨_, hs, a, xs, rfl, ha, upd_same, hd⟩
      · rw [List.getElem?_eq_none (by rw [List.length_set]; omega)] at h
        cases h
    · rw [List.getElem?_set_ne e] at h
      obtain ⟨v', h1, h2⟩ := nw.rd j w' h
      refine ⟨v', h1, h2.mono (Same.refl P) (fun b o hb q => ?_) fun b hb => hb⟩
      rw [upd_ne (fun (z : b = a) => e (nw.dj i j a ha (by rw [← z]; exact hb)))]
      exact q
  · by_cases q : b = a
    · rw [q, upd_same] at e; cases e; rfl
    · rw [upd_ne q] at e; exact nw.kd j b u h e
theorem stp_upd {P0 H0 : Hp} {F0 : Nat → Ad} (nw : Now G P H σ ρ F) (s : Stp P0 H0 F0 P H F) (ha : F i a) : Stp P0 H0 F0 P (upd H a (.lst xs)) F := by
  refine ⟨s.ex, fun b o h hf => ?_, s.sub, s.pn, fun b h => ?_⟩
  · rw [upd_ne (fun (z : b = a) => s.out (by rw [h]; exact fun z => nomatch z) hf i (by rw [z]; exact ha))]
    exact s.fr b o h hf
  · by_cases q : b = a
    · rw [q, upd_same]; exact fun z => nomatch z
    · rw [upd_ne q]; exact s.al b h
theorem now_ml (nw : Now G P H σ ρ F) (hw : look ρ (.brw i) = some (.ml ds)) : ∃ a xs, σ[i]? = some (some (.ref a)) ∧ F i a ∧ H a = some (.lst xs) ∧ DpAll G.K P xs ds := by
  obtain ⟨v, h1, a, xs, rfl, h2, h3, h4⟩ := nw.rd i _ (join_some hw)
  exact ⟨a, xs, h1, h2, h3, h4⟩
end
def isMl (ρ : Rho) (i : Nat) : Bool := match look ρ (.brw i) with
  | some (.ml _) => true
  | _ => false
/-- x.append(e) -/
noncomputable def appO (i : Nat) (o : Opd) (ρ : Rho) : Out Opd := match frz1 ρ o with
  | some (d, ρ1) => match look ρ1 (.brw i) with
    | some (.ml ds) => if ds.length ≤ 100000 then .ok (.val (.dat .none)) (ρ1.set i (some (.ml (ds ++ [d])))) else .stk
    | _ => .stk
  | none => .stk
noncomputable def fApp (i : Nat) (f : FE) : FE := fun ρ => if isMl ρ i = true then (f ρ).bind fun o ρ1 => appO i o ρ1 else .stk
/-- x.extend(e), e a new list -/
noncomputable def extO (i : Nat) (o : Opd) (ρ : Rho) : Out Opd := match o with
  | .val (.ml es) => match look ρ (.brw i) with
    | some (.ml ds) => if ds.length + es.length ≤ 100000 then .ok (.val (.dat .none)) (ρ.set i (some (.ml (ds ++ es)))) else .stk
    | _ => .stk
  | _ => .stk
noncomputable def fExt (i : Nat) (f : FE) : FE := fun ρ => if isMl ρ i = true then (f ρ).bind fun o ρ1 => extO i o ρ1 else .stk
/-- x.pop() -/
def fPop (i : Nat) : FE := fun ρ => match look ρ (.brw i) with
  | some (.ml ds) => match ds.getLast? with
    | some d => .ok (.val (.dat d)) (ρ.set i (some (.ml ds.dropLast)))
    | none => .stk
  | _ => .stk
/-- x[j] = e -/
noncomputable def setItemO (i : Nat) (d : PyData) (o : Opd) (ρ : Rho) : SO := match look ρ o with
  | some (.dat (.int j)) => match look ρ (.brw i) with
    | some (.ml ds) => match ixN ds.length j with
      | some m => .nx (ρ.set i (some (.ml (ds.set m d))))
      | none => .stk
    | _ => .stk
  | _ => .stk
noncomputable def sSetItem (i : Nat) (fi fe : FE) : FS := fun ρ => (fe ρ).bindS fun o ρ1 => match frz1 ρ1 o with
  | some (d, ρ2) => if isMl ρ2 i = true then (fi ρ2).bindS fun oi ρ3 => setItemO i d oi ρ3 else .stk
  | none => .stk
section
variable {X : Cx} {G : Glb} {W : WX} {n k i : Nat} {π : List Bool} {e ei : Expr} {es : List Expr} {fe fi : FE} {fa : FA} {pos p2 apos cpos p3 : Pos} {x : Str}
theorem v_var (hN : X.N[i]? = some x := by rfl) (hv : Vis X.env.scope x := by first | exact Or.inl rfl | exact Or.inr (Or.inl rfl) | exact Or.inr (Or.inr rfl))
    (hd : (x == ("__debug__" : Str)) = false := by decide) (hcd : (x == ("__classdict__" : Str)) = false := by decide) : PE X (.Name x pos) (tVar i) := pe_var hN hv hd hcd
theorem isMl_look {ρ : Rho} (h : isMl ρ i = true) : ∃ ds, look ρ (.brw i) = some (.ml ds) := by
  unfold isMl at h
  split at h
  · rename_i ds e
    exact ⟨ds, e⟩
  · cases h
theorem e_append (hK : X.K = G.K) (ho : PE X (.Name x p3) (tVar i)) (he : PE X e (tE G W fe))
    (hbase : attributeBase (.Name x p3) "append" X.env (eval (.Name x p3) X.env) = eval (.Name x p3) X.env := by rfl)
    (hfew : ((backTo cpos (starEach [e] X.env)).all (fun x => !x.1) && (backToKw cpos (keywordEach [] X.env)).all (fun x => x.1.isSome)
      && decide (([e] : List Expr).length + ([] : List Keyword).length + (if ([] : List Keyword).isEmpty then 0 else 1) < 30)) = true := by rfl)
    (hline : (apos.endLine == cpos.line) = true := by rfl) (hs : starEach [e] X.env = (false, eval e X.env) :: starEach [] X.env := by rfl) (hplain : (backTo cpos (starEach [] X.env)).any (·.1) = false := by rfl) :
    PE X (.Call (.Attribute (.Name x p3) "append" apos) [e] [] cpos) (tE G W (fApp i fe)) :=
  PE.imp (pe_bm PySem.F.plainAttrs_list PySem.F.slot_list_append PySem.F.type_list_append mt_append ho (pa_cons he pa_nil hs) hbase hfew hline hs hplain) fun σ H Q ⟨ρ, P, F, nw, h⟩ => by
    unfold fApp at h
    by_cases q : isMl ρ i = true
    · rw [if_pos q] at h
      obtain ⟨ds0, hw0⟩ := isMl_look q
      obtain ⟨a, xs0, hs0, hF0, hH0, _⟩ := now_ml nw hw0
      refine ⟨.ref a, hs0, .inl ⟨rfl, xs0, SqL.of hH0⟩, ?_⟩
      refine tE_bind (End := fun P H F => EndO G W P H F σ Q) nw h (fun _ _ z => z) (fun z => z) fun o ρ1 v P1 H1 F1 S e1 h1 n1 s1 hx q1 => ?_
      unfold appO at h1
      cases ef : frz1 ρ1 o with
      | none => rw [ef] at h1; exact h1.elim
      | some p =>
        obtain ⟨d, ρ2⟩ := p
        rw [ef] at h1
        obtain ⟨P2, F2, n2, d2, z2⟩ := frz1_ok n1 hx ef
        have s2 := z2.stp s1 q1
        cases el : look ρ2 (.brw i) with
        | none => simp only [el] at h1; exact h1.elim
        | some w2 =>
          cases w2 with
          | ml ds =>
            simp only [el] at h1
            by_cases hz : ds.length ≤ 100000
            · rw [if_pos hz] at h1
              obtain ⟨a2, xs, hs2, hF2, hH2, hd2⟩ := now_ml n2 el
              have ea : a2 = a := by rw [hs0] at hs2; simpa using hs2.symm
              subst ea
              have hlen := dpa_len _ _ hd2
              refine ⟨a2, xs, v, rfl, rfl, hH2, by rw [sizeLine_eq]; omega, ?_⟩
              have n3 := now_upd n2 hs2 hF2 (dpa_app hd2 (.cons d2 .nil))
              exact h1 .non P2 _ F2 nobody n3 (stp_upd n2 s2 hF2) ⟨.non, fun _ z => z.elim, fun _ z => z.elim, fun _ z => z.elim, fun _ _ z => z.elim⟩ fun _ z => z.elim
            · rw [if_neg hz] at h1; exact h1.elim
          | dat _ => simp only [el] at h1; exact h1.elim
          | mml _ => simp only [el] at h1; exact h1.elim
          | ob _ _ => simp only [el] at h1; exact h1.elim
          | st _ => simp only [el] at h1; exact h1.elim
    · rw [if_neg q] at h; exact h.elim
theorem e_extend (hK : X.K = G.K) (ho : PE X (.Name x p3) (tVar i)) (he : PE X e (tE G W fe))
    (hbase : attributeBase (.Name x p3) "extend" X.env (eval (.Name x p3) X.env) = eval (.Name x p3) X.env := by rfl)
    (hfew : ((backTo cpos (starEach [e] X.env)).all (fun x => !x.1) && (backToKw cpos (keywordEach [] X.env)).all (fun x => x.1.isSome)
      && decide (([e] : List Expr).length + ([] : List Keyword).length + (if ([] : List Keyword).isEmpty then 0 else 1) < 30)) = true := by rfl)
    (hline : (apos.endLine == cpos.line) = true := by rfl) (hs : starEach [e] X.env = (false, eval e X.env) :: starEach [] X.env := by rfl) (hplain : (backTo cpos (starEach [] X.env)).any (·.1) = false := by rfl) :
    PE X (.Call (.Attribute (.Name x p3) "extend" apos) [e] [] cpos) (tE G W (fExt i fe)) :=
  PE.imp (pe_bm PySem.F.plainAttrs_list PySem.F.slot_list_extend PySem.F.type_list_extend mt_extend ho (pa_cons he pa_nil hs) hbase hfew hline hs hplain) fun σ H Q ⟨ρ, P, F, nw, h⟩ => by
    unfold fExt at h
    by_cases q : isMl ρ i = true
    · rw [if_pos q] at h
      obtain ⟨ds0, hw0⟩ := isMl_look q
      obtain ⟨a, xs0, hs0, hF0, hH0, _⟩ := now_ml nw hw0
      refine ⟨.ref a, hs0, .inl ⟨rfl, xs0, SqL.of hH0⟩, ?_⟩
      refine tE_bind (End := fun P H F => EndO G W P H F σ Q) nw h (fun _ _ z => z) (fun z => z) fun o ρ1 v P1 H1 F1 S e1 h1 n1 s1 hx q1 => ?_
      unfold extO at h1
      split at h1
      · rename_i es
        have t : Tmp G P1 H1 F1 S v (.ml es) := hx
        obtain ⟨b, ys, rfl, hb, hHb, hde⟩ := t.ow
        split at h1
        · rename_i ds el
          by_cases hz : ds.length + es.length ≤ 100000
          · rw [if_pos hz] at h1
            obtain ⟨a2, xs, hs2, hF2, hH2, hd2⟩ := now_ml n1 el
            have ea : a2 = a := by rw [hs0] at hs2; simpa using hs2.symm
            subst ea
            have l1 := dpa_len _ _ hd2
            have l2 := dpa_len _ _ hde
            refine ⟨a2, b, xs, ys, rfl, rfl, hH2, hHb, by rw [sizeLine_eq]; omega, ?_⟩
            exact h1 .non P1 _ F1 nobody (now_upd n1 hs2 hF2 (dpa_app hd2 hde)) (stp_upd n1 s1 hF2) ⟨.non, fun _ z => z.elim, fun _ z => z.elim, fun _ z => z.elim, fun _ _ z => z.elim⟩ fun _ z => z.elim
          · rw [if_neg hz] at h1; exact h1.elim
        · exact h1.elim
      · exact h1.elim
    · rw [if_neg q] at h; exact h.elim
theorem e_pop (hK : X.K = G.K) (ho : PE X (.Name x p3) (tVar i))
    (hbase : attributeBase (.Name x p3) "pop" X.env (eval (.Name x p3) X.env) = eval (.Name x p3) X.env := by rfl) (hline : (apos.endLine == cpos.line) = true := by rfl) :
    PE X (.Call (.Attribute (.Name x p3) "pop" apos) [] [] cpos) (tE G W (fPop i)) :=
  PE.imp (pe_bm0 PySem.F.plainAttrs_list PySem.F.slot_list_pop PySem.F.type_list_pop mt_pop ho hbase hline) fun σ H Q ⟨ρ, P, F, nw, h⟩ => by
    unfold fPop at h
    split at h
    · rename_i ds el
      split at h
      · rename_i d ed
        obtain ⟨a, xs, hs, hF, hH, hd⟩ := now_ml nw el
        have l1 := dpa_len _ _ hd
        have hk : ds[ds.length - 1]? = some d := by rw [← List.getLast?_eq_getElem?]; exact ed
        obtain ⟨y, hy, hdy⟩ := dpa_get ds xs hd _ d hk
        have hdl : DpAll G.K P xs.dropLast ds.dropLast := by
          rw [List.dropLast_eq_take, List.dropLast_eq_take, l1]
          exact dpa_take _ hd
        refine ⟨.ref a, hs, .inl ⟨rfl, xs, SqL.of hH⟩, a, xs, y, rfl, rfl, hH, by rw [l1]; exact hy, ?_⟩
        exact h y P _ F nobody (now_upd nw hs hF hdl) (stp_upd nw Stp.refl hF) ⟨hdy, fun _ z => z.elim, fun _ z => z.elim, fun _ z => z.elim, fun _ _ z => z.elim⟩ fun _ z => z.elim
      · exact h.elim
    · exact h.elim
theorem s_setItem (ho : PE X (.Name x p3) (tVar i)) (hi : PE X ei (tE G W fi)) (he : PE X e (tE G W fe))
    (ha : ∀ v, assign (.Subscript (.Name x p3) ei p2) X.env v = (do
      let ov ← holding [v] (eval (.Name x p3) X.env)
      let iv ← holding [v, ov] (eval ei X.env)
      standAt p2
      holding [v, ov, iv] (setItem ov iv v)
      release [v, ov, iv] []) := by intro _; rfl)
    (hs : swapsWithSole [.Subscript (.Name x p3) ei p2] e pos.line X.env = pure false := by rfl) (hw : swappedStores [.Subscript (.Name x p3) ei p2] e X.env = pure none := by rfl)
    (h1 : (assignEach [.Subscript (.Name x p3) ei p2] X.env).map (·.2) = [assign (.Subscript (.Name x p3) ei p2) X.env] := by rfl) :
    PS X (.Assign [.Subscript (.Name x p3) ei p2] e pos) (tS G W n π (sSetItem i fi fe)) := PS.imp (ps_asg he (pg_sub ho hi set_list ha) hs hw h1) fun D σ H ⟨ρ, P, F, nw, hl, h⟩ => by
  refine tE_bindS nw hl h fun o ρ1 v P1 H1 F1 S _ n1 s1 hx q1 h0 => ?_
  cases ef : frz1 ρ1 o with
  | none => simp only [ef] at h0; exact h0.elim
  | some p =>
    obtain ⟨d, ρ2⟩ := p
    simp only [ef] at h0
    obtain ⟨P2, F2, n2, d2, z2⟩ := frz1_ok n1 hx ef
    have s2 := z2.stp s1 q1
    by_cases hq : isMl ρ2 i = true
    case neg => rw [if_neg hq] at h0; exact h0.elim
    rw [if_pos hq] at h0
    have h2 := EndS.trans s2 (Kp.refl hl) h0
    -- the slot is read ahead of the index
    have go : ∀ a, σ[i]? = some (some (.ref a)) → tE G W fi σ H1 (fun iv H3 => rSetL (.ref a) iv v H3 fun H4 => D.nx σ H4) := fun a hs0 => by
      refine tE_bindS n2 hl h2 fun oi ρ3 vi P3 H3 F3 S3 h3 n3 s3 hxi q3 _ => ?_
      unfold setItemO at h3
      split at h3
      · rename_i j ej
        split at h3
        · rename_i ds el
          split at h3
          · rename_i m em
            obtain ⟨a2, xs, hs2, hF2, hH2, hd2⟩ := now_ml n3 el
            have ea : a2 = a := by rw [hs0] at hs2; simpa using hs2.symm
            subst ea
            have l1 := dpa_len _ _ hd2
            refine ⟨a2, xs, j, m, rfl, ow_int (hxi.look n3 ej), hH2, by rw [l1]; exact em, ?_⟩
            exact h3 σ P3 _ F3 (now_upd n3 hs2 hF2 (dpa_set (dp_mono s3.ex _ _ d2) m hd2)) (stp_upd n3 Stp.refl hF2) (Kp.refl hl)
          · exact h3.elim
        · exact h3.elim
      · exact h3.elim
    obtain ⟨ds0, hw0⟩ := isMl_look hq
    obtain ⟨a, xs0, hs0, _⟩ := now_ml n2 hw0
    exact ⟨.ref a, hs0, go a hs0⟩
end
end Mi
end
section
set_option Elab.async false
set_option linter.all false
set_option maxRecDepth 100000
/-! Ev14: what is walked; for, while -/
namespace Mi
open PySem PySem.Spec PyProof.Rows L2

/-- the walk J yields ds -/
def Yl (G : Glb) (J : It) (P : Hp) (ds : List PyData) : Prop := ∀ (i : Nat) (P1 H : Hp), Same P P1 → Same P1 H →
  (ds.length ≤ i → J.stop i H) ∧ (i < ds.length → J.go i H ∧ ∀ x H', J.yld i H x H' → ∃ P' d, Alc P1 H P' H' nobody ∧ ds[i]? = some d ∧ Dp G.K P' x d)
abbrev FI := Rho → Out (List PyData)
def EndI (G : Glb) (W : WX) (P H : Hp) (F : Nat → Ad) (σ : L2.St) (R : It → Hp → Prop) : Out (List PyData) → Prop
  | .ok ds ρ' => ∀ J P' H' F', Now G P' H' σ ρ' F' → Stp P H F P' H' F' → Yl G J P' ds → R J H'
  | .exc c ρ' => ∀ P' H' F', Now G P' H' σ ρ' F' → Stp P H F P' H' F' → W (.ref (G.ea c)) none σ H'
  | .stk => False
def tI (G : Glb) (W : WX) (f : FI) : TI := fun σ H R => ∃ ρ P F, Now G P H σ ρ F ∧ EndI G W P H F σ R (f ρ)
theorem PI.imp {X : Cx} {tg e : Expr} {t t' : TI} (h : PI X tg e t) (i : ∀ σ H Q, t' σ H Q → t σ H Q) : PI X tg e t' := ⟨fun pins s σ H R I q => h.run pins s σ H R I (i σ H R q)⟩
section
variable {G : Glb} {W : WX} {P H P1 H1 : Hp} {F F1 : Nat → Ad} {σ : L2.St} {ρ : Rho} {a : Addr} {xs : List V} {ds : List PyData} {R : It → Hp → Prop}
theorem EndI.trans {r : Out (List PyData)} (s : Stp P H F P1 H1 F1) (h : EndI G W P H F σ R r) : EndI G W P1 H1 F1 σ R r := by
  cases r with
  | ok o ρ' => exact fun J P' H' F' n t => h J P' H' F' n (s.trans t)
  | exc c ρ' => exact fun P' H' F' n t => h P' H' F' n (s.trans t)
  | stk => exact h
theorem yl_lst (h : SqL G.K P a xs) (hd : DpAll G.K P xs ds) : Yl G (Itl G.K a) P ds := fun i P1 H e1 e2 => by
  have e := e1.trans e2
  have hl := dpa_len _ _ hd
  have hs : SqL G.K H a xs := e.seq h
  refine ⟨fun hi => ⟨xs, hs, by omega⟩, fun hi => ?_⟩
  obtain ⟨v, hv, hdv⟩ := dpa_get _ _ hd i ds[i] (by simp [hi])
  refine ⟨⟨xs, v, hs, hv⟩, ?_⟩
  rintro x H' ⟨rfl, y⟩
  have := y xs hs
  rw [hv] at this
  cases this
  exact ⟨P1, ds[i], Alc.refl e2, by simp [hi], dp_mono e1 _ _ hdv⟩
theorem yl_tup (h : SqT G.K P a xs) (hd : DpAll G.K P xs ds) : Yl G (Itt G.K a) P ds := fun i P1 H e1 e2 => by
  have e := e1.trans e2
  have hl := dpa_len _ _ hd
  have hs : SqT G.K H a xs := sqT_mono e h
  refine ⟨fun hi => ⟨xs, hs, by omega⟩, fun hi => ?_⟩
  obtain ⟨v, hv, hdv⟩ := dpa_get _ _ hd i ds[i] (by simp [hi])
  refine ⟨⟨xs, v, hs, hv⟩, ?_⟩
  rintro x H' ⟨rfl, y⟩
  have := y xs hs
  rw [hv] at this
  cases this
  exact ⟨P1, ds[i], Alc.refl e2, by simp [hi], dp_mono e1 _ _ hdv⟩
def rangeD (lo hi : Int) : List PyData := (List.range (hi - lo).toNat).map fun k => .int (lo + (k : Nat))
theorem yl_rng {lo hi : Int} {m : Nat} (e : m = (hi - lo).toNat) : Yl G (Itr lo m) P (rangeD lo hi) := fun i P1 H e1 e2 => by
  have hl : (rangeD lo hi).length = m := by unfold rangeD; rw [List.length_map, List.length_range, e]
  rw [hl]
  refine ⟨fun h => h, fun hi => ⟨hi, ?_⟩⟩
  rintro x H' ⟨rfl, rfl⟩
  refine ⟨P1, .int (lo + (i : Nat)), Alc.refl e2, ?_, .int _⟩
  unfold rangeD
  rw [List.getElem?_map, List.getElem?_range (by omega)]
  rfl
end
def iSq (K : PySem.W.Frag) (tl : TE) : TI := fun σ H R => tl σ H fun x H1 => ∃ a, x = .ref a ∧ (((∃ xs, SqL K H1 a xs) ∧ R (Itl K a) H1) ∨ ((∃ xs, SqT K H1 a xs) ∧ R (Itt K a) H1))
noncomputable def seqO (ρ : Rho) (o : Opd) : Out (List PyData) := match frz1 ρ o with
  | some (.list ds, ρ2) => .ok ds ρ2
  | some (.tuple ds, ρ2) => .ok ds ρ2
  | _ => .stk
noncomputable def iE (f : FE) : FI := fun ρ => (f ρ).bind fun o ρ1 => seqO ρ1 o
noncomputable def rg1 (ρ : Rho) (os : List Opd) : Out (List PyData) := match looks ρ os with
  | some [.dat (.int j)] => if -(2 ^ 62) ≤ j ∧ j < 2 ^ 62 then .ok (rangeD 0 j) ρ else .stk
  | _ => .stk
noncomputable def rg2 (ρ : Rho) (os : List Opd) : Out (List PyData) := match looks ρ os with
  | some [.dat (.int i), .dat (.int j)] => if -(2 ^ 62) ≤ i ∧ i < 2 ^ 62 ∧ -(2 ^ 62) ≤ j ∧ j < 2 ^ 62 then .ok (rangeD i j) ρ else .stk
  | _ => .stk
noncomputable def iR1 (f : FA) : FI := fun ρ => (f ρ).bind fun os ρ1 => rg1 ρ1 os
noncomputable def iR2 (f : FA) : FI := fun ρ => (f ρ).bind fun os ρ1 => rg2 ρ1 os
section
variable {X : Cx} {tg e a b : Expr} {G : Glb} {W : WX} {f : FE} {fa : FA} {p pos : Pos}
theorem pi_sq {l : Expr} {tl : TE} (hl : PE X l tl) : PI X tg l (iSq X.K tl) := by
  constructor
  intro pins s σ H R I h
  refine thn (hl.run pins s σ H _ I h) ?_
  rintro v s1 ⟨x, H1, I1, r1, a, rfl, q⟩
  obtain rfl : v = Value.ref a := r1
  have fp : ∀ b ∈ [s1.heap.objs.size], FpOk X pins H1 b := fun b hb => by
    obtain rfl : b = s1.heap.objs.size := by simpa using hb
    exact I1.fpOk (Nat.le_refl _) (I1.hok.fresh (Nat.le_refl _))
  rcases q with ⟨⟨xs, hq⟩, q⟩ | ⟨⟨xs, hq⟩, q⟩
  · obtain ⟨its, rv, pl, hz⟩ := I1.list hq
    exact wpAny_pyIter_list pl.isList ⟨_, _, _, _, H1, rfl, I1.kept (t' := s1.toks) (fun b o e => Heap.get?_push_of_some _ e), turn_list a _, ⟨_, Heap.get?_push_size _ rfl, rfl, rfl⟩, fp, q⟩
  · obtain ⟨its, rv, ht, hz⟩ := I1.tuple hq
    exact wpAny_pyIter_tuple (show s1.heap.IsTuple a its.toArray from ht) ⟨_, _, _, _, H1, rfl, I1.kept (t' := s1.toks) (fun b o e => Heap.get?_push_of_some _ e), turn_tuple a _, ⟨_, Heap.get?_push_size _ rfl, rfl, rfl⟩, fp, q⟩
theorem i_E (hK : X.K = G.K) (he : PE X e (tE G W f)) : PI X tg e (tI G W (iE f)) := PI.imp (pi_sq he) fun σ H R ⟨ρ, P, F, nw, h⟩ => by
  rw [hK]
  refine tE_bind (End := fun P H F => EndI G W P H F σ R) nw h (fun _ _ z => z) (fun z => z) fun o ρ1 v P1 H1 F1 S e1 h1 n1 s1 hx q1 => ?_
  unfold seqO at h1
  split at h1
  · rename_i ds ρ2 ef
    obtain ⟨P2, F2, n2, d2, z2⟩ := frz1_ok n1 hx ef
    cases d2 with
    | lst hs ha => exact ⟨_, rfl, .inl ⟨⟨_, n2.ex.seq hs⟩, h1 _ P2 H1 F2 n2 (z2.stp s1 q1) (yl_lst hs ha)⟩⟩
  · rename_i ds ρ2 ef
    obtain ⟨P2, F2, n2, d2, z2⟩ := frz1_ok n1 hx ef
    cases d2 with
    | tup hs ha => exact ⟨_, rfl, .inr ⟨⟨_, sqT_mono n2.ex hs⟩, h1 _ P2 H1 F2 n2 (z2.stp s1 q1) (yl_tup hs ha)⟩⟩
  · exact h1.elim
theorem i_R1 (hm : X.mg "range" = none) (ha : PA X [a] (tA G W fa)) (hg : Gl X "range" := by rfl) (hs : starEach [a] X.env = [(false, eval a X.env)] := by rfl) : PI X tg (.Call (.Name "range" p) [a] [] pos) (tI G W (iR1 fa)) :=
  PI.imp (pi_range1 hg hm ha hs) fun σ H R ⟨ρ, P, F, nw, h⟩ => by
    refine tA_bind (End := fun P H F => EndI G W P H F σ R) nw h (fun _ _ z => z) (fun z => z) fun os ρ1 vs P1 H1 F1 S e1 h1 n1 s1 hx q1 => ?_
    unfold rg1 at h1
    split at h1
    · rename_i j el
      by_cases hj : -(2 ^ 62) ≤ j ∧ j < 2 ^ 62
      · rw [if_pos hj] at h1
        have hv := hx.looks n1 el
        match vs, hv with
        | [v], ⟨hv, _⟩ => exact ⟨j, by rw [ow_int hv], hj.1, hj.2, h1 _ P1 H1 F1 n1 s1 (yl_rng (by simp))⟩
      · rw [if_neg hj] at h1; exact h1.elim
    · exact h1.elim
theorem i_R2 (hm : X.mg "range" = none) (ha : PA X [a, b] (tA G W fa)) (hg : Gl X "range" := by rfl) (hs : starEach [a, b] X.env = [(false, eval a X.env), (false, eval b X.env)] := by rfl) (hs2 : starEach [b] X.env = [(false, eval b X.env)] := by rfl) :
    PI X tg (.Call (.Name "range" p) [a, b] [] pos) (tI G W (iR2 fa)) :=
  PI.imp (pi_range2 hg hm ha hs hs2) fun σ H R ⟨ρ, P, F, nw, h⟩ => by
    refine tA_bind (End := fun P H F => EndI G W P H F σ R) nw h (fun _ _ z => z) (fun z => z) fun os ρ1 vs P1 H1 F1 S e1 h1 n1 s1 hx q1 => ?_
    unfold rg2 at h1
    split at h1
    · rename_i i j el
      by_cases hj : -(2 ^ 62) ≤ i ∧ i < 2 ^ 62 ∧ -(2 ^ 62) ≤ j ∧ j < 2 ^ 62
      · rw [if_pos hj] at h1
        have hv := hx.looks n1 el
        match vs, hv with
        | [v, u], ⟨hv, hu, _⟩ => exact ⟨i, j, by rw [ow_int hv, ow_int hu], hj, h1 _ P1 H1 F1 n1 s1 (yl_rng rfl)⟩
      · rw [if_neg hj] at h1; exact h1.elim
    · exact h1.elim
end

/-! ### targets -/
abbrev FB := PyData → Rho → Option Rho
def tG (G : Glb) (n : Nat) (π : List Bool) (b : FB) : TG := fun v σ H Q => ∃ ρ P F d ρ', Now G P H σ ρ F ∧ σ.length = n ∧ Dp G.K P v d ∧ b d ρ = some ρ' ∧ ∀ σ' F', Now G P H σ' ρ' F' → Stp P H F P H F' → Kp n π σ σ' → Q σ' H
theorem PG.imp {X : Cx} {e : Expr} {t t' : TG} (h : PG X e t) (i : ∀ v σ H Q, t' v σ H Q → t v σ H Q) : PG X e t' := ⟨fun pins s σ H v u Q I r q => h.run pins s σ H v u Q I r (i v σ H Q q)⟩
def bN (i : Nat) : FB := fun d ρ => some (ρ.set i (some (.dat d)))
def setAll : List Nat → List PyData → Rho → Option Rho
  | [], [], ρ => some ρ
  | i :: is, d :: ds, ρ => setAll is ds (ρ.set i (some (.dat d)))
  | _, _, _ => none
def bT (is : List Nat) : FB := fun d ρ => match d with
  | .tuple ds => setAll is ds ρ
  | _ => none
def tGs (G : Glb) (n : Nat) (π : List Bool) (is : List Nat) : TGs := fun vs σ H Q => ∃ ρ P F ds ρ', Now G P H σ ρ F ∧ σ.length = n ∧ DpAll G.K P vs ds ∧ setAll is ds ρ = some ρ' ∧ ∀ σ' F', Now G P H σ' ρ' F' → Stp P H F P H F' → Kp n π σ σ' → Q σ' H
section
variable {X : Cx} {G : Glb} {n i : Nat} {π : List Bool} {x : Str} {pos : Pos} {e : Expr} {es : List Expr} {is : List Nat}
theorem now_dat {P H : Hp} {F : Nat → Ad} {σ : L2.St} {ρ : Rho} {v : V} {d : PyData} (nw : Now G P H σ ρ F) (hd : Dp G.K P v d) (hi : i < σ.length) : Now G P H (σ.set i (some v)) (ρ.set i (some (.dat d))) (setF F i nobody) :=
  now_set nw (S := nobody) ⟨hd, fun _ z => z.elim, fun _ z => z.elim, fun _ z => z.elim, fun _ _ z => z.elim⟩ hi
theorem g_name (hN : X.N.Nodup) (hi : X.N[i]? = some x) (hx : Loc X.env.scope x) (hn : i < n) (hp : ioAt π i = false)
    (hf : X.fn x = true ∨ X.env.scope.names.lookup x = some .local := by first | exact .inl rfl | exact .inr rfl | assumption) : PG X (.Name x pos) (tG G n π (bN i)) :=
  PG.imp (pg_name hN hi hx hf) fun v σ H Q ⟨ρ, P, F, d, ρ', nw, hl, hd, hb, k⟩ => by
    cases hb
    exact k _ _ (now_dat nw hd (by omega)) (stp_set Stp.refl fun _ z => z.elim) (Kp.set hl hp)
theorem PGs.imp {X : Cx} {e : List Expr} {t t' : TGs} (h : PGs X e t) (i : ∀ v σ H Q, t' v σ H Q → t v σ H Q) : PGs X e t' := ⟨fun pins s σ H v u Q I r q => h.run pins s σ H v u Q I r (i v σ H Q q)⟩
theorem gs_nil : PGs X [] (tGs G n π []) := PGs.imp pgs_nil fun vs σ H Q ⟨ρ, P, F, ds, ρ', nw, hl, hd, hb, k⟩ => by
  cases ds with
  | nil =>
    cases hd
    cases hb
    exact ⟨rfl, k σ F nw Stp.refl (Kp.refl hl)⟩
  | cons _ _ => cases hb
theorem gs_cons (hN : X.N.Nodup) (hi : X.N[i]? = some x) (hx : Loc X.env.scope x) (hn : i < n) (hp : ioAt π i = false) (h2 : PGs X es (tGs G n π is))
    (hs : (assignEach (.Name x pos :: es) X.env).map (·.2) = assign (.Name x pos) X.env :: (assignEach es X.env).map (·.2) := by rfl)
    (hf : X.fn x = true ∨ X.env.scope.names.lookup x = some .local := by first | exact .inl rfl | exact .inr rfl | assumption) : PGs X (.Name x pos :: es) (tGs G n π (i :: is)) :=
  PGs.imp (pgs_cons (pg_name hN hi hx hf) h2 hs) fun vs σ H Q ⟨ρ, P, F, ds, ρ', nw, hl, hd, hb, k⟩ => by
    cases ds with
    | nil => cases hb
    | cons d ds =>
      cases hd with
      | @cons v1 vs1 _ _ h1 h3 =>
        refine ⟨_, _, rfl, ?_⟩
        have n1 := now_dat (i := i) nw h1 (by omega)
        have s1 : Stp P H F P H (setF F i nobody) := stp_set Stp.refl fun _ z => z.elim
        have k1 : Kp n π σ (σ.set i (some v1)) := Kp.set hl hp
        exact ⟨_, P, _, ds, ρ', n1, k1.len, h3, hb, fun σ' F' n2 s2 k2 => k σ' F' n2 (s1.trans s2) (k1.trans k2)⟩
theorem g_tup {k m : Nat} (hK : X.K = G.K) (hc : X.calm = true) (h : PGs X es (tGs G n π is)) (hm : is.length = m) (hn : (assignEach es X.env).length = m := by rfl) (hst : (assignEach es X.env).findIdx? (·.1) = none := by rfl) : PG X (.Tuple es k pos) (tG G n π (bT is)) :=
  PG.imp (pg_tup hc h hn hst) fun v σ H Q ⟨ρ, P, F, d, ρ', nw, hl, hd, hb, k⟩ => by
    unfold bT at hb
    split at hb
    · rename_i ds
      cases hd with
      | tup hs ha =>
        rw [hK]
        have h1 := dpa_len _ _ ha
        have h2 : ∀ {is : List Nat} {ds : List PyData} {ρ ρ' : Rho}, setAll is ds ρ = some ρ' → is.length = ds.length := by
          intro is
          induction is with
          | nil =>
            intro ds ρ ρ' h
            cases ds with
            | nil => rfl
            | cons _ _ => cases h
          | cons i is ih =>
            intro ds ρ ρ' h
            cases ds with
            | nil => cases h
            | cons _ _ => simp [ih h]
        exact ⟨_, _, rfl, sqT_mono nw.ex hs, by rw [h1, ← h2 hb, hm], ρ, P, F, ds, ρ', nw, hl, ha, hb, k⟩
    · cases hb
end

/-! ### for -/
def forL (b : FB) (body : FS) : List PyData → FS
  | [], ρ => .nx ρ
  | d :: ds, ρ => match b d ρ with
    | none => .stk
    | some ρ1 => match body ρ1 with
      | .nx ρ2 => forL b body ds ρ2
      | .ct ρ2 => forL b body ds ρ2
      | .bk ρ2 => .nx ρ2
      | .ret w ρ2 => .ret w ρ2
      | .exc c ρ2 => .exc c ρ2
      | .stk => .stk
def sFor (fi : FI) (b : FB) (body : FS) : FS := fun ρ => (fi ρ).bindS fun ds ρ1 => forL b body ds ρ1
/-- k turns at most -/
def whN (c : FT) (body : FS) : Nat → FS
  | 0, _ => .stk
  | k + 1, ρ => (c ρ).bindS fun t ρ1 => if t = true then
      match body ρ1 with
      | .nx ρ2 => whN c body k ρ2
      | .ct ρ2 => whN c body k ρ2
      | .bk ρ2 => .nx ρ2
      | .ret w ρ2 => .ret w ρ2
      | .exc c ρ2 => .exc c ρ2
      | .stk => .stk
    else .nx ρ1
noncomputable def sWh (c : FT) (body : FS) : FS := by classical exact fun ρ => if h : ∃ k, whN c body k ρ ≠ .stk then whN c body h.choose ρ else .stk
section
variable {X : Cx} {tg iter c : Expr} {body : List Stmt} {G : Glb} {W : WX} {n : Nat} {π : List Bool} {fi : FI} {b : FB} {fb : FS} {ft : FT} {pos : Pos}
theorem s_for (hp : PassesOwn (model X.prog X.w) X.A X.env X.xe) (hc : X.calm = true) (hi : PI X tg iter (tI G W fi)) (hg : PG X tg (tG G n π b)) (hb : PSs X body (tS G W n π fb)) (hs : ∀ x, foldedSetIterable iter X.env x = pure x := by intro _; rfl) :
    PS X (.For tg iter body [] pos) (tS G W n π (sFor fi b fb)) := PS.imp (ps_for hp hc hi hg hb hs) fun D σ H ⟨ρ, P, F, nw, hl, h⟩ => by
  refine ⟨ρ, P, F, nw, ?_⟩
  unfold sFor at h
  cases ei : fi ρ with
  | stk => rw [ei] at h; exact h.elim
  | exc c ρ1 => rw [ei] at h; exact fun P1 H1 F1 n1 s1 => h σ P1 H1 F1 n1 s1 (Kp.refl hl)
  | ok ds ρ1 =>
    rw [ei] at h
    intro J P1 H1 F1 n1 s1 yl
    have h1 : EndS G W n π P1 H1 F1 σ D (forL b fb ds ρ1) := EndS.trans s1 (Kp.refl hl) h
    refine ⟨fun i m σ' H' => m = ds.length - i ∧ i ≤ ds.length ∧ ∃ ρ' P' F', Now G P' H' σ' ρ' F' ∧ σ'.length = n ∧ Same P1 P' ∧ EndS G W n π P' H' F' σ' D (forL b fb (ds.drop i) ρ'), ⟨_, rfl, Nat.zero_le _, ρ1, P1, F1, n1, hl, Same.refl _, h1⟩, ?_⟩
    rintro i m σ2 H2 ⟨rfl, hi, ρ2, P2, F2, n2, l2, e2, h2⟩
    obtain ⟨y1, y2⟩ := yl i P2 H2 e2 n2.ex
    by_cases hlt : i < ds.length
    · obtain ⟨go, y3⟩ := y2 hlt
      refine .inr ⟨go, fun σ' H' => i + 1 ≤ ds.length ∧ ∃ ρ' P' F', Now G P' H' σ' ρ' F' ∧ σ'.length = n ∧ Same P1 P' ∧ EndS G W n π P' H' F' σ' D (forL b fb (ds.drop (i + 1)) ρ'), fun σ' H' ⟨q1, q2⟩ => ⟨_, by omega, rfl, q1, q2⟩, fun x H3 hy => ?_⟩
      obtain ⟨P3, d, al, hd, hdp⟩ := y3 x H3 hy
      have ed : ds.drop i = d :: ds.drop (i + 1) := by
        rw [List.drop_eq_getElem_cons hlt]
        have := (List.getElem?_eq_some_iff.mp hd).2
        rw [this]
      rw [ed] at h2
      have h3 : EndS G W n π P3 H3 F2 σ2 D (forL b fb (d :: ds.drop (i + 1)) ρ2) := EndS.trans al.stp (Kp.refl l2) h2
      unfold forL at h3
      cases eb : b d ρ2 with
      | none => rw [eb] at h3; exact h3.elim
      | some ρ3 =>
        simp only [eb] at h3
        refine ⟨ρ2, P3, F2, d, ρ3, al.now n2, l2, hdp, eb, fun σ4 F4 n4 s4 k4 => ⟨ρ3, P3, F4, n4, k4.len, ?_⟩⟩
        have h4 := EndS.trans s4 k4 h3
        have e3 : Same P1 P3 := e2.trans al.exP
        have next : ∀ {ρ5 : Rho}, EndS G W n π P3 H3 F4 σ4 D (forL b fb (ds.drop (i + 1)) ρ5) → ∀ σ' P' H' F', Now G P' H' σ' ρ5 F' → Stp P3 H3 F4 P' H' F' → Kp n π σ4 σ' →
            i + 1 ≤ ds.length ∧ ∃ ρ' P' F', Now G P' H' σ' ρ' F' ∧ σ'.length = n ∧ Same P1 P' ∧ EndS G W n π P' H' F' σ' D (forL b fb (ds.drop (i + 1)) ρ') :=
          fun {ρ5} h5 σ' P' H' F' n5 s5 k5 => ⟨hlt, ρ5, P', F', n5, k5.len, e3.trans s5.ex, EndS.trans s5 k5 h5⟩
        cases ef : fb ρ3 with
        | nx ρ5 => rw [ef] at h4; exact next h4
        | ct ρ5 => rw [ef] at h4; exact next h4
        | bk ρ5 => rw [ef] at h4; exact h4
        | ret w ρ5 => rw [ef] at h4; exact h4
        | exc c ρ5 => rw [ef] at h4; exact h4
        | stk => rw [ef] at h4; exact h4
    · have e : ds.drop i = [] := List.drop_eq_nil_of_le (by omega)
      rw [e] at h2
      exact .inl ⟨y1 (by omega), h2 σ2 P2 H2 F2 n2 Stp.refl (Kp.refl l2)⟩
theorem whN_up {k : Nat} : ∀ {ρ : Rho}, whN ft fb k ρ ≠ .stk → whN ft fb (k + 1) ρ = whN ft fb k ρ := by
  induction k with
  | zero => intro ρ h; exact (h rfl).elim
  | succ k ih =>
    intro ρ h
    unfold whN at h
    show (ft ρ).bindS _ = (ft ρ).bindS _
    cases e : ft ρ with
    | stk => rfl
    | exc c ρ1 => rfl
    | ok t ρ1 =>
      rw [e] at h
      simp only [Out.bindS] at h ⊢
      cases t with
      | false => rfl
      | true =>
        simp only [if_true] at h ⊢
        cases ef : fb ρ1 with
        | nx ρ2 => simp only [ef] at h ⊢; exact ih h
        | ct ρ2 => simp only [ef] at h ⊢; exact ih h
        | bk ρ2 => rfl
        | ret w ρ2 => rfl
        | exc c ρ2 => rfl
        | stk => rfl
theorem whN_le {k : Nat} {ρ : Rho} (h : whN ft fb k ρ ≠ .stk) : ∀ j, whN ft fb (k + j) ρ = whN ft fb k ρ
  | 0 => rfl
  | j + 1 => by
    have ih := whN_le h j
    rw [← ih]
    exact whN_up (k := k + j) (fun q => h (ih.symm.trans q))
/-- a while's end, by any number of turns that is enough -/
theorem sWh_eq {k : Nat} {ρ : Rho} (h : whN ft fb k ρ ≠ .stk) : sWh ft fb ρ = whN ft fb k ρ := by
  have q : ∃ k, whN ft fb k ρ ≠ .stk := ⟨k, h⟩
  unfold sWh
  rw [dif_pos q]
  have h1 := whN_le h q.choose
  have h2 := whN_le q.choose_spec k
  rw [← h1, ← h2, Nat.add_comm]
theorem s_while (hp : PassesOwn (model X.prog X.w) X.A X.env X.xe) (hc : PT X c (tT G W ft)) (hb : PSs X body (tS G W n π fb)) : PS X (.While c body [] pos) (tS G W n π (sWh ft fb)) := PS.imp (ps_while hp hc hb) fun D σ H ⟨ρ, P, F, nw, hl, h⟩ => by
  by_cases q : ∃ k, whN ft fb k ρ ≠ .stk
  case neg => unfold sWh at h; rw [dif_neg q] at h; exact h.elim
  obtain ⟨k, hk⟩ := q
  rw [sWh_eq hk] at h
  refine ⟨fun m σ' H' => ∃ ρ' P' F', Now G P' H' σ' ρ' F' ∧ σ'.length = n ∧ EndS G W n π P' H' F' σ' D (whN ft fb m ρ'), ⟨k, ρ, P, F, nw, hl, h⟩, ?_⟩
  rintro m σ1 H1 ⟨ρ1, P1, F1, n1, l1, h1⟩
  cases m with
  | zero => exact h1.elim
  | succ m =>
    unfold whN at h1
    refine tT_bindS n1 l1 h1 fun t ρ2 P2 H2 F2 h2 n2 => ?_
    cases t with
    | false => exact h2 σ1 P2 H2 F2 n2 Stp.refl (Kp.refl l1)
    | true =>
      simp only [if_true] at h2 ⊢
      refine ⟨fun σ' H' => ∃ ρ' P' F', Now G P' H' σ' ρ' F' ∧ σ'.length = n ∧ EndS G W n π P' H' F' σ' D (whN ft fb m ρ'), fun σ' H' w => ⟨m, Nat.lt_succ_self m, w⟩, ρ2, P2, F2, n2, l1, ?_⟩
      have next : ∀ {ρ5 : Rho}, EndS G W n π P2 H2 F2 σ1 D (whN ft fb m ρ5) → ∀ σ' P' H' F', Now G P' H' σ' ρ5 F' → Stp P2 H2 F2 P' H' F' → Kp n π σ1 σ' →
          ∃ ρ' P' F', Now G P' H' σ' ρ' F' ∧ σ'.length = n ∧ EndS G W n π P' H' F' σ' D (whN ft fb m ρ') :=
        fun {ρ5} h5 σ' P' H' F' n5 s5 k5 => ⟨ρ5, P', F', n5, k5.len, EndS.trans s5 k5 h5⟩
      cases ef : fb ρ2 with
      | nx ρ5 => rw [ef] at h2; exact next h2
      | ct ρ5 => rw [ef] at h2; exact next h2
      | bk ρ5 => rw [ef] at h2; exact h2
      | ret w ρ5 => rw [ef] at h2; exact h2
      | exc c ρ5 => rw [ef] at h2; exact h2
      | stk => rw [ef] at h2; exact h2
end
end Mi
end
section
set_option Elab.async false
set_option linter.all false
set_option maxRecDepth 100000
/-! Ev15: comprehensions -/
namespace Mi
open PySem PySem.Spec PyProof.Rows L2

def wipeR (ρ : Rho) : List Nat → Rho
  | [] => ρ
  | v :: vs => (wipeR ρ vs).set v none
def restR (ρ0 ρ : Rho) : List Nat → Rho
  | [] => ρ
  | v :: vs => (restR ρ0 ρ vs).set v (ρ0[v]?).join
/-- one turn after another: what is kept of ds -/
noncomputable def compL (vs : List Nat) (b : FB) (c : FT) (e : FE) : List PyData → Rho → Out (List PyData)
  | [], ρ => .ok [] ρ
  | d :: ds, ρ => match b d (wipeR ρ vs) with
    | none => .stk
    | some ρ1 => match c ρ1 with
      | .ok true ρ2 => match e ρ2 with
        | .ok o ρ3 => match frz1 ρ3 o with
          | some (d', ρ4) => match compL vs b c e ds ρ4 with
            | .ok ds' ρ5 => .ok (d' :: ds') ρ5
            | .exc _ _ => .stk
            | .stk => .stk
          | none => .stk
        | .exc _ _ => .stk
        | .stk => .stk
      | .ok false ρ2 => compL vs b c e ds ρ2
      | .exc _ _ => .stk
      | .stk => .stk
noncomputable def compE (vs : List Nat) (ρ1 : Rho) (ds : List PyData) : Out (List PyData) → Out Opd
  | .ok ds' ρ2 => if ds.length ≤ 100000 then .ok (.val (.ml ds')) (restR ρ1 ρ2 vs) else .stk
  | .exc _ _ => .stk
  | .stk => .stk
noncomputable def fComp (vs : List Nat) (fi : FI) (b : FB) (c : FT) (e : FE) : FE := fun ρ => (fi ρ).bind fun ds ρ1 => compE vs ρ1 ds (compL vs b c e ds ρ1)
def cT : FT := fun ρ => .ok true ρ
def blkPi (n : Nat) (vs : List Nat) : List Bool := (List.range n).map fun j => !vs.contains j

section
variable {G : Glb} {W : WX} {P H P1 H1 P2 H2 : Hp} {F F1 F2 : Nat → Ad} {σ σ2 : L2.St} {ρ ρ1 : Rho} {vs : List Nat} {D : Addr} {o : HO} {n j : Nat}
theorem wipeR_in {w : Vl} : ∀ {vs : List Nat}, (wipeR ρ vs)[j]? = some (some w) → j ∉ vs ∧ ρ[j]? = some (some w)
  | [], h => ⟨by simp, h⟩
  | v :: vs, h => by
    unfold wipeR at h
    by_cases e : v = j
    · subst e
      by_cases hl : v < (wipeR ρ vs).length
      · rw [List.getElem?_set_self hl] at h; cases h
      · rw [List.getElem?_eq_none (by rw [List.length_set]; omega)] at h; cases h
    · rw [List.getElem?_set_ne e] at h
      obtain ⟨h1, h2⟩ := wipeR_in h
      exact ⟨by simp only [List.mem_cons, not_or]; exact ⟨fun q => e q.symm, h1⟩, h2⟩
theorem restR_in {w : Vl} : ∀ {vs : List Nat}, (restR ρ1 ρ vs)[j]? = some (some w) → (j ∈ vs ∧ ρ1[j]? = some (some w)) ∨ (j ∉ vs ∧ ρ[j]? = some (some w))
  | [], h => .inr ⟨by simp, h⟩
  | v :: vs, h => by
    unfold restR at h
    by_cases e : v = j
    · subst e
      by_cases hl : v < (restR ρ1 ρ vs).length
      · rw [List.getElem?_set_self hl] at h
        exact .inl ⟨by simp, join_some (Option.some.inj h)⟩
      · rw [List.getElem?_eq_none (by rw [List.length_set]; omega)] at h; cases h
    · rw [List.getElem?_set_ne e] at h
      rcases restR_in h with ⟨h1, h2⟩ | ⟨h1, h2⟩
      · exact .inl ⟨List.mem_cons_of_mem _ h1, h2⟩
      · exact .inr ⟨by simp only [List.mem_cons, not_or]; exact ⟨fun q => e q.symm, h1⟩, h2⟩
theorem ioAt_blk {vs : List Nat} (h1 : j < n) (h2 : j ∉ vs) : ioAt (blkPi n vs) j = true := by
  unfold ioAt blkPi
  rw [List.getD_eq_getElem?_getD, List.getElem?_map, List.getElem?_range h1]
  simp [h2]
theorem wipe_self : ∀ {vs : List Nat} {σ : L2.St}, j ∈ vs → j < σ.length → (wipe σ vs)[j]? = some none
  | [], _, h, _ => by simp at h
  | v :: vs, σ, h, hl => by
    unfold wipe
    by_cases e : v = j
    · subst e
      rw [List.getElem?_set_self (by rw [wipe_length]; exact hl)]
    · rw [List.getElem?_set_ne e]
      rcases List.mem_cons.mp h with q | q
      · exact (e q.symm).elim
      · exact wipe_self q hl
theorem wipe_same (hn : σ.length = n) (k : Kp n (blkPi n vs) (wipe σ vs) σ2) : wipe σ2 vs = wipe σ vs := by
  apply List.ext_getElem?
  intro j
  by_cases hj : j < n
  · by_cases hv : j ∈ vs
    · rw [wipe_self hv (by rw [k.len]; exact hj), wipe_self hv (by rw [hn]; exact hj)]
    · rw [wipe_out hv, k.pin j (ioAt_blk hj hv)]
  · rw [List.getElem?_eq_none (by rw [wipe_length, k.len]; omega), List.getElem?_eq_none (by rw [wipe_length, hn]; omega)]
theorem now_wipe (nw : Now G P H σ2 ρ F) (h : ∀ j, j ∉ vs → σ2[j]? = σ[j]?) : Now G P H σ (wipeR ρ vs) F :=
  ⟨nw.ex, nw.dj, nw.np, nw.al, fun i w e => by
    obtain ⟨h1, h2⟩ := wipeR_in e
    obtain ⟨v, h3, h4⟩ := nw.rd i w h2
    exact ⟨v, by rw [← h i h1]; exact h3, h4⟩, nw.kd⟩
theorem now_out (nw : Now G P H σ ρ F) (hP : P D = none) (hF : ∀ i, ¬ F i D) : Now G P (upd H D o) σ ρ F := by
  have nD : ∀ i b, F i b → b ≠ D := fun i b h e => hF i (e ▸ h)
  refine ⟨fun b u h => by rw [upd_ne (fun e => by rw [e, hP] at h; cases h)]; exact nw.ex b u h, nw.dj, nw.np, fun i b h => by rw [upd_ne (nD i b h)]; exact nw.al i b h, fun i w h => ?_, fun i b u h e => ?_⟩
  · obtain ⟨v, h1, h2⟩ := nw.rd i w h
    exact ⟨v, h1, h2.mono (Same.refl P) (fun b u hb q => by rw [upd_ne (nD i b hb)]; exact q) fun _ z => z⟩
  · rw [upd_ne (nD i b h)] at e
    exact nw.kd i b u h e
theorem stp_out (s : Stp P H F P1 H1 F1) (hD : H D = none) : Stp P H F P1 (upd H1 D o) F1 := by
  refine ⟨s.ex, fun b u h hf => ?_, s.sub, s.pn, fun b h => ?_⟩
  · rw [upd_ne (fun e => by rw [e, hD] at h; cases h)]
    exact s.fr b u h hf
  · by_cases e : b = D
    · rw [e, upd_same]; exact fun z => nomatch z
    · rw [upd_ne e]; exact s.al b h
/-- the environment without the block's own names -/
def cutF (F : Nat → Ad) (vs : List Nat) : Nat → Ad := fun i b => i ∉ vs ∧ F i b
def glueF (F1 F : Nat → Ad) (vs : List Nat) : Nat → Ad := fun i b => (i ∈ vs ∧ F1 i b) ∨ (i ∉ vs ∧ F i b)
theorem now_cut (nw : Now G P H σ ρ F) : Now G P H (wipe σ vs) (wipeR ρ vs) (cutF F vs) :=
  ⟨nw.ex, fun i j a h1 h2 => nw.dj i j a h1.2 h2.2, fun i b h => nw.np i b h.2, fun i b h => nw.al i b h.2, fun i w e => by
    obtain ⟨h1, h2⟩ := wipeR_in e
    obtain ⟨v, h3, h4⟩ := nw.rd i w h2
    exact ⟨v, by rw [wipe_out h1]; exact h3, h4.mono (Same.refl P) (fun _ _ _ q => q) fun b hb => ⟨h1, hb⟩⟩, fun i b u h e => nw.kd i b u h.2 e⟩
theorem now_glue (n1 : Now G P1 H1 σ ρ1 F1) (n2 : Now G P2 H2 (wipe σ vs) (wipeR ρ vs) F2) (s : Stp P1 H1 (cutF F1 vs) P2 H2 F2) : Now G P2 H2 σ (restR ρ1 ρ vs) (glueF F1 F2 vs) ∧ Stp P1 H1 F1 P2 H2 (glueF F1 F2 vs) := by
  have off : ∀ i b, i ∈ vs → F1 i b → ∀ k, ¬ cutF F1 vs k b := fun i b hi h k q => q.1 (by rw [← n1.dj i k b h q.2]; exact hi)
  refine ⟨⟨n2.ex, ?_, ?_, ?_, fun i w h => ?_, ?_⟩, ⟨s.ex, fun b u h hf => s.fr b u h fun i q => hf i q.2, ?_, fun b h => ?_, s.al⟩⟩
  · rintro i k a (⟨h1, h2⟩ | ⟨h1, h2⟩) (⟨h3, h4⟩ | ⟨h3, h4⟩)
    · exact n1.dj i k a h2 h4
    · exact (s.out (n1.al i a h2) (off i a h1 h2) k h4).elim
    · exact (s.out (n1.al k a h4) (off k a h3 h4) i h2).elim
    · exact n2.dj i k a h2 h4
  · rintro i b (⟨h1, h2⟩ | ⟨h1, h2⟩)
    · refine Classical.byContradiction fun q => ?_
      rcases s.pn b q with z | ⟨k, z⟩ | z
      · exact z (n1.np i b h2)
      · exact off i b h1 h2 k z
      · exact n1.al i b h2 z
    · exact n2.np i b h2
  · rintro i b (⟨h1, h2⟩ | ⟨h1, h2⟩)
    · exact s.al b (n1.al i b h2)
    · exact n2.al i b h2
  · rcases restR_in h with ⟨h1, h2⟩ | ⟨h1, h2⟩
    · obtain ⟨v, h3, h4⟩ := n1.rd i w h2
      exact ⟨v, h3, h4.mono s.ex (fun b u hb q => s.fr b u q (off i b h1 hb)) fun b hb => .inl ⟨h1, hb⟩⟩
    · have e : (wipeR ρ vs)[i]? = some (some w) := by
        have : ∀ {vs : List Nat}, i ∉ vs → (wipeR ρ vs)[i]? = ρ[i]? := by
          intro vs
          induction vs with
          | nil => intro _; rfl
          | cons v vs ih =>
            intro q
            unfold wipeR
            rw [List.getElem?_set_ne (fun e => q (by rw [e]; exact List.mem_cons_self))]
            exact ih fun m => q (List.mem_cons_of_mem _ m)
        rw [this h1]; exact h2
      obtain ⟨v, h3, h4⟩ := n2.rd i w e
      exact ⟨v, by rw [← wipe_out h1]; exact h3, h4.mono (Same.refl P2) (fun _ _ _ q => q) fun b hb => .inr ⟨h1, hb⟩⟩
  · rintro i b u (⟨h1, h2⟩ | ⟨h1, h2⟩) e
    · obtain ⟨o, ho⟩ := Option.ne_none_iff_exists'.mp (n1.al i b h2)
      rw [s.fr b o ho (off i b h1 h2)] at e
      cases e
      exact n1.kd i b _ h2 ho
    · exact n2.kd i b u h2 e
  · rintro i b (⟨h1, h2⟩ | ⟨h1, h2⟩)
    · exact .inl ⟨i, h2⟩
    · rcases s.sub i b h2 with ⟨k, q⟩ | q
      · exact .inl ⟨k, q.2⟩
      · exact .inr q
  · rcases s.pn b h with z | ⟨k, z⟩ | z
    · exact .inl z
    · exact .inr (.inl ⟨k, z.2⟩)
    · exact .inr (.inr z)
end

abbrev noW : WX := fun _ _ _ _ => False
section
variable {G : Glb} {W : WX} {σ : L2.St} {H : Hp} {Q : VK} {vs : List Nat} {fi : FI} {b : FB} {c : FT} {e : FE} {tt : TT}
theorem compL_len : ∀ {ds : List PyData} {ρ ρ' : Rho} {ds' : List PyData}, compL vs b c e ds ρ = .ok ds' ρ' → ds'.length ≤ ds.length
  | [], ρ, ρ', ds', h => by
    have h : Out.ok [] ρ = Out.ok ds' ρ' := h
    cases h
    exact Nat.le_refl _
  | d :: ds, ρ, ρ', ds', h => by
    unfold compL at h
    split at h
    · cases h
    · split at h
      · split at h
        · split at h
          · split at h
            · rename_i q
              cases h
              simpa using compL_len q
            · cases h
            · cases h
          · cases h
        · cases h
        · cases h
      · have := compL_len h
        simp; omega
      · cases h
      · cases h
/-- the reading of a comprehension -/
theorem comp_rd (ht : ∀ σ H Q, tT G noW c σ H Q → tt σ H Q) (h : tE G W (fComp vs fi b c e) σ H Q) : tLc (tI G W fi) (tG G σ.length (blkPi σ.length vs) b) tt (tE G noW e) vs σ H Q := by
  obtain ⟨ρ, P, F, nw, h⟩ := h
  refine ⟨ρ, P, F, nw, ?_⟩
  unfold fComp at h
  cases ei : fi ρ with
  | stk => rw [ei] at h; exact h.elim
  | exc c ρ1 => rw [ei] at h; exact h
  | ok ds ρ1 =>
    rw [ei] at h
    intro J P1 H1 F1 n1 s1 yl
    have h1 : EndO G W P1 H1 F1 σ Q (compE vs ρ1 ds (compL vs b c e ds ρ1)) := EndO.trans s1 h
    cases ec : compL vs b c e ds ρ1 with
    | stk => rw [ec] at h1; exact h1.elim
    | exc c ρ1 => rw [ec] at h1; exact h1.elim
    | ok dsF ρF =>
      rw [ec] at h1
      unfold compE at h1
      by_cases hz : ds.length ≤ 100000
      case neg => simp only [hz, if_false] at h1; exact h1.elim
      simp only [hz, if_true] at h1
      intro D hD
      have hP1 : P1 D = none := n1.ex.free hD
      have hF1 : ∀ i, ¬ F1 i D := fun i q => n1.al i D q hD
      refine ⟨fun i m H => m = ds.length - i ∧ i ≤ ds.length ∧ ∃ ρ' P' F' accV accD dsr, Now G P' H (wipe σ vs) (wipeR ρ' vs) F' ∧ Stp P1 H1 (cutF F1 vs) P' H F' ∧ H D = some (.lst accV) ∧ DpAll G.K P' accV accD ∧ P' D = none ∧ (∀ i, ¬ F' i D) ∧ accD.length ≤ i ∧
        compL vs b c e (ds.drop i) ρ' = .ok dsr ρF ∧ accD ++ dsr = dsF, ⟨_, rfl, Nat.zero_le _, ρ1, P1, cutF F1 vs, [], [], dsF, now_out (now_cut n1) hP1 (fun i q => hF1 i q.2), stp_out Stp.refl hD, upd_same, .nil, hP1, fun i q => hF1 i q.2, Nat.zero_le _, ec, rfl⟩, ?_⟩
      rintro i m H2 ⟨rfl, hi, ρ2, P2, F2, accV, accD, dsr, n2, s2, hD2, dA, hP2, hF2, hlen, hc, happ⟩
      obtain ⟨y1, y2⟩ := yl i P2 H2 s2.ex n2.ex
      by_cases hlt : i < ds.length
      · obtain ⟨go, y3⟩ := y2 hlt
        refine .inr ⟨go, fun H => i + 1 ≤ ds.length ∧ ∃ ρ' P' F' accV accD dsr, Now G P' H (wipe σ vs) (wipeR ρ' vs) F' ∧ Stp P1 H1 (cutF F1 vs) P' H F' ∧ H D = some (.lst accV) ∧ DpAll G.K P' accV accD ∧ P' D = none ∧ (∀ i, ¬ F' i D) ∧ accD.length ≤ i + 1 ∧
          compL vs b c e (ds.drop (i + 1)) ρ' = .ok dsr ρF ∧ accD ++ dsr = dsF, fun H' ⟨q1, q2⟩ => ⟨_, by omega, rfl, q1, q2⟩, fun x H3 hy => ?_⟩
        obtain ⟨P3, d, al, hd, hdp⟩ := y3 x H3 hy
        have ed : ds.drop i = d :: ds.drop (i + 1) := by
          rw [List.drop_eq_getElem_cons hlt]
          have := (List.getElem?_eq_some_iff.mp hd).2
          rw [this]
        rw [ed] at hc
        unfold compL at hc
        cases eb : b d (wipeR ρ2 vs) with
        | none => rw [eb] at hc; cases hc
        | some ρ3 =>
          simp only [eb] at hc
          have n3 := al.now n2
          have s3 := s2.trans al.stp
          -- what stays with the new list, through any step
          have kD : ∀ {P5 H5 : Hp} {F5 : Nat → Ad}, Stp P3 H3 F2 P5 H5 F5 → H5 D = some (.lst accV) ∧ P5 D = none ∧ (∀ i, ¬ F5 i D) := fun {P5 H5 F5} s => by
            have hD3 : H3 D = some (.lst accV) := al.exH D _ hD2
            have hP3 : P3 D = none := by
              refine Classical.byContradiction fun q => ?_
              rcases al.pn D q with z | z
              · exact z hP2
              · rw [hD2] at z; cases z
            refine ⟨s.fr D _ hD3 hF2, ?_, s.out (by rw [hD3]; exact fun z => nomatch z) hF2⟩
            refine Classical.byContradiction fun q => ?_
            rcases s.pn D q with z | ⟨k, z⟩ | z
            · exact z hP3
            · exact hF2 k z
            · rw [hD3] at z; cases z
          refine ⟨wipeR ρ2 vs, P3, F2, d, ρ3, n3, wipe_length _ _, hdp, eb, fun σ4 F4 n4 s4 k4 => ⟨wipe_same rfl k4, ht _ _ _ ?_⟩⟩
          have off4 : ∀ j, j ∉ vs → σ4[j]? = (wipe σ vs)[j]? := fun j hj => by
            have := wipe_same rfl k4
            rw [← wipe_out (σ := σ4) hj, this]
          refine ⟨ρ3, P3, F4, n4, ?_⟩
          cases etc : c ρ3 with
          | stk => rw [etc] at hc; cases hc
          | exc c' ρ4 => rw [etc] at hc; cases hc
          | ok t ρ4 =>
            intro P5 H5 F5 n5 s5
            cases t with
            | false =>
              simp only [etc] at hc
              rw [if_neg Bool.false_ne_true]
              obtain ⟨k1, k2, k3⟩ := kD (s4.trans s5)
              exact ⟨hlt, ρ4, P5, F5, accV, accD, dsr, now_wipe n5 off4, s3.trans (s4.trans s5), k1, dpa_mono (al.exP.trans (s4.trans s5).ex) _ _ dA, k2, k3, by omega, hc, happ⟩
            | true =>
              simp only [etc] at hc
              rw [if_pos rfl]
              refine ⟨ρ4, P5, F5, n5, ?_⟩
              cases ee : e ρ4 with
              | stk => rw [ee] at hc; cases hc
              | exc c' ρ6 => rw [ee] at hc; cases hc
              | ok o ρ6 =>
                intro y P6 H6 F6 S6 n6 s6 hy6 src6
                simp only [ee] at hc
                cases ef : frz1 ρ6 o with
                | none => rw [ef] at hc; cases hc
                | some p =>
                  obtain ⟨d', ρ7⟩ := p
                  simp only [ef] at hc
                  cases er : compL vs b c e (ds.drop (i + 1)) ρ7 with
                  | stk => rw [er] at hc; cases hc
                  | exc c' ρ8 => rw [er] at hc; cases hc
                  | ok dsr' ρ8 =>
                    simp only [er] at hc
                    cases hc
                    obtain ⟨P7, F7, n7, d7, z7⟩ := frz1_ok n6 hy6 ef
                    have sAll := s4.trans (s5.trans s6)
                    have s7 : Stp P3 H3 F2 P7 H6 F7 := z7.stp sAll fun b hb => by
                      rcases src6 b hb with ⟨k, q⟩ | q
                      · exact (s4.trans s5).sub k b q
                      · exact .inr (Classical.byContradiction fun q' => (s4.trans s5).al b q' q)
                    obtain ⟨k1, k2, k3⟩ := kD s7
                    have hl := dpa_len _ _ dA
                    refine ⟨accV, k1, by rw [sizeLine_eq]; omega, hlt, ρ7, P7, F7, accV ++ [y], accD ++ [d'], dsr', now_out (now_wipe n7 off4) k2 k3, stp_out (s3.trans s7) hD, upd_same, dpa_app (dpa_mono (al.exP.trans s7.ex) _ _ dA) (.cons d7 .nil), k2, k3, ?_, er, ?_⟩
                    · rw [List.length_append, List.length_singleton]; omega
                    · rw [List.append_assoc]; exact happ
      · have ed : ds.drop i = [] := List.drop_eq_nil_of_le (by omega)
        rw [ed] at hc
        have hc : Out.ok [] ρ2 = Out.ok dsr ρF := hc
        cases hc
        rw [List.append_nil] at happ
        subst happ
        obtain ⟨nG, sG⟩ := now_glue n1 n2 s2
        refine .inl ⟨y1 (by omega), h1 _ P2 H2 _ (fun x => x = D) nG sG ⟨⟨D, accV, rfl, rfl, hD2, dA⟩, fun b hb => by rw [hb]; exact hP2, fun b hb => by rw [hb, hD2]; exact Option.some_ne_none _, fun b hb i q => ?_, fun b u hb e => by rw [hb, hD2] at e; cases e; rfl⟩ fun b hb => .inr (by rw [hb]; exact hD)⟩
        rw [hb] at q
        rcases q with ⟨_, q⟩ | ⟨_, q⟩
        · exact hF1 i q
        · exact hF2 i q
end
end Mi
end
section
set_option Elab.async false
set_option linter.all false
set_option maxRecDepth 100000
/-! Ev16: comprehensions: the rules; two clauses -/
namespace Mi
open PySem PySem.Spec PyProof.Rows L2

noncomputable def compL2 (vs vs1 : List Nat) (b : FB) (c : FT) (fi1 : FI) (b1 : FB) (c1 : FT) (e : FE) : List PyData → Rho → Out (List PyData)
  | [], ρ => .ok [] ρ
  | d :: ds, ρ => match b d (wipeR ρ vs) with
    | none => .stk
    | some ρ1 => match c ρ1 with
      | .ok true ρ2 => match fi1 ρ2 with
        | .ok ds1 ρ3 => match compL vs1 b1 c1 e ds1 ρ3 with
          | .ok r1 ρ4 => match compL2 vs vs1 b c fi1 b1 c1 e ds ρ4 with
            | .ok r2 ρ5 => .ok (r1 ++ r2) ρ5
            | .exc _ _ => .stk
            | .stk => .stk
          | .exc _ _ => .stk
          | .stk => .stk
        | .exc _ _ => .stk
        | .stk => .stk
      | .ok false ρ2 => compL2 vs vs1 b c fi1 b1 c1 e ds ρ2
      | .exc _ _ => .stk
      | .stk => .stk
noncomputable def compE2 (vs : List Nat) (ρ1 : Rho) : Out (List PyData) → Out Opd
  | .ok ds' ρ2 => if ds'.length ≤ 100000 then .ok (.val (.ml ds')) (restR ρ1 ρ2 vs) else .stk
  | .exc _ _ => .stk
  | .stk => .stk
noncomputable def fComp2 (vs vs1 : List Nat) (fi : FI) (b : FB) (c : FT) (fi1 : FI) (b1 : FB) (c1 : FT) (e : FE) : FE := fun ρ => (fi ρ).bind fun ds ρ1 => compE2 vs ρ1 (compL2 vs vs1 b c fi1 b1 c1 e ds ρ1)

/-- the new list at D stands at acc, in a state -/
structure Acc (G : Glb) (Pb P1 H1 : Hp) (F0 : Nat → Ad) (D : Addr) (dsF rest : List PyData) (σ : L2.St) (ρ : Rho) (P H : Hp) (F : Nat → Ad) : Prop where
  nw : Now G P H σ ρ F
  st : Stp P1 H1 F0 P H F
  ls : ∃ accV accD, H D = some (.lst accV) ∧ DpAll G.K P accV accD ∧ accD ++ rest = dsF
  np : P D = none
  nf : ∀ i, ¬ F i D
  bs : Same Pb P
section
variable {G : Glb} {W : WX} {σ σ' : L2.St} {H H1 H2 P P1 P2 Pb : Hp} {F F0 F2 : Nat → Ad} {Q : VK} {vs vs1 : List Nat} {fi fi1 : FI} {b b1 : FB} {c c1 : FT} {e : FE} {tt tt1 : TT} {D : Addr} {dsF rest : List PyData} {ρ ρ' : Rho} {S : Ad} {y : V} {o : Opd} {d' : PyData}
theorem Acc.step (a : Acc G Pb P1 H1 F0 D dsF rest σ ρ P H F) (n2 : Now G P2 H2 σ' ρ' F2) (s : Stp P H F P2 H2 F2) : Acc G Pb P1 H1 F0 D dsF rest σ' ρ' P2 H2 F2 := by
  obtain ⟨nw, st, ⟨accV, accD, h1, h2, h3⟩, np, nf, bs⟩ := a
  refine ⟨n2, st.trans s, ⟨accV, accD, s.fr D _ h1 nf, dpa_mono s.ex _ _ h2, h3⟩, ?_, s.out (by rw [h1]; exact Option.some_ne_none _) nf, bs.trans s.ex⟩
  refine Classical.byContradiction fun q => ?_
  rcases s.pn D q with z | ⟨k, z⟩ | z
  · exact z np
  · exact nf k z
  · rw [h1] at z; cases z
theorem Acc.re (a : Acc G Pb P1 H1 F0 D dsF rest σ ρ P H F) (n2 : Now G P H σ' ρ' F) : Acc G Pb P1 H1 F0 D dsF rest σ' ρ' P H F := a.step n2 Stp.refl
theorem Acc.of_base (a : Acc G Pb P1 H1 F0 D dsF rest σ ρ P H F) (Pc : Hp) (h : Same Pc P) : Acc G Pc P1 H1 F0 D dsF rest σ ρ P H F := ⟨a.nw, a.st, a.ls, a.np, a.nf, h⟩
theorem Acc.rebase (a : Acc G Pb P1 H1 F0 D dsF rest σ ρ P H F) : Acc G P P1 H1 F0 D dsF rest σ ρ P H F := a.of_base P (Same.refl P)
theorem now_wipe2 (nw : Now G P H σ (wipeR ρ vs1) F) (hv : ∀ j ∈ vs1, j ∈ vs) (h : ∀ j, j ∉ vs → σ[j]? = σ'[j]?) : Now G P H σ' (wipeR ρ vs) F :=
  ⟨nw.ex, nw.dj, nw.np, nw.al, fun i w e => by
    obtain ⟨h1, h2⟩ := wipeR_in e
    have h3 : (wipeR ρ vs1)[i]? = some (some w) := by
      have : ∀ {us : List Nat}, i ∉ us → (wipeR ρ us)[i]? = ρ[i]? := by
        intro us
        induction us with
        | nil => intro _; rfl
        | cons v us ih =>
          intro q
          unfold wipeR
          rw [List.getElem?_set_ne (fun e => q (by rw [e]; exact List.mem_cons_self))]
          exact ih fun m => q (List.mem_cons_of_mem _ m)
      rw [this fun m => h1 (hv i m)]; exact h2
    obtain ⟨v, h4, h5⟩ := nw.rd i w h3
    exact ⟨v, by rw [← h i h1]; exact h4, h5⟩, nw.kd⟩
/-- an item is appended -/
theorem Acc.app (a : Acc G Pb P1 H1 F0 D dsF (d' :: rest) σ ρ P H F) (hD : H1 D = none) (hl : dsF.length ≤ 100000) (hd : Dp G.K P y d') : ∃ acc, H D = some (.lst acc) ∧ acc.length < sizeLine ∧ Acc G Pb P1 H1 F0 D dsF rest σ ρ P (upd H D (.lst (acc ++ [y]))) F := by
  obtain ⟨nw, st, ⟨accV, accD, h1, h2, h3⟩, np, nf, bs⟩ := a
  have l1 := dpa_len _ _ h2
  have l2 : accD.length + (rest.length + 1) = dsF.length := by rw [← h3]; simp
  refine ⟨accV, h1, by rw [sizeLine_eq]; omega, now_out nw np nf, stp_out st hD, ⟨accV ++ [y], accD ++ [d'], upd_same, dpa_app h2 (.cons hd .nil), ?_⟩, np, nf, bs⟩
  rw [List.append_assoc]
  exact h3
/-- one turn: bind, test, evaluate, append -/
theorem turn_rd {Nx : Hp → Prop} {x : V} {d : PyData} {ds rr dsr : List PyData} {ρE : Rho} (ht : ∀ σ H Q, tT G noW c σ H Q → tt σ H Q) (hD : H1 D = none) (hl : dsF.length ≤ 100000)
    (a : Acc G Pb P1 H1 F0 D dsF (dsr ++ rr) (wipe σ vs) (wipeR ρ vs) P H F) (hx : Dp G.K P x d) (hc : compL vs b c e (d :: ds) ρ = .ok dsr ρE)
    (hN : ∀ ρ' P' F' dsr' H', Acc G Pb P1 H1 F0 D dsF (dsr' ++ rr) (wipe σ vs) (wipeR ρ' vs) P' H' F' → compL vs b c e ds ρ' = .ok dsr' ρE → Nx H') :
    tG G σ.length (blkPi σ.length vs) b x (wipe σ vs) H fun σ2 H2 => wipe σ2 vs = wipe σ vs ∧ tt σ2 H2 fun b H3 => if b = true then tE G noW e σ2 H3 (fun y H4 => ∃ acc, H4 D = some (.lst acc) ∧ acc.length < sizeLine ∧ Nx (upd H4 D (.lst (acc ++ [y])))) else Nx H3 := by
  unfold compL at hc
  cases eb : b d (wipeR ρ vs) with
  | none => rw [eb] at hc; cases hc
  | some ρ3 =>
    simp only [eb] at hc
    refine ⟨wipeR ρ vs, P, F, d, ρ3, a.nw, wipe_length _ _, hx, eb, fun σ4 F4 n4 s4 k4 => ⟨wipe_same rfl k4, ht _ _ _ ?_⟩⟩
    have off4 : ∀ j, j ∉ vs → σ4[j]? = (wipe σ vs)[j]? := fun j hj => by
      have := wipe_same rfl k4
      rw [← wipe_out (σ := σ4) hj, this]
    have a4 := a.step n4 s4
    refine ⟨ρ3, P, F4, n4, ?_⟩
    cases etc : c ρ3 with
    | stk => rw [etc] at hc; cases hc
    | exc c' ρ4 => rw [etc] at hc; cases hc
    | ok t ρ4 =>
      intro P5 H5 F5 n5 s5
      have a5 := a4.step n5 s5
      cases t with
      | false =>
        simp only [etc] at hc
        rw [if_neg Bool.false_ne_true]
        exact hN ρ4 P5 F5 dsr H5 (a5.re (now_wipe n5 off4)) hc
      | true =>
        simp only [etc] at hc
        rw [if_pos rfl]
        refine ⟨ρ4, P5, F5, n5, ?_⟩
        cases ee : e ρ4 with
        | stk => rw [ee] at hc; cases hc
        | exc c' ρ6 => rw [ee] at hc; cases hc
        | ok o ρ6 =>
          intro y P6 H6 F6 S6 n6 s6 hy6 src6
          simp only [ee] at hc
          cases ef : frz1 ρ6 o with
          | none => rw [ef] at hc; cases hc
          | some p =>
            obtain ⟨d', ρ7⟩ := p
            simp only [ef] at hc
            cases er : compL vs b c e ds ρ7 with
            | stk => rw [er] at hc; cases hc
            | exc c' ρ8 => rw [er] at hc; cases hc
            | ok dsr' ρ8 =>
              simp only [er] at hc
              cases hc
              obtain ⟨P7, F7, n7, d7, z7⟩ := frz1_ok n6 hy6 ef
              have a7 : Acc G Pb P1 H1 F0 D dsF (d' :: (dsr' ++ rr)) σ4 ρ7 P7 H6 F7 := a5.step n7 (z7.stp s6 src6)
              obtain ⟨acc, q1, q2, q3⟩ := a7.app hD hl d7
              exact ⟨acc, q1, q2, hN ρ7 P7 F7 dsr' _ (q3.re (now_wipe q3.nw off4)) er⟩
theorem comp2_rd (ht : ∀ σ H Q, tT G noW c σ H Q → tt σ H Q) (ht1 : ∀ σ H Q, tT G noW c1 σ H Q → tt1 σ H Q) (hv : ∀ j ∈ vs1, j ∈ vs) (h : tE G W (fComp2 vs vs1 fi b c fi1 b1 c1 e) σ H Q) :
    tLc2 (tI G W fi) (tG G σ.length (blkPi σ.length vs) b) tt (tI G noW fi1) (tG G σ.length (blkPi σ.length vs1) b1) tt1 (tE G noW e) vs vs1 σ H Q := by
  obtain ⟨ρ, P, F, nw, h⟩ := h
  refine ⟨ρ, P, F, nw, ?_⟩
  unfold fComp2 at h
  cases ei : fi ρ with
  | stk => rw [ei] at h; exact h.elim
  | exc c ρ1 => rw [ei] at h; exact h
  | ok ds ρ1 =>
    rw [ei] at h
    intro J P1 H1 F1 n1 s1 yl
    have h1 : EndO G W P1 H1 F1 σ Q (compE2 vs ρ1 (compL2 vs vs1 b c fi1 b1 c1 e ds ρ1)) := EndO.trans s1 h
    cases ec : compL2 vs vs1 b c fi1 b1 c1 e ds ρ1 with
    | stk => rw [ec] at h1; exact h1.elim
    | exc c ρ1 => rw [ec] at h1; exact h1.elim
    | ok dsF ρF =>
      rw [ec] at h1
      unfold compE2 at h1
      by_cases hz : dsF.length ≤ 100000
      case neg => simp only [hz, if_false] at h1; exact h1.elim
      simp only [hz, if_true] at h1
      intro D hD
      have hP1 : P1 D = none := n1.ex.free hD
      have hF1 : ∀ i, ¬ F1 i D := fun i q => n1.al i D q hD
      refine ⟨fun i m H => m = ds.length - i ∧ i ≤ ds.length ∧ ∃ ρ' P' F' dsr, Acc G P1 P1 H1 (cutF F1 vs) D dsF dsr (wipe σ vs) (wipeR ρ' vs) P' H F' ∧ compL2 vs vs1 b c fi1 b1 c1 e (ds.drop i) ρ' = .ok dsr ρF,
        ⟨_, rfl, Nat.zero_le _, ρ1, P1, cutF F1 vs, dsF, ⟨now_out (now_cut n1) hP1 (fun i q => hF1 i q.2), stp_out Stp.refl hD, ⟨[], [], upd_same, .nil, rfl⟩, hP1, fun i q => hF1 i q.2, Same.refl _⟩, ec⟩, ?_⟩
      rintro i m H2 ⟨rfl, hi, ρ2, P2, F2, dsr, a2, hc⟩
      obtain ⟨y1, y2⟩ := yl i P2 H2 a2.st.ex a2.nw.ex
      by_cases hlt : i < ds.length
      · obtain ⟨go, y3⟩ := y2 hlt
        refine .inr ⟨go, fun H => i + 1 ≤ ds.length ∧ ∃ ρ' P' F' dsr, Acc G P1 P1 H1 (cutF F1 vs) D dsF dsr (wipe σ vs) (wipeR ρ' vs) P' H F' ∧ compL2 vs vs1 b c fi1 b1 c1 e (ds.drop (i + 1)) ρ' = .ok dsr ρF, fun H' ⟨q1, q2⟩ => ⟨_, by omega, rfl, q1, q2⟩, fun x H3 hy => ?_⟩
        obtain ⟨P3, d, al, hd, hdp⟩ := y3 x H3 hy
        have ed : ds.drop i = d :: ds.drop (i + 1) := by
          rw [List.drop_eq_getElem_cons hlt]
          have := (List.getElem?_eq_some_iff.mp hd).2
          rw [this]
        rw [ed] at hc
        unfold compL2 at hc
        have a3 := a2.step (al.now a2.nw) al.stp
        cases eb : b d (wipeR ρ2 vs) with
        | none => rw [eb] at hc; cases hc
        | some ρ3 =>
          simp only [eb] at hc
          refine ⟨wipeR ρ2 vs, P3, F2, d, ρ3, a3.nw, wipe_length _ _, hdp, eb, fun σ4 F4 n4 s4 k4 => ⟨wipe_same rfl k4, ht _ _ _ ?_⟩⟩
          have off4 : ∀ j, j ∉ vs → σ4[j]? = (wipe σ vs)[j]? := fun j hj => by
            have := wipe_same rfl k4
            rw [← wipe_out (σ := σ4) hj, this]
          have l4 : σ4.length = σ.length := by rw [k4.len]
          have a4 := a3.step n4 s4
          refine ⟨ρ3, P3, F4, n4, ?_⟩
          cases etc : c ρ3 with
          | stk => rw [etc] at hc; cases hc
          | exc c' ρ4 => rw [etc] at hc; cases hc
          | ok t ρ4 =>
            intro P5 H5 F5 n5 s5
            have a5 := a4.step n5 s5
            cases t with
            | false =>
              simp only [etc] at hc
              rw [if_neg Bool.false_ne_true]
              exact ⟨hlt, ρ4, P5, F5, dsr, a5.re (now_wipe n5 off4), hc⟩
            | true =>
              simp only [etc] at hc
              rw [if_pos rfl]
              refine ⟨ρ4, P5, F5, n5, ?_⟩
              cases ef : fi1 ρ4 with
              | stk => rw [ef] at hc; cases hc
              | exc c' ρ6 => rw [ef] at hc; cases hc
              | ok ds1 ρ6 =>
                simp only [ef] at hc
                intro J1 P6 H6 F6 n6 s6 yl1
                have a6 := a5.step n6 s6
                cases e1 : compL vs1 b1 c1 e ds1 ρ6 with
                | stk => rw [e1] at hc; cases hc
                | exc c' ρ7 => rw [e1] at hc; cases hc
                | ok r1 ρ7 =>
                  simp only [e1] at hc
                  cases e2 : compL2 vs vs1 b c fi1 b1 c1 e (ds.drop (i + 1)) ρ7 with
                  | stk => rw [e2] at hc; cases hc
                  | exc c' ρ8 => rw [e2] at hc; cases hc
                  | ok r2 ρ8 =>
                    simp only [e2] at hc
                    cases hc
                    have w4 : Now G P6 H6 (wipe σ4 vs1) (wipeR ρ6 vs1) F6 := now_wipe n6 fun j hj => (wipe_out hj).symm
                    refine ⟨fun j k H => k = ds1.length - j ∧ j ≤ ds1.length ∧ ∃ ρ' P' F' dsr', Acc G P6 P1 H1 (cutF F1 vs) D dsF (dsr' ++ r2) (wipe σ4 vs1) (wipeR ρ' vs1) P' H F' ∧ compL vs1 b1 c1 e (ds1.drop j) ρ' = .ok dsr' ρ7,
                      ⟨_, rfl, Nat.zero_le _, ρ6, P6, F6, r1, (a6.re w4).rebase, e1⟩, ?_⟩
                    rintro j k H9 ⟨rfl, hj, ρ9, P9, F9, dsr9, a9, c9⟩
                    obtain ⟨z1, z2⟩ := yl1 j P9 H9 a9.bs a9.nw.ex
                    by_cases hjt : j < ds1.length
                    · obtain ⟨go1, z3⟩ := z2 hjt
                      refine .inr ⟨go1, fun H => j + 1 ≤ ds1.length ∧ ∃ ρ' P' F' dsr', Acc G P6 P1 H1 (cutF F1 vs) D dsF (dsr' ++ r2) (wipe σ4 vs1) (wipeR ρ' vs1) P' H F' ∧ compL vs1 b1 c1 e (ds1.drop (j + 1)) ρ' = .ok dsr' ρ7, fun H' ⟨q1, q2⟩ => ⟨_, by omega, rfl, q1, q2⟩, fun x1 H10 hy1 => ?_⟩
                      obtain ⟨P10, d1, al1, hd1, hdp1⟩ := z3 x1 H10 hy1
                      have ed1 : ds1.drop j = d1 :: ds1.drop (j + 1) := by
                        rw [List.drop_eq_getElem_cons hjt]
                        have := (List.getElem?_eq_some_iff.mp hd1).2
                        rw [this]
                      rw [ed1] at c9
                      have a10 := a9.step (al1.now a9.nw) al1.stp
                      rw [← l4]
                      exact turn_rd ht1 hD hz a10 hdp1 c9 fun ρ' P' F' dsr' H' aN cN => ⟨hjt, ρ', P', F', dsr', aN, cN⟩
                    · have ed1 : ds1.drop j = [] := List.drop_eq_nil_of_le (by omega)
                      rw [ed1] at c9
                      have c9 : Out.ok [] ρ9 = Out.ok dsr9 ρ7 := c9
                      cases c9
                      exact .inl ⟨z1 (by omega), hlt, _, P9, F9, r2, (a9.re (now_wipe2 a9.nw hv fun j hj => by rw [wipe_out fun m => hj (hv j m)]; exact off4 j hj)).of_base P1 a9.st.ex, e2⟩
      · have ed : ds.drop i = [] := List.drop_eq_nil_of_le (by omega)
        rw [ed] at hc
        have hc : Out.ok [] ρ2 = Out.ok dsr ρF := hc
        cases hc
        obtain ⟨accV, accD, q1, q2, q3⟩ := a2.ls
        rw [List.append_nil] at q3
        subst q3
        obtain ⟨nG, sG⟩ := now_glue n1 a2.nw a2.st
        refine .inl ⟨y1 (by omega), h1 _ P2 H2 _ (fun x => x = D) nG sG ⟨⟨D, accV, rfl, rfl, q1, q2⟩, fun b hb => by rw [hb]; exact a2.np, fun b hb => by rw [hb, q1]; exact Option.some_ne_none _, fun b hb i q => ?_, fun b u hb e => by rw [hb, q1] at e; cases e; rfl⟩ fun b hb => .inr (by rw [hb]; exact hD)⟩
        rw [hb] at q
        rcases q with ⟨_, q⟩ | ⟨_, q⟩
        · exact hF1 i q
        · exact a2.nf i q
end
end Mi
end
section
set_option Elab.async false
set_option linter.all false
set_option maxRecDepth 100000
/-! Ev17: the rules for comprehensions; the def of a list's place; try; the body of a def -/
namespace Mi
open PySem PySem.Spec PyProof.Rows L2

theorem Cxt.blk {G : Glb} {X : Cx} {W : WX} {k : Nat} (c : Cxt G X W k) (s : Shared) (H : Hp) (scope : Scope) (cenv : Env) (fp : List Addr) : Cxt G (X.blk s H scope cenv fp) noW k :=
  ⟨c.K, c.calm, c.room, c.gd, fun _ _ x => by
    obtain ⟨_, _, _, _, _, _, _, _, _, _, _, _, _, _, _, _, z⟩ := x
    exact z.elim, c.nd⟩
section
variable {X : Cx} {G : Glb} {W : WX} {k n i : Nat} {π : List Bool} {elt tg iter tg1 iter1 t t1 : Expr} {scope : Scope} {own : List (Str × Nat)} {vs vs1 : List Nat} {pos spos py : Pos} {fi fi1 : FI} {b b1 : FB} {c c1 : FT} {e : FE} {y : Str} {tt tt1 : TT} {ifs ifs1 : List Expr}
/-- the tests of a clause -/
structure Tst (G : Glb) (X : Cx) (ifs : List Expr) (c : FT) : Prop where
  ex : ∃ tt, PTs X ifs tt ∧ ∀ σ H Q, tT G noW c σ H Q → tt σ H Q
theorem tst0 : Tst G X [] cT := ⟨tYes, pts_nil, fun σ H Q ⟨ρ, P, F, nw, h⟩ => h P H F nw Stp.refl⟩
theorem tst1 (h : PT X t (tT G noW c)) : Tst G X [t] c := ⟨_, pts_one h, fun _ _ _ h => h⟩
theorem tI_len (hn : n = X.N.length) : n = X.N.length := hn
/-- [elt for tg in iter if ..] -/
theorem e_comp (cx : Cxt G X W k) (hn : X.N.length = n) (hi : PI X tg iter (tI G W fi)) (ok : blkC X.N X.env.scope scope own = true) (hvs : own.map (·.2) = vs) (hp : blkPi n vs = π)
    (hg : ∀ (s : Shared) (H : Hp) (C : Addr) (cl : List (Str × Addr)) (fp : List Addr), PG (X.blk s H scope (compEnvC scope cl C X.env) fp) tg (tG G n π b))
    (ht : ∀ (s : Shared) (H : Hp) (C : Addr) (cl : List (Str × Addr)) (fp : List Addr), PTs (X.blk s H scope (compEnvC scope cl C X.env) fp) ifs tt) (htt : ∀ σ H Q, tT G noW c σ H Q → tt σ H Q)
    (he : ∀ (s : Shared) (H : Hp) (C : Addr) (cl : List (Str × Addr)) (fp : List Addr), PE (X.blk s H scope (compEnvC scope cl C X.env) fp) elt (tE G noW e)) (hs : ∀ x, foldedSetIterable iter X.env x = pure x := by intro _; rfl) :
    PE X (.ListComp elt [⟨tg, iter, ifs, 0⟩] scope pos) (tE G W (fComp vs fi b c e)) := by
  constructor
  intro pins s σ H Q I h
  have hl : σ.length = n := I.len.trans hn
  subst hvs hp
  exact (pe_lc (wi := tI G W fi) (te := tE G noW e) cx.calm cx.nd hi (blkOk_by ok) hg ht he hs).run pins s σ H Q I (by rw [← hl]; exact comp_rd htt h)
/-- name = [..] -/
theorem s_setComp (cx : Cxt G X W k) (hn : X.N.length = n) (hy : X.N[i]? = some y) (hyl : X.env.scope.names.lookup y = some .local) (hin : i < n) (hpi : ioAt π i = false) (hi : PI X tg iter (tI G W fi)) (ok : blkC X.N X.env.scope scope own = true) (hvs : own.map (·.2) = vs) {π' : List Bool} (hp : blkPi n vs = π')
    (hg : ∀ (s : Shared) (H : Hp) (C : Addr) (cl : List (Str × Addr)) (fp : List Addr), PG (X.blk s H scope (compEnvC scope cl C X.env) fp) tg (tG G n π' b))
    (ht : ∀ (s : Shared) (H : Hp) (C : Addr) (cl : List (Str × Addr)) (fp : List Addr), PTs (X.blk s H scope (compEnvC scope cl C X.env) fp) ifs tt) (htt : ∀ σ H Q, tT G noW c σ H Q → tt σ H Q)
    (he : ∀ (s : Shared) (H : Hp) (C : Addr) (cl : List (Str × Addr)) (fp : List Addr), PE (X.blk s H scope (compEnvC scope cl C X.env) fp) elt (tE G noW e)) (hs : ∀ x, foldedSetIterable iter X.env x = pure x := by intro _; rfl)
    (hsw : swapsWith (.ListComp elt [⟨tg, iter, ifs, 0⟩] scope pos) (some (.Name y py)) spos.line X.env = pure true) :
    PS X (.Assign [.Name y py] (.ListComp elt [⟨tg, iter, ifs, 0⟩] scope pos) spos) (tS G W n π (sSet i (fComp vs fi b c e))) := by
  constructor
  intro pins s σ H D I h
  have hl : σ.length = n := I.len.trans hn
  have h2 := set_rd hin hpi h
  subst hvs hp
  exact (ps_setLc (i := i) (wi := tI G W fi) (te := tE G noW e) cx.calm cx.nd hy hyl hsw hi (blkOk_by ok) hg ht he hs).run pins s σ H D I (by rw [← hl]; exact comp_rd htt h2)
theorem e_comp2 (cx : Cxt G X W k) (hn : X.N.length = n) (hi : PI X tg iter (tI G W fi)) (ok : blkC X.N X.env.scope scope own = true) (hvs : own.map (·.2) = vs) (hv : ∀ j ∈ vs1, j ∈ vs) {π1 : List Bool} (hp : blkPi n vs = π) (hp1 : blkPi n vs1 = π1)
    (hg : ∀ (s : Shared) (H : Hp) (C : Addr) (cl : List (Str × Addr)) (fp : List Addr), PG (X.blk s H scope (compEnvC scope cl C X.env) fp) tg (tG G n π b))
    (ht : ∀ (s : Shared) (H : Hp) (C : Addr) (cl : List (Str × Addr)) (fp : List Addr), PTs (X.blk s H scope (compEnvC scope cl C X.env) fp) ifs tt) (htt : ∀ σ H Q, tT G noW c σ H Q → tt σ H Q)
    (hi1 : ∀ (s : Shared) (H : Hp) (C : Addr) (cl : List (Str × Addr)) (fp : List Addr), PI (X.blk s H scope (compEnvC scope cl C X.env) fp) tg1 iter1 (tI G noW fi1))
    (hg1 : ∀ (s : Shared) (H : Hp) (C : Addr) (cl : List (Str × Addr)) (fp : List Addr), PG (X.blk s H scope (compEnvC scope cl C X.env) fp) tg1 (tG G n π1 b1))
    (ht1 : ∀ (s : Shared) (H : Hp) (C : Addr) (cl : List (Str × Addr)) (fp : List Addr), PTs (X.blk s H scope (compEnvC scope cl C X.env) fp) ifs1 tt1) (htt1 : ∀ σ H Q, tT G noW c1 σ H Q → tt1 σ H Q)
    (he : ∀ (s : Shared) (H : Hp) (C : Addr) (cl : List (Str × Addr)) (fp : List Addr), PE (X.blk s H scope (compEnvC scope cl C X.env) fp) elt (tE G noW e)) (hs : ∀ x, foldedSetIterable iter X.env x = pure x := by intro _; rfl) (hs1 : ∀ env x, foldedSetIterable iter1 env x = pure x := by intro _ _; rfl) :
    PE X (.ListComp elt [⟨tg, iter, ifs, 0⟩, ⟨tg1, iter1, ifs1, 0⟩] scope pos) (tE G W (fComp2 vs vs1 fi b c fi1 b1 c1 e)) := by
  constructor
  intro pins s σ H Q I h
  have hl : σ.length = n := I.len.trans hn
  subst hvs hp hp1
  exact (pe_lc2 (wi := tI G W fi) (te := tE G noW e) cx.calm cx.nd hi (blkOk_by ok) hv hg ht hi1 hg1 ht1 he hs hs1).run pins s σ H Q I (by rw [← hl]; exact comp2_rd htt htt1 hv h)
theorem s_setComp2 (cx : Cxt G X W k) (hn : X.N.length = n) (hy : X.N[i]? = some y) (hyl : X.env.scope.names.lookup y = some .local) (hin : i < n) (hpi : ioAt π i = false) (hi : PI X tg iter (tI G W fi)) (ok : blkC X.N X.env.scope scope own = true) (hvs : own.map (·.2) = vs) (hv : ∀ j ∈ vs1, j ∈ vs) {π' π1 : List Bool} (hp : blkPi n vs = π') (hp1 : blkPi n vs1 = π1)
    (hg : ∀ (s : Shared) (H : Hp) (C : Addr) (cl : List (Str × Addr)) (fp : List Addr), PG (X.blk s H scope (compEnvC scope cl C X.env) fp) tg (tG G n π' b))
    (ht : ∀ (s : Shared) (H : Hp) (C : Addr) (cl : List (Str × Addr)) (fp : List Addr), PTs (X.blk s H scope (compEnvC scope cl C X.env) fp) ifs tt) (htt : ∀ σ H Q, tT G noW c σ H Q → tt σ H Q)
    (hi1 : ∀ (s : Shared) (H : Hp) (C : Addr) (cl : List (Str × Addr)) (fp : List Addr), PI (X.blk s H scope (compEnvC scope cl C X.env) fp) tg1 iter1 (tI G noW fi1))
    (hg1 : ∀ (s : Shared) (H : Hp) (C : Addr) (cl : List (Str × Addr)) (fp : List Addr), PG (X.blk s H scope (compEnvC scope cl C X.env) fp) tg1 (tG G n π1 b1))
    (ht1 : ∀ (s : Shared) (H : Hp) (C : Addr) (cl : List (Str × Addr)) (fp : List Addr), PTs (X.blk s H scope (compEnvC scope cl C X.env) fp) ifs1 tt1) (htt1 : ∀ σ H Q, tT G noW c1 σ H Q → tt1 σ H Q)
    (he : ∀ (s : Shared) (H : Hp) (C : Addr) (cl : List (Str × Addr)) (fp : List Addr), PE (X.blk s H scope (compEnvC scope cl C X.env) fp) elt (tE G noW e)) (hs : ∀ x, foldedSetIterable iter X.env x = pure x := by intro _; rfl) (hs1 : ∀ env x, foldedSetIterable iter1 env x = pure x := by intro _ _; rfl)
    (hsw : swapsWith (.ListComp elt [⟨tg, iter, ifs, 0⟩, ⟨tg1, iter1, ifs1, 0⟩] scope pos) (some (.Name y py)) spos.line X.env = pure true) :
    PS X (.Assign [.Name y py] (.ListComp elt [⟨tg, iter, ifs, 0⟩, ⟨tg1, iter1, ifs1, 0⟩] scope pos) spos) (tS G W n π (sSet i (fComp2 vs vs1 fi b c fi1 b1 c1 e))) := by
  constructor
  intro pins s σ H D I h
  have hl : σ.length = n := I.len.trans hn
  have h2 := set_rd hin hpi h
  subst hvs hp hp1
  exact (ps_setLc2 (i := i) (wi := tI G W fi) (te := tE G noW e) cx.calm cx.nd hy hyl hsw hi (blkOk_by ok) hv hg ht hi1 hg1 ht1 he hs hs1).run pins s σ H D I (by rw [← hl]; exact comp2_rd htt htt1 hv h2)
end

/-! ### [f, g, ..][e](..) -/
section
variable {X : Cx} {G : Glb} {W : WX} {k : Nat} {e : Expr} {es : List Expr} {p pos p1 p2 : Pos} {fe : FE} {fa : FA}
/-- names of defs, their places, what they promise -/
structure Def1 (G : Glb) (X : Cx) (k : Nat) (io : List Bool) (nf : Expr) (spec : CSpec) : Prop where
  ex : ∃ (x : Str) (p : Pos) (f : Addr) (fd : FuncData) (ps : List Str), nf = .Name x p ∧ FnG X.prog X.w X.K X.mg X.base k f fd ps (spV G io spec) ∧ X.mg x = some (.ref f) ∧ PySem.W.keepIn X.K (.ref f) = true ∧ Binds X.K fd ps [] ∧ Gl X x ∧ (x == ("__debug__" : Str)) = false
inductive Defs (G : Glb) (X : Cx) (k : Nat) (io : List Bool) : List Expr → List CSpec → Prop
  | nil : Defs G X k io [] []
  | cons {e : Expr} {es : List Expr} {s : CSpec} {ss : List CSpec} : Def1 G X k io e s → Defs G X k io es ss → Defs G X k io (e :: es) (s :: ss)
theorem def1 {x : Str} {f : Addr} {fd : FuncData} {ps : List Str} {io : List Bool} {spec : CSpec} (F : FnG X.prog X.w X.K X.mg X.base k f fd ps (spV G io spec)) (hm : X.mg x = some (.ref f)) (hk : PySem.W.keepIn X.K (.ref f) = true) (hb : Binds X.K fd ps []) (hg : Gl X x := by rfl) (hd : (x == ("__debug__" : Str)) = false := by decide) :
    Def1 G X k io (.Name x p) spec := ⟨x, p, f, fd, ps, rfl, F, hm, hk, hb, hg, hd⟩
noncomputable def pickO (io : List Bool) (ss : List CSpec) (fa : FA) (o : Opd) (ρ : Rho) : Out Opd := match look ρ o with
  | some (.dat (.int i)) => match atI ss i with
    | some s => fCall io s fa ρ
    | none => .stk
  | _ => .stk
noncomputable def fPick (io : List Bool) (ss : List CSpec) (fe : FE) (fa : FA) : FE := fun ρ => (fe ρ).bind fun o ρ1 => pickO io ss fa o ρ1
theorem defs_get {io : List Bool} : ∀ {es : List Expr} {ss : List CSpec} {i : Nat} {s : CSpec}, Defs G X k io es ss → ss[i]? = some s → ∃ nf, es[i]? = some nf ∧ Def1 G X k io nf s
  | _, _, 0, s, .cons h t, e => by simp at e; subst e; exact ⟨_, rfl, h⟩
  | _, _, i + 1, s, .cons h t, e => by
    obtain ⟨nf, h1, h2⟩ := defs_get t (i := i) (by simpa using e)
    exact ⟨nf, by simpa using h1, h2⟩
  | _, _, _, _, .nil, e => by simp at e
/-- the names are read -/
theorem pa_defs {io : List Bool} {es : List Expr} {ss : List CSpec} (h : Defs G X k io es ss) : ∃ vs : List V, vs.length = ss.length ∧ (∀ (i : Nat) (s : CSpec), ss[i]? = some s → ∃ (f : Addr) (fd : FuncData) (ps : List Str), vs[i]? = some (V.ref f) ∧ FnG X.prog X.w X.K X.mg X.base k f fd ps (spV G io s) ∧ PySem.W.keepIn X.K (Value.ref f) = true ∧ Binds X.K fd ps []) ∧ PA X es (fun σ H Q => Q vs H) := by
  induction h with
  | nil => exact ⟨[], rfl, fun i s h => by simp at h, pa_nil⟩
  | @cons e es s0 ss d t ih =>
    obtain ⟨x, p, f, fd, ps, rfl, F, hm, hk, hb, hg, hd⟩ := d
    obtain ⟨vs, h1, h2, h3⟩ := ih
    refine ⟨V.ref f :: vs, by simp [h1], fun i s h => ?_, pa_cons (te := tC (V.ref f)) (pe_glob hg hm rfl hd) h3 rfl⟩
    cases i with
    | zero => simp at h; subst h; exact ⟨f, fd, ps, rfl, F, hk, hb⟩
    | succ i => simpa using h2 i s (by simpa using h)
/-- the list of the defs, new, and its item -/
theorem e_pick {io : List Bool} {ss : List CSpec} {ns : List Expr} {ei a : Expr} {as : List Expr} (c : Cxt G X W k) (hd : Defs G X k io ns ss) (hi : PE X ei (tE G W fe)) (hlen : ss.length ≤ 100000 := by decide) (hs : PlainIxT ei := by intro _ _; rfl)
    (ha : PA X (a :: as) (tA G W fa)) (he : starEach (a :: as) X.env = (false, eval a X.env) :: starEach as X.env := by rfl) (hpl : (backTo pos (starEach as X.env)).any (·.1) = false := by rfl)
    (hev : eval (.Call (.Subscript (.List ns p1) ei p2) (a :: as) [] pos) X.env = (do callWith pos (← eval (.Subscript (.List ns p1) ei p2) X.env) [] (backTo pos (starEach (a :: as) X.env)) (backToKw pos (keywordEach [] X.env))) := by rfl) :
    PE X (.Call (.Subscript (.List ns p1) ei p2) (a :: as) [] pos) (tE G W (fPick io ss fe fa)) := by
  obtain ⟨vs, v1, v2, v3⟩ := pa_defs hd
  constructor
  intro pins s σ H Q I h
  obtain ⟨ρ, P, F, nw, h⟩ := h
  refine Call_ ?_ hev
  have key : tOp (rIxL X.K) (tLst fun σ H Q => Q vs H) (tE G W fe) σ H (fun f H1 => ∃ fa' fd ps s', f = V.ref fa' ∧ FnG X.prog X.w X.K X.mg X.base k fa' fd ps (spV G io s') ∧ PySem.W.keepIn X.K (Value.ref fa') = true ∧ Binds X.K fd ps [] ∧ tE G W (fCall io s' fa) σ H1 Q) := by
    refine ⟨by rw [v1, sizeLine_eq]; omega, fun l hl => ?_⟩
    have hPl : P l = none := nw.ex.free hl
    have hFl : ∀ i, ¬ F i l := fun i q => nw.al i l q hl
    have n0 : Now G P (upd H l (.lst vs)) σ ρ F := now_out nw hPl hFl
    have s0 : Stp P H F P (upd H l (.lst vs)) F := stp_out Stp.refl hl
    refine tE_bind (End := fun P H F => EndO G W P H F σ Q) n0 (EndO.trans s0 h) (fun _ _ z => z) (fun z => z) fun o ρ1 v P1 H1 F1 S e1 h1 n1 s1 hx q1 => ?_
    unfold pickO at h1
    split at h1
    · rename_i i el
      split at h1
      · rename_i s' es
        have hv := ow_int (hx.look n1 el)
        subst hv
        unfold atI at es
        cases ej : ixN ss.length i with
        | none => rw [ej] at es; cases es
        | some j =>
          rw [ej] at es
          obtain ⟨f, fd, ps, w1, w2, w3, w4⟩ := v2 j s' es
          refine ⟨l, vs, i, V.ref f, rfl, rfl, SqL.of (s1.fr l _ upd_same hFl), ?_, f, fd, ps, s', rfl, w2, w3, w4, ρ1, P1, F1, n1, EndO.trans s1 h1⟩
          unfold atI
          rw [v1, ej]
          exact w1
      · exact h1.elim
    · exact h1.elim
  refine thn ((pe_ix ix_list (pe_lst v3) hi hs).run pins s σ H _ I key) ?_
  rintro fv s1 ⟨x, H1, I1, r1, fa', fd, ps, s', rfl, F1, hk, hb, rd⟩
  obtain rfl : fv = Value.ref fa' := r1
  refine PySem.W.callWith_K (h₀ := X.base) I1.ok.mod.kin hk (thn (ha.run pos pins s1 σ H1 _ I1 (call_rd rd)) ?_) he hpl
  rintro us s2 ⟨vs2, H2, I2, r2, q2⟩
  exact ⟨I2.kIn, run_fnG F1 c hb I2 r2 q2⟩
end

/-! ### the body of a def -/
def outs : List Bool → Rho → List (Option Vl)
  | [], _ => []
  | b :: io, [] => none :: outs io []
  | b :: io, r :: ρ => (if b then r else none) :: outs io ρ
def specOf (io : List Bool) (n : Nat) (f : FS) : CSpec := fun ws => match f (ws.map some ++ List.replicate (n - ws.length) none) with
  | .nx ρ => .ok (.dat .none) (outs io ρ)
  | .ret w ρ => .ok w (outs io ρ)
  | .exc c ρ => .exc c (outs io ρ)
  | _ => .stk
theorem outs_len : ∀ (io : List Bool) (ρ : Rho), (outs io ρ).length = io.length
  | [], _ => rfl
  | b :: io, [] => by simp [outs, outs_len io []]
  | b :: io, r :: ρ => by simp [outs, outs_len io ρ]
theorem outs_at : ∀ {io : List Bool} {ρ : Rho} {i : Nat} {w : Vl}, (outs io ρ)[i]? = some (some w) → ioAt io i = true ∧ ρ[i]? = some (some w)
  | [], _, _, _, h => by simp [outs] at h
  | b :: io, [], 0, _, h => by simp [outs] at h
  | b :: io, [], i + 1, _, h => by
    have := outs_at (io := io) (ρ := []) (i := i) (by simpa [outs] using h)
    simp at this
  | b :: io, r :: ρ, 0, w, h => by
    cases b with
    | false => simp [outs] at h
    | true => exact ⟨rfl, by simpa [outs] using h⟩
  | b :: io, r :: ρ, i + 1, w, h => by
    have := outs_at (io := io) (ρ := ρ) (i := i) (by simpa [outs] using h)
    exact ⟨by rw [ioAt_cons]; exact this.1, by simpa using this.2⟩
/-- the environment at a call's end: what was lent alone -/
theorem now_end {G : Glb} {P H : Hp} {F : Nat → Ad} {σ' : L2.St} {ρ' : Rho} {io : List Bool} {vs : List V} (nw : Now G P H σ' ρ' F) (hp : ∀ j, ioAt io j = true → σ'[j]? = (vs.map some)[j]?) : Now G P H (vs.map some) (outs io ρ') (fun j b => ioAt io j = true ∧ F j b) :=
  ⟨nw.ex, fun i j a h1 h2 => nw.dj i j a h1.2 h2.2, fun i b h => nw.np i b h.2, fun i b h => nw.al i b h.2, fun i w h => by
    obtain ⟨h1, h2⟩ := outs_at h
    obtain ⟨v, h3, h4⟩ := nw.rd i w h2
    exact ⟨v, by rw [← hp i h1]; exact h3, h4.mono (Same.refl P) (fun _ _ _ q => q) fun b hb => ⟨h1, hb⟩⟩, fun i b u h e => nw.kd i b u h.2 e⟩
theorem stp_end {P0 H0 P H : Hp} {F0 F : Nat → Ad} {io : List Bool} (s : Stp P0 H0 F0 P H F) : Stp P0 H0 F0 P H (fun j b => ioAt io j = true ∧ F j b) := ⟨s.ex, s.fr, fun i b h => s.sub i b h.2, s.pn, s.al⟩
theorem ioAt_lt {io : List Bool} {j : Nat} (h : ioAt io j = true) : j < io.length := by
  unfold ioAt at h
  rw [List.getD_eq_getElem?_getD] at h
  by_cases q : j < io.length
  · exact q
  · rw [List.getElem?_eq_none (by omega)] at h; cases h
/-- a def keeps its promise -/
theorem fn_def {P : Program} {w : World} {G : Glb} {mg : Str → Option Value} {base : Heap} {k : Nat} {f : Addr} {name qual : Str} {st : Stmt} {fd : FuncData} {N ps : List Str} {io : List Bool} {n : Nat} {fs : FS}
    (Fn : Fun G.K name qual st f fd) (S : FnScope N ps (defScope st)) (hio : io.length = ps.length) (hn : N.length = n)
    (body : ∀ (cdv : Value) (A : Around) (outer : List Env) (s : Shared) (H : Hp) (E : XK), Cxt G (cxOf (L2N.CX P w) P w G.K mg base N qual (defScope st) f cdv A outer s H E) (fun cls d _ H => E cls d H) k →
      PSs (cxOf (L2N.CX P w) P w G.K mg base N qual (defScope st) f cdv A outer s H E) (defBody st) (tS G (fun cls d _ H => E cls d H) n io fs)) :
    FnG P w G.K mg base (k + 1) f fd ps (spV G io (specOf io n fs)) := by
  obtain ⟨oc, od, kV, doc, pm, an, cdv, ct, osl, rfl, lk, hcd⟩ := Fn.ex
  refine fn_ofG lk hcd S (fun vs H Q E h => (spV_len h).trans hio) fun A outer s H vs Q E room h => ?_
  have cx : Cxt G (cxOf (L2N.CX P w) P w G.K mg base N qual (defScope st) f cdv A outer s H E) (fun cls d _ H => E cls d H) k := ⟨rfl, rfl, room.rm, room.gd, L2N.takes_of rfl rfl rfl rfl, S.nd⟩
  refine ⟨_, body cdv A outer s H E cx, ?_⟩
  obtain ⟨ws, P0, F0, l1, l2, nw, hF, h⟩ := h
  have hps : ps.length ≤ N.length := by
    have := congrArg List.length S.pre
    rw [List.length_take] at this
    omega
  have start_len : (L2.start N vs).length = n := by
    unfold L2.start
    rw [List.length_append, List.length_map, List.length_replicate]
    omega
  have start_at : ∀ j, j < vs.length → (L2.start N vs)[j]? = (vs.map some)[j]? := fun j hj => by
    unfold L2.start
    rw [List.getElem?_append_left (by simpa using hj)]
  refine ⟨ws.map some ++ List.replicate (n - ws.length) none, P0, F0, ⟨nw.ex, nw.dj, nw.np, nw.al, fun i w' e => ?_, nw.kd⟩, start_len, ?_⟩
  · by_cases hi : i < ws.length
    · rw [List.getElem?_append_left (by simpa using hi)] at e
      obtain ⟨v, h1, h2⟩ := nw.rd i w' e
      exact ⟨v, by rw [start_at i (by omega)]; exact h1, h2⟩
    · rw [List.getElem?_append_right (by simpa using hi), List.getElem?_replicate] at e
      split at e <;> cases e
  · unfold specOf at h
    have pin : ∀ {σ' : L2.St}, Kp n io (L2.start N vs) σ' → ∀ j, ioAt io j = true → σ'[j]? = (vs.map some)[j]? := fun {σ'} kp j hj => by
      rw [kp.pin j hj]
      exact start_at j (by have := ioAt_lt hj; omega)
    cases e : fs (ws.map some ++ List.replicate (n - ws.length) none) with
    | stk => rw [e] at h; exact h.elim
    | bk ρ' => rw [e] at h; exact h.elim
    | ct ρ' => rw [e] at h; exact h.elim
    | nx ρ' =>
      simp only [e] at h
      exact fun σ' P' H' F' n1 s1 k1 => h .non P' H' _ nobody (now_end n1 (pin k1)) (fun j b q => q.1) (stp_end s1) ⟨.non, fun _ z => z.elim, fun _ z => z.elim, fun _ z => z.elim, fun _ _ z => z.elim⟩ (fun _ z => z.elim) (outs_len _ _)
    | exc c ρ' =>
      simp only [e] at h
      exact fun σ' P' H' F' n1 s1 k1 => h P' H' _ (now_end n1 (pin k1)) (fun j b q => q.1) (stp_end s1) (outs_len _ _)
    | ret w' ρ' =>
      simp only [e] at h
      exact fun v σ' P' H' F' S n1 s1 k1 t src => h v P' H' _ S (now_end n1 (pin k1)) (fun j b q => q.1) (stp_end s1) ⟨t.ow, t.np, t.al, fun b hb i q => t.dj b hb i q.2, t.kd⟩ src (outs_len _ _)
/-- another word for the same promise -/
theorem spec_imp {P : Program} {w : World} {G : Glb} {mg : Str → Option Value} {base : Heap} {k : Nat} {f : Addr} {fd : FuncData} {ps : List Str} {io : List Bool} {s s' : CSpec} (F : FnG P w G.K mg base k f fd ps (spV G io s)) (h : ∀ ws, s' ws ≠ .stk → s ws = s' ws) : FnG P w G.K mg base k f fd ps (spV G io s') :=
  F.imp fun vs H Q E ⟨ws, P0, F0, l1, l2, nw, hF, q⟩ => ⟨ws, P0, F0, l1, l2, nw, hF, by
    have hn : s' ws ≠ .stk := fun e => by rw [e] at q; exact q
    rw [h ws hn]
    exact q⟩
end Mi
end
section
set_option Elab.async false
set_option linter.all false
set_option maxRecDepth 100000
/-! Ev18: names of defs and classes; raise; try .. except .. as -/
namespace Mi
open PySem PySem.Spec PyProof.Rows L2

/-- a def of the module, by its name -/
structure Cal (P : Program) (G : Glb) (mg : Str → Option Value) (base : Heap) (k : Nat) (name : Str) (io : List Bool) (spec : CSpec) : Prop where
  ex : ∃ (f : Addr) (fd : FuncData) (ps : List Str), FnG P G.w G.K mg base k f fd ps (spV G io spec) ∧ mg name = some (.ref f) ∧ PySem.W.keepIn G.K (.ref f) = true ∧ Binds G.K fd ps []
section
variable {P : Program} {G : Glb} {mg : Str → Option Value} {base : Heap} {k j : Nat} {name : Str} {io : List Bool} {spec spec' : CSpec}
theorem Cal.mono (c : Cal P G mg base j name io spec) (h : j ≤ k) : Cal P G mg base k name io spec := by
  obtain ⟨f, fd, ps, F, r⟩ := c.ex
  exact ⟨f, fd, ps, F.mono h, r⟩
theorem Cal.imp (c : Cal P G mg base k name io spec) (h : ∀ ws, spec' ws ≠ .stk → spec ws = spec' ws) : Cal P G mg base k name io spec' := by
  obtain ⟨f, fd, ps, F, r⟩ := c.ex
  exact ⟨f, fd, ps, spec_imp F h, r⟩
end
/-- what stands in the module of a def -/
structure Def (G : Glb) (mg : Str → Option Value) (name : Str) (st : Stmt) (ps : List Str) : Prop where
  ex : ∃ (f : Addr) (fd : FuncData), Fun G.K name name st f fd ∧ mg name = some (.ref f) ∧ PySem.W.keepIn G.K (.ref f) = true ∧ Binds G.K fd ps []
theorem Def.cal {P : Program} {G : Glb} {mg : Str → Option Value} {base : Heap} {k n : Nat} {name : Str} {st : Stmt} {N ps : List Str} {io : List Bool} {fs : FS} (d : Def G mg name st ps) (S : FnScope N ps (defScope st)) (hio : io.length = ps.length) (hn : N.length = n)
    (body : ∀ (f : Addr) (cdv : Value) (A : Around) (outer : List Env) (s : Shared) (H : Hp) (E : XK), Cxt G (cxOf (L2N.CX P G.w) P G.w G.K mg base N name (defScope st) f cdv A outer s H E) (fun cls d _ H => E cls d H) k →
      PSs (cxOf (L2N.CX P G.w) P G.w G.K mg base N name (defScope st) f cdv A outer s H E) (defBody st) (tS G (fun cls d _ H => E cls d H) n io fs)) :
    Cal P G mg base (k + 1) name io (specOf io n fs) := by
  obtain ⟨f, fd, Fn, hm, hk, hb⟩ := d.ex
  exact ⟨f, fd, ps, fn_def Fn S hio hn (body f), hm, hk, hb⟩

abbrev bmV : List Value := [.type "ValueError", .type "Exception", .type "BaseException", .type "object"]
/-- a class of errors -/
structure Exc1 (K : PySem.W.Frag) (mg : Str → Option Value) (name : Str) (C : Addr) : Prop where
  g : mg name = some (.ref C)
  x : PySem.W.excIn K C bmV "ValueError.__new__" = true
  k : PySem.W.keepIn K (.ref C) = true
  b : PySem.W.subIn K (.ref C) (.type "BaseException") = some true
  t : PySem.W.typeIn K (.ref C) = some (.type "type")
/-- what a name of the builtins stands for: nothing of the module's -/
structure NoG (mg : Str → Option Value) (l : List Str) : Prop where
  n : ∀ x, l.contains x = true → mg x = none
section
variable {X : Cx} {G : Glb} {W : WX} {k j n i : Nat} {π : List Bool} {x m : Str} {e : Expr} {es : List Expr} {p p2 pos np pos' : Pos} {fa : FA} {io : List Bool} {spec : CSpec} {c : Nat}
theorem e_callC (cx : Cxt G X W k) (c : Cal X.prog G X.mg X.base j x io spec) (hw : X.w = G.w) (hj : j ≤ k) (ha : PA X (e :: es) (tA G W fa)) (hg : Gl X x := by rfl) (hdb : (x == ("__debug__" : Str)) = false := by decide)
    (he : starEach (e :: es) X.env = (false, eval e X.env) :: starEach es X.env := by rfl) (hpl : (backTo pos (starEach es X.env)).any (·.1) = false := by rfl) :
    PE X (.Call (.Name x p) (e :: es) [] pos) (tE G W (fCall io spec fa)) := by
  obtain ⟨f, fd, ps, F, hm, hk, hb⟩ := c.ex
  exact e_call (ps := ps) (fd := fd) (f := f) cx (by rw [hw, cx.K]; exact F.mono hj) hm (by rw [cx.K]; exact hk) (by rw [cx.K]; exact hb) ha hg hdb he hpl
theorem def1C (cx : Cxt G X W k) (c : Cal X.prog G X.mg X.base j x io spec) (hw : X.w = G.w) (hj : j ≤ k) (hg : Gl X x := by rfl) (hd : (x == ("__debug__" : Str)) = false := by decide) : Def1 G X k io (.Name x p) spec := by
  obtain ⟨f, fd, ps, F, hm, hk, hb⟩ := c.ex
  exact def1 (ps := ps) (fd := fd) (f := f) (by rw [hw, cx.K]; exact F.mono hj) hm (by rw [cx.K]; exact hk) (by rw [cx.K]; exact hb) hg hd
theorem s_raiseX {q : Nat} (cx : Cxt G X W k) (T : Exc1 G.K X.mg x (G.ea c)) (hg : Gl X x := by rfl) (hdb : (x == ("__debug__" : Str)) = false := by decide) :
    PS X (.Raise (some (.Call (.Name x p) [.Constant (.str m) q p2] [] pos')) none pos) (tS G W n π (sRaise c)) :=
  s_raise cx (L2N.pmk_own PySem.F.excBase_ValueError (by rw [cx.K]; exact T.x) T.g (by rw [cx.K]; exact T.k) (raises_own (by rw [cx.K]; exact T.b) (by rw [cx.K]; exact T.t)) hg hdb)

/-! ### try .. except .. as -/
/-- what the suite's def does with the exception: a text by the class's number -/
structure ErrF (P : Program) (G : Glb) (mg : Str → Option Value) (base : Heap) (k : Nat) (name : Str) (r : Nat → Option Str) : Prop where
  ex : ∃ (f : Addr) (fd : FuncData) (y : Str), mg name = some (.ref f) ∧ PySem.W.keepIn G.K (.ref f) = true ∧ Binds G.K fd [y] [] ∧
    ∀ (A : Around) (outer : List Env) (s : Shared) (H : Hp) (args : Args) (Q : VK) (E : XK) (p : Addr × Obj) (c : Nat) (t : Str), L2H.RoomH k A → L2H.Hot1 A p → L2H.PinOk outer H s p → Env0 P G.w G.K mg base A outer s H → BindsTo s fd args ([y].zip [.ref p.1]) →
      L2N.Zn (.ref (G.ea c)) none p.2 → r c = some t → (∀ H', Same H H' → Q (.str t) H') → codeAny (model P G.w) A (.call (.ref f) args) (CR (L2N.CX P G.w) outer P G.w H s Q E) s
def sTry (r : Nat → Option Str) (fb : FS) : FS := fun ρ => match fb ρ with
  | .exc c ρ1 => match r c with
    | some t => .ret (.dat (.str t)) ρ1
    | none => .stk
  | z => z
theorem Cxt.tr (cx : Cxt G X W k) {W' : WX} {pn : List (Addr × Obj)} {xe : Value → Shared → Prop} (tk : L2N.Takes (X.tr pn xe) W') : Cxt G (X.tr pn xe) W' k := ⟨cx.K, cx.calm, cx.room, cx.gd, tk, cx.nd⟩
theorem s_try {M : Str} {C : Value} {b : List Stmt} {fb : FS} {r : Nat → Option Str} {nm : Str} {np2 np3 cp rp : Pos} (cx : Cxt G X W k) (hs : X.stack = X.env :: X.outer) (hf : X.env.frame = some X.env.locals) (hi : X.N[i]? = some x) (hln : X.env.kindOf x = some .local) (hin : i < n) (hpi : ioAt π i = false)
    (hC : Names X M C) (hsub : ∀ c t, r c = some t → PySem.W.exmOne G.K (.ref (G.ea c)) C = some true) (hw : X.w = G.w) (er : ErrF X.prog G X.mg X.base j nm r) (hj : j ≤ k)
    (hb : ∀ (W' : WX) (pn : List (Addr × Obj)) (xe : Value → Shared → Prop), Cxt G (X.tr pn xe) W' k → PassesOwn (model X.prog X.w) X.A X.env xe → PSs (X.tr pn xe) b (tS G W' n π fb))
    (hg : Gl X nm := by rfl) (hdb : (nm == ("__debug__" : Str)) = false := by decide) (hxd : (x == ("__debug__" : Str)) = false := by decide) (hcd : (x == ("__classdict__" : Str)) = false := by decide) :
    PS X (.Try b [.ExceptHandler (some (.Name M np)) (some x) [.Return (some (.Call (.Name nm np2) [.Name x np3] [] cp)) rp] pos'] [] [] pos) (tS G W n π (sTry r fb)) := by
  obtain ⟨f, fd, y, hm, hk, hbd, run⟩ := er.ex
  refine PS.imp (L2N.ps_try_as (Wout := W) (i := i) (c := C) (tb := fun W' => tS G W' n π fb)
    (ts := fun a cls d D σ H => ∃ c t, cls = .ref (G.ea c) ∧ d = none ∧ r c = some t ∧ σ[i]? = some (some (.ref a)) ∧ ∀ H', Same H H' → D.rt (.str t) H')
    hs hf cx.nd hi hln hC cx.tk (fun W' pn xe tk po => hb W' pn xe (cx.tr tk) po) (fun a oe cls d pn hz hvs => ?_)) fun D σ H ⟨ρ, P, F, nw, hl, h⟩ => ?_
  · refine pss_one ⟨fun pins s σ H D I ⟨c, t, hc, hd, hr, hsi, hq⟩ => ?_⟩
    subst hc hd
    have var : PE (X.suite a ((a, oe) :: pn)) (.Name x np3) (tVar i) := pe_var hi (.inl hln) hxd hcd
    have pa : PA (X.suite a ((a, oe) :: pn)) [.Name x np3] (tCons (tVar i) tNil) := pa_cons var pa_nil rfl
    refine wpAny_Return_some (wpAny_Call_Name_kw (ld_glob I hg hm (PySem.W.callWith_K (h₀ := X.base) (K := X.K) I.ok.mod.kin (by rw [cx.K]; exact hk) (thn (pa.run cp pins s σ H (fun vs H1 => vs = [V.ref a] ∧ H = H1) I ⟨_, hsi, rfl, rfl⟩) fun us s1 ⟨vs, H1, I1, r1, ev, eH⟩ => ?_) rfl rfl) hdb))
    subst ev eH
    refine ⟨I1.kIn, ?_⟩
    obtain rfl := Vals.ref1 r1
    show wpAny _ _ (call (.ref f) [.ref a]) _ _ _
    have hp : (a, oe) ∈ ((a, oe) :: pn) ++ pins := List.mem_append_left _ List.mem_cons_self
    have P1 := I1.pin (a, oe) hp
    have hpin : L2H.PinOk X.stack H s1 (a, oe) := ⟨P1.1, P1.2.1, fun hm' => (List.mem_cons.mp (I1.stkSub a hm')).elim P1.2.2.1 P1.2.2.2.1, P1.2.2.2.2⟩
    obtain ⟨vs, hvs⟩ := hvs
    have hot : L2H.Hot1 (X.A.mark (some (.ref a))) (a, oe) := ⟨rfl, vs, hvs, hz.2.2 vs hvs⟩
    have bd := hbd s1 [.ref a] (by rw [← cx.K]; exact I1.kIn) rfl
    rw [List.append_nil] at bd
    have e0 : Env0 X.prog G.w G.K X.mg X.base (X.A.mark (some (.ref a))) X.stack s1 H := by
      have := I1.env0
      rw [← hw, ← cx.K]
      exact this
    refine wpAny_call (codeAny_mono (by rw [hw]; exact run (X.A.mark (some (.ref a))) X.stack s1 H ⟨[.ref a], []⟩ D.rt (fun _ _ _ => False) (a, oe) c t ⟨((L2H.roomH_of cx.room).mono hj).dp, ((L2H.roomH_of cx.room).mono hj).un⟩ hot hpin e0 bd hz hr hq) fun res s2 out => ?_)
    rw [← hw] at out
    match res, out with
    | .error e, out =>
      obtain ⟨_, _, _, _, _, _, _, _, _, _, _, _, z⟩ := out
      exact z.elim
    | .ok (.ret u), out =>
      obtain ⟨v, H', I2, rv, q⟩ := I1.after (X := X.suite a ((a, oe) :: pn)) out
      exact ⟨v, σ, H', I2, rv, q⟩
  · refine ⟨ρ, P, F, nw, hl, ?_⟩
    unfold sTry at h
    cases e : fb ρ with
    | nx ρ1 => rw [e] at h; exact h
    | bk ρ1 => rw [e] at h; exact h
    | ct ρ1 => rw [e] at h; exact h
    | ret w ρ1 => rw [e] at h; exact h
    | stk => rw [e] at h; exact h.elim
    | exc c ρ1 =>
      simp only [e] at h
      cases hr : r c with
      | none => rw [hr] at h; exact h.elim
      | some t =>
        rw [hr] at h
        intro σ' P' H' F' n1 s1 k1
        refine ⟨true, by rw [cx.K]; exact hsub c t hr, fun _ a na => ⟨c, t, rfl, rfl, hr, List.getElem?_set_self (by rw [k1.len]; exact hin), fun H2 hs2 => ?_⟩, fun z => nomatch z⟩
        have al : Alc P' H' P' H2 nobody := ⟨Same.refl _, hs2, n1.ex.trans hs2, fun _ q => .inl q, fun _ z => z.elim, fun _ _ z => z.elim⟩
        exact h (.str t) σ' P' H2 F' nobody (al.now n1) (s1.trans al.stp) k1 ⟨.str _, fun _ z => z.elim, fun _ z => z.elim, fun _ z => z.elim, fun _ _ z => z.elim⟩ fun _ z => z.elim
end
end Mi
end
section
set_option Elab.async false
set_option linter.all false
set_option maxRecDepth 100000
/-! Ev19: name op= e -/
namespace Mi
open PySem PySem.Spec PyProof.Rows L2
structure IpV (G : Glb) (X : Cx) (op : Operator) (g : Vl → Vl → Option Vl) : Prop where
  ex : ∃ r : R2, OpR X (inplaceOp op) r ∧ OpOk G r g
section
variable {X : Cx} {G : Glb} {W : WX} {n i : Nat} {π : List Bool} {x : Str} {e : Expr} {fe : FE} {op : Operator} {g : Vl → Vl → Option Vl} {pos p2 : Pos}
theorem q_add : IpV G X .Add (iop tt2 fun i j => .int (i + j)) := ⟨_, iop_add, okI0 fun _ _ _ _ => .int _⟩
theorem q_sub : IpV G X .Sub gSub := ⟨_, iop_sub, okI0 fun _ _ _ _ => .int _⟩
theorem q_mul : IpV G X .Mult gMulI := ⟨_, iop_mul, okI fun _ _ _ _ => .int _⟩
theorem q_fdiv : IpV G X .FloorDiv gFDiv := ⟨_, iop_fdiv, okI fun _ _ _ _ => .int _⟩
theorem q_mod : IpV G X .Mod gMod := ⟨_, iop_mod, okI fun _ _ _ _ => .int _⟩
theorem q_shl : IpV G X .LShift gShl := ⟨_, iop_shl, okI fun _ _ _ _ => .int _⟩
theorem q_shr : IpV G X .RShift gShr := ⟨_, iop_shr, okI fun _ _ _ _ => .int _⟩
theorem q_and : IpV G X .BitAnd gAnd := ⟨_, iop_and, okI0 fun _ _ _ _ => .int _⟩
theorem q_or : IpV G X .BitOr gOr := ⟨_, iop_or, okI0 fun _ _ _ _ => .int _⟩
theorem q_xor : IpV G X .BitXor gXor := ⟨_, iop_xor, okI0 fun _ _ _ _ => .int _⟩
def augO (i : Nat) (g : Vl → Vl → Option Vl) (d0 : PyData) (o : Opd) (ρ : Rho) : SO := match (look ρ o).bind (g (.dat d0)) with
  | some w => .nx (ρ.set i (some w))
  | none => .stk
def sAug (i : Nat) (g : Vl → Vl → Option Vl) (fe : FE) : FS := fun ρ => match look ρ (.brw i) with
  | some (.dat d0) => (fe ρ).bindS fun o ρ1 => augO i g d0 o ρ1
  | _ => .stk
theorem s_aug (q : IpV G X op g) (hN : X.N.Nodup) (hi : X.N[i]? = some x) (hx : Loc X.env.scope x) (hn : i < n) (hp : ioAt π i = false) (he : PE X e (tE G W fe))
    (hf : X.fn x = true ∨ X.env.scope.names.lookup x = some .local := by first | exact .inl rfl | exact .inr rfl | assumption) : PS X (.AugAssign (.Name x p2) op e pos) (tS G W n π (sAug i g fe)) := by
  obtain ⟨r, ho, ok⟩ := q.ex
  refine PS.imp (ps_aug hN hi hx he (ti := r) ho hf) fun D σ H ⟨ρ, P, F, nw, hl, h⟩ => ?_
  unfold sAug at h
  split at h
  · rename_i d0 e0
    obtain ⟨v, h1, h2⟩ := nw.rd i _ (join_some e0)
    have h2 : Dp G.K P v d0 := h2
    refine ⟨v, h1, tE_bindS nw hl h fun o ρ1 y P1 H1 F1 S h3 n1 s1 hy q1 _ => ?_⟩
    unfold augO at h3
    cases el : look ρ1 o with
    | none => rw [el] at h3; exact h3.elim
    | some a =>
      rw [el] at h3
      cases eg : g (.dat d0) a with
      | none => simp only [Option.bind_some, eg] at h3; exact h3.elim
      | some w =>
        simp only [Option.bind_some, eg] at h3
        refine ok P1 H1 v y (.dat d0) a w _ n1.ex ⟨nobody, dp_mono s1.ex _ _ h2⟩ (hy.look n1 el) eg fun z P2 H2 S2 al o2 => ?_
        exact h3 _ P2 H2 _ (now_set (al.now n1) (al.tmp n1 o2) (by omega)) (stp_set al.stp fun b hb => .inr (al.new b hb).1) (Kp.set hl hp)
  · exact h.elim
end
end Mi
end
section
set_option Elab.async false
set_option linter.all false
set_option maxRecDepth 100000
set_option maxHeartbeats 2000000
/-! Ev20: walks of lists while an exception is handled -/
namespace MiH
open PySem PySem.Spec PyProof.Rows HotX
section
variable {prog : Program} {w : World} {A : Around} {E : Value → Shared → Prop} {s : Shared}
/-- the end of a list's walk, while x1 is handled -/
theorem list_end_hot {it l x1 : Addr} {i : Nat} {items : Array Value} {Q : Option Value → Shared → Prop} (hot : HotAt A x1 s.heap) (hne : x1 ≠ it) (hit : s.heap.IsListIter it l i) (hl : s.heap.IsList l items) (hx : items[i]? = none)
    (hQ : ∀ h', (∀ b o, b ≠ it → s.heap.get? b = some o → h'.get? b = some o) → Q none { s with heap := h' }) : wpAny (model prog w) A (pyNext (.ref it)) Q E s := by
  obtain ⟨o, ho, hc, hd⟩ := id hit
  obtain ⟨ol, hol, _, nl, hdl⟩ := hl
  obtain ⟨hh, o1, vs1, h1, d1, c1⟩ := hot
  have k0 : ∀ b u, b ≠ it → s.heap.get? b = some u → (s.heap.update it (Obj.mapFields (·.setIfInBounds 0 .none))).get? b = some u := fun b u hb e => (Heap.get?_update_other _ _ (Ne.symm hb)).trans e
  unfold pyNext
  refine wpAny_bind (wpAny_attempt (wpAny_callSpecial?_slot (name := Str.ofString "__next__") hit.typeIs slot_listiter_next (wpAny_call_entry slot_listiter_next hit.typeIs entry_listiter_next ?_ (args_listiter_next _))))
  show wpAny _ _ (field (.ref it) 0 >>= _) _ _ s
  refine wpAny_bind (wpAny_field ho hd (x := .ref l) rfl ?_)
  show wpAny _ _ (if (Value.ref l == Value.none) = true then _ else _) _ _ s
  rw [if_neg (show ¬ ((Value.ref l == Value.none) = true) from Bool.false_ne_true)]
  show wpAny _ _ (field (.ref it) 1 >>= _) _ _ s
  refine wpAny_bind (wpAny_field ho hd (x := .int i 0) rfl ?_)
  show wpAny _ _ (seqItems? (.ref l) >>= _) _ _ s
  refine wpAny_bind (wpAny_seqItems hol hdl ?_)
  simp only [Int.toNat_natCast, hx]
  refine wpAny_bind (wpAny_rule (wpAny_bind (wpAny_setField ho hd (by simp) ?_)))
  show wpAny _ _ (newExc (.type "StopIteration") [] >>= _) _ _ _
  refine wpAny_bind ?_
  simp only [newExc, newTuple]
  refine wpAny_bind (wpAny_newObj_type ?_ (by size_fits))
  refine wpAny_bind (m := firstArgMember _ _) (wpAny_of_eq (a := Value.none) (by first | rfl | (simp only [firstArgMember]; rfl)) ?_)
  refine wpAny_newObj_type ?_ (by size_fits)
  have g1 := Heap.get?_push_of_some (h := s.heap.update it (Obj.mapFields (·.setIfInBounds 0 .none))) { cls := .type "tuple", data := .seq #[] } (k0 x1 o1 hne h1)
  refine raiseNew_hot ⟨hh, o1, vs1, Heap.get?_push_of_some _ g1, d1, c1⟩ (Nat.ne_of_lt (Heap.lt_size g1)) (Heap.get?_push_size _ rfl) rfl (by first | (simp; done) | (simp; omega) | (simp only [Array.size_append]; simp; omega)) ?_
  refine wpAny_bind (wpAny_isInstance (T := "StopIteration") (b := true) ⟨_, Heap.get?_update_self _ (Heap.get?_push_size _ rfl) rfl, rfl⟩ isSubtype_stop ?_)
  refine wpAny_pure (hQ _ fun b o hb e => ?_)
  have g2 := Heap.get?_push_of_some (h := s.heap.update it (Obj.mapFields (·.setIfInBounds 0 .none))) { cls := .type "tuple", data := .seq #[] } (k0 b o hb e)
  rw [Heap.get?_update_other _ _ (Nat.ne_of_gt (Heap.lt_size g2))]
  exact Heap.get?_push_of_some _ g2
theorem walks_hot {x1 it l : Addr} (hne : l ≠ it) (hx : x1 ≠ it) (items : Array Value) :
    Walks prog w A it [it, l, x1] [it] items.size (fun i v => items[i]? = some v) (fun i h => h.IsListIter it l i ∧ h.IsList l items ∧ HotAt A x1 h) where
  sub := fun b hb => by simp at hb; simp [hb]
  frame := fun i h h' ⟨a, b, c⟩ k => ⟨a.at fun o e => k it (by simp) o e, b.at fun o e => k l (by simp) o e, c.1, by
    obtain ⟨o, vs, e, r⟩ := c.2
    exact ⟨o, vs, k x1 (by simp) o e, r⟩⟩
  item := fun i s Q E hi ⟨a, b, c⟩ hQ => by
    refine wpAny_pyNext_list_item a b (x := items[i]) (by simp [hi]) fun h' hit' hs' => ?_
    refine hQ _ h' s.toks (by simp [hi]) ⟨hit', b.extBut hs'.extBut hne, c.1, ?_⟩ fun b o hb e => hs'.extBut b o (fun h => hb (by simp [h])) e
    obtain ⟨o, vs, e, r⟩ := c.2
    exact ⟨o, vs, hs'.extBut x1 o hx e, r⟩
  done := fun s Q E ⟨a, b, c⟩ hQ => list_end_hot c hx a b (by simp) fun h' he' => hQ h' s.toks fun b o hb e => he' b o (fun h => hb (by simp [h])) e
  self := fun _ _ _ _ ⟨a, _⟩ hQ => wpAny_pyIter_listiter a hQ
theorem sum_hot {x1 l : Addr} {its : List Value} {ns : List Int} {Q : Value → Shared → Prop} (hot : HotAt A x1 s.heap) (hl : s.heap.IsList l its.toArray) (hi : IntsAre its ns)
    (h : ∀ h' tk t', (∀ b o, s.heap.get? b = some o → h'.get? b = some o) → Q (.int ns.sum t') { s with heap := h', toks := tk }) : wpAny (model prog w) A (call (.builtin "sum") [.ref l]) Q E s := by
  obtain ⟨xs, e⟩ := hi.allInts.items
  have hn : numsOf (intItems xs).toList = ns := by rw [← e]; exact hi.numsOf
  rw [nums_intItems] at hn
  rw [e] at hl
  refine call_sum_walkG (iter_intList hl fun s2 es st hfp hlI => ?_)
  subst es
  obtain ⟨hh, o1, vs1, h1, r1⟩ := hot
  have nx : x1 ≠ s.heap.objs.size := Nat.ne_of_lt (Heap.lt_size h1)
  refine ⟨_, _, _, _, _, _, numAt xs, rfl, walks_hot (A := A.in1) hlI nx (intItems xs), ⟨st.1, st.2, hh, o1, vs1, Heap.get?_push_of_some _ h1, r1⟩, fun b hb => ?_, (fun _ _ => intItems_at), fun h' tk t' hk => ?_⟩
  · rcases List.mem_cons.mp hb with rfl | hb
    · exact hfp _ (by simp)
    · rcases List.mem_cons.mp hb with rfl | hb
      · exact hfp _ (by simp)
      · obtain rfl : b = x1 := by simpa using hb
        rw [Heap.size_push]
        exact Nat.lt_succ_of_lt (Heap.lt_size h1)
  · have q := h h' tk t' (old_kept hk)
    have es : preSum (numAt xs) (intItems xs).size = ns.sum := by
      have : (intItems xs).size = xs.size := by simp [intItems]
      rw [this, preSum_eq, List.take_of_length_le (by simp), hn]
    rw [es]
    exact q
end
end MiH
end
section
set_option Elab.async false
set_option linter.all false
set_option maxRecDepth 100000
/-! Ev21: the law's own call -/
namespace Mi
open PySem PySem.Spec PyProof.Rows L2

theorem callerG {k : Nat} (h : Room k callerA) : RoomG k callerA := ⟨h, rfl⟩
/-- the abstract heap at the law's entry -/
structure Entry (K : PySem.W.Frag) (P : Program) (w : World) (H : Hp) (h : Heap) (a : Addr) (ns : List Int) : Prop where
  only : ∀ b, H b = none ∨ (b = a ∧ K.lookup a = none ∧ ∃ o xs, H b = some (.frz o (.lst xs)))
  seq : SqL K H a (ns.map V.int)
  ok : HOk P w H h
theorem entry_of {K : PySem.W.Frag} {P : Program} {w : World} {h : Heap} {a : Addr} {vs : List Value} {ns : List Int} (KX : K.In h) (ha : h.get? a = some { cls := .type "list", data := .seq vs.toArray }) (hi : IntsAre vs ns) (hl : ns.length ≤ sizeLine) :
    ∃ H, Entry K P w H h a ns := by
  have rv := vals_ints hi
  have lenV := hi.length
  cases hk : K.lookup a with
  | some o =>
    have e := KX a o hk
    rw [ha] at e
    cases e
    exact ⟨fun _ => none, fun _ => .inl rfl, .inr ⟨_, vs.toArray, _, hk, rfl, rfl, rfl, by rw [List.size_toArray, lenV]; exact hl, by simpa using rv⟩, fun b u z => by cases (show (none : Option HO) = some u from z)⟩
  | none =>
    classical
    have hz : (ns.map V.int).length ≤ sizeLine := by rw [List.length_map]; exact hl
    refine ⟨fun b => if b = a then some (.frz { cls := .type "list", data := .seq vs.toArray } (.lst (ns.map V.int))) else none, fun b => ?_, .inl (.inr ⟨_, if_pos rfl⟩), fun b u z => ?_⟩
    · by_cases hb : b = a
      · exact .inr ⟨hb, hk, _, _, if_pos hb⟩
      · exact .inl (if_neg hb)
    · by_cases hb : b = a
      · cases (if_pos hb).symm.trans z
        subst hb
        exact ⟨ha, hz, vs, _, rv, ha⟩
      · cases (if_neg hb).symm.trans z
theorem law_callG {P : Program} {w : World} {K : PySem.W.Frag} {mg mb : Str → Option Value} {k : Nat} {fa a : Addr} {fd : FuncData} {x : Str} {sp : Sp} {s1 : Shared} {vs : List Value} {ns : List Int}
    (KX : K.In s1.heap) (hns : s1.heap.Ns mainGlobals mg) (hb : s1.heap.Ns builtinsNs mb) (hbb : ∀ x : Str, x ≠ "__name__" → mb x = bootBuiltins x) (hlim : s1.heap.NoLimit) (hg : s1.gens = #[])
    (ha : s1.heap.get? a = some { cls := .type "list", data := .seq vs.toArray }) (hi : IntsAre vs ns) (hl : ns.length ≤ sizeLine) (hr : Room k callerA)
    (F : ∀ base : Heap, K.In base → base.Ns mainGlobals mg → FnG P w K mg base k fa fd [x] sp) (hbind : ∀ (s : Shared) (u : Value), BindsTo s fd ⟨[u], []⟩ [(x, u)])
    (hsp : ∀ H : Hp, SqL K H a (ns.map V.int) → sp [.ref a] H (fun v _ => v = .bl true) fun _ _ _ => False) :
    codeAny (model P w) callerA (.call (.ref fa) ⟨[.ref a], []⟩) (fun r s' => r = .ok (.ret (.bool true)) ∧ OldK s1.heap s'.heap ∧ s'.os = s1.os ∧ AllBare s'.gens) s1 := by
  obtain ⟨H, only, seq, ok⟩ := entry_of (P := P) (w := w) KX ha hi hl
  -- what is no list stays in sight
  have seen : ∀ {b : Addr} {o : Obj}, s1.heap.get? b = some o → (b = a → K.lookup a = none → False) → (hidT s1.heap H).get? b = some o := fun {b o} e q => hidT_get e ((only b).elim id fun z => (q z.1 z.2.1).elim)
  have ns2 : ∀ {b : Addr} {m : Str → Option Value}, s1.heap.Ns b m → (hidT s1.heap H).Ns b m := fun {b m} ⟨o, es, ep, e, d, r⟩ => ⟨o, es, ep, seen e (fun z _ => by
    rw [z, ha] at e
    cases e
    have d : Data.seq vs.toArray _ = Data.dict es ep := d
    cases d), d, r⟩
  have Kin : K.In (hidT s1.heap H) := fun b o e => seen (KX b o e) (fun z q => by rw [z, q] at e; cases e)
  obtain ⟨mc, lim1, lim2⟩ := hlim
  have M : Mod K mg (hidT s1.heap H) := ⟨Kin, ns2 hns, ⟨mb, ns2 hb, hbb⟩, mc, ns2 lim1, lim2⟩
  have noFr : ∀ b ∈ frs ([] : List Env), H b = none := fun b z => nomatch z
  have E0 : Env0 P w K mg (hidT s1.heap H) callerA [] s1 H := ⟨rfl, M, fun b o e => of_hidT e, Nat.le_of_eq (hidT_size _ _), trivial, noFr, ok, .of_eq hg⟩
  have run := (F _ Kin (ns2 hns)).run callerA [] s1 H _ [.ref a] [.ref a] _ _ (callerG hr) E0 (hbind s1 (.ref a)) (.cons rfl .nil) (hsp H seq)
  refine codeAny_mono run ?_
  intro r s2 out
  cases r with
  | error e =>
    obtain ⟨_, _, _, _, _, _, _, _, _, _, _, _, z⟩ := out
    exact z.elim
  | ok fl =>
    cases fl with
    | next => exact out.elim
    | brk => exact out.elim
    | cont => exact out.elim
    | ret u =>
    obtain ⟨v, H2, os, bare, un, ok2, rel, q⟩ := out
    have q : v = V.bl true := q
    subst q
    obtain rfl : u = Value.bool true := rel
    refine ⟨rfl, OldK.of_keep fun b o e => ?_, os, bare⟩
    rcases only b with z | ⟨_, _, ob, xs, z⟩
    · exact un.keep b o e z (fun q => nomatch q) (fun q => nomatch q)
    · have e1 := (ok b _ z).1
      have e2 := (ok2 b _ (un.frzs b ob _ z)).1
      rw [e] at e1
      cases e1
      exact e2
/-- the goal of the head, by the law's def -/
theorem walk_G {l : PySem.W.OpenLaw} {k : Nat} {q : Program} {loose : List Str} {XP : (Str → Option Value) → Heap → Prop} {YP : World → Heap → Prop} {d : DefRec} {K : Params → PySem.W.Frag} {ea cl : Params → Nat → Addr} {x : Str} {S : CSpec}
    (hn : l.most = some 63) (hdf : d.params.defaults = []) (hr : Room k callerA) (hY : ∀ (w : World) (h : Heap), YP w h → (K w.params).In h)
    (F : ∀ (w : World) (mg : Str → Option Value) (fa : Addr) (h : Heap), (K w.params).In h → h.Ns mainGlobals mg → mg d.name = some (.ref fa) →
      ∃ fd : FuncData, (∀ (s : Shared) (u : Value), BindsTo s fd ⟨[u], []⟩ [(x, u)]) ∧ ∀ base : Heap, (K w.params).In base → base.Ns mainGlobals mg → FnG l.prog w (K w.params) mg base k fa fd [x] (spV ⟨K w.params, w, ea w.params, cl w.params⟩ [false] S))
    (hS : ∀ ns : List Int, ns.length ≤ 63 → ∃ o, S [.dat (.list (ns.map .int))] = .ok (vB true) o) :
    PySem.W.WalkO q loose XP YP l.row.toRowW d [] (fun f vs => PySem.call f vs) := by
  refine Att.attach_call hn hdf fun w s0 s1 mg mb fa o pm cd doc a vs ns G Y ho hd hcd hmg hobj hints hlen hg => ?_
  have KX := hY w _ Y
  obtain ⟨fd, bd, prom⟩ := F w mg fa _ KX G.T.g hmg
  refine law_callG KX G.T.g G.T.b G.T.builtins G.T.nolimit hg hobj hints (by rw [sizeLine_eq]; omega) hr prom bd fun H sq => ?_
  obtain ⟨o, e⟩ := hS ns hlen
  refine ⟨[.dat (.list (ns.map .int))], H, fun _ => nobody, rfl, rfl, ⟨Same.refl H, fun _ _ _ z => z.elim, fun _ _ z => z.elim, fun _ _ z => z.elim, fun i w' h => ?_, fun _ _ _ z => z.elim⟩, fun _ _ z => z.elim, ?_⟩
  · cases i with
    | zero =>
      have h : some (some (Vl.dat (.list (ns.map .int)))) = some (some w') := h
      cases h
      exact ⟨_, rfl, Dp.lst sq ints_dpa⟩
    | succ i => simp at h
  · rw [e]
    intro v P' H' F' S n1 h2 s1 t src hl
    have h : Dp _ P' v (.bool true) := t.ow
    cases h
    rfl
end Mi
end
section
set_option Elab.async false
set_option linter.all false
set_option maxRecDepth 100000
set_option maxHeartbeats 2000000
/-! Ev22: a list comprehension over a list while an exception is handled -/
namespace Mi
open PySem PySem.Spec PyProof.Rows L2
section
variable {X : Cx}
/-- what one item becomes -/
abbrev Each (te : TE) (k : Nat) (xs ys : List V) : Prop := xs.length = ys.length ∧ ∀ (i : Nat) (x y : V), xs[i]? = some x → ys[i]? = some y → ∀ (σ : L2.St) (H : Hp) (Q : VK), σ[k]? = some (some x) → Q y H → te σ H Q
theorem pe_lcHot {elt iter : Expr} {x : Str} {xp pos : Pos} {scope : Scope} {own : List (Str × Nat)} {k : Nat} {ti te : TE} (hot : L2H.HotC X) (hN : X.N.Nodup) (ok : BlkOk X.N X.env.scope scope own) (hk : k ∈ own.map (·.2)) (hkl : k < X.N.length) (hi : PE X iter ti)
    (hg : ∀ (s : Shared) (H : Hp) (C : Addr) (cl : List (Str × Addr)) (fp : List Addr), PG (X.blk s H scope (compEnvC scope cl C X.env) fp) (.Name x xp) (gName k))
    (he : ∀ (s : Shared) (H : Hp) (C : Addr) (cl : List (Str × Addr)) (fp : List Addr), PE (X.blk s H scope (compEnvC scope cl C X.env) fp) elt te) (hs : ∀ v, foldedSetIterable iter X.env v = pure v := by intro _; rfl) :
    PE X (.ListComp elt [⟨.Name x xp, iter, [], 0⟩] scope pos) (fun σ H Q => ti σ H fun v H1 => ∃ a xs ys, v = .ref a ∧ H1 a = some (.lst xs) ∧ Each te k xs ys ∧ xs.length ≤ 1000 ∧ ∀ p, H1 p = none → Q (.ref p) (upd H1 p (.lst ys))) := by
  constructor
  intro pins s σ H Q I h
  rw [eval_ListComp]
  have hfree : ∀ y ∈ scope.names, y.2 = .free → ∃ c, X.env.cells.lookup y.1 = some c := fun y hy e => (ok.free y hy e).elim (fun z => I.ok.has _ (.inl z)) fun z => I.ok.has _ (.inr z)
  refine wpAny_comprehension_free (use := none) rfl hs (closure_ok hfree) ok.kind (fun y hy e => by rw [ok.uniq y hy, e]) (thn (hi.run pins s σ H _ I h) ?_)
  rintro v1 s1 ⟨v, H1, I1, r1, a, xs, ys, rfl, hHa, ⟨hlen, hte⟩, hz, hq⟩
  obtain rfl : v1 = Value.ref a := r1
  obtain ⟨its, rv, pl, _⟩ := I1.list (SqL.of hHa)
  refine wpAny_pyIter_list pl.isList ?_
  generalize hIt : s1.heap.objs.size = it
  obtain ⟨p, ⟨hh, pv, pd, pc⟩, hp⟩ := id hot
  have P1 := I1.pin p (List.mem_append_left _ hp)
  have I2 : Inv X pins σ H1 { s1 with heap := s1.heap.push { cls := .type "list_iterator", data := .fields #[.ref a, .int 0 0] } } := I1.kept (t' := s1.toks) fun b o e => Heap.get?_push_of_some _ e
  have st2 : (s1.heap.push { cls := .type "list_iterator", data := .fields #[.ref a, .int 0 0] }).IsListIter it a 0 := ⟨_, by rw [← hIt]; exact Heap.get?_push_size _ rfl, rfl, rfl⟩
  have nIt : H1 it = none := by rw [← hIt]; exact I1.hok.fresh (Nat.le_refl _)
  have fIt : FpOk X pins H1 it := by rw [← hIt]; exact I1.fpOk (Nat.le_refl _) (I1.hok.fresh (Nat.le_refl _))
  have pIt : p.1 ≠ it := by rw [← hIt]; exact Nat.ne_of_lt (Heap.lt_size P1.1)
  have hsz : (s1.heap.push { cls := .type "list_iterator", data := .fields #[.ref a, .int 0 0] }).objs.size = it + 1 := by rw [Heap.size_push, hIt]
  generalize hs2 : ({ s1 with heap := s1.heap.push { cls := .type "list_iterator", data := .fields #[.ref a, .int 0 0] } } : Shared) = s2 at I2 ⊢
  have e2 : s2.heap = s1.heap.push { cls := .type "list_iterator", data := .fields #[.ref a, .int 0 0] } := by rw [← hs2]
  rw [← e2] at st2 hsz
  refine wpAny_newObj_type (newEnv_comp ?_) (by show 0 ≤ sizeLine; decide)
  generalize hD : s2.heap.objs.size = D
  have nD : H1 D = none := I2.hok.fresh (Nat.le_of_eq hD)
  have dIt : it ≠ D := by rw [← hD, hsz]; exact Nat.ne_of_lt (Nat.lt_succ_self _)
  have aD : a ≠ D := fun e => by rw [e, nD] at hHa; cases hHa
  generalize hs3 : ({ s2 with heap := s2.heap.push { cls := .type "list", data := .seq ([] : List Value).toArray } } : Shared) = s3
  have e3 : s3.heap = s2.heap.push { cls := .type "list", data := .seq ([] : List Value).toArray } := by rw [← hs3]
  have I3 : Inv X pins σ (upd H1 D (.lst [])) s3 := by
    rw [← hs3]
    exact I2.laid (t' := s2.toks) (fun b o e => Heap.get?_push_of_some _ e) (Nat.le_of_eq hD) ⟨Nat.zero_le _, [], 0, .nil, by rw [← hD]; exact Heap.get?_push_size _ rfl⟩
  have fp3 : ∀ b ∈ [it], FpOk X pins (upd H1 D (.lst [])) b ∧ b < s3.heap.objs.size := fun b hb => by
    obtain rfl : b = it := by simpa using hb
    refine ⟨⟨by rw [upd_ne dIt]; exact nIt, fIt.2⟩, by rw [e3, Heap.size_push, hsz]; omega⟩
  have I4 := block_start I3 ok hN fp3
  have pg := hg s3 (upd H1 D (.lst [])) s3.heap.objs.size (cellsFrom (s3.heap.objs.size + 1) scope.names (cloFrom X.env.cells scope.names [])) [it]
  have pe := he s3 (upd H1 D (.lst [])) s3.heap.objs.size (cellsFrom (s3.heap.objs.size + 1) scope.names (cloFrom X.env.cells scope.names [])) [it]
  have P3 := I3.pin p (List.mem_append_left _ hp)
  have pFr : p.1 ∉ frs X.stack := fun hm => (List.mem_cons.mp (I3.stkSub p.1 hm)).elim P3.2.2.1 P3.2.2.2.1
  show codeAny _ _ (.compStart (.ListComp elt [⟨.Name x xp, iter, [], 0⟩] scope pos) 0 (.ref it) (.ref D) (compEnvC scope (cellsFrom (s3.heap.objs.size + 1) scope.names (cloFrom X.env.cells scope.names [])) s3.heap.objs.size X.env)) (compPost (model X.prog X.w) X.A X.xe none (EP X pins σ Q) (.ref D) s3.heap.objs.size) { s3 with heap := pushCells (s3.heap.push { cls := .type "dict", data := .dict #[] }) scope.names }
  generalize hce : compEnvC scope (cellsFrom (s3.heap.objs.size + 1) scope.names (cloFrom X.env.cells scope.names [])) s3.heap.objs.size X.env = ce at I4 pg pe ⊢
  have cL : ce.locals = s3.heap.objs.size := by subst hce; rfl
  generalize hs4 : ({ s3 with heap := pushCells (s3.heap.push { cls := .type "dict", data := .dict #[] }) scope.names } : Shared) = s4 at I4 ⊢
  have st4 : s4.heap.IsListIter it a 0 := by
    rw [← hs4]
    exact st2.at fun o e => pushCells_keeps _ _ _ _ (Heap.get?_push_of_some _ (by rw [e3]; exact Heap.get?_push_of_some _ e))
  have hl : its.length = xs.length := rv.length.symm
  -- the list stays through the block
  have lst : ∀ (n : Nat), upd H1 D (.lst (ys.take n)) a = some (.lst xs) := fun n => by rw [upd_ne aD]; exact hHa
  have hotIn : ∀ {σ' : L2.St} {H' : Hp} {s' : Shared} {q : List (Addr × Obj)}, Inv (X.blk s3 (upd H1 D (.lst [])) scope ce [it]) q σ' H' s' → HotX.HotAt X.A p.1 s'.heap := fun {σ' H' s' q} J =>
    ⟨hh, p.2, pv, J.base.keep p.1 p.2 P3.1 P3.2.1 pFr (fun m => pIt (by simpa using m)), pd, pc⟩
  have stat : ∀ {σ' : L2.St} {H' : Hp} {s' : Shared}, Inv (X.blk s3 (upd H1 D (.lst [])) scope ce [it]) [] σ' H' s' → H' it = none → FpOk (X.blk s3 (upd H1 D (.lst [])) scope ce [it]) [] H' it := fun {σ' H' s'} J hn =>
    ⟨hn, (J.ok.exf it (by exact List.mem_cons_self)).1, J.ok.exfs it (by exact List.mem_cons_self), .inl (by exact List.mem_cons_self), fun y c e => (J.ok.exf it (by exact List.mem_cons_self)).2 y c e, fun q hq => absurd (show q ∈ ([] : List (Addr × Obj)) ++ [] from hq) (by simp)⟩
  have loop : codeAny (model X.prog X.w) X.A (.compLoop (.ListComp elt [⟨.Name x xp, iter, [], 0⟩] scope pos) 0 (.ref it) (.ref D) ce) (compPost (model X.prog X.w) X.A X.xe none (EP X pins σ Q) (.ref D) s3.heap.objs.size) s4 := by
    refine compLoop_any (fun n s' => ∃ i, n = xs.length - i ∧ i ≤ xs.length ∧ Inv (X.blk s3 (upd H1 D (.lst [])) scope ce [it]) [] (wipe σ (own.map (·.2))) (upd H1 D (.lst (ys.take i))) s' ∧ s'.heap.IsListIter it a i) ?_ xs.length ⟨0, rfl, Nat.zero_le _, by simpa using I4, st4⟩
    rintro n s5 ⟨i, rfl, hi, I5, st5⟩
    have itN : ∀ m, upd H1 D (.lst (ys.take m)) it = none := fun m => by rw [upd_ne dIt]; exact nIt
    obtain ⟨its5, rv5, pl5, _⟩ := I5.list (SqL.of (lst i))
    obtain ⟨f0, f1, f2, f3, f4, f5⟩ := stat I5 (itN i)
    by_cases hlt : i < xs.length
    · have hx : xs[i]? = some xs[i] := List.getElem?_eq_getElem hlt
      have hy : ys[i]? = some ys[i] := List.getElem?_eq_getElem (by omega)
      obtain ⟨u, hu, ru⟩ := rv5.get hx
      refine wpAny_pyNext_list_item st5 pl5.isList (x := u) (by simpa using hu) fun h' st' sb => ?_
      have I6 : Inv (X.blk s3 (upd H1 D (.lst [])) scope ce [it]) [] (wipe σ (own.map (·.2))) (upd H1 D (.lst (ys.take i))) { s5 with heap := h' } := I5.turned (t' := s5.toks) (fun b o hb e => (sb.2 b hb).trans e) f0 f1 f3 f4 f5
      obtain ⟨o', eo', c', d'⟩ := id st'
      refine go_of (s := { s5 with heap := h' }) eo' c' d' (by decide) ?_
      have I6' : Inv (X.blk s3 (upd H1 D (.lst [])) scope ce [it]) ([(it, o')]) (wipe σ (own.map (·.2))) (upd H1 D (.lst (ys.take i))) { s5 with heap := h' } := I6.pins_of fun q hq => by
        obtain rfl : q = (it, o') := by simpa using hq
        exact ⟨eo', f0, f1, f2, fun v z => by rw [d'] at z; cases z⟩
      refine thnF (pg.run _ _ _ _ xs[i] u _ I6' ru (by exact ⟨rfl, rfl⟩ : gName k xs[i] (wipe σ (own.map (·.2))) (upd H1 D (.lst (ys.take i))) fun σ2 H2 => σ2 = (wipe σ (own.map (·.2))).set k (some xs[i]) ∧ H2 = upd H1 D (.lst (ys.take i)))) ?_
      rintro _ s8 ⟨σ8, H8, I8, rfl, rfl⟩
      refine thnF (pts_nil.run (X := X.blk s3 (upd H1 D (.lst [])) scope ce [it]) _ s8 _ _ (fun b H' => b = true ∧ H' = upd H1 D (.lst (ys.take i))) I8 ⟨rfl, rfl⟩) ?_
      rintro b s9 ⟨H9, I9, rfl, rfl⟩
      rw [if_pos rfl]
      have kW : k < (wipe σ (own.map (·.2))).length := by rw [wipe_length, I.len]; exact hkl
      have rd := hte i xs[i] ys[i] hx hy _ (upd H1 D (.lst (ys.take i))) (fun v H' => v = ys[i] ∧ H' = upd H1 D (.lst (ys.take i))) (List.getElem?_set_self (l := wipe σ (own.map (·.2))) (a := some xs[i]) kW) ⟨rfl, rfl⟩
      refine thnF (pe.run _ s9 _ _ _ I9 rd) ?_
      rintro z s10 ⟨yv, H10, I10, r10, rfl, rfl⟩
      refine app_ok (X := X.blk s3 (upd H1 D (.lst [])) scope ce [it]) I10 upd_same (by rw [List.length_take, sizeLine_eq]; omega) r10 fun s11 I11 => ?_
      refine ⟨xs.length - (i + 1), by omega, i + 1, rfl, hlt, ?_, st'.at fun o e => ?_⟩
      · have e1 : upd (upd H1 D (.lst (ys.take i))) D (.lst (ys.take i ++ [ys[i]])) = upd H1 D (.lst (ys.take (i + 1))) := by
          rw [upd_upd, List.take_append_getElem]
        rw [e1] at I11
        refine (I11.pins_of (pins' := []) fun q hq => nomatch hq).weak (by rw [List.length_set]) fun j v e => ?_
        by_cases hj : k = j
        · subst hj
          have := (wipe_some e).2
          exact (this hk).elim
        · rw [List.getElem?_set_ne hj]; exact e
      · have := (I11.pin (it, o') (List.mem_append_right _ (by exact List.mem_cons_self))).1
        have e' : h'.get? it = some o := e
        rw [eo'] at e'
        cases e'
        exact this
    · have e : i = xs.length := by omega
      subst e
      refine MiH.list_end_hot (hotIn I5) pIt st5 pl5.isList (by have := rv5.length; simp; omega) fun h' eb => ?_
      have I6 : Inv (X.blk s3 (upd H1 D (.lst [])) scope ce [it]) [] (wipe σ (own.map (·.2))) (upd H1 D (.lst (ys.take xs.length))) { s5 with heap := h' } := I5.turned (t' := s5.toks) (fun b o hb e => eb b o hb e) f0 f1 f3 f4 f5
      have I7 : Inv X pins σ (upd H1 D (.lst (ys.take xs.length))) { s5 with heap := h' } := I3.call' (ch := [it]) I6.os I6.base I6.hok I6.bare fun b hb => ⟨(fp3 b hb).1.2.2.2.1, (fp3 b hb).1.2.1, (fp3 b hb).1.2.2.2.2.1, (fp3 b hb).1.2.2.2.2.2⟩
      obtain ⟨m, hn, _⟩ := I6.loc
      have hn : h'.Ns ce.locals m := hn
      rw [cL] at hn
      have fC := I3.fpOk (Nat.le_refl _) (show upd H1 D (.lst (ys.take xs.length)) s3.heap.objs.size = none by
        have z : upd H1 D (.lst (ys.take xs.length)) ce.locals = none := I6.free
        rw [cL] at z
        exact z)
      obtain ⟨g0, g1, g2, g3, g4, g5⟩ := fC
      refine ⟨m, hn, fun h2 sb2 => ⟨.ref D, _, I7.turned (s := { s5 with heap := h' }) (t' := s5.toks) (fun b o hb e => (sb2.2 b hb).trans e) g0 g1 g3 g4 g5, rfl, ?_⟩⟩
      have := hq D nD
      rw [List.take_of_length_le (by omega)]
      exact this
  exact codeAny_compStart_list loop (wpAny_pyIter_listiter st4 loop)
end
end Mi
end
section
set_option Elab.async false
set_option linter.all false
set_option maxRecDepth 100000
set_option maxHeartbeats 2000000
/-! Ev23: the def that names an exception -/
namespace Mi
open PySem PySem.Spec PyProof.Rows L2
theorem err_def {P : Program} {G : Glb} {mg : Str → Option Value} {base : Heap} {k : Nat} {nm y : Str} {st : Stmt} {N : List Str} {r : Nat → Option Str} (d : Def G mg nm st [y]) (S : FnScope N [y] (defScope st))
    (body : ∀ (f : Addr) (cdv : Value) (A : Around) (outer : List Env) (s : Shared) (H : Hp) (E : XK) (Q : VK) (p : Addr × Obj) (c : Nat) (t : Str), L2H.RoomH k (A.deeper (envOfC nm (defScope st) s.heap.objs.size f cdv)) → L2H.Hot1 A p → L2N.Zn (.ref (G.ea c)) none p.2 → r c = some t → (∀ H', Same H H' → Q (.str t) H') →
      ∃ tt, PSs (L2H.cxH (L2N.CX P G.w) P G.w G.K mg base N nm (defScope st) f cdv A outer s H E p) (defBody st) tt ∧ tt { nx := fun _ H' => Q .non H', rt := Q } (L2.start N [.ref p.1]) H) : ErrF P G mg base (k + 1) nm r := by
  obtain ⟨f, fd, Fn, hm, hk, hb⟩ := d.ex
  obtain ⟨oc, od, kV, doc, pm, an, cdv, ct, osl, rfl, lk, hcd⟩ := Fn.ex
  refine ⟨f, _, y, hm, hk, hb, ?_⟩
  intro A outer s H args Q E p c t room hot pin env bind hz hr hq
  have keepB : ∀ b o, base.get? b = some o → s.heap.get? b = some o := fun b o q => (env.bs b o q).1
  have KH : G.K.In s.heap := env.mod.kin.keeps keepB
  have noLim : s.heap.NoLimit := env.mod.nolimit.keeps keepB
  have kinds : ∀ z ∈ [y].zip [Value.ref p.1], (defScope st).names.lookup z.1 = some .local ∨ ((defScope st).names.lookup z.1 = some .cell ∧ ((cellsFrom (s.heap.objs.size + 1) (defScope st).names []).lookup z.1).isSome = true) := by
    rintro ⟨m, v⟩ hy
    rcases S.par m (List.of_mem_zip hy).1 with q | q
    · exact .inl q
    · exact .inr ⟨q, PySem.W.cellsFrom_some _ _ _ (.inl q)⟩
  refine codeAny_call_function room.depth (KH _ _ lk) rfl S.co S.gen rfl (PySem.W.codeRec_of KH hcd) ?_
  refine bind _ _ _ _ (wpAny_newFunctionEnv_cells S.kind kinds ?_)
  rintro _ rfl s1 x
  refine ⟨noLim.keeps x.toInCall.keep, codeAny_func ?_⟩
  obtain ⟨tt, bodyOk, rd⟩ := body f cdv A outer s H E Q p c t (room.deeper _) hot hz hr hq
  have I0 := L2H.inv_startH (CX := L2N.CX P G.w) (E := E) (mg := mg) (cd := cdv) (qual := nm) (f := f) (vs := [V.ref p.1]) S pin env rfl (.cons rfl .nil) x
  refine wpAny_mono (bodyOk.run [] s1 _ H _ I0 rd) (fun fl s' out => ?_) fun _ _ z => z
  cases fl with
  | brk => obtain ⟨_, _, _, z⟩ := out; exact z.elim
  | cont => obtain ⟨_, _, _, z⟩ := out; exact z.elim
  | next =>
    obtain ⟨σ', H', J, q⟩ := out
    exact ⟨V.non, H', J.os, J.bare, J.base, J.hok, rfl, q⟩
  | ret u =>
    obtain ⟨v, σ', H', J, rel, q⟩ := out
    exact ⟨v, H', J.os, J.bare, J.base, J.hok, rel, q⟩
section
variable {X : Cx}
theorem hotC_of {A : Around} {p : Addr × Obj} (hot : L2H.Hot1 A p) (hA : X.A.handled = A.handled) (hp : p ∈ X.pn) : L2H.HotC X := ⟨p, ⟨by rw [hA]; exact hot.1, hot.2⟩, hp⟩
theorem cr_isH {p : Addr × Obj} {D : Addr} (hp : p ∈ X.pn) (C : ExcC X.K D) (hz : L2N.Zn (.ref D) none p.2) (hf : ∃ vs, p.2.data = .fields vs) : CallR X (.builtin "isinstance") (rIsE X.K D p.1) := by
  intro pins s σ H xs us Q I r h
  obtain ⟨c, cv, b, rfl, hcv, e, q⟩ := h
  obtain ⟨u, u', rfl, ru, ru'⟩ := Vals.two r
  obtain rfl : u = Value.ref p.1 := ru
  obtain rfl := hcv _ ru'
  have hget := (I.pin p (List.mem_append_left _ hp)).1
  obtain ⟨vs, hv⟩ := hf
  have J : PySem.W.InstAt s.heap p.1 p.2 D none := by
    obtain ⟨pa, oc, od, oda, osl⟩ := p
    obtain ⟨h1, h2, _⟩ := hz
    dsimp only at h1 h2 hv
    subst h1 h2 hv
    exact ⟨hget, rfl, rfl, trivial⟩
  exact PySem.W.kia_one (PySem.W.handS_kitx_exc C.hg C.hk C.hs C.hd C.ha C.hn C.ht C.hm) I.kIn J e (fun z => nomatch z) fun tk => ⟨.bl b, H, I.kept (t' := tk) fun _ _ z => z, rfl, q⟩
theorem cr_sumH (hot : L2H.HotC X) : CallR X (.builtin "sum") (rSum X.K) := by
  intro pins s σ H vs us Q I r h
  obtain ⟨a, ns, rfl, hs, q⟩ := h
  obtain ⟨its, rv, hl, _⟩ := I.list hs
  obtain ⟨x1, at1⟩ := hot.at I
  rw [Vals.ref1 r]
  exact MiH.sum_hot at1 hl.isList rv.ints fun h' tk t' hk => ⟨.int _, H, I.kept hk, ⟨_, rfl⟩, q⟩
end
/-- the text of the class with the number c -/
def errR : Nat → Option Str
  | 1 => some "refused"
  | 2 => some "form"
  | 3 => some "missing"
  | 4 => some "alike"
  | 5 => some "wrong"
  | _ => none
def rInt1 : List V → Hp → VK → Prop := fun xs H Q => (∃ i, xs = [.int i] ∧ Q (.int i) H) ∨ ∃ k, xs = [.bl k] ∧ Q (.int (if k then 1 else 0)) H
abbrev tIs (K : PySem.W.Frag) (D a C : Addr) : TE := tCB (rIsE K D a) (tCons (tVar 0) (tCons (tC (.ref C)) tNil))
theorem is_rd {K : PySem.W.Frag} {D a C : Addr} {b : Bool} {σ : L2.St} {H : Hp} {Q : VK} (hs : σ[0]? = some (some (.ref a))) (e : PySem.W.kitOne K (.ref D) (.ref C) = some b) (q : Q (.bl b) H) : tIs K D a C σ H Q :=
  ⟨_, hs, _, _, b, rfl, fun _ r => r, e, q⟩
theorem err_rd {K : PySem.W.Frag} {ea : Nat → Addr} {a : Addr} {c : Nat} {t : Str} {H : Hp} {D : Ends} (hr : errR c = some t) (e : ∀ i j, i < 6 → j < 6 → 0 < i → 0 < j → PySem.W.kitOne K (.ref (ea i)) (.ref (ea j)) = some (decide (i = j))) (hq : ∀ H', Same H H' → D.rt (.str t) H') :
    tSeq (tAsg (tLst (tCons (tIs K (ea c) a (ea 1)) (tCons (tIs K (ea c) a (ea 3)) (tCons (tIs K (ea c) a (ea 5)) (tCons (tIs K (ea c) a (ea 2)) (tCons (tIs K (ea c) a (ea 4)) tNil)))))) (gName 1))
      (tSeq (tIfS (tTest (tOp rNe (tCB (rSum K) (tCons (fun σ H Q => tVar 1 σ H fun v H1 => ∃ a xs ys, v = .ref a ∧ H1 a = some (.lst xs) ∧ Each (tCB rInt1 (tCons (tVar 2) tNil)) 2 xs ys ∧ xs.length ≤ 1000 ∧ ∀ p, H1 p = none → Q (.ref p) (upd H1 p (.lst ys))) tNil)) (tC (.int 1)))) (tRet (tC (.str "odd"))) tNext)
        (tRet (tOp (rIxL K) (tLst (tCons (tC (.str "refused")) (tCons (tC (.str "missing")) (tCons (tC (.str "wrong")) (tCons (tC (.str "form")) (tCons (tC (.str "alike")) tNil)))))) (tBM K "list" (rIndex K) (tVar 1) (tCons (tC (.bl true)) tNil))))) D [some (.ref a), none, none] H := by
  have hc : c < 6 ∧ 0 < c := by
    unfold errR at hr
    split at hr <;> first | exact ⟨by decide, by decide⟩ | cases hr
  refine is_rd rfl (e c 1 hc.1 (by decide) hc.2 (by decide)) (is_rd rfl (e c 3 hc.1 (by decide) hc.2 (by decide)) (is_rd rfl (e c 5 hc.1 (by decide) hc.2 (by decide)) (is_rd rfl (e c 2 hc.1 (by decide) hc.2 (by decide)) (is_rd rfl (e c 4 hc.1 (by decide) hc.2 (by decide)) ⟨by simp [sizeLine_eq], fun l hl => ?_⟩))))
  refine ⟨.ref l, rfl, l, _, ([decide (c = 1), decide (c = 3), decide (c = 5), decide (c = 2), decide (c = 4)].map fun b : Bool => V.int (if b then 1 else 0)), rfl, upd_same, ⟨rfl, fun i x y h1 h2 σ' H' Q' h3 h4 => ?_⟩, by simp, fun m hm => ?_⟩
  · have hx : ∃ b : Bool, x = V.bl b ∧ y = V.int (if b then 1 else 0) := by
      match i, h1, h2 with
      | 0, h1, h2 => exact ⟨_, (Option.some.inj h1).symm, (Option.some.inj h2).symm⟩
      | 1, h1, h2 => exact ⟨_, (Option.some.inj h1).symm, (Option.some.inj h2).symm⟩
      | 2, h1, h2 => exact ⟨_, (Option.some.inj h1).symm, (Option.some.inj h2).symm⟩
      | 3, h1, h2 => exact ⟨_, (Option.some.inj h1).symm, (Option.some.inj h2).symm⟩
      | 4, h1, h2 => exact ⟨_, (Option.some.inj h1).symm, (Option.some.inj h2).symm⟩
    obtain ⟨b, rfl, rfl⟩ := hx
    exact ⟨_, h3, .inr ⟨b, rfl, h4⟩⟩
  · have ne : l ≠ m := fun z => by rw [← z, upd_same] at hm; cases hm
    have hm0 : H m = none := by rw [upd_ne (Ne.symm ne)] at hm; exact hm
    refine ⟨m, [decide (c = 1), decide (c = 3), decide (c = 5), decide (c = 2), decide (c = 4)].map fun b : Bool => if b then 1 else 0, rfl, SqL.of (by rw [upd_same]; rfl), ?_⟩
    have sum1 : ([decide (c = 1), decide (c = 3), decide (c = 5), decide (c = 2), decide (c = 4)].map fun b : Bool => (if b then 1 else 0 : Int)).sum = 1 := by
      have : c = 1 ∨ c = 2 ∨ c = 3 ∨ c = 4 ∨ c = 5 := by omega
      rcases this with rfl | rfl | rfl | rfl | rfl <;> decide
    rw [sum1]
    refine ⟨rfl, _, rfl, ?_⟩
    have eB : (!decide (V.int 1 = V.int 1)) = false := by simp
    rw [eB]
    dsimp only []
    rw [if_neg Bool.false_ne_true]
    refine ⟨by simp [sizeLine_eq], fun n hn => ?_⟩
    have s1 : Same H (upd (upd (upd H l (.lst [.bl (decide (c = 1)), .bl (decide (c = 3)), .bl (decide (c = 5)), .bl (decide (c = 2)), .bl (decide (c = 4))])) m (.lst ([decide (c = 1), decide (c = 3), decide (c = 5), decide (c = 2), decide (c = 4)].map fun b : Bool => V.int (if b then 1 else 0)))) n (.lst [.str "refused", .str "missing", .str "wrong", .str "form", .str "alike"])) :=
      ((same_upd hl).trans (same_upd hm)).trans (same_upd hn)
    have hlm : (upd (upd (upd H l (.lst [.bl (decide (c = 1)), .bl (decide (c = 3)), .bl (decide (c = 5)), .bl (decide (c = 2)), .bl (decide (c = 4))])) m (.lst ([decide (c = 1), decide (c = 3), decide (c = 5), decide (c = 2), decide (c = 4)].map fun b : Bool => V.int (if b then 1 else 0)))) n (.lst [.str "refused", .str "missing", .str "wrong", .str "form", .str "alike"])) l = some (.lst [.bl (decide (c = 1)), .bl (decide (c = 3)), .bl (decide (c = 5)), .bl (decide (c = 2)), .bl (decide (c = 4))]) :=
      same_upd hn l _ (same_upd hm l _ upd_same)
    refine ⟨.ref l, rfl, .inl ⟨rfl, _, SqL.of hlm⟩, ?_⟩
    have fin : ∀ (j : Nat) (s : Str), ([.str "refused", .str "missing", .str "wrong", .str "form", .str "alike"] : List V)[j]? = some (.str s) → j < 5 → s = t →
        rIxL K (.ref n) (.int (j : Nat)) (upd (upd (upd H l (.lst [.bl (decide (c = 1)), .bl (decide (c = 3)), .bl (decide (c = 5)), .bl (decide (c = 2)), .bl (decide (c = 4))])) m (.lst ([decide (c = 1), decide (c = 3), decide (c = 5), decide (c = 2), decide (c = 4)].map fun b : Bool => V.int (if b then 1 else 0)))) n (.lst [.str "refused", .str "missing", .str "wrong", .str "form", .str "alike"])) D.rt := fun j s hj hlt hs => by
      refine ⟨n, _, (j : Nat), .str s, rfl, rfl, SqL.of upd_same, ?_, by rw [hs]; exact hq _ s1⟩
      have e5 : ixN 5 (j : Int) = some j := by
        unfold ixN
        rw [if_pos (Int.natCast_nonneg _), if_pos (by omega), Int.toNat_natCast]
      unfold atI
      show (ixN 5 (j : Int)).bind _ = _
      rw [e5]
      exact hj
    have : c = 1 ∨ c = 2 ∨ c = 3 ∨ c = 4 ∨ c = 5 := by omega
    rcases this with rfl | rfl | rfl | rfl | rfl
    · cases hr; exact ⟨l, _, .bl true, 0, .bl true, rfl, rfl, SqL.of hlm, rfl, rfl, rfl, rfl, fun q z h => by omega, fin 0 _ rfl (by decide) rfl⟩
    · cases hr; exact ⟨l, _, .bl true, 3, .bl true, rfl, rfl, SqL.of hlm, rfl, rfl, rfl, rfl, fun q z h e => by
        match q, h, e with
        | 0, _, e => cases e; rfl
        | 1, _, e => cases e; rfl
        | 2, _, e => cases e; rfl, fin 3 _ rfl (by decide) rfl⟩
    · cases hr; exact ⟨l, _, .bl true, 1, .bl true, rfl, rfl, SqL.of hlm, rfl, rfl, rfl, rfl, fun q z h e => by
        match q, h, e with
        | 0, _, e => cases e; rfl, fin 1 _ rfl (by decide) rfl⟩
    · cases hr; exact ⟨l, _, .bl true, 4, .bl true, rfl, rfl, SqL.of hlm, rfl, rfl, rfl, rfl, fun q z h e => by
        match q, h, e with
        | 0, _, e => cases e; rfl
        | 1, _, e => cases e; rfl
        | 2, _, e => cases e; rfl
        | 3, _, e => cases e; rfl, fin 4 _ rfl (by decide) rfl⟩
    · cases hr; exact ⟨l, _, .bl true, 2, .bl true, rfl, rfl, SqL.of hlm, rfl, rfl, rfl, rfl, fun q z h e => by
        match q, h, e with
        | 0, _, e => cases e; rfl
        | 1, _, e => cases e; rfl, fin 2 _ rfl (by decide) rfl⟩
end Mi
end
section
set_option Elab.async false
set_option linter.all false
set_option maxRecDepth 100000
/-! Ev24: from the facts of the head to defs and classes -/
namespace Mi
open PySem PySem.Spec PyProof.Rows L2
section
variable {K : PySem.W.Frag} {h : Heap} {mg : Str → Option Value} {G : Glb}
theorem def_in {name : Str} {st : Stmt} {ps : List Str} {f : Addr} {oc kV doc pm cdv ct : Value} {od an : Option Addr} {osl : Array (Option Value)} (KX : G.K.In h) (NS : h.Ns mainGlobals mg) (a : PySem.W.nsIn G.K mainGlobals name = some (some (.ref f)))
    (l : G.K.lookup f = some ⟨oc, od, .func (PySem.W.fnOf name name (defArgs st) (defBody st) (defScope st) .none kV doc pm an cdv ct), osl⟩) (c : PySem.W.codeIn G.K cdv name = true) (k : PySem.W.keepIn G.K (.ref f) = true)
    (b : ∀ (kV doc pm : Value) (an : Option Addr) (cdv ct : Value) (us : List Value), us.length = ps.length → bindArgs (PySem.W.fnOf name name (defArgs st) (defBody st) (defScope st) .none kV doc pm an cdv ct) ⟨us, []⟩ = pure (ps.zip us)) : Def G mg name st ps :=
  ⟨f, _, fun_mk l c k, PySem.W.mg_of KX NS a, k, (fun_mk l c k).binds b⟩
/-- the classes' places -/
def eaOf (a b c d e f : Addr) : Nat → Addr
  | 0 => a
  | 1 => b
  | 2 => c
  | 3 => d
  | 4 => e
  | _ => f
theorem exc_in {x : Str} {C : Addr} (KX : K.In h) (NS : h.Ns mainGlobals mg) (a : PySem.W.nsIn K mainGlobals x = some (some (.ref C))) (e : PySem.W.excIn K C bmV "ValueError.__new__" = true) (k : PySem.W.keepIn K (.ref C) = true)
    (b : PySem.W.subIn K (.ref C) (.type "BaseException") = some true) (t : PySem.W.typeIn K (.ref C) = some (.type "type")) : Exc1 K mg x C := ⟨PySem.W.mg_of KX NS a, e, k, b, t⟩
theorem kit_same {t : Value} : PySem.W.kitOne K t t = some true := by
  unfold PySem.W.kitOne
  rw [if_pos (beq_self_eq_true t)]
/-- the names that stand for built-ins -/
theorem nog_in {l : List Str} (KX : K.In h) (NS : h.Ns mainGlobals mg) (z : ∀ x, l.contains x = true → PySem.W.nsIn K mainGlobals x = some none) : NoG mg l := ⟨fun x hx => PySem.W.mg_none_of KX NS (z x hx)⟩
theorem nog_nil {P : Str → Prop} : ∀ x, ([] : List Str).contains x = true → P x := fun x h => by simp at h
theorem nog_cons {P : Str → Prop} {y : Str} {l : List Str} (h : P y) (t : ∀ x, l.contains x = true → P x) : ∀ x, (y :: l).contains x = true → P x := fun x hx => by
  rw [List.contains_cons, Bool.or_eq_true] at hx
  rcases hx with e | e
  · rw [beq_iff_eq.mp e]; exact h
  · exact t x e
end
end Mi
namespace Mi
open PySem PySem.Spec PyProof.Rows L2
theorem kit_no {K : PySem.W.Frag} {C D : Addr} (ne : C ≠ D) (hd : PySem.W.hasDictIn K D = true) (t : PySem.W.typeIn K (.ref D) = some (.type "type")) (s : PySem.W.subIn K (.ref C) (.ref D) = some false) : PySem.W.kitOne K (.ref C) (.ref D) = some false := by
  obtain ⟨cd, hc, _⟩ := PySem.W.any_some hd
  have e1 : (Value.ref C == Value.ref D) = false := beq_eq_false_iff_ne.mpr fun e => ne (Value.ref.inj e)
  have e2 : ((PySem.W.clsIn K D).isSome && PySem.W.typeIn K (.ref D) == some (.type "type")) = true := by rw [hc, t]; rfl
  unfold PySem.W.kitOne
  rw [e1, if_neg Bool.false_ne_true]
  show (if ((PySem.W.clsIn K D).isSome && PySem.W.typeIn K (.ref D) == some (.type "type")) = true then PySem.W.subIn K (.ref C) (.ref D) else none) = some false
  rw [if_pos e2]
  exact s
end Mi
namespace Mi
open PySem
theorem nd_ne {l : List Addr} (h : l.Nodup) (i j : Nat) {a b : Addr} (ha : l[i]? = some a) (hb : l[j]? = some b) (ne : i ≠ j) : a ≠ b := fun e => by
  subst e
  obtain ⟨h1, e1⟩ := List.getElem?_eq_some_iff.mp ha
  obtain ⟨h2, e2⟩ := List.getElem?_eq_some_iff.mp hb
  exact ne ((List.getElem_inj h).mp (e1.trans e2.symm))
end Mi
end
section
set_option Elab.async false
set_option linter.all false
set_option maxRecDepth 100000
/-! Ev30: how an evaluator is evaluated -/
namespace Mi
open PySem
section
variable {α β : Type} {a : α} {ρ : Rho} {c i n : Nat} {w : Vl} {d : PyData} {ws : List Vl}
theorem bind_ok {k : α → Rho → Out β} : (Out.ok a ρ).bind k = k a ρ := rfl
theorem bind_exc {k : α → Rho → Out β} : (Out.exc c ρ : Out α).bind k = .exc c ρ := rfl
theorem bind_stk {k : α → Rho → Out β} : (Out.stk : Out α).bind k = .stk := rfl
theorem bindS_ok {k : α → Rho → SO} : (Out.ok a ρ).bindS k = k a ρ := rfl
theorem bindS_exc {k : α → Rho → SO} : (Out.exc c ρ : Out α).bindS k = .exc c ρ := rfl
theorem bindS_stk {k : α → Rho → SO} : (Out.stk : Out α).bindS k = .stk := rfl
theorem ret_some : Mi.ret ρ (some w) = .ok (.val w) ρ := rfl
theorem look_val : look ρ (.val w) = some w := rfl
theorem look_brw : look ρ (.brw i) = (ρ[i]?).join := rfl
theorem fC_ev : fC d ρ = .ok (.val (.dat d)) ρ := rfl
theorem fV_dat (h : ρ[i]? = some (some (.dat d))) : fV i ρ = .ok (.val (.dat d)) ρ := by unfold fV; rw [h]; rfl
theorem setO_val : setO i (.val w) ρ = .nx (ρ.set i (some w)) := rfl
theorem retO_val : retO (.val w) ρ = .ret w ρ := rfl
theorem aNil_ev : aNil ρ = .ok [] ρ := rfl
theorem cT_ev : cT ρ = .ok true ρ := rfl
theorem sSeq_ev {f g : FS} : sSeq f g ρ = match f ρ with
  | .nx ρ1 => g ρ1
  | r => r := rfl
theorem gd_true {p : Prop} (h : p) : gd p w = some w := gd_pos h
theorem iop_ev {C : Int → Int → Prop} {g : Int → Int → PyData} {i j : Int} (h : C i j) : iop C g (.dat (.int i)) (.dat (.int j)) = some (.dat (g i j)) := gd_pos h
theorem boO_ev {b : Bool} : boO ρ (.val (vB b)) = .ok b ρ := rfl
theorem frz1_dat : frz1 ρ (.val (.dat d)) = some (d, ρ) := rfl
theorem frz1_ml {ds : List PyData} : frz1 ρ (.val (.ml ds)) = some (.list ds, ρ) := rfl
theorem bN_ev : bN i d ρ = some (ρ.set i (some (.dat d))) := rfl
theorem gEq_of {a b : Vl} {d e : PyData} (h1 : viewD a = some d) (h2 : viewD b = some e) (s1 : shp d) (s2 : shp e) : gEq a b = some (vB (PyData.eqv d e)) := by
  unfold gEq orG
  have hD : gEqD a b = some (vB (PyData.eqv d e)) := by
    unfold gEqD
    rw [h1, h2]
    exact gd_pos ⟨s1, s2⟩
  cases q : gEqS a b with
  | none => exact hD
  | some w =>
    unfold gEqS at q
    split at q
    · cases q
      cases h1
      cases h2
      rename_i i j
      simp [PyData.eqv, Bool.beq_eq_decide_eq]
    · cases q
theorem gNe_of {a b : Vl} {d e : PyData} (h1 : viewD a = some d) (h2 : viewD b = some e) (s1 : shp d) (s2 : shp e) : gNe a b = some (vB (!PyData.eqv d e)) := by
  unfold gNe orG
  have hD : gNeD a b = some (vB (!PyData.eqv d e)) := by
    unfold gNeD
    rw [h1, h2]
    exact gd_pos ⟨s1, s2⟩
  cases q : gNeS a b with
  | none => exact hD
  | some w =>
    unfold gNeS at q
    split at q
    · cases q
      cases h1
      cases h2
      rename_i i j
      simp [PyData.eqv, Bool.beq_eq_decide_eq]
    · cases q
theorem gEq_int {i j : Int} : gEq (.dat (.int i)) (.dat (.int j)) = some (vB (decide (i = j))) := by
  rw [gEq_of (d := .int i) (e := .int j) rfl rfl rfl rfl]
  simp [PyData.eqv, Bool.beq_eq_decide_eq]
theorem gNe_int {i j : Int} : gNe (.dat (.int i)) (.dat (.int j)) = some (vB (!decide (i = j))) := by
  rw [gNe_of (d := .int i) (e := .int j) rfl rfl rfl rfl]
  simp [PyData.eqv, Bool.beq_eq_decide_eq]
theorem gEq_str {i j : PySem.Str} : gEq (.dat (.str i)) (.dat (.str j)) = some (vB (decide (i = j))) := rfl
theorem gNe_str {i j : PySem.Str} : gNe (.dat (.str i)) (.dat (.str j)) = some (vB (!decide (i = j))) := rfl
theorem int_view {i : Int} : viewD (.dat (.int i)) = some (.int i) := rfl
end
end Mi
end
section
set_option Elab.async false
set_option linter.all false
set_option maxRecDepth 100000
/-! Ev31: loops and comprehensions, evaluated -/
namespace Mi
open PySem
section
variable {b : FB} {body : FS} {c : FT}
theorem forL_step {d : PyData} {ds : List PyData} {ρ ρ1 : Rho} (e1 : b d ρ = some ρ1) : forL b body (d :: ds) ρ = match body ρ1 with
      | .nx ρ2 => forL b body ds ρ2
      | .ct ρ2 => forL b body ds ρ2
      | .bk ρ2 => .nx ρ2
      | .ret w ρ2 => .ret w ρ2
      | .exc c ρ2 => .exc c ρ2
      | .stk => .stk := by
  show (match b d ρ with
    | none => SO.stk
    | some ρ1 => _) = _
  rw [e1]
  all_goals rfl
theorem forL_inv (Inv : Nat → Rho → Prop) (Post : Rho → Prop) {ds : List PyData} {ρ : Rho} (h : Inv 0 ρ)
    (st : ∀ (k : Nat) (d : PyData) (ρ : Rho), ds[k]? = some d → Inv k ρ → ∃ ρ1, b d ρ = some ρ1 ∧ ((∃ ρ2, (body ρ1 = .nx ρ2 ∨ body ρ1 = .ct ρ2) ∧ Inv (k + 1) ρ2) ∨ ∃ ρ2, body ρ1 = .bk ρ2 ∧ Post ρ2)) :
    ∃ ρ', forL b body ds ρ = .nx ρ' ∧ (Inv ds.length ρ' ∨ Post ρ') := by
  have go : ∀ (es : List PyData) (k : Nat) (ρ : Rho), Inv k ρ → (∀ j, es[j]? = ds[k + j]?) → ∃ ρ', forL b body es ρ = .nx ρ' ∧ (Inv (k + es.length) ρ' ∨ Post ρ') := by
    intro es
    induction es with
    | nil => intro k ρ h _; exact ⟨ρ, rfl, .inl h⟩
    | cons d es ih =>
      intro k ρ h e
      obtain ⟨ρ1, e1, r⟩ := st k d ρ (by have := e 0; simpa using this.symm) h
      have unf := forL_step (body := body) (ds := es) e1
      rcases r with ⟨ρ2, e2, i2⟩ | ⟨ρ2, e2, p2⟩
      · obtain ⟨ρ', e3, r3⟩ := ih (k + 1) ρ2 i2 fun j => by have := e (j + 1); rw [show k + 1 + j = k + (j + 1) from by omega]; simpa using this
        refine ⟨ρ', ?_, ?_⟩
        · rw [unf]
          rcases e2 with e2 | e2 <;> rw [e2] <;> exact e3
        · rw [List.length_cons]
          rcases r3 with r3 | r3
          · exact .inl (by rw [show k + (es.length + 1) = k + 1 + es.length from by omega]; exact r3)
          · exact .inr r3
      · exact ⟨ρ2, by rw [unf, e2], .inr p2⟩
  obtain ⟨ρ', h1, h2⟩ := go ds 0 ρ h fun j => by rw [Nat.zero_add]
  exact ⟨ρ', h1, by simpa using h2⟩
/-- without a way out -/
theorem forL_all (Inv : Nat → Rho → Prop) {ds : List PyData} {ρ : Rho} (h : Inv 0 ρ) (st : ∀ (k : Nat) (d : PyData) (ρ : Rho), ds[k]? = some d → Inv k ρ → ∃ ρ1 ρ2, b d ρ = some ρ1 ∧ (body ρ1 = .nx ρ2 ∨ body ρ1 = .ct ρ2) ∧ Inv (k + 1) ρ2) :
    ∃ ρ', forL b body ds ρ = .nx ρ' ∧ Inv ds.length ρ' := by
  have go : ∀ (es : List PyData) (k : Nat) (ρ : Rho), Inv k ρ → (∀ j, es[j]? = ds[k + j]?) → ∃ ρ', forL b body es ρ = .nx ρ' ∧ Inv (k + es.length) ρ' := by
    intro es
    induction es with
    | nil => intro k ρ h _; exact ⟨ρ, rfl, h⟩
    | cons d es ih =>
      intro k ρ h e
      obtain ⟨ρ1, ρ2, e1, e2, i2⟩ := st k d ρ (by have := e 0; simpa using this.symm) h
      obtain ⟨ρ', e3, i3⟩ := ih (k + 1) ρ2 i2 fun j => by have := e (j + 1); rw [show k + 1 + j = k + (j + 1) from by omega]; simpa using this
      refine ⟨ρ', ?_, by rw [List.length_cons, show k + (es.length + 1) = k + 1 + es.length from by omega]; exact i3⟩
      rw [forL_step e1]
      rcases e2 with e2 | e2 <;> rw [e2] <;> exact e3
  obtain ⟨ρ', h1, h2⟩ := go ds 0 ρ h fun j => by rw [Nat.zero_add]
  exact ⟨ρ', h1, by simpa using h2⟩
theorem sFor_ev {fi : FI} {ρ ρ1 : Rho} {ds : List PyData} (h : fi ρ = .ok ds ρ1) : sFor fi b body ρ = forL b body ds ρ1 := by
  unfold sFor
  rw [h]
  rfl
/-- while, by a measure -/
theorem sWh_inv (Inv : Nat → Rho → Prop) (Post : Rho → Prop) (st : ∀ (m : Nat) (ρ : Rho), Inv m ρ → (∃ ρ1, c ρ = .ok false ρ1 ∧ Post ρ1) ∨ ∃ ρ1 ρ2 m', c ρ = .ok true ρ1 ∧ (body ρ1 = .nx ρ2 ∨ body ρ1 = .ct ρ2) ∧ m' < m ∧ Inv m' ρ2) {m : Nat} {ρ : Rho} (h : Inv m ρ) :
    ∃ ρ', sWh c body ρ = .nx ρ' ∧ Post ρ' := by
  have go : ∀ (m : Nat) (ρ : Rho), Inv m ρ → ∃ k ρ', whN c body k ρ = .nx ρ' ∧ Post ρ' := by
    intro m
    induction m using Nat.strongRecOn with
    | ind m ih =>
      intro ρ h
      rcases st m ρ h with ⟨ρ1, e1, p1⟩ | ⟨ρ1, ρ2, m', e1, e2, lt, i2⟩
      · refine ⟨1, ρ1, ?_, p1⟩
        unfold whN
        rw [e1]
        rfl
      · obtain ⟨k, ρ', e3, p3⟩ := ih m' lt ρ2 i2
        refine ⟨k + 1, ρ', ?_, p3⟩
        unfold whN
        rw [e1]
        simp only [bindS_ok, if_true]
        rcases e2 with e2 | e2 <;> rw [e2] <;> exact e3
  obtain ⟨k, ρ', e, p⟩ := go m ρ h
  exact ⟨ρ', by rw [sWh_eq (k := k) (by rw [e]; exact fun z => nomatch z), e], p⟩
end

/-! ### comprehensions -/
theorem wipeR_length (ρ : Rho) : ∀ vs : List Nat, (wipeR ρ vs).length = ρ.length
  | [] => rfl
  | v :: vs => by unfold wipeR; rw [List.length_set, wipeR_length ρ vs]
theorem wipeR_out {ρ : Rho} {j : Nat} : ∀ {vs : List Nat}, j ∉ vs → (wipeR ρ vs)[j]? = ρ[j]?
  | [], _ => rfl
  | v :: vs, h => by
    unfold wipeR
    rw [List.getElem?_set_ne (fun e => h (by rw [e]; exact List.mem_cons_self))]
    exact wipeR_out fun m => h (List.mem_cons_of_mem _ m)
theorem restR_length (ρ0 ρ : Rho) : ∀ vs : List Nat, (restR ρ0 ρ vs).length = ρ.length
  | [] => rfl
  | v :: vs => by unfold restR; rw [List.length_set, restR_length ρ0 ρ vs]
theorem restR_out {ρ0 ρ : Rho} {j : Nat} : ∀ {vs : List Nat}, j ∉ vs → (restR ρ0 ρ vs)[j]? = ρ[j]?
  | [], _ => rfl
  | v :: vs, h => by
    unfold restR
    rw [List.getElem?_set_ne (fun e => h (by rw [e]; exact List.mem_cons_self))]
    exact restR_out fun m => h (List.mem_cons_of_mem _ m)
theorem restR_at {ρ0 ρ : Rho} {j : Nat} : ∀ {vs : List Nat}, j ∈ vs → j < ρ.length → (restR ρ0 ρ vs)[j]? = some (ρ0[j]?).join
  | [], h, _ => by simp at h
  | v :: vs, h, hl => by
    unfold restR
    by_cases e : v = j
    · subst e
      rw [List.getElem?_set_self (by rw [restR_length]; exact hl)]
    · rw [List.getElem?_set_ne e]
      rcases List.mem_cons.mp h with q | q
      · exact (e q.symm).elim
      · exact restR_at q hl
theorem restR_same {ρ0 ρ : Rho} {vs : List Nat} (h : wipeR ρ vs = wipeR ρ0 vs) : restR ρ0 ρ vs = ρ0 := by
  have hl : ρ.length = ρ0.length := by
    have := congrArg List.length h
    rw [wipeR_length, wipeR_length] at this
    exact this
  apply List.ext_getElem?
  intro j
  by_cases hj : j ∈ vs
  · by_cases hlt : j < ρ.length
    · rw [restR_at hj hlt]
      have : j < ρ0.length := by omega
      rw [List.getElem?_eq_getElem this]
      rfl
    · rw [List.getElem?_eq_none (by rw [restR_length]; omega), List.getElem?_eq_none (by omega)]
  · rw [restR_out hj, ← wipeR_out hj, h, wipeR_out hj]
section
variable {vs : List Nat} {fi : FI} {b : FB} {c : FT} {e : FE} {α : Type}
/-- a comprehension whose turns leave the environment as it is -/
theorem compL_pure {ι : α → PyData} {p : α → Bool} {g : α → PyData} {ρw : Rho} : ∀ (xs : List α) (ρ : Rho), wipeR ρ vs = ρw →
    (∀ x ∈ xs, ∃ ρ1, b (ι x) ρw = some ρ1 ∧ wipeR ρ1 vs = ρw ∧ c ρ1 = .ok (p x) ρ1 ∧ (p x = true → ∃ w, e ρ1 = .ok (.val w) ρ1 ∧ viewD w = some (g x))) →
    ∃ ρ', compL vs b c e (xs.map ι) ρ = .ok ((xs.filter p).map g) ρ' ∧ wipeR ρ' vs = ρw
  | [], ρ, h, _ => ⟨ρ, rfl, h⟩
  | x :: xs, ρ, h, st => by
    obtain ⟨ρ1, e1, h1, e2, e3⟩ := st x (by simp)
    have ih : ∀ ρ, wipeR ρ vs = ρw → ∃ ρ', compL vs b c e (xs.map ι) ρ = .ok ((xs.filter p).map g) ρ' ∧ wipeR ρ' vs = ρw := fun ρ hρ => compL_pure xs ρ hρ fun y hy => st y (List.mem_cons_of_mem _ hy)
    rw [List.map_cons]
    unfold compL
    rw [h, e1]
    simp only [e2]
    cases hp : p x with
    | false =>
      obtain ⟨ρ', q1, q2⟩ := ih ρ1 h1
      exact ⟨ρ', by rw [List.filter_cons_of_neg (by rw [hp]; decide)]; exact q1, q2⟩
    | true =>
      obtain ⟨w, e4, e5⟩ := e3 hp
      obtain ⟨ρ', q1, q2⟩ := ih ρ1 h1
      refine ⟨ρ', ?_, q2⟩
      have e6 : frz1 ρ1 (.val w) = some (g x, ρ1) := by
        show (viewD w).map (fun d => (d, ρ1)) = _
        rw [e5]; rfl
      simp only [e4, e6, q1]
      rw [List.filter_cons_of_pos hp]
      rfl
theorem fComp_pure {ι : α → PyData} {p : α → Bool} {g : α → PyData} {ρ ρ1 : Rho} (xs : List α) (hfi : fi ρ = .ok (xs.map ι) ρ1) (hl : xs.length ≤ 100000)
    (st : ∀ x ∈ xs, ∃ ρ2, b (ι x) (wipeR ρ1 vs) = some ρ2 ∧ wipeR ρ2 vs = wipeR ρ1 vs ∧ c ρ2 = .ok (p x) ρ2 ∧ (p x = true → ∃ w, e ρ2 = .ok (.val w) ρ2 ∧ viewD w = some (g x))) :
    fComp vs fi b c e ρ = .ok (.val (.ml ((xs.filter p).map g))) ρ1 := by
  obtain ⟨ρ', e1, e2⟩ := compL_pure (ι := ι) (p := p) (g := g) xs ρ1 rfl st
  unfold fComp
  rw [hfi]
  simp only [bind_ok]
  rw [e1]
  show (if (xs.map ι).length ≤ 100000 then Out.ok (Opd.val (Vl.ml ((xs.filter p).map g))) (restR ρ1 ρ' vs) else Out.stk) = _
  rw [List.length_map, if_pos hl, restR_same e2]
/-- without a test -/
theorem fComp_map {ι : α → PyData} {g : α → PyData} {ρ ρ1 : Rho} (xs : List α) (hfi : fi ρ = .ok (xs.map ι) ρ1) (hl : xs.length ≤ 100000)
    (st : ∀ x ∈ xs, ∃ ρ2 w, b (ι x) (wipeR ρ1 vs) = some ρ2 ∧ wipeR ρ2 vs = wipeR ρ1 vs ∧ e ρ2 = .ok (.val w) ρ2 ∧ viewD w = some (g x)) :
    fComp vs fi b cT e ρ = .ok (.val (.ml (xs.map g))) ρ1 := by
  have := fComp_pure (c := cT) (p := fun _ => true) (g := g) (e := e) (vs := vs) (b := b) xs hfi hl fun x hx => by
    obtain ⟨ρ2, w, h1, h2, h3, h4⟩ := st x hx
    exact ⟨ρ2, h1, h2, rfl, fun _ => ⟨w, h3, h4⟩⟩
  rw [this, List.filter_eq_self.mpr fun _ _ => rfl]
/-- a comprehension whose turns change the environment -/
theorem compL_inv (Inv : Nat → Rho → Prop) (Pd : PyData → Prop) {ds : List PyData} {ρ : Rho} (h : Inv 0 ρ)
    (st : ∀ (k : Nat) (d : PyData) (ρ : Rho), ds[k]? = some d → Inv k ρ → ∃ ρ1 ρ2 o ρ3 d' ρ4, b d (wipeR ρ vs) = some ρ1 ∧ c ρ1 = .ok true ρ2 ∧ e ρ2 = .ok o ρ3 ∧ frz1 ρ3 o = some (d', ρ4) ∧ Pd d' ∧ Inv (k + 1) ρ4) :
    ∃ ds' ρ', compL vs b c e ds ρ = .ok ds' ρ' ∧ ds'.length = ds.length ∧ (∀ d ∈ ds', Pd d) ∧ Inv ds.length ρ' := by
  have go : ∀ (es : List PyData) (k : Nat) (ρ : Rho), Inv k ρ → (∀ j, es[j]? = ds[k + j]?) → ∃ ds' ρ', compL vs b c e es ρ = .ok ds' ρ' ∧ ds'.length = es.length ∧ (∀ d ∈ ds', Pd d) ∧ Inv (k + es.length) ρ' := by
    intro es
    induction es with
    | nil => intro k ρ h _; exact ⟨[], ρ, rfl, rfl, fun _ z => by simp at z, h⟩
    | cons d es ih =>
      intro k ρ h ej
      obtain ⟨ρ1, ρ2, o, ρ3, d', ρ4, e1, e2, e3, e4, pd, i4⟩ := st k d ρ (by have := ej 0; simpa using this.symm) h
      obtain ⟨ds', ρ', e5, e6, e7, e8⟩ := ih (k + 1) ρ4 i4 fun j => by have := ej (j + 1); rw [show k + 1 + j = k + (j + 1) from by omega]; simpa using this
      refine ⟨d' :: ds', ρ', ?_, by simp [e6], fun y hy => ?_, ?_⟩
      · unfold compL
        rw [e1]
        simp only [e2, e3, e4, e5]
      · rcases List.mem_cons.mp hy with rfl | hy
        · exact pd
        · exact e7 y hy
      · rw [List.length_cons, show k + (es.length + 1) = k + 1 + es.length from by omega]
        exact e8
  obtain ⟨ds', ρ', h1, h2, h3, h4⟩ := go ds 0 ρ h fun j => by rw [Nat.zero_add]
  exact ⟨ds', ρ', h1, h2, h3, by simpa using h4⟩
theorem fComp_ev {fi : FI} {ρ ρ1 ρ2 : Rho} {ds ds' : List PyData} (hfi : fi ρ = .ok ds ρ1) (hl : ds.length ≤ 100000) (h : compL vs b c e ds ρ1 = .ok ds' ρ2) : fComp vs fi b c e ρ = .ok (.val (.ml ds')) (restR ρ1 ρ2 vs) := by
  unfold fComp
  rw [hfi]
  simp only [bind_ok]
  rw [h]
  exact if_pos hl
end
end Mi
end
section
set_option Elab.async false
set_option linter.all false
set_option maxRecDepth 100000
/-! Ev32: the defs that all laws have -/
namespace Mi
open PySem (PyData)
noncomputable def F__law_same : FS := (sRet (bin gEq (callB (g1 gRepr) (aCons (fLst (aCons (fV 0) aNil)) aNil)) (callB (g1 gRepr) (aCons (fLst (aCons (fV 1) aNil)) aNil))))
noncomputable def S__law_same : CSpec := specOf [false, false] 2 F__law_same
theorem e__law_same : ∀ ws, S__law_same ws ≠ .stk → specOf [false, false] 2 F__law_same ws = S__law_same ws := fun _ _ => rfl
noncomputable def F__law_stream : FS := (sSeq (sSet 1 (fLst aNil))
  (sSeq (sFor (iE (fSl (fV 0) pNo (pSo (fC (.int 63))))) (bN 2) (sSeq (sSet 3 (callB (g1 gAbs) (aCons (callB (g1 gInt) (aCons (fV 2) aNil)) aNil)))
  (sIf (tBo (bin gGe (fV 3) (bin gPow (fC (.int 10)) (fC (.int 18))))) (sFor (iR1 (aCons (fC (.int 60)) aNil)) (bN 4) (sSeq (sDrop (fApp 1 (bin gMod (callB (g1 gInt) (aCons (fV 3) aNil)) (fC (.int 1009)))))
  (sSeq (sSet 3 (bin gFDiv (fV 3) (fC (.int 1009))))
  (sIf (tBo (bin gEq (fV 3) (fC (.int 0)))) sBrk sNext)))) (sSeq (sSet 5 (bin gMod (callB (g1 gInt) (aCons (fV 3) aNil)) (fC (.int 2147483647))))
  (sFor (iR1 (aCons (fC (.int 10)) aNil)) (bN 4) (sSeq (sSet 5 (bin gMod (callB (g1 gInt) (aCons (bin gAdd (bin gAdd (bin gMul (fV 5) (fC (.int 48271))) (bin gMul (fC (.int 7)) (fV 4))) (fC (.int 11))) aNil)) (fC (.int 2147483647))))
  (sDrop (fApp 1 (bin gMod (bin gMod (callB (g1 gInt) (aCons (bin gAdd (bin gMul (fV 5) (fC (.int 69621))) (fV 4)) aNil)) (fC (.int 2147483629))) (fC (.int 1009)))))))))))
  (sSeq (sIf (tBo (bin gEq (callB (g1 gLen) (aCons (fV 1) aNil)) (fC (.int 0)))) (sDrop (fApp 1 (fC (.int 0)))) sNext)
  (sRet (fV 1)))))
noncomputable def S__law_stream : CSpec := specOf [false] 6 F__law_stream
theorem e__law_stream : ∀ ws, S__law_stream ws ≠ .stk → specOf [false] 6 F__law_stream ws = S__law_stream ws := fun _ _ => rfl
noncomputable def F__law_next : FS := (sSeq (sSetItem 0 (fC (.int 1)) (bin gAdd (bin gIx (fV 0) (fC (.int 1))) (fC (.int 1))))
  (sSeq (sSet 2 (bin gFDiv (bin gIx (fV 0) (fC (.int 1))) (callB (g1 gLen) (aCons (bin gIx (fV 0) (fC (.int 0))) aNil))))
  (sRet (bin gMod (callB (g1 gInt) (aCons (bin gAdd (bin gAdd (bin gIx (bin gIx (fV 0) (fC (.int 0))) (bin gMod (bin gIx (fV 0) (fC (.int 1))) (callB (g1 gLen) (aCons (bin gIx (fV 0) (fC (.int 0))) aNil)))) (bin gMul (fV 2) (fC (.int 389)))) (bin gMul (bin gMul (bin gIx (fV 0) (fC (.int 1))) (fV 2)) (fC (.int 17)))) aNil)) (fV 1)))))
noncomputable def S__law_next : CSpec := specOf [true, false] 3 F__law_next
theorem e__law_next : ∀ ws, S__law_next ws ≠ .stk → specOf [true, false] 3 F__law_next ws = S__law_next ws := fun _ _ => rfl

/-- a list of ints, as a stream -/
structure Nums (ns : List Int) (N : Nat) : Prop where
  len : ns.length ≤ N
  all : ∀ x ∈ ns, 0 ≤ x ∧ x < 1009
theorem Nums.add {ns : List Int} {N : Nat} (h : Nums ns N) {x : Int} (h1 : 0 ≤ x) (h2 : x < 1009) : Nums (ns ++ [x]) (N + 1) :=
  ⟨by rw [List.length_append, List.length_singleton]; have := h.len; omega, fun y hy => by
    rcases List.mem_append.mp hy with q | q
    · exact h.all y q
    · obtain rfl : y = x := by simpa using q
      exact ⟨h1, h2⟩⟩
theorem map_snoc (ns : List Int) (x : Int) : ns.map PyData.int ++ [PyData.int x] = (ns ++ [x]).map PyData.int := by simp
theorem next_ev (nums : List Int) (c m : Int) (hL : 0 < nums.length) (hL2 : nums.length < 10000) (hc : 0 ≤ c) (hc2 : c < 1000000) (hm : 0 < m) :
    ∃ r, S__law_next [.ml [.list (nums.map .int), .int c], .dat (.int m)] = .ok (.dat (.int r)) [some (.ml [.list (nums.map .int), .int (c + 1)]), none] ∧ 0 ≤ r ∧ r < m := by
  have hLi : (0 : Int) < (nums.length : Int) := by omega
  have h1 : L2.CDiv (c + 1) (nums.length : Int) := ⟨by omega, by omega⟩
  have h2 := Int.emod_nonneg (c + 1) (b := (nums.length : Int)) (by omega)
  have h3 := Int.emod_lt_of_pos (c + 1) (b := (nums.length : Int)) (by omega)
  have hi : ((c + 1) % (nums.length : Int)).toNat < nums.length := by omega
  have e1 := List.getElem?_eq_getElem hi
  have h4 : ∀ i : Int, L2.CMul i 389 := fun i => .inr ⟨by decide, by decide⟩
  have h5 : ∀ i : Int, L2.CMul i 17 := fun i => .inr ⟨by decide, by decide⟩
  have h6 : ∀ i : Int, L2.CMul (c + 1) i := fun i => .inl ⟨by omega, by omega⟩
  refine ⟨(nums[((c + 1) % (nums.length : Int)).toNat] + (c + 1) / (nums.length : Int) * 389 + (c + 1) * ((c + 1) / (nums.length : Int)) * 17) % m, ?_, Int.emod_nonneg _ (by omega), Int.emod_lt_of_pos _ hm⟩
  unfold S__law_next F__law_next
  simp [specOf, outs, sSeq_ev, sSet, sRet, sRetN, sIf, sDrop, sRaise, sNext, sBrk, sCnt, sSetItem, sAug, augO, setItemO, setO_val, retO_val, bind_ok, bind_exc, bind_stk, bindS_ok, bindS_exc, bindS_stk, ret_some, look_val, look_brw, fC_ev, fV, bin, una, chain, tBo, tTr, tNotV, tAndV, tOrV, fAnd, fOr, fNot, fIf, boO_ev, trO, tru, aNil_ev, aCons, cT_ev, callB, looks, g1, frz1_dat, frz1_ml, bN_ev, fTup, fLst, mkT, mkL, frzL, iE, seqO, iR1, iR2, rg1, rg2, gAdd, gMul, gSub, gFDiv, gMod, gPow, gShl, gShr, gAnd, gOr, gXor, gLt, gLe, gGt, gGe, gAddI, gMulI, gU, gIx, gLen, gInt, gAbs, gList, gTuple, iop, tt2, orG, viewD, asL, asT, fApp, appO, isMl, fExt, extO, fSl, pNo, pSo, gSl, L2.atI, L2.ixN, gd, gEq_int, gNe_int, gEq_str, gNe_str, gd, h1, h2, h3, h4, h5, h6, e1, hm, hL, hLi]
theorem range_at {lo hi : Int} {k : Nat} {d : PyData} (h : (rangeD lo hi)[k]? = some d) : d = .int (lo + k) ∧ (k : Int) < hi - lo := by
  unfold rangeD at h
  obtain ⟨hk, e⟩ := List.getElem?_eq_some_iff.mp h
  simp at hk e
  exact ⟨e.symm, by omega⟩
theorem range_len (lo hi : Int) : (rangeD lo hi).length = (hi - lo).toNat := by unfold rangeD; simp
noncomputable abbrev B1 : FS := sSeq (sDrop (fApp 1 (bin gMod (callB (g1 gInt) (aCons (fV 3) aNil)) (fC (.int 1009))))) (sSeq (sSet 3 (bin gFDiv (fV 3) (fC (.int 1009)))) (sIf (tBo (bin gEq (fV 3) (fC (.int 0)))) sBrk sNext))
noncomputable abbrev B2 : FS := sSeq (sSet 5 (bin gMod (callB (g1 gInt) (aCons (bin gAdd (bin gAdd (bin gMul (fV 5) (fC (.int 48271))) (bin gMul (fC (.int 7)) (fV 4))) (fC (.int 11))) aNil)) (fC (.int 2147483647))))
  (sDrop (fApp 1 (bin gMod (bin gMod (callB (g1 gInt) (aCons (bin gAdd (bin gMul (fV 5) (fC (.int 69621))) (fV 4)) aNil)) (fC (.int 2147483629))) (fC (.int 1009)))))
theorem inner1 (sc : Option Vl) (nums : List Int) (N : Nat) (cell rest : Int) (x4 x5 : Option Vl) (hN : Nums nums N) (hb : N ≤ 5000) (hr : 0 ≤ rest) :
    ∃ (nums' : List Int) (rest' : Int) (x4' : Option Vl), forL (bN 4) B1 (rangeD 0 60) [sc, some (.ml (nums.map .int)), some (vI cell), some (vI rest), x4, x5] = .nx [sc, some (.ml (nums'.map .int)), some (vI cell), some (vI rest'), x4', x5] ∧ Nums nums' (N + 60) := by
  have st : ∀ (k : Nat) (d : PyData) (ρ : Rho), (rangeD 0 60)[k]? = some d → (∃ (nums' : List Int) (rest' : Int) (x4' : Option Vl), ρ = [sc, some (.ml (nums'.map .int)), some (vI cell), some (vI rest'), x4', x5] ∧ Nums nums' (N + k) ∧ 0 ≤ rest') →
      ∃ ρ1, bN 4 d ρ = some ρ1 ∧ ((∃ ρ2, (B1 ρ1 = .nx ρ2 ∨ B1 ρ1 = .ct ρ2) ∧ ∃ (nums' : List Int) (rest' : Int) (x4' : Option Vl), ρ2 = [sc, some (.ml (nums'.map .int)), some (vI cell), some (vI rest'), x4', x5] ∧ Nums nums' (N + (k + 1)) ∧ 0 ≤ rest') ∨
        ∃ ρ2, B1 ρ1 = .bk ρ2 ∧ ∃ (nums' : List Int) (rest' : Int) (x4' : Option Vl), ρ2 = [sc, some (.ml (nums'.map .int)), some (vI cell), some (vI rest'), x4', x5] ∧ Nums nums' (N + 60)) := by
    rintro k d ρ hd ⟨n', r', x', rfl, q, hr'⟩
    obtain ⟨rfl, hk⟩ := range_at hd
    have hl := q.len
    have c1 : L2.CDiv r' 1009 := ⟨by decide, by decide⟩
    have m1 := Int.emod_nonneg r' (b := 1009) (by decide)
    have m2 := Int.emod_lt_of_pos r' (b := 1009) (by decide)
    have q2 := q.add m1 m2
    have hlen : n'.length ≤ 100000 := by omega
    have d1 : 0 ≤ r' / 1009 := Int.ediv_nonneg hr' (by decide)
    have se : ∀ z : Int, shp (.int z) := fun z => rfl
    refine ⟨_, rfl, ?_⟩
    by_cases hz : r' / 1009 = 0
    · refine .inr ⟨[sc, some (.ml ((n' ++ [r' % 1009]).map .int)), some (vI cell), some (vI (r' / 1009)), some (vI (0 + (k : Int))), x5], ?_, _, _, _, rfl, ⟨by have := q2.len; omega, q2.all⟩⟩
      simp [B1, specOf, outs, sSeq_ev, sSet, sRet, sRetN, sIf, sDrop, sRaise, sNext, sBrk, sCnt, sSetItem, sAug, augO, setItemO, setO_val, retO_val, bind_ok, bind_exc, bind_stk, bindS_ok, bindS_exc, bindS_stk, ret_some, look_val, look_brw, fC_ev, fV, bin, una, chain, tBo, tTr, tNotV, tAndV, tOrV, fAnd, fOr, fNot, fIf, boO_ev, trO, tru, aNil_ev, aCons, cT_ev, callB, looks, g1, frz1_dat, frz1_ml, bN_ev, fTup, fLst, mkT, mkL, frzL, iE, seqO, iR1, iR2, rg1, rg2, gAdd, gMul, gSub, gFDiv, gMod, gPow, gShl, gShr, gAnd, gOr, gXor, gLt, gLe, gGt, gGe, gAddI, gMulI, gU, gIx, gLen, gInt, gAbs, gList, gTuple, iop, tt2, orG, viewD, asL, asT, fApp, appO, isMl, fExt, extO, fSl, pNo, pSo, gSl, L2.atI, L2.ixN, gd, gEq_int, gNe_int, gEq_str, gNe_str, gd, c1, hlen, hz]
    · refine .inl ⟨[sc, some (.ml ((n' ++ [r' % 1009]).map .int)), some (vI cell), some (vI (r' / 1009)), some (vI (0 + (k : Int))), x5], .inl ?_, _, _, _, rfl, q2, d1⟩
      simp [B1, specOf, outs, sSeq_ev, sSet, sRet, sRetN, sIf, sDrop, sRaise, sNext, sBrk, sCnt, sSetItem, sAug, augO, setItemO, setO_val, retO_val, bind_ok, bind_exc, bind_stk, bindS_ok, bindS_exc, bindS_stk, ret_some, look_val, look_brw, fC_ev, fV, bin, una, chain, tBo, tTr, tNotV, tAndV, tOrV, fAnd, fOr, fNot, fIf, boO_ev, trO, tru, aNil_ev, aCons, cT_ev, callB, looks, g1, frz1_dat, frz1_ml, bN_ev, fTup, fLst, mkT, mkL, frzL, iE, seqO, iR1, iR2, rg1, rg2, gAdd, gMul, gSub, gFDiv, gMod, gPow, gShl, gShr, gAnd, gOr, gXor, gLt, gLe, gGt, gGe, gAddI, gMulI, gU, gIx, gLen, gInt, gAbs, gList, gTuple, iop, tt2, orG, viewD, asL, asT, fApp, appO, isMl, fExt, extO, fSl, pNo, pSo, gSl, L2.atI, L2.ixN, gd, gEq_int, gNe_int, gEq_str, gNe_str, gd, c1, hlen, hz]
  obtain ⟨ρ', h1, h2⟩ := forL_inv _ _ ⟨nums, rest, x4, rfl, hN, hr⟩ st
  rcases h2 with ⟨n', r', x', e, q, _⟩ | ⟨n', r', x', e, q⟩
  · exact ⟨n', r', x', by rw [h1, e], by rw [range_len] at q; exact q⟩
  · exact ⟨n', r', x', by rw [h1, e], q⟩
theorem inner2 (sc : Option Vl) (nums : List Int) (N : Nat) (cell rest mixed : Int) (x4 : Option Vl) (hN : Nums nums N) (hb : N ≤ 5000) :
    ∃ (nums' : List Int) (mixed' : Int) (x4' : Option Vl), forL (bN 4) B2 (rangeD 0 10) [sc, some (.ml (nums.map .int)), some (vI cell), some (vI rest), x4, some (vI mixed)] = .nx [sc, some (.ml (nums'.map .int)), some (vI cell), some (vI rest), x4', some (vI mixed')] ∧ Nums nums' (N + 10) ∧ (0 < nums'.length) := by
  have st : ∀ (k : Nat) (d : PyData) (ρ : Rho), (rangeD 0 10)[k]? = some d → (∃ (nums' : List Int) (mixed' : Int) (x4' : Option Vl), ρ = [sc, some (.ml (nums'.map .int)), some (vI cell), some (vI rest), x4', some (vI mixed')] ∧ Nums nums' (N + k) ∧ k ≤ nums'.length) →
      ∃ ρ1 ρ2, bN 4 d ρ = some ρ1 ∧ (B2 ρ1 = .nx ρ2 ∨ B2 ρ1 = .ct ρ2) ∧ ∃ (nums' : List Int) (mixed' : Int) (x4' : Option Vl), ρ2 = [sc, some (.ml (nums'.map .int)), some (vI cell), some (vI rest), x4', some (vI mixed')] ∧ Nums nums' (N + (k + 1)) ∧ k + 1 ≤ nums'.length := by
    rintro k d ρ hd ⟨n', r', x', rfl, q, hlk⟩
    obtain ⟨rfl, hk⟩ := range_at hd
    have hl := q.len
    have c1 : ∀ i : Int, L2.CMul i 48271 := fun i => .inr ⟨by decide, by decide⟩
    have c2 : ∀ i : Int, L2.CMul 7 i := fun i => .inl ⟨by decide, by decide⟩
    have c3 : ∀ i : Int, L2.CMul i 69621 := fun i => .inr ⟨by decide, by decide⟩
    generalize hm : (r' * 48271 + 7 * (0 + (k : Int)) + 11) % 2147483647 = m2
    have q2 := q.add (x := (m2 * 69621 + (0 + (k : Int))) % 2147483629 % 1009) (Int.emod_nonneg _ (by decide)) (Int.emod_lt_of_pos _ (by decide))
    have hlen : n'.length ≤ 100000 := by omega
    refine ⟨_, [sc, some (.ml ((n' ++ [(m2 * 69621 + (0 + (k : Int))) % 2147483629 % 1009]).map .int)), some (vI cell), some (vI rest), some (vI (0 + (k : Int))), some (vI m2)], rfl, .inl ?_, _, _, _, rfl, q2, by rw [List.length_append, List.length_singleton]; omega⟩
    rw [Int.zero_add] at hm ⊢
    simp [B2, specOf, outs, sSeq_ev, sSet, sRet, sRetN, sIf, sDrop, sRaise, sNext, sBrk, sCnt, sSetItem, sAug, augO, setItemO, setO_val, retO_val, bind_ok, bind_exc, bind_stk, bindS_ok, bindS_exc, bindS_stk, ret_some, look_val, look_brw, fC_ev, fV, bin, una, chain, tBo, tTr, tNotV, tAndV, tOrV, fAnd, fOr, fNot, fIf, boO_ev, trO, tru, aNil_ev, aCons, cT_ev, callB, looks, g1, frz1_dat, frz1_ml, bN_ev, fTup, fLst, mkT, mkL, frzL, iE, seqO, iR1, iR2, rg1, rg2, gAdd, gMul, gSub, gFDiv, gMod, gPow, gShl, gShr, gAnd, gOr, gXor, gLt, gLe, gGt, gGe, gAddI, gMulI, gU, gIx, gLen, gInt, gAbs, gList, gTuple, iop, tt2, orG, viewD, asL, asT, fApp, appO, isMl, fExt, extO, fSl, pNo, pSo, gSl, L2.atI, L2.ixN, gd, gEq_int, gNe_int, gEq_str, gNe_str, gd, c1, c2, c3, hlen, hm]
  obtain ⟨ρ', h1, n', r', x', e, q, hl⟩ := forL_all _ ⟨nums, mixed, x4, rfl, hN, Nat.zero_le _⟩ st
  exact ⟨n', r', x', by rw [h1, e], by rw [range_len] at q; exact q, by
    rw [range_len] at hl
    have : (10 - 0 : Int).toNat = 10 := by decide
    omega⟩
noncomputable abbrev B3 : FS := sSeq (sSet 3 (callB (g1 gAbs) (aCons (callB (g1 gInt) (aCons (fV 2) aNil)) aNil)))
  (sIf (tBo (bin gGe (fV 3) (bin gPow (fC (.int 10)) (fC (.int 18))))) (sFor (iR1 (aCons (fC (.int 60)) aNil)) (bN 4) B1) (sSeq (sSet 5 (bin gMod (callB (g1 gInt) (aCons (fV 3) aNil)) (fC (.int 2147483647)))) (sFor (iR1 (aCons (fC (.int 10)) aNil)) (bN 4) B2)))
theorem rng1 {ρ : Rho} {n : Int} (h1 : -(2 ^ 62) ≤ n) (h2 : n < 2 ^ 62) : iR1 (aCons (fC (.int n)) aNil) ρ = .ok (rangeD 0 n) ρ := by
  unfold iR1 aCons aNil
  show rg1 ρ [.val (.dat (.int n))] = _
  unfold rg1
  show (if -(2 ^ 62) ≤ n ∧ n < 2 ^ 62 then _ else _) = _
  rw [if_pos ⟨h1, h2⟩]
theorem cell_ev (sc : Option Vl) (nums : List Int) (N : Nat) (z : Int) (x3 x4 x5 : Option Vl) (hN : Nums nums N) (hb : N ≤ 4900) :
    ∃ (nums' : List Int) (x3' x4' x5' : Option Vl), B3 [sc, some (.ml (nums.map .int)), some (vI z), x3, x4, x5] = .nx [sc, some (.ml (nums'.map .int)), some (vI z), x3', x4', x5'] ∧ Nums nums' (N + 60) := by
  obtain ⟨a, ha, ha0⟩ : ∃ a : Int, (if z < 0 then -z else z) = a ∧ 0 ≤ a := ⟨_, rfl, by split <;> omega⟩
  have pw : L2.CPow 10 18 := ⟨by decide, by decide, by decide⟩
  have e0 : ∀ ρ : Rho, iR1 (aCons (fC (.int 60)) aNil) ρ = .ok (rangeD 0 60) ρ := fun ρ => rng1 (by decide) (by decide)
  have e1 : ∀ ρ : Rho, iR1 (aCons (fC (.int 10)) aNil) ρ = .ok (rangeD 0 10) ρ := fun ρ => rng1 (by decide) (by decide)
  obtain ⟨n1, r1, y1, h1, q1⟩ := inner1 sc nums N z a x4 x5 hN (by omega) ha0
  obtain ⟨n2, r2, y2, h2, q2, _⟩ := inner2 sc nums N z a (a % 2147483647) x4 hN (by omega)
  rw [← sFor_ev (e0 _)] at h1
  rw [← sFor_ev (e1 _)] at h2
  unfold B3
  revert h1 h2
  generalize sFor (iR1 (aCons (fC (.int 60)) aNil)) (bN 4) B1 = F1
  generalize sFor (iR1 (aCons (fC (.int 10)) aNil)) (bN 4) B2 = F2
  intro h1 h2
  by_cases hb2 : (1000000000000000000 : Int) ≤ a
  · refine ⟨n1, some (vI r1), y1, x5, ?_, q1⟩
    rw [← h1]
    simp [specOf, outs, sSeq_ev, sSet, sRet, sRetN, sIf, sDrop, sRaise, sNext, sBrk, sCnt, sSetItem, sAug, augO, setItemO, setO_val, retO_val, bind_ok, bind_exc, bind_stk, bindS_ok, bindS_exc, bindS_stk, ret_some, look_val, look_brw, fC_ev, fV, bin, una, chain, tBo, tTr, tNotV, tAndV, tOrV, fAnd, fOr, fNot, fIf, boO_ev, trO, tru, aNil_ev, aCons, cT_ev, callB, looks, g1, frz1_dat, frz1_ml, bN_ev, fTup, fLst, mkT, mkL, frzL, iE, seqO, iR1, iR2, rg1, rg2, gAdd, gMul, gSub, gFDiv, gMod, gPow, gShl, gShr, gAnd, gOr, gXor, gLt, gLe, gGt, gGe, gAddI, gMulI, gU, gIx, gLen, gInt, gAbs, gList, gTuple, iop, tt2, orG, viewD, asL, asT, fApp, appO, isMl, fExt, extO, fSl, pNo, pSo, gSl, L2.atI, L2.ixN, gd, gEq_int, gNe_int, gEq_str, gNe_str, gd, pw, ha, hb2]
  · refine ⟨n2, some (vI a), y2, some (vI r2), ?_, ⟨by have := q2.len; omega, q2.all⟩⟩
    rw [← h2]
    simp [specOf, outs, sSeq_ev, sSet, sRet, sRetN, sIf, sDrop, sRaise, sNext, sBrk, sCnt, sSetItem, sAug, augO, setItemO, setO_val, retO_val, bind_ok, bind_exc, bind_stk, bindS_ok, bindS_exc, bindS_stk, ret_some, look_val, look_brw, fC_ev, fV, bin, una, chain, tBo, tTr, tNotV, tAndV, tOrV, fAnd, fOr, fNot, fIf, boO_ev, trO, tru, aNil_ev, aCons, cT_ev, callB, looks, g1, frz1_dat, frz1_ml, bN_ev, fTup, fLst, mkT, mkL, frzL, iE, seqO, iR1, iR2, rg1, rg2, gAdd, gMul, gSub, gFDiv, gMod, gPow, gShl, gShr, gAnd, gOr, gXor, gLt, gLe, gGt, gGe, gAddI, gMulI, gU, gIx, gLen, gInt, gAbs, gList, gTuple, iop, tt2, orG, viewD, asL, asT, fApp, appO, isMl, fExt, extO, fSl, pNo, pSo, gSl, L2.atI, L2.ixN, gd, gEq_int, gNe_int, gEq_str, gNe_str, gd, pw, ha, hb2]
/-- the stream -/
theorem stream_ev (ns : List Int) (hn : ns.length ≤ 63) : ∃ nums : List Int, S__law_stream [.dat (.list (ns.map .int))] = .ok (.ml (nums.map .int)) [none] ∧ 0 < nums.length ∧ nums.length < 10000 ∧ ∀ x ∈ nums, 0 ≤ x ∧ x < 1009 := by
  have hit : iE (fSl (fV 0) pNo (pSo (fC (.int 63)))) [some (.dat (.list (ns.map .int))), some (.ml []), none, none, none, none] = .ok (ns.map .int) [some (.dat (.list (ns.map .int))), some (.ml []), none, none, none, none] := by
    have e : cutD (ns.map PyData.int) none (some 63) = ns.map PyData.int := whole_cut ⟨rfl, by
      have : ∀ n : Nat, n ≤ 63 → HT.sIx n n (some 63) = n := fun n h => by unfold HT.sIx; simp; omega
      exact this _ (by rw [List.length_map]; exact hn)⟩
    simp [specOf, outs, sSeq_ev, sSet, sRet, sRetN, sIf, sDrop, sRaise, sNext, sBrk, sCnt, sSetItem, sAug, augO, setItemO, setO_val, retO_val, bind_ok, bind_exc, bind_stk, bindS_ok, bindS_exc, bindS_stk, ret_some, look_val, look_brw, fC_ev, fV, bin, una, chain, tBo, tTr, tNotV, tAndV, tOrV, fAnd, fOr, fNot, fIf, boO_ev, trO, tru, aNil_ev, aCons, cT_ev, callB, looks, g1, frz1_dat, frz1_ml, bN_ev, fTup, fLst, mkT, mkL, frzL, iE, seqO, iR1, iR2, rg1, rg2, gAdd, gMul, gSub, gFDiv, gMod, gPow, gShl, gShr, gAnd, gOr, gXor, gLt, gLe, gGt, gGe, gAddI, gMulI, gU, gIx, gLen, gInt, gAbs, gList, gTuple, iop, tt2, orG, viewD, asL, asT, fApp, appO, isMl, fExt, extO, fSl, pNo, pSo, gSl, L2.atI, L2.ixN, gd, gEq_int, gNe_int, gEq_str, gNe_str, e]
  have st : ∀ (k : Nat) (d : PyData) (ρ : Rho), (ns.map PyData.int)[k]? = some d → (∃ (nums' : List Int) (x2 x3 x4 x5 : Option Vl), ρ = [some (.dat (.list (ns.map .int))), some (.ml (nums'.map .int)), x2, x3, x4, x5] ∧ Nums nums' (60 * k)) →
      ∃ ρ1 ρ2, bN 2 d ρ = some ρ1 ∧ (B3 ρ1 = .nx ρ2 ∨ B3 ρ1 = .ct ρ2) ∧ ∃ (nums' : List Int) (x2 x3 x4 x5 : Option Vl), ρ2 = [some (.dat (.list (ns.map .int))), some (.ml (nums'.map .int)), x2, x3, x4, x5] ∧ Nums nums' (60 * (k + 1)) := by
    rintro k d ρ hd ⟨n', x2, x3, x4, x5, rfl, q⟩
    have hk : k < 63 := by
      have := (List.getElem?_eq_some_iff.mp hd).1
      rw [List.length_map] at this; omega
    obtain ⟨z, rfl⟩ : ∃ z, d = PyData.int z := by
      rw [List.getElem?_map] at hd
      obtain ⟨z, _, e⟩ := Option.map_eq_some_iff.mp hd
      exact ⟨z, e.symm⟩
    obtain ⟨n2, y3, y4, y5, h, q2⟩ := cell_ev (some (.dat (.list (ns.map .int)))) n' (60 * k) z x3 x4 x5 q (by omega)
    exact ⟨_, _, rfl, .inl h, n2, _, y3, y4, y5, rfl, ⟨by have := q2.len; omega, q2.all⟩⟩
  obtain ⟨ρ', h1, n', x2, x3, x4, x5, rfl, q⟩ := forL_all _ ⟨[], none, none, none, none, rfl, ⟨by simp, fun x hx => by simp at hx⟩⟩ st
  have h2 := (sFor_ev (body := B3) (b := bN 2) hit).trans h1
  rw [List.length_map] at q
  have hql := q.len
  unfold S__law_stream F__law_stream
  revert h2
  generalize hF : sFor (iE (fSl (fV 0) pNo (pSo (fC (.int 63))))) (bN 2) B3 = F1
  intro h2
  by_cases hz : n'.length = 0
  · have hz' : n' = [] := List.length_eq_zero_iff.mp hz
    subst hz'
    refine ⟨[0], ?_, by simp, by simp, by simp⟩
    simp at h2
    simp [specOf, outs, sSeq_ev, sSet, sRet, sRetN, sIf, sDrop, sRaise, sNext, sBrk, sCnt, sSetItem, sAug, augO, setItemO, setO_val, retO_val, bind_ok, bind_exc, bind_stk, bindS_ok, bindS_exc, bindS_stk, ret_some, look_val, look_brw, fC_ev, fV, bin, una, chain, tBo, tTr, tNotV, tAndV, tOrV, fAnd, fOr, fNot, fIf, boO_ev, trO, tru, aNil_ev, aCons, cT_ev, callB, looks, g1, frz1_dat, frz1_ml, bN_ev, fTup, fLst, mkT, mkL, frzL, iE, seqO, iR1, iR2, rg1, rg2, gAdd, gMul, gSub, gFDiv, gMod, gPow, gShl, gShr, gAnd, gOr, gXor, gLt, gLe, gGt, gGe, gAddI, gMulI, gU, gIx, gLen, gInt, gAbs, gList, gTuple, iop, tt2, orG, viewD, asL, asT, fApp, appO, isMl, fExt, extO, fSl, pNo, pSo, gSl, L2.atI, L2.ixN, gd, gEq_int, gNe_int, gEq_str, gNe_str, h2, retO, own]
  · refine ⟨n', ?_, by omega, by omega, q.all⟩
    simp [specOf, outs, sSeq_ev, sSet, sRet, sRetN, sIf, sDrop, sRaise, sNext, sBrk, sCnt, sSetItem, sAug, augO, setItemO, setO_val, retO_val, bind_ok, bind_exc, bind_stk, bindS_ok, bindS_exc, bindS_stk, ret_some, look_val, look_brw, fC_ev, fV, bin, una, chain, tBo, tTr, tNotV, tAndV, tOrV, fAnd, fOr, fNot, fIf, boO_ev, trO, tru, aNil_ev, aCons, cT_ev, callB, looks, g1, frz1_dat, frz1_ml, bN_ev, fTup, fLst, mkT, mkL, frzL, iE, seqO, iR1, iR2, rg1, rg2, gAdd, gMul, gSub, gFDiv, gMod, gPow, gShl, gShr, gAnd, gOr, gXor, gLt, gLe, gGt, gGe, gAddI, gMulI, gU, gIx, gLen, gInt, gAbs, gList, gTuple, iop, tt2, orG, viewD, asL, asT, fApp, appO, isMl, fExt, extO, fSl, pNo, pSo, gSl, L2.atI, L2.ixN, gd, gEq_int, gNe_int, gEq_str, gNe_str, h2, retO, own, hz]
end Mi
end
section
set_option Elab.async false
set_option linter.all false
set_option maxRecDepth 100000
/-! Ev33: small data: what may be compared, shown -/
namespace Mi
open PySem PySem.PyData
/-- small data: of depth k at most, of weight N at most -/
structure Sm (k N : Nat) (d : PyData) : Prop where
  lay : d.canLay0 = true
  dep : d.depth ≤ k
  wei : d.weight ≤ N
  sho : d.intsShort 13 = true
  vis : d.showable = true
theorem Sm.mono {k k' N N' : Nat} {d : PyData} (h : Sm k N d) (a : k ≤ k') (b : N ≤ N') : Sm k' N' d := ⟨h.lay, Nat.le_trans h.dep a, Nat.le_trans h.wei b, h.sho, h.vis⟩
theorem log_small {i : Int} (h : i.natAbs < 10 ^ 12) : i.natAbs.log2 ≤ 40 := by
  by_cases z : i.natAbs = 0
  · rw [z]; decide
  · have : i.natAbs.log2 < 41 := (Nat.log2_lt z).mpr (Nat.lt_trans h (by decide))
    omega
theorem sm_int {i : Int} (h : i.natAbs < 10 ^ 12) : Sm 0 41 (.int i) := by
  have hl := log_small h
  refine ⟨rfl, Nat.le_refl _, ?_, ?_, ?_⟩
  · unfold weight
    split <;> omega
  · have := intsShortAll_ints [i] (by simpa using h)
    simpa [intsShortAll] using this
  · unfold showable
    exact decide_eq_true (by omega)
theorem sm_bool {b : Bool} : Sm 0 0 (.bool b) := ⟨rfl, Nat.le_refl _, Nat.le_refl _, rfl, rfl⟩
theorem sm_none : Sm 0 0 .none := ⟨rfl, Nat.le_refl _, Nat.le_refl _, rfl, rfl⟩
theorem sm_str {s : Str} {n : Nat} (h : strOk s = true) (hn : s.cps.size ≤ n) : Sm 0 n (.str s) := ⟨h, Nat.le_refl _, hn, rfl, rfl⟩
structure SmAll (k N : Nat) (ds : List PyData) : Prop where
  lay : canLayAll0 ds = true
  dep : depthAll ds ≤ k
  wei : weightAll ds ≤ N
  sho : intsShortAll 13 ds = true
  vis : showableAll ds = true
theorem sm_nil {k N : Nat} : SmAll k N [] := ⟨rfl, Nat.zero_le _, Nat.zero_le _, rfl, rfl⟩
theorem sm_cons {k N M : Nat} {d : PyData} {ds : List PyData} (h : Sm k N d) (t : SmAll k M ds) : SmAll k (N + 1 + M) (d :: ds) := by
  refine ⟨?_, ?_, ?_, ?_, ?_⟩
  · unfold canLayAll0; rw [h.lay, t.lay]; rfl
  · unfold depthAll; have := h.dep; have := t.dep; omega
  · unfold weightAll; have := h.wei; have := t.wei; omega
  · unfold intsShortAll; rw [h.sho, t.sho]; rfl
  · unfold showableAll; rw [h.vis, t.vis]; rfl
theorem SmAll.mono {k k' N N' : Nat} {ds : List PyData} (h : SmAll k N ds) (a : k ≤ k') (b : N ≤ N') : SmAll k' N' ds := ⟨h.lay, Nat.le_trans h.dep a, Nat.le_trans h.wei b, h.sho, h.vis⟩
theorem sm_all {k N : Nat} : ∀ {ds : List PyData}, (∀ d ∈ ds, Sm k N d) → SmAll k (ds.length * (N + 1)) ds
  | [], _ => sm_nil
  | d :: ds, h => (sm_cons (h d (by simp)) (sm_all fun x hx => h x (List.mem_cons_of_mem _ hx))).mono (Nat.le_refl _) (by rw [List.length_cons, Nat.succ_mul]; omega)
theorem sm_tup {k N : Nat} {ds : List PyData} (h : SmAll k N ds) : Sm (k + 1) N (.tuple ds) := by
  refine ⟨?_, ?_, ?_, ?_, ?_⟩
  · unfold canLay0; exact h.lay
  · unfold depth; have := h.dep; omega
  · unfold weight; exact h.wei
  · unfold intsShort; exact h.sho
  · unfold showable; exact h.vis
theorem sm_lst {k N : Nat} {ds : List PyData} (h : SmAll k N ds) : Sm (k + 1) N (.list ds) := by
  refine ⟨?_, ?_, ?_, ?_, ?_⟩
  · unfold canLay0; exact h.lay
  · unfold depth; have := h.dep; omega
  · unfold weight; exact h.wei
  · unfold intsShort; exact h.sho
  · unfold showable; exact h.vis
theorem sm_ints {ns : List Int} (h : ∀ x ∈ ns, x.natAbs < 10 ^ 12) : SmAll 0 (ns.length * 42) (ns.map .int) := by
  have := sm_all (ds := ns.map PyData.int) (k := 0) (N := 41) fun d hd => by
    obtain ⟨x, hx, rfl⟩ := List.mem_map.mp hd
    exact sm_int (h x hx)
  rw [List.length_map] at this
  exact this
theorem Sm.shp {k N : Nat} {d : PyData} (h : Sm k N d) (hk : k ≤ 64) : shp d := by
  show (d.canLay0 && decide (d.depth ≤ 64)) = true
  rw [h.lay, decide_eq_true (Nat.le_trans h.dep hk)]
  rfl
theorem Sm.rok {k N : Nat} {d : PyData} (h : Sm k N d) (hk : k ≤ 64) (hN : N ≤ 2 ^ 20) : Rok d := by
  refine ⟨h.vis, PyData.hasDict_of_canLay _ h.lay, Nat.le_trans h.dep hk, ?_⟩
  refine shown_fits_of_layable0 (B := 13) (by decide) (by decide) ?_ h.sho
  unfold layable0
  rw [h.lay, decide_eq_true (Nat.le_trans h.dep hk), decide_eq_true (Nat.le_trans h.wei hN)]
  rfl
theorem canLay_ints : ∀ ns : List Int, canLayAll0 (ns.map .int) = true
  | [] => rfl
  | n :: ns => by show (canLay0 (.int n) && canLayAll0 (ns.map .int)) = true; rw [canLay_ints ns]; rfl
theorem depth_ints : ∀ ns : List Int, depthAll (ns.map .int) = 0
  | [] => rfl
  | n :: ns => by show max (depth (.int n)) (depthAll (ns.map .int)) = 0; rw [depth_ints ns]; rfl
theorem shp_tupI (ns : List Int) : shp (.tuple (ns.map .int)) := by
  show (canLayAll0 (ns.map .int) && decide (depthAll (ns.map .int) + 1 ≤ 64)) = true
  rw [canLay_ints, depth_ints]; rfl
theorem shp_lstI (ns : List Int) : shp (.list (ns.map .int)) := by
  show (canLayAll0 (ns.map .int) && decide (depthAll (ns.map .int) + 1 ≤ 64)) = true
  rw [canLay_ints, depth_ints]; rfl
theorem eqvAll_ints : ∀ ns ms : List Int, PyData.eqvAll (ns.map .int) (ms.map .int) = decide (ns = ms)
  | [], [] => rfl
  | [], m :: ms => rfl
  | n :: ns, [] => rfl
  | n :: ns, m :: ms => by
    show (PyData.eqv (.int n) (.int m) && PyData.eqvAll (ns.map .int) (ms.map .int)) = _
    rw [eqvAll_ints ns ms]
    show ((n == m) && decide (ns = ms)) = _
    by_cases h : n = m <;> by_cases h2 : ns = ms <;> simp [h, h2]
theorem eqv_tupI (ns ms : List Int) : PyData.eqv (.tuple (ns.map .int)) (.tuple (ms.map .int)) = decide (ns = ms) := eqvAll_ints ns ms
theorem eqv_lstI (ns ms : List Int) : PyData.eqv (.list (ns.map .int)) (.list (ms.map .int)) = decide (ns = ms) := eqvAll_ints ns ms
theorem gEq_tupI (ns ms : List Int) : gEq (.dat (.tuple (ns.map .int))) (.dat (.tuple (ms.map .int))) = some (vB (decide (ns = ms))) := by
  rw [gEq_of (d := .tuple (ns.map .int)) (e := .tuple (ms.map .int)) rfl rfl (shp_tupI _) (shp_tupI _), eqv_tupI]
theorem gNe_tupI (ns ms : List Int) : gNe (.dat (.tuple (ns.map .int))) (.dat (.tuple (ms.map .int))) = some (vB (!decide (ns = ms))) := by
  rw [gNe_of (d := .tuple (ns.map .int)) (e := .tuple (ms.map .int)) rfl rfl (shp_tupI _) (shp_tupI _), eqv_tupI]
theorem gNe_mlI (ns ms : List Int) : gNe (.ml (ns.map .int)) (.ml (ms.map .int)) = some (vB (!decide (ns = ms))) := by
  rw [gNe_of (d := .list (ns.map .int)) (e := .list (ms.map .int)) rfl rfl (shp_lstI _) (shp_lstI _), eqv_lstI]
theorem gEq_mlI (ns ms : List Int) : gEq (.ml (ns.map .int)) (.ml (ms.map .int)) = some (vB (decide (ns = ms))) := by
  rw [gEq_of (d := .list (ns.map .int)) (e := .list (ms.map .int)) rfl rfl (shp_lstI _) (shp_lstI _), eqv_lstI]
/-- told and due are the same -/
theorem same_ev {d : PyData} (h : Rok (.list [d])) : S__law_same [.dat d, .dat d] = .ok (vB true) [none, none] := by
  have hr : gRepr (.ml [d]) = some (.dat (.str (PyData.shown (.list [d])))) := gd_pos ⟨h, rfl⟩
  unfold S__law_same F__law_same
  simp [specOf, sRet, bin, callB, g1, fLst, aCons, aNil, fV, bind_ok, bindS_ok, mkL, frzL, frz1, viewD, looks, look, hr, ret_some, gEq_str, retO_val, outs, List.replicate]
/-- sorted ints -/
theorem srt_ints (ns : List Int) : Srt (ns.map .int) := by
  refine ⟨fun d hd d' hd' => ?_, .inr fun d hd => ?_, fun d hd => ?_⟩
  · obtain ⟨x, _, rfl⟩ := List.mem_map.mp hd
    obtain ⟨y, _, rfl⟩ := List.mem_map.mp hd'
    rfl
  · obtain ⟨x, _, rfl⟩ := List.mem_map.mp hd
    exact ⟨(fun z => nomatch z), (fun _ z => nomatch z)⟩
  · obtain ⟨x, _, rfl⟩ := List.mem_map.mp hd
    exact Nat.zero_le _
def sortI (ns : List Int) : List Int := ns.mergeSort fun a b => decide (a ≤ b)
theorem sortD_ints (ns : List Int) : sortD false (ns.map .int) = (sortI ns).map .int := by
  unfold sortD sortI
  have e : ∀ a b : Int, PySem.W.dataLe false id (PyData.int a) (PyData.int b) = decide (a ≤ b) := fun a b => by
    have := congrFun (congrFun (PySem.W.dataLe_int (β := Int) id) a) b
    exact this
  rw [List.map_mergeSort (r := fun a b => decide (a ≤ b)) (s := PySem.W.dataLe false id) (f := PyData.int) fun a _ b _ => (e a b).symm]
theorem perm_sortI (ns : List Int) : (sortI ns).Perm ns := List.mergeSort_perm ..
theorem pw_sortI (ns : List Int) : (sortI ns).Pairwise (· ≤ ·) := by
  have := List.pairwise_mergeSort (le := fun a b : Int => decide (a ≤ b)) (fun a b c h1 h2 => by simp at *; omega) (fun a b => by simp; omega) ns
  exact this.imp fun h => by simpa using h
theorem asc_sortI {ns : List Int} (h : ns.Nodup) : (sortI ns).Pairwise (· < ·) := by
  have h1 := pw_sortI ns
  have h2 : (sortI ns).Nodup := (perm_sortI ns).nodup_iff.mpr h
  exact (h1.and h2).imp fun ⟨a, b⟩ => by omega
theorem gSorted_ml (ns : List Int) : gSorted (.ml (ns.map .int)) = some (.ml ((sortI ns).map .int)) := by
  have e : gSorted (.ml (ns.map .int)) = some (.ml (sortD false (ns.map .int))) := gd_pos (srt_ints ns)
  rw [e, sortD_ints]
end Mi
end
section
set_option Elab.async false
set_option linter.all false
set_option maxRecDepth 100000
/-! Tw1: the plain twin of an evaluator: judgements for expressions -/
namespace Mi
open PySem
/-! ### codes: data of a kind -/
abbrev eT {α : Type} (e : α → PyData) (l : List α) : PyData := .tuple (l.map e)
abbrev eL {α : Type} (e : α → PyData) (l : List α) : PyData := .list (l.map e)
abbrev eP {α β : Type} (e : α → PyData) (f : β → PyData) (p : α × β) : PyData := .tuple [e p.1, f p.2]
abbrev eP3 {α β γ : Type} (e : α → PyData) (f : β → PyData) (g : γ → PyData) (p : α × β × γ) : PyData := .tuple [e p.1, f p.2.1, g p.2.2]
abbrev eP4 {α β γ δ : Type} (e : α → PyData) (f : β → PyData) (g : γ → PyData) (h : δ → PyData) (p : α × β × γ × δ) : PyData := .tuple [e p.1, f p.2.1, g p.2.2.1, h p.2.2.2]
structure Cod {α : Type} [DecidableEq α] (k : Nat) (e : α → PyData) : Prop where
  eqv : ∀ a b, PyData.eqv (e a) (e b) = decide (a = b)
  lay : ∀ a, (e a).canLay0 = true
  dep : ∀ a, (e a).depth ≤ k
section
variable {α β γ δ : Type} [DecidableEq α] [DecidableEq β] [DecidableEq γ] [DecidableEq δ] {k : Nat} {e : α → PyData} {f : β → PyData} {g : γ → PyData} {h : δ → PyData}
theorem cod_int : Cod 0 PyData.int := ⟨fun a b => by unfold PyData.eqv; simp [Bool.beq_eq_decide_eq], fun _ => rfl, fun _ => Nat.le_refl _⟩
theorem cod_bool : Cod 0 PyData.bool := ⟨fun a b => by cases a <;> cases b <;> rfl, fun _ => rfl, fun _ => Nat.le_refl _⟩
theorem Cod.mono {j : Nat} (h : Cod k e) (i : k ≤ j) : Cod j e := ⟨h.eqv, h.lay, fun a => Nat.le_trans (h.dep a) i⟩
theorem cod_eqAll (h : Cod k e) : ∀ a b : List α, PyData.eqvAll (a.map e) (b.map e) = decide (a = b)
  | [], [] => rfl
  | [], _ :: _ => rfl
  | _ :: _, [] => rfl
  | x :: xs, y :: ys => by
    show (PyData.eqv (e x) (e y) && PyData.eqvAll (xs.map e) (ys.map e)) = _
    rw [h.eqv, cod_eqAll h xs ys]
    by_cases q : x = y <;> by_cases r : xs = ys <;> simp [q, r]
theorem cod_layAll (h : Cod k e) : ∀ a : List α, PyData.canLayAll0 (a.map e) = true
  | [] => rfl
  | x :: xs => by
    show ((e x).canLay0 && PyData.canLayAll0 (xs.map e)) = true
    rw [h.lay, cod_layAll h xs]; rfl
theorem cod_depAll (h : Cod k e) : ∀ a : List α, PyData.depthAll (a.map e) ≤ k
  | [] => Nat.zero_le _
  | x :: xs => by
    show max (e x).depth (PyData.depthAll (xs.map e)) ≤ k
    have := h.dep x
    have := cod_depAll h xs
    omega
theorem cod_tup (h : Cod k e) : Cod (k + 1) (eT e) := ⟨fun a b => cod_eqAll h a b, fun a => cod_layAll h a, fun a => by
  have := cod_depAll h a
  show PyData.depthAll (a.map e) + 1 ≤ _
  omega⟩
theorem cod_lst (h : Cod k e) : Cod (k + 1) (eL e) := ⟨fun a b => cod_eqAll h a b, fun a => cod_layAll h a, fun a => by
  have := cod_depAll h a
  show PyData.depthAll (a.map e) + 1 ≤ _
  omega⟩
theorem cod_p (h1 : Cod k e) (h2 : Cod k f) : Cod (k + 1) (eP e f) := ⟨fun a b => by
    show (PyData.eqv (e a.1) (e b.1) && (PyData.eqv (f a.2) (f b.2) && true)) = _
    rw [h1.eqv, h2.eqv]
    obtain ⟨a1, a2⟩ := a
    obtain ⟨b1, b2⟩ := b
    by_cases q : a1 = b1 <;> by_cases r : a2 = b2 <;> simp [q, r], fun a => by
    show ((e a.1).canLay0 && ((f a.2).canLay0 && true)) = true
    rw [h1.lay, h2.lay]; rfl, fun a => by
    show max (e a.1).depth (max (f a.2).depth 0) + 1 ≤ _
    have := h1.dep a.1
    have := h2.dep a.2
    omega⟩
theorem cod_p3 (h1 : Cod k e) (h2 : Cod k f) (h3 : Cod k g) : Cod (k + 1) (eP3 e f g) := ⟨fun a b => by
    show (PyData.eqv (e a.1) (e b.1) && (PyData.eqv (f a.2.1) (f b.2.1) && (PyData.eqv (g a.2.2) (g b.2.2) && true))) = _
    rw [h1.eqv, h2.eqv, h3.eqv]
    obtain ⟨a1, a2, a3⟩ := a
    obtain ⟨b1, b2, b3⟩ := b
    by_cases q : a1 = b1 <;> by_cases r : a2 = b2 <;> by_cases s : a3 = b3 <;> simp [q, r, s], fun a => by
    show ((e a.1).canLay0 && ((f a.2.1).canLay0 && ((g a.2.2).canLay0 && true))) = true
    rw [h1.lay, h2.lay, h3.lay]; rfl, fun a => by
    show max (e a.1).depth (max (f a.2.1).depth (max (g a.2.2).depth 0)) + 1 ≤ _
    have := h1.dep a.1
    have := h2.dep a.2.1
    have := h3.dep a.2.2
    omega⟩
theorem cod_p4 (h1 : Cod k e) (h2 : Cod k f) (h3 : Cod k g) (h4 : Cod k h) : Cod (k + 1) (eP4 e f g h) := ⟨fun a b => by
    show (PyData.eqv (e a.1) (e b.1) && (PyData.eqv (f a.2.1) (f b.2.1) && (PyData.eqv (g a.2.2.1) (g b.2.2.1) && (PyData.eqv (h a.2.2.2) (h b.2.2.2) && true)))) = _
    rw [h1.eqv, h2.eqv, h3.eqv, h4.eqv]
    obtain ⟨a1, a2, a3, a4⟩ := a
    obtain ⟨b1, b2, b3, b4⟩ := b
    by_cases q : a1 = b1 <;> by_cases r : a2 = b2 <;> by_cases s : a3 = b3 <;> by_cases t : a4 = b4 <;> simp [q, r, s, t], fun a => by
    show ((e a.1).canLay0 && ((f a.2.1).canLay0 && ((g a.2.2.1).canLay0 && ((h a.2.2.2).canLay0 && true)))) = true
    rw [h1.lay, h2.lay, h3.lay, h4.lay]; rfl, fun a => by
    show max (e a.1).depth (max (f a.2.1).depth (max (g a.2.2.1).depth (max (h a.2.2.2).depth 0))) + 1 ≤ _
    have := h1.dep a.1
    have := h2.dep a.2.1
    have := h3.dep a.2.2.1
    have := h4.dep a.2.2.2
    omega⟩
theorem Cod.shp (h : Cod k e) (hk : k ≤ 64) (a : α) : shp (e a) := by
  show ((e a).canLay0 && decide ((e a).depth ≤ 64)) = true
  rw [h.lay, decide_eq_true (Nat.le_trans (h.dep a) hk)]; rfl
theorem cod_any (h : Cod k e) (a : α) (l : List α) : ((l.map e).any fun z => PyData.eqv z (e a)) = decide (a ∈ l) := by
  rw [List.any_map]
  rw [show ((fun z => PyData.eqv z (e a)) ∘ e) = fun z => decide (z = a) from funext fun z => h.eqv z a]
  induction l with
  | nil => rfl
  | cons x xs ih =>
    rw [List.any_cons, ih]
    by_cases q : x = a
    · subst q; simp
    · have : ¬ a = x := fun z => q z.symm
      simp [q, this]
end
/-! ### expressions -/
/-- f, at ρ, gives w and leaves ρ' -/
def Pv (f : FE) (ρ : Rho) (w : Vl) (ρ' : Rho) : Prop := f ρ = .ok (.val w) ρ'
/-- .. or the slot that holds it -/
def Pl (f : FE) (ρ : Rho) (w : Vl) (ρ' : Rho) : Prop := ∃ o, f ρ = .ok o ρ' ∧ look ρ' o = some w
def Tv (t : FT) (ρ : Rho) (b : Bool) (ρ' : Rho) : Prop := t ρ = .ok b ρ'
def Iv (f : FI) (ρ : Rho) (ds : List PyData) (ρ' : Rho) : Prop := f ρ = .ok ds ρ'
/-- arguments, looked at -/
def Al (f : FA) (ρ : Rho) (ws : List Vl) (ρ' : Rho) : Prop := ∃ os, f ρ = .ok os ρ' ∧ looks ρ' os = some ws
/-- arguments, all of them values: their data -/
def Av (f : FA) (ρ : Rho) (ds : List PyData) (ρ' : Rho) : Prop := ∃ ws : List Vl, f ρ = .ok (ws.map .val) ρ' ∧ ws.map viewD = ds.map some
/-- arguments, values or slots: their data -/
def Ab (f : FA) (ρ : Rho) (ds : List PyData) (ρ' : Rho) : Prop := ∃ os, f ρ = .ok os ρ' ∧ os.map (fun o => (look ρ' o).bind viewD) = ds.map some
section
variable {f g h fa fb fc : FE} {t u : FT} {F : FA} {ρ ρ1 ρ2 ρ3 : Rho} {w a b c : Vl} {ws : List Vl} {d : PyData} {ds : List PyData} {i : Nat} {k l : Bool}
theorem Pv.lk (h : Pv f ρ w ρ1) : Pl f ρ w ρ1 := ⟨_, h, rfl⟩
theorem pv_c : Pv (fC d) ρ (.dat d) ρ := rfl
theorem pv_v (h : (ρ[i]?).join = some (.dat d) := by rfl) : Pv (fV i) ρ (.dat d) ρ := by
  unfold Pv fV; rw [h]
theorem pl_v (h : (ρ[i]?).join = some w := by rfl) : Pl (fV i) ρ w ρ := by
  unfold Pl fV; rw [h]
  cases w with
  | dat d => exact ⟨_, rfl, rfl⟩
  | ml _ => exact ⟨_, rfl, h⟩
  | mml _ => exact ⟨_, rfl, h⟩
  | ob _ _ => exact ⟨_, rfl, h⟩
  | st _ => exact ⟨_, rfl, h⟩
theorem pv_bin {G : Vl → Vl → Option Vl} (ha : Pv fa ρ a ρ1) (hb : Pl fb ρ1 b ρ2) (hg : G a b = some w) : Pv (bin G fa fb) ρ w ρ2 := by
  obtain ⟨o, e, l⟩ := hb
  unfold Pv at ha ⊢
  unfold bin
  rw [ha, bind_ok, e, bind_ok, look_val, l]
  show Mi.ret ρ2 (G a b) = _
  rw [hg, ret_some]
theorem pl_bin {G : Vl → Vl → Option Vl} (ha : Pl fa ρ a ρ) (hb : Pl fb ρ b ρ) (hg : G a b = some w) : Pv (bin G fa fb) ρ w ρ := by
  obtain ⟨o, e, l⟩ := hb
  obtain ⟨o1, e1, l1⟩ := ha
  unfold Pv
  unfold bin
  rw [e1, bind_ok, e, bind_ok, l1, l]
  show Mi.ret ρ (G a b) = _
  rw [hg, ret_some]
theorem pv_una {G : Vl → Option Vl} (ha : Pl fa ρ a ρ1) (hg : G a = some w) : Pv (una G fa) ρ w ρ1 := by
  obtain ⟨o, e, l⟩ := ha
  unfold Pv una
  rw [e, bind_ok, l]
  show Mi.ret ρ1 (G a) = _
  rw [hg, ret_some]
theorem pv_chain {G G' : Vl → Vl → Option Vl} (ha : Pl fa ρ a ρ) (hb : Pl fb ρ b ρ) (hg : G a b = some (vB k)) (hc : k = true → Pl fc ρ c ρ ∧ G' b c = some (vB l)) : Pv (chain G G' fa fb fc) ρ (vB (k && l)) ρ := by
  obtain ⟨o, e, lo⟩ := hb
  obtain ⟨o1, e1, l1⟩ := ha
  unfold Pv chain
  rw [e1, bind_ok, e, bind_ok, l1, lo]
  simp only [Option.bind_some, hg]
  cases k with
  | false => rfl
  | true =>
    obtain ⟨⟨o2, e2, l2⟩, h2⟩ := hc rfl
    simp only [e2, bind_ok, l2, lo, Option.bind_some, h2, ret_some]
    cases l <;> rfl
/-! tests -/
theorem tv_bo (h : Pl f ρ (vB k) ρ1) : Tv (tBo f) ρ k ρ1 := by
  obtain ⟨o, e, l⟩ := h
  unfold Tv tBo
  rw [e, bind_ok]
  unfold boO
  rw [l]
theorem tv_tr (h : Pl f ρ w ρ1) (ht : tru w = some k) : Tv (tTr f) ρ k ρ1 := by
  obtain ⟨o, e, l⟩ := h
  unfold Tv tTr
  rw [e, bind_ok]
  unfold trO
  rw [l]
  simp only [Option.bind_some, ht]
theorem tv_and (h1 : Tv t ρ k ρ) (h2 : k = true → Tv u ρ l ρ) : Tv (tAndV t u) ρ (k && l) ρ := by
  unfold Tv tAndV at *
  rw [h1, bind_ok]
  cases k with
  | false => rfl
  | true => exact (h2 rfl).trans (by simp)
theorem tv_andC (h1 : Tv t ρ k ρ1) (h2 : k = true → Tv u ρ1 l ρ2) (h3 : k = false → ρ1 = ρ2) : Tv (tAndV t u) ρ (k && l) ρ2 := by
  unfold Tv tAndV at *
  rw [h1, bind_ok]
  cases k with
  | false => rw [h3 rfl]; rfl
  | true => exact (h2 rfl).trans (by simp)
theorem tv_or (h1 : Tv t ρ k ρ) (h2 : k = false → Tv u ρ l ρ) : Tv (tOrV t u) ρ (k || l) ρ := by
  unfold Tv tOrV at *
  rw [h1, bind_ok]
  cases k with
  | true => rfl
  | false => exact (h2 rfl).trans (by simp)
theorem tv_orC (h1 : Tv t ρ k ρ1) (h2 : k = false → Tv u ρ1 l ρ2) (h3 : k = true → ρ1 = ρ2) : Tv (tOrV t u) ρ (k || l) ρ2 := by
  unfold Tv tOrV at *
  rw [h1, bind_ok]
  cases k with
  | true => rw [h3 rfl]; rfl
  | false => exact (h2 rfl).trans (by simp)
theorem tv_not (h1 : Tv t ρ k ρ1) : Tv (tNotV t) ρ (!k) ρ1 := by
  unfold Tv tNotV at *
  rw [h1, bind_ok]
/-! and, or, not, if .. else as values -/
theorem pv_andB (h1 : Pv f ρ (vB k) ρ) (h2 : k = true → Pv g ρ (vB l) ρ) : Pv (fAnd f g) ρ (vB (k && l)) ρ := by
  unfold Pv fAnd at *
  rw [h1, bind_ok]
  unfold trO
  simp only [look_val, Option.bind_some, tru, bind_ok]
  cases k with
  | false => rfl
  | true => exact (h2 rfl).trans (by simp)
theorem pv_orB (h1 : Pv f ρ (vB k) ρ) (h2 : k = false → Pv g ρ (vB l) ρ) : Pv (fOr f g) ρ (vB (k || l)) ρ := by
  unfold Pv fOr at *
  rw [h1, bind_ok]
  unfold trO
  simp only [look_val, Option.bind_some, tru, bind_ok]
  cases k with
  | true => rfl
  | false => exact (h2 rfl).trans (by simp)
/-- x or y, any values -/
theorem pv_orG (h1 : Pv f ρ a ρ1) (ht : tru a = some k) (h2 : k = false → Pv g ρ1 w ρ2) (h3 : k = true → a = w ∧ ρ1 = ρ2) : Pv (fOr f g) ρ w ρ2 := by
  unfold Pv fOr at *
  rw [h1, bind_ok]
  unfold trO
  simp only [look_val, Option.bind_some, ht, bind_ok]
  cases k with
  | true => obtain ⟨rfl, rfl⟩ := h3 rfl; rfl
  | false => exact h2 rfl
theorem pv_not (h1 : Pl f ρ w ρ1) (ht : tru w = some k) : Pv (fNot f) ρ (vB (!k)) ρ1 := by
  obtain ⟨o, e, l⟩ := h1
  unfold Pv fNot at *
  rw [e, bind_ok]
  unfold trO
  simp only [l, Option.bind_some, ht, bind_ok]
theorem pv_if {α : Type} {en : α → Vl} {x y : α} (h1 : Tv t ρ k ρ1) (h2 : k = true → Pv f ρ1 (en x) ρ2) (h3 : k = false → Pv g ρ1 (en y) ρ2) : Pv (fIf t f g) ρ (en (if k = true then x else y)) ρ2 := by
  unfold Pv fIf Tv at *
  rw [h1, bind_ok]
  cases k with
  | true => exact h2 rfl
  | false => exact h3 rfl
/-! arguments -/
theorem al_nil : Al aNil ρ [] ρ := ⟨[], rfl, rfl⟩
theorem al_cons (h1 : Pv f ρ w ρ1) (h2 : Al F ρ1 ws ρ2) : Al (aCons f F) ρ (w :: ws) ρ2 := by
  obtain ⟨os, e, l⟩ := h2
  unfold Pv at h1
  refine ⟨.val w :: os, ?_, ?_⟩
  · unfold aCons; rw [h1, bind_ok, e, bind_ok]
  · simp [looks, look_val, l]
theorem al_consL (h1 : Pl f ρ w ρ) (h2 : Al F ρ ws ρ) : Al (aCons f F) ρ (w :: ws) ρ := by
  obtain ⟨os, e, l⟩ := h2
  obtain ⟨o, e1, l1⟩ := h1
  refine ⟨o :: os, ?_, ?_⟩
  · unfold aCons; rw [e1, bind_ok, e, bind_ok]
  · simp [looks, l1, l]
theorem av_nil : Av aNil ρ [] ρ := ⟨[], rfl, rfl⟩
theorem av_cons (h1 : Pv f ρ w ρ1) (hd : viewD w = some d := by rfl) (h2 : Av F ρ1 ds ρ2) : Av (aCons f F) ρ (d :: ds) ρ2 := by
  obtain ⟨os, e, l⟩ := h2
  unfold Pv at h1
  refine ⟨w :: os, ?_, ?_⟩
  · unfold aCons; rw [h1, bind_ok, e, bind_ok]; rfl
  · simp [hd, l]
theorem ab_nil : Ab aNil ρ [] ρ := ⟨[], rfl, rfl⟩
theorem ab_cons (h1 : Pl f ρ w ρ) (hd : viewD w = some d := by rfl) (h2 : Ab F ρ ds ρ) : Ab (aCons f F) ρ (d :: ds) ρ := by
  obtain ⟨os, e, l⟩ := h2
  obtain ⟨o, e1, l1⟩ := h1
  refine ⟨o :: os, ?_, ?_⟩
  · unfold aCons; rw [e1, bind_ok, e, bind_ok]
  · simp [hd, l, l1]
/-- a value first -/
theorem ab_consV (h1 : Pv f ρ w ρ1) (hd : viewD w = some d := by rfl) (h2 : Ab F ρ1 ds ρ2) : Ab (aCons f F) ρ (d :: ds) ρ2 := by
  obtain ⟨os, e, l⟩ := h2
  unfold Pv at h1
  refine ⟨.val w :: os, ?_, ?_⟩
  · unfold aCons; rw [h1, bind_ok, e, bind_ok]
  · simp [hd, l, look_val]
theorem pv_callB {G : List Vl → Option Vl} (h1 : Al F ρ ws ρ1) (hg : G ws = some w) : Pv (callB G F) ρ w ρ1 := by
  obtain ⟨os, e, l⟩ := h1
  unfold Pv callB
  rw [e, bind_ok, l]
  show Mi.ret ρ1 (G ws) = _
  rw [hg, ret_some]
/-! calls of defs -/
theorem argW_fal : ∀ {os : List Opd} {ds : List PyData}, os.map (fun o => (look ρ o).bind viewD) = ds.map some → argW ρ (List.replicate ds.length false) os = some (ds.map .dat)
  | [], [], _ => rfl
  | o :: os, d :: ds, h => by
    simp only [List.map_cons, List.cons.injEq] at h
    show (((look ρ o).bind viewD).bind fun d => (argW ρ (List.replicate ds.length false) os).map fun ws => Vl.dat d :: ws) = _
    rw [h.1, Option.bind_some, argW_fal h.2]
    rfl
  | [], _ :: _, h => by simp at h
  | _ :: _, [], h => by simp at h
theorem zip_fal {n : Nat} {os : List Opd} {p : Bool × Opd} (h : p ∈ (List.replicate n false).zip os) : p.1 = false := List.eq_of_mem_replicate (List.of_mem_zip (a := p.1) (b := p.2) h).1
theorem ioC_fal {n : Nat} {os : List Opd} : ioC (List.replicate n false) os = true := by
  unfold ioC
  rw [List.all_eq_true]
  intro p hp
  rw [zip_fal hp]
  rfl
theorem setIO_fal : ∀ {n : Nat} {os : List Opd} {outs : List (Option Vl)}, setIO ρ (List.replicate n false) os outs = ρ
  | 0, os, outs => by cases os <;> cases outs <;> rfl
  | n + 1, [], [] => rfl
  | n + 1, [], _ :: _ => rfl
  | n + 1, o :: os, [] => rfl
  | n + 1, o :: os, w :: outs => setIO_fal (n := n) (os := os) (outs := outs)
theorem noBor_val : ∀ {io : List Bool} {ws : List Vl}, noBor io (ws.map .val) = true
  | [], _ => rfl
  | _ :: _, [] => rfl
  | b :: io, w :: ws => by
    have := noBor_val (io := io) (ws := ws)
    unfold noBor at this ⊢
    simp only [List.map_cons, List.zip_cons_cons, List.all_cons, this, Bool.and_true, Bool.or_true]
theorem av_ab (h : Av F ρ ds ρ1) : Ab F ρ ds ρ1 := by
  obtain ⟨ws, e, l⟩ := h
  refine ⟨_, e, ?_⟩
  rw [List.map_map, ← l]
  rfl
theorem clean_nones : ∀ n : Nat, (List.replicate n (none : Option Vl)).all cleanO = true
  | 0 => rfl
  | n + 1 => by rw [List.replicate_succ, List.all_cons, clean_nones n]; rfl
theorem pv_call {S : CSpec} {n : Nat} (h1 : Av F ρ ds ρ1) (hs : S (ds.map .dat) = .ok w (List.replicate n none)) (hn : ds.length = n := by rfl) : Pv (fCall (List.replicate n false) S F) ρ w ρ1 := by
  obtain ⟨ws, e, l⟩ := id h1
  obtain ⟨os, e', l'⟩ := av_ab h1
  rw [e] at e'
  cases e'
  subst hn
  unfold Pv fCall
  rw [e, bind_ok, if_pos ioC_fal, argW_fal l']
  simp only [hs, noBor_val, Bool.true_or, if_true, setIO_fal]
theorem pv_callL {S : CSpec} {n : Nat} (h1 : Ab F ρ ds ρ1) (hs : S (ds.map .dat) = .ok w (List.replicate n none)) (hc : clean w = true) (hn : ds.length = n := by rfl) : Pv (fCall (List.replicate n false) S F) ρ w ρ1 := by
  obtain ⟨os, e, l⟩ := id h1
  subst hn
  unfold Pv fCall
  rw [e, bind_ok, if_pos ioC_fal, argW_fal l]
  simp only [hs, hc, clean_nones, Bool.true_and, Bool.or_true, if_true, setIO_fal]
/-- .. that raises -/
theorem px_call {S : CSpec} {n c : Nat} (h1 : Ab F ρ ds ρ1) (hs : S (ds.map .dat) = .exc c (List.replicate n none)) (hn : ds.length = n := by rfl) : fCall (List.replicate n false) S F ρ = .exc c ρ1 := by
  obtain ⟨os, e, l⟩ := id h1
  subst hn
  unfold fCall
  rw [e, bind_ok, if_pos ioC_fal, argW_fal l]
  simp only [hs, clean_nones, Bool.or_true, if_true, setIO_fal]
/-- a call that is lent the slot j -/
theorem argW_lend {w0 : Vl} {j n : Nat} {os : List Opd} (hj : (ρ[j]?).join = some w0) (h : os.map (fun o => (look ρ o).bind viewD) = ds.map some) (hn : ds.length = n) : argW ρ (true :: List.replicate n false) (.brw j :: os) = some (w0 :: ds.map .dat) := by
  subst hn
  show ((ρ[j]?).join.bind fun w => (argW ρ (List.replicate ds.length false) os).map fun ws => w :: ws) = _
  rw [hj, Option.bind_some, argW_fal h]
  rfl
theorem countP_val {j : Nat} : ∀ ws : List Vl, (ws.map Opd.val).countP (isB j) = 0
  | [] => rfl
  | w :: ws => by rw [List.map_cons, List.countP_cons, countP_val ws]; rfl
theorem pv_callS {S : CSpec} {n j : Nat} {w0 w1 w9 : Vl} (hj0 : ((ρ[j]?).join = some w9 ∧ ∀ d, w9 ≠ .dat d) := by exact ⟨rfl, fun _ z => nomatch z⟩) (h1 : Av F ρ ds ρ1) (hj : (ρ1[j]?).join = some w0 := by rfl) (hs : S (w0 :: ds.map .dat) = .ok w (some w1 :: List.replicate n none)) (hr : ρ1.set j (some w1) = ρ2 := by rfl) (hn : ds.length = n := by rfl) :
    Pv (fCall (true :: List.replicate n false) S (aCons (fV j) F)) ρ w ρ2 := by
  obtain ⟨ws, e, l⟩ := id h1
  obtain ⟨os, e', l'⟩ := av_ab h1
  rw [e] at e'
  cases e'
  have ev : fV j ρ = .ok (.brw j) ρ := by
    unfold fV
    rw [hj0.1]
    cases w9 with
    | dat d => exact (hj0.2 d rfl).elim
    | ml _ => rfl
    | mml _ => rfl
    | ob _ _ => rfl
    | st _ => rfl
  have ei : ioC (true :: List.replicate n false) (.brw j :: ws.map .val) = true := by
    unfold ioC
    rw [List.all_eq_true]
    intro p hp
    rw [List.zip_cons_cons] at hp
    rcases List.mem_cons.mp hp with rfl | hp
    · simp [List.countP_cons, countP_val, isB]
    · rw [zip_fal hp]; rfl
  have en : noBor (true :: List.replicate n false) (.brw j :: ws.map .val) = true := by
    have := noBor_val (io := List.replicate n false) (ws := ws)
    unfold noBor at this ⊢
    simp only [List.zip_cons_cons, List.all_cons, this, Bool.and_true, Bool.true_or]
  unfold Pv fCall aCons
  rw [ev, bind_ok, e, bind_ok, bind_ok, if_pos ei, argW_lend hj l' hn]
  simp only [hs, en, Bool.true_or, if_true]
  show Out.ok _ (setIO (ρ1.set j (some w1)) (List.replicate n false) _ (List.replicate n none)) = _
  rw [setIO_fal, hr]
end
end Mi
end
section
set_option Elab.async false
set_option linter.all false
set_option maxRecDepth 100000
/-! Tw2: the plain twin: iteration, comprehensions, statements -/
namespace Mi
open PySem
/-! ### results -/
inductive R (α : Type) where
  | ok (a : α)
  | exc (c : Nat)
  | stk
def R.bind {α β : Type} (r : R α) (k : α → R β) : R β := match r with
  | .ok a => k a
  | .exc c => .exc c
  | .stk => .stk
noncomputable def gdR {α : Type} (p : Prop) (r : R α) : R α := by classical exact if p then r else .stk
theorem gdR_pos {α : Type} {p : Prop} {r : R α} (h : p) : gdR p r = r := if_pos h
theorem R.ok_bind {α β : Type} (a : α) (k : α → R β) : (R.ok a).bind k = k a := rfl
theorem R.exc_bind {α β : Type} (c : Nat) (k : α → R β) : (R.exc c : R α).bind k = .exc c := rfl
theorem R.bind_bind {α β γ : Type} (r : R α) (k : α → R β) (l : β → R γ) : (r.bind k).bind l = r.bind fun a => (k a).bind l := by cases r <;> rfl
inductive Fl (β γ : Type) where
  | nx (b : β)
  | ct (b : β)
  | bk (b : β)
  | ret (g : γ)
/-- a condition that must hold, else c is raised -/
noncomputable def chk (p : Prop) (c : Nat) : R Unit := by classical exact if p then .ok () else .exc c
theorem chk_pos {p : Prop} {c : Nat} (h : p) : chk p c = .ok () := if_pos h
theorem chk_neg {p : Prop} {c : Nat} (h : ¬ p) : chk p c = .exc c := if_neg h
/-! ### loops -/
def forR {α β : Type} (f : α → β → R β) : List α → β → R β
  | [], b => .ok b
  | x :: xs, b => (f x b).bind (forR f xs)
def forF {α β γ : Type} (f : α → β → R (Fl β γ)) : List α → β → R (Fl β γ)
  | [], b => .ok (.nx b)
  | x :: xs, b => (f x b).bind fun r => match r with
    | .nx b' => forF f xs b'
    | .ct b' => forF f xs b'
    | .bk b' => .ok (.nx b')
    | .ret g => .ok (.ret g)
def whN' {β γ : Type} (c : β → R Bool) (f : β → R (Fl β γ)) : Nat → β → R (Fl β γ)
  | 0, _ => .stk
  | k + 1, b => (c b).bind fun t => if t = true then (f b).bind fun r => match r with
    | .nx b' => whN' c f k b'
    | .ct b' => whN' c f k b'
    | .bk b' => .ok (.nx b')
    | .ret g => .ok (.ret g)
    else .ok (.nx b)
noncomputable def whF {β γ : Type} (c : β → R Bool) (f : β → R (Fl β γ)) (b : β) : R (Fl β γ) := by
  classical exact if h : ∃ k, whN' c f k b ≠ .stk then whN' c f h.choose b else .stk
theorem forR_inv {α β : Type} {f : α → β → R β} (I : Nat → β → Prop) {xs : List α} {b : β} (h : I 0 b) (st : ∀ (k : Nat) (x : α) (b : β), xs[k]? = some x → I k b → ∃ b', f x b = .ok b' ∧ I (k + 1) b') : ∃ b', forR f xs b = .ok b' ∧ I xs.length b' := by
  have go : ∀ (ys : List α) (k : Nat) (b : β), I k b → (∀ j, ys[j]? = xs[k + j]?) → ∃ b', forR f ys b = .ok b' ∧ I (k + ys.length) b' := by
    intro ys
    induction ys with
    | nil => intro k b h _; exact ⟨b, rfl, h⟩
    | cons y ys ih =>
      intro k b h e
      obtain ⟨b1, e1, i1⟩ := st k y b (by have := e 0; simpa using this.symm) h
      obtain ⟨b', e2, i2⟩ := ih (k + 1) b1 i1 fun j => by have := e (j + 1); rw [show k + 1 + j = k + (j + 1) from by omega]; simpa using this
      refine ⟨b', ?_, by rw [List.length_cons, show k + (ys.length + 1) = k + 1 + ys.length from by omega]; exact i2⟩
      show (f y b).bind _ = _
      rw [e1]; exact e2
  obtain ⟨b', h1, h2⟩ := go xs 0 b h fun j => by rw [Nat.zero_add]
  exact ⟨b', h1, by simpa using h2⟩
theorem forR_fold {α β : Type} {f : α → β → R β} (g : α → β → β) : ∀ {xs : List α} {b : β}, (∀ x ∈ xs, ∀ b, f x b = .ok (g x b)) → forR f xs b = .ok (xs.foldl (fun b x => g x b) b)
  | [], _, _ => rfl
  | x :: xs, b, h => by
    show (f x b).bind _ = _
    rw [h x (by simp), R.ok_bind]
    exact forR_fold g fun y hy => h y (List.mem_cons_of_mem _ hy)
theorem whF_eq {β γ : Type} {c : β → R Bool} {f : β → R (Fl β γ)} {b : β} {k : Nat} {r : R (Fl β γ)} (e : whN' c f k b = r) (h : r ≠ .stk) : whF c f b = r := by
  have up : ∀ k b, whN' c f k b ≠ .stk → whN' c f (k + 1) b = whN' c f k b := by
    intro k
    induction k with
    | zero => intro b h; exact (h rfl).elim
    | succ k ih =>
      intro b h
      show (c b).bind _ = (c b).bind _
      have h' : (c b).bind (fun t => if t = true then (f b).bind fun r => match r with
        | .nx b' => whN' c f k b'
        | .ct b' => whN' c f k b'
        | .bk b' => .ok (.nx b')
        | .ret g => .ok (.ret g)
        else .ok (.nx b)) ≠ .stk := h
      cases ec : c b with
      | stk => rfl
      | exc _ => rfl
      | ok t =>
        rw [ec, R.ok_bind] at h'
        rw [R.ok_bind, R.ok_bind]
        cases t with
        | false => rfl
        | true =>
          simp only [if_true] at h' ⊢
          cases ef : f b with
          | stk => rfl
          | exc _ => rfl
          | ok r =>
            rw [ef, R.ok_bind] at h'
            rw [R.ok_bind, R.ok_bind]
            cases r with
            | nx b' => exact ih b' h'
            | ct b' => exact ih b' h'
            | bk b' => rfl
            | ret g => rfl
  have le : ∀ k b j, whN' c f k b ≠ .stk → whN' c f (k + j) b = whN' c f k b := by
    intro k b j h
    induction j with
    | zero => rfl
    | succ j ih =>
      show whN' c f (k + j + 1) b = _
      rw [up _ _ (by rw [ih]; exact h), ih]
  have hx : ∃ k, whN' c f k b ≠ .stk := ⟨k, by rw [e]; exact h⟩
  unfold whF
  rw [dif_pos hx]
  have h1 := hx.choose_spec
  have a := le k b hx.choose (by rw [e]; exact h)
  have d := le hx.choose b k h1
  rw [Nat.add_comm] at d
  rw [← d, a, e]
/-- while, by a measure -/
theorem whF_inv {β γ : Type} {c : β → R Bool} {f : β → R (Fl β γ)} (I : Nat → β → Prop) (Post : β → Prop) (st : ∀ (m : Nat) (b : β), I m b → (c b = .ok false ∧ Post b) ∨ ∃ b' m', c b = .ok true ∧ (f b = .ok (.nx b') ∨ f b = .ok (.ct b')) ∧ m' < m ∧ I m' b') {m : Nat} {b : β} (h : I m b) : ∃ b', whF c f b = .ok (.nx b') ∧ Post b' := by
  have go : ∀ (m : Nat) (b : β), I m b → ∃ k b', whN' c f k b = .ok (.nx b') ∧ Post b' := by
    intro m
    induction m using Nat.strongRecOn with
    | ind m ih =>
      intro b h
      rcases st m b h with ⟨e1, p1⟩ | ⟨b1, m', e1, e2, lt, i2⟩
      · refine ⟨1, b, ?_, p1⟩
        show (c b).bind _ = _
        rw [e1]; rfl
      · obtain ⟨k, b', e3, p3⟩ := ih m' lt b1 i2
        refine ⟨k + 1, b', ?_, p3⟩
        show (c b).bind _ = _
        rw [e1, R.ok_bind, if_pos rfl]
        rcases e2 with e2 | e2 <;> rw [e2] <;> exact e3
  obtain ⟨k, b', e, p⟩ := go m b h
  exact ⟨b', whF_eq e (fun z => nomatch z), p⟩
/-! ### what is walked -/
section
variable {f g h fa fb fc e : FE} {t c : FT} {F : FA} {ρ ρ1 ρ2 ρ3 : Rho} {w : Vl} {d : PyData} {ds : List PyData} {i j : Nat} {k l : Bool} {vs : List Nat} {fi : FI} {bnd : FB}
theorem iv_tup (h : Pv f ρ (.dat (.tuple ds)) ρ1) : Iv (iE f) ρ ds ρ1 := by
  unfold Pv at h
  unfold Iv iE
  rw [h]; rfl
theorem iv_lst (h : Pv f ρ (.dat (.list ds)) ρ1) : Iv (iE f) ρ ds ρ1 := by
  unfold Pv at h
  unfold Iv iE
  rw [h]; rfl
theorem iv_ml (h : Pv f ρ (.ml ds) ρ1) : Iv (iE f) ρ ds ρ1 := by
  unfold Pv at h
  unfold Iv iE
  rw [h]; rfl
/-- an own list of a slot: it is frozen -/
theorem iv_own (h : (ρ[i]?).join = some (.ml ds) := by rfl) (hr : ρ.set i (some (.dat (.list ds))) = ρ1 := by rfl) : Iv (iE (fV i)) ρ ds ρ1 := by
  unfold Iv iE fV
  rw [h]
  show seqO ρ (.brw i) = _
  have : frz1 ρ (.brw i) = some (.list ds, ρ1) := by
    show ((look ρ (.brw i)).bind viewD).map _ = _
    rw [look_brw, h, ← hr]; rfl
  unfold seqO
  rw [this]
def irange (lo hi : Int) : List Int := (List.range (hi - lo).toNat).map fun k : Nat => lo + (k : Int)
theorem rangeD_eq (lo hi : Int) : rangeD lo hi = (irange lo hi).map .int := by
  unfold rangeD irange
  rw [List.map_map]; rfl
theorem mem_irange {lo hi x : Int} : x ∈ irange lo hi ↔ lo ≤ x ∧ x < hi := by
  unfold irange
  rw [List.mem_map]
  constructor
  · rintro ⟨k, hk, rfl⟩
    have := List.mem_range.mp hk
    omega
  · rintro ⟨h1, h2⟩
    exact ⟨(x - lo).toNat, List.mem_range.mpr (by omega), by omega⟩
theorem len_irange (lo hi : Int) : (irange lo hi).length = (hi - lo).toNat := by unfold irange; simp
abbrev rOk (n : Int) : Prop := -(2 ^ 62) ≤ n ∧ n < 2 ^ 62
theorem iv_r1 {n : Int} (h : Al F ρ [vI n] ρ1) (hn : rOk n) : Iv (iR1 F) ρ ((irange 0 n).map .int) ρ1 := by
  obtain ⟨os, e, l⟩ := h
  unfold Iv iR1
  rw [e, bind_ok]
  unfold rg1
  rw [l]
  show (if _ then _ else _) = _
  rw [if_pos hn, rangeD_eq]
theorem iv_r2 {m n : Int} (h : Al F ρ [vI m, vI n] ρ1) (hm : rOk m) (hn : rOk n) : Iv (iR2 F) ρ ((irange m n).map .int) ρ1 := by
  obtain ⟨os, e, l⟩ := h
  unfold Iv iR2
  rw [e, bind_ok]
  unfold rg2
  rw [l]
  show (if _ then _ else _) = _
  rw [if_pos ⟨hm.1, hm.2, hn.1, hn.2⟩, rangeD_eq]
/-! ### comprehensions -/
theorem tv_cT : Tv cT ρ true ρ := rfl
theorem pv_comp {α β : Type} {ι : α → PyData} {en : β → PyData} {p : α → Bool} {v : α → β} {xs : List α} (hi : Iv fi ρ (xs.map ι) ρ1) (hl : xs.length ≤ 100000)
    (st : ∀ x ∈ xs, ∃ ρ2 ρ3, bnd (ι x) (wipeR ρ1 vs) = some ρ2 ∧ wipeR ρ2 vs = wipeR ρ1 vs ∧ Tv c ρ2 (p x) ρ2 ∧ (p x = true → ∃ w, Pv e ρ2 w ρ3 ∧ wipeR ρ3 vs = wipeR ρ1 vs ∧ viewD w = some (en (v x)))) :
    Pv (fComp vs fi bnd c e) ρ (.ml (((xs.filter p).map v).map en)) ρ1 := by
  have go : ∀ (ys : List α) (ρ0 : Rho), (∀ x ∈ ys, x ∈ xs) → wipeR ρ0 vs = wipeR ρ1 vs → ∃ ρ', compL vs bnd c e (ys.map ι) ρ0 = .ok (((ys.filter p).map v).map en) ρ' ∧ wipeR ρ' vs = wipeR ρ1 vs := by
    intro ys
    induction ys with
    | nil => intro ρ0 _ h; exact ⟨ρ0, rfl, h⟩
    | cons y ys ih =>
      intro ρ0 hm hw
      obtain ⟨ρ2, ρ3, e1, e2, e3, e4⟩ := st y (hm y (by simp))
      unfold Tv at e3
      have unf : compL vs bnd c e (ι y :: ys.map ι) ρ0 = (match bnd (ι y) (wipeR ρ0 vs) with
        | none => .stk
        | some ρ1 => match c ρ1 with
          | .ok true ρ2 => match e ρ2 with
            | .ok o ρ3 => match frz1 ρ3 o with
              | some (d', ρ4) => match compL vs bnd c e (ys.map ι) ρ4 with
                | .ok ds' ρ5 => .ok (d' :: ds') ρ5
                | .exc _ _ => .stk
                | .stk => .stk
              | none => .stk
            | .exc _ _ => .stk
            | .stk => .stk
          | .ok false ρ2 => compL vs bnd c e (ys.map ι) ρ2
          | .exc _ _ => .stk
          | .stk => .stk) := rfl
      rw [List.map_cons, unf, hw, e1]
      simp only [e3]
      cases hp : p y with
      | false =>
        obtain ⟨ρ', h1, h2⟩ := ih ρ2 (fun x hx => hm x (List.mem_cons_of_mem _ hx)) e2
        refine ⟨ρ', ?_, h2⟩
        rw [List.filter_cons_of_neg (by simp [hp])]
        exact h1
      | true =>
        obtain ⟨w, h3, h4, h5⟩ := e4 hp
        unfold Pv at h3
        obtain ⟨ρ', h1, h2⟩ := ih ρ3 (fun x hx => hm x (List.mem_cons_of_mem _ hx)) h4
        refine ⟨ρ', ?_, h2⟩
        rw [List.filter_cons_of_pos (by simp [hp])]
        simp only [h3]
        have : frz1 ρ3 (.val w) = some (en (v y), ρ3) := by show (viewD w).map _ = _; rw [h5]; rfl
        simp only [this, h1]
        rfl
  obtain ⟨ρ', h1, h2⟩ := go xs ρ1 (fun x h => h) rfl
  unfold Iv at hi
  unfold Pv fComp
  rw [hi, bind_ok, h1]
  show (if (xs.map ι).length ≤ 100000 then _ else _) = _
  rw [List.length_map, if_pos hl, restR_same h2]
theorem pv_map {α β : Type} {ι : α → PyData} {en : β → PyData} {v : α → β} {xs : List α} (hi : Iv fi ρ (xs.map ι) ρ1) (hl : xs.length ≤ 100000)
    (st : ∀ x ∈ xs, ∃ ρ2 ρ3 w, bnd (ι x) (wipeR ρ1 vs) = some ρ2 ∧ Pv e ρ2 w ρ3 ∧ wipeR ρ3 vs = wipeR ρ1 vs ∧ viewD w = some (en (v x))) :
    Pv (fComp vs fi bnd cT e) ρ (.ml ((xs.map v).map en)) ρ1 := by
  have go : ∀ (ys : List α) (ρ0 : Rho), (∀ x ∈ ys, x ∈ xs) → wipeR ρ0 vs = wipeR ρ1 vs → ∃ ρ', compL vs bnd cT e (ys.map ι) ρ0 = .ok ((ys.map v).map en) ρ' ∧ wipeR ρ' vs = wipeR ρ1 vs := by
    intro ys
    induction ys with
    | nil => intro ρ0 _ h; exact ⟨ρ0, rfl, h⟩
    | cons y ys ih =>
      intro ρ0 hm hw
      obtain ⟨ρ2, ρ3, w, e1, h3, h4, h5⟩ := st y (hm y (by simp))
      unfold Pv at h3
      have unf : compL vs bnd cT e (ι y :: ys.map ι) ρ0 = (match bnd (ι y) (wipeR ρ0 vs) with
        | none => .stk
        | some ρ1 => match e ρ1 with
            | .ok o ρ3 => match frz1 ρ3 o with
              | some (d', ρ4) => match compL vs bnd cT e (ys.map ι) ρ4 with
                | .ok ds' ρ5 => .ok (d' :: ds') ρ5
                | .exc _ _ => .stk
                | .stk => .stk
              | none => .stk
            | .exc _ _ => .stk
            | .stk => .stk) := rfl
      obtain ⟨ρ', h1, h2⟩ := ih ρ3 (fun x hx => hm x (List.mem_cons_of_mem _ hx)) h4
      refine ⟨ρ', ?_, h2⟩
      rw [List.map_cons, unf, hw, e1]
      have : frz1 ρ3 (.val w) = some (en (v y), ρ3) := by show (viewD w).map _ = _; rw [h5]; rfl
      simp only [h3, this, h1]
      rfl
  obtain ⟨ρ', h1, h2⟩ := go xs ρ1 (fun x h => h) rfl
  unfold Iv at hi
  unfold Pv fComp
  rw [hi, bind_ok, h1]
  show (if (xs.map ι).length ≤ 100000 then _ else _) = _
  rw [List.length_map, if_pos hl, restR_same h2]
/-- .. whose turns draw: rc c is the environment at the counter c -/
def mapC {α β : Type} (f : α → Int → β × Int) : List α → Int → List β × Int
  | [], c => ([], c)
  | x :: xs, c => ((f x c).1 :: (mapC f xs (f x c).2).1, (mapC f xs (f x c).2).2)
def filterC {α β : Type} (p : α → Int → Bool × Int) (v : α → β) : List α → Int → List β × Int
  | [], c => ([], c)
  | x :: xs, c => if (p x c).1 = true then (v x :: (filterC p v xs (p x c).2).1, (filterC p v xs (p x c).2).2) else filterC p v xs (p x c).2
def allC {α : Type} (G : α → Int → Prop) (f : α → Int → Int) : List α → Int → Prop
  | [], _ => True
  | x :: xs, c => G x c ∧ allC G f xs (f x c)
theorem pv_mapC {α β : Type} {ι : α → PyData} {en : β → PyData} {v : α → Int → β × Int} {rc : Int → Rho} {c0 : Int} {xs : List α} {G : α → Int → Prop} (hi : Iv fi ρ (xs.map ι) (rc c0)) (hl : xs.length ≤ 100000) (hg : allC G (fun x c => (v x c).2) xs c0)
    (st : ∀ x ∈ xs, ∀ c, G x c → ∃ ρ2 ρ3 w, bnd (ι x) (wipeR (rc c) vs) = some ρ2 ∧ Pv e ρ2 w ρ3 ∧ wipeR ρ3 vs = wipeR (rc (v x c).2) vs ∧ viewD w = some (en (v x c).1))
    (hrc : ∀ c ρ', wipeR ρ' vs = wipeR (rc c) vs → restR (rc c0) ρ' vs = rc c) :
    Pv (fComp vs fi bnd cT e) ρ (.ml ((mapC v xs c0).1.map en)) (rc (mapC v xs c0).2) := by
  have go : ∀ (ys : List α) (c : Int) (ρ0 : Rho), (∀ x ∈ ys, x ∈ xs) → allC G (fun x c => (v x c).2) ys c → wipeR ρ0 vs = wipeR (rc c) vs → ∃ ρ', compL vs bnd cT e (ys.map ι) ρ0 = .ok ((mapC v ys c).1.map en) ρ' ∧ wipeR ρ' vs = wipeR (rc (mapC v ys c).2) vs := by
    intro ys
    induction ys with
    | nil => intro c ρ0 _ _ h; exact ⟨ρ0, rfl, h⟩
    | cons y ys ih =>
      intro c ρ0 hm hg hw
      obtain ⟨ρ2, ρ3, w, e1, h3, h4, h5⟩ := st y (hm y (by simp)) c hg.1
      unfold Pv at h3
      have unf : compL vs bnd cT e (ι y :: ys.map ι) ρ0 = (match bnd (ι y) (wipeR ρ0 vs) with
        | none => .stk
        | some ρ1 => match e ρ1 with
            | .ok o ρ3 => match frz1 ρ3 o with
              | some (d', ρ4) => match compL vs bnd cT e (ys.map ι) ρ4 with
                | .ok ds' ρ5 => .ok (d' :: ds') ρ5
                | .exc _ _ => .stk
                | .stk => .stk
              | none => .stk
            | .exc _ _ => .stk
            | .stk => .stk) := rfl
      obtain ⟨ρ', h1, h2⟩ := ih _ ρ3 (fun x hx => hm x (List.mem_cons_of_mem _ hx)) hg.2 h4
      refine ⟨ρ', ?_, h2⟩
      rw [List.map_cons, unf, hw, e1]
      have : frz1 ρ3 (.val w) = some (en (v y c).1, ρ3) := by show (viewD w).map _ = _; rw [h5]; rfl
      simp only [h3, this, h1]
      rfl
  obtain ⟨ρ', h1, h2⟩ := go xs c0 (rc c0) (fun x h => h) hg rfl
  unfold Iv at hi
  unfold Pv fComp
  rw [hi, bind_ok, h1]
  show (if (xs.map ι).length ≤ 100000 then _ else _) = _
  rw [List.length_map, if_pos hl, hrc _ _ h2]
theorem pv_filterC {α β : Type} {ι : α → PyData} {en : β → PyData} {p : α → Int → Bool × Int} {v : α → β} {rc : Int → Rho} {c0 : Int} {xs : List α} {G : α → Int → Prop} (hi : Iv fi ρ (xs.map ι) (rc c0)) (hl : xs.length ≤ 100000) (hg : allC G (fun x c => (p x c).2) xs c0)
    (st : ∀ x ∈ xs, ∀ c, G x c → ∃ ρ2 ρ3, bnd (ι x) (wipeR (rc c) vs) = some ρ2 ∧ Tv t ρ2 (p x c).1 ρ3 ∧ wipeR ρ3 vs = wipeR (rc (p x c).2) vs ∧ ((p x c).1 = true → ∃ w, Pv e ρ3 w ρ3 ∧ viewD w = some (en (v x))))
    (hrc : ∀ c ρ', wipeR ρ' vs = wipeR (rc c) vs → restR (rc c0) ρ' vs = rc c) :
    Pv (fComp vs fi bnd t e) ρ (.ml ((filterC p v xs c0).1.map en)) (rc (filterC p v xs c0).2) := by
  have go : ∀ (ys : List α) (c : Int) (ρ0 : Rho), (∀ x ∈ ys, x ∈ xs) → allC G (fun x c => (p x c).2) ys c → wipeR ρ0 vs = wipeR (rc c) vs → ∃ ρ', compL vs bnd t e (ys.map ι) ρ0 = .ok ((filterC p v ys c).1.map en) ρ' ∧ wipeR ρ' vs = wipeR (rc (filterC p v ys c).2) vs := by
    intro ys
    induction ys with
    | nil => intro c ρ0 _ _ h; exact ⟨ρ0, rfl, h⟩
    | cons y ys ih =>
      intro c ρ0 hm hg hw
      obtain ⟨ρ2, ρ3, e1, e3, e2, e4⟩ := st y (hm y (by simp)) c hg.1
      unfold Tv at e3
      have unf : compL vs bnd t e (ι y :: ys.map ι) ρ0 = (match bnd (ι y) (wipeR ρ0 vs) with
        | none => .stk
        | some ρ1 => match t ρ1 with
          | .ok true ρ2 => match e ρ2 with
            | .ok o ρ3 => match frz1 ρ3 o with
              | some (d', ρ4) => match compL vs bnd t e (ys.map ι) ρ4 with
                | .ok ds' ρ5 => .ok (d' :: ds') ρ5
                | .exc _ _ => .stk
                | .stk => .stk
              | none => .stk
            | .exc _ _ => .stk
            | .stk => .stk
          | .ok false ρ2 => compL vs bnd t e (ys.map ι) ρ2
          | .exc _ _ => .stk
          | .stk => .stk) := rfl
      obtain ⟨ρ', h1, h2⟩ := ih _ ρ3 (fun x hx => hm x (List.mem_cons_of_mem _ hx)) hg.2 e2
      rw [List.map_cons, unf, hw, e1]
      simp only [e3]
      unfold filterC
      cases hp : (p y c).1 with
      | false => exact ⟨ρ', by simp only [h1, if_neg (fun z : false = true => nomatch z)], by simpa using h2⟩
      | true =>
        obtain ⟨w, h3, h5⟩ := e4 hp
        unfold Pv at h3
        have : frz1 ρ3 (.val w) = some (en (v y), ρ3) := by show (viewD w).map _ = _; rw [h5]; rfl
        refine ⟨ρ', ?_, by simpa using h2⟩
        simp only [h3, this, h1, if_true]
        rfl
  obtain ⟨ρ', h1, h2⟩ := go xs c0 (rc c0) (fun x h => h) hg rfl
  unfold Iv at hi
  unfold Pv fComp
  rw [hi, bind_ok, h1]
  show (if (xs.map ι).length ≤ 100000 then _ else _) = _
  rw [List.length_map, if_pos hl, hrc _ _ h2]
end
end Mi
end
section
set_option Elab.async false
set_option linter.all false
set_option maxRecDepth 100000
/-! Tw3: the plain twin: statements -/
namespace Mi
open PySem
/-- what the statement came to, by the twin's result; Φ: what a plain result means -/
def Gn {δ : Type} (Xc : Nat → Rho → Prop) (s : SO) (t : R δ) (Φ : δ → SO → Prop) : Prop := match t with
  | .ok d => Φ d s
  | .exc c => ∃ ρ', s = .exc c ρ' ∧ Xc c ρ'
  | .stk => True
abbrev anyX : Nat → Rho → Prop := fun _ _ => True
/-- falls through -/
def fNx {β : Type} (E : β → Rho → Prop) : β → SO → Prop := fun b s => ∃ ρ', s = .nx ρ' ∧ E b ρ'
/-- a loop's turn -/
def fLp {β : Type} (E : β → Rho → Prop) : β → SO → Prop := fun b s => ∃ ρ', (s = .nx ρ' ∨ s = .ct ρ') ∧ E b ρ'
/-- .. with ways out -/
def fFl {β γ : Type} (E : β → Rho → Prop) (Er : γ → SO → Prop) : Fl β γ → SO → Prop := fun r s => match r with
  | .nx b => ∃ ρ', s = .nx ρ' ∧ E b ρ'
  | .ct b => ∃ ρ', s = .ct ρ' ∧ E b ρ'
  | .bk b => ∃ ρ', s = .bk ρ' ∧ E b ρ'
  | .ret g => Er g s
/-- returns -/
def fRt {γ : Type} (wr : γ → Vl) (E : γ → Rho → Prop) : γ → SO → Prop := fun g s => ∃ ρ', s = .ret (wr g) ρ' ∧ E g ρ'
abbrev anyE {γ : Type} : γ → Rho → Prop := fun _ _ => True
/-- a procedure's end -/
def fPr (E : Rho → Prop) : Unit → SO → Prop := fun _ s => ∃ ρ', (s = .nx ρ' ∨ s = .ret (.dat .none) ρ') ∧ E ρ'
section
variable {Xc : Nat → Rho → Prop}
variable {δ β γ α : Type} {Φ : δ → SO → Prop} {f a b A B body : FS} {fe : FE} {c : FT} {F : FA} {ρ ρ1 ρ2 : Rho} {w : Vl} {t t1 t2 : R δ} {p : Prop} {i : Nat} {k : Bool} {s : SO} {fi : FI} {bnd : FB}
theorem g_gd (h : p → Gn Xc s t Φ) : Gn Xc s (gdR p t) Φ := by
  classical
  unfold gdR
  split
  · rename_i q; exact h q
  · trivial
theorem g_one (h : Gn Xc (sSeq f sNext ρ) t Φ) : Gn Xc (f ρ) t Φ := by
  have : sSeq f sNext ρ = f ρ := by
    unfold sSeq
    cases f ρ <;> rfl
  rw [this] at h; exact h
theorem seq_assoc : sSeq (sSeq a b) f ρ = sSeq a (sSeq b f) ρ := by
  show (match (match a ρ with | .nx ρ1 => b ρ1 | r => r) with | .nx ρ1 => f ρ1 | r => r) = match a ρ with | .nx ρ1 => (match b ρ1 with | .nx ρ1 => f ρ1 | r => r) | r => r
  cases a ρ <;> rfl
theorem g_assoc (h : Gn Xc (sSeq a (sSeq b f) ρ) t Φ) : Gn Xc (sSeq (sSeq a b) f ρ) t Φ := by rw [seq_assoc]; exact h
theorem g_skip (h : Gn Xc (f ρ) t Φ) : Gn Xc (sSeq sNext f ρ) t Φ := h
theorem seq_nx' (e : a ρ = .nx ρ1) : sSeq a f ρ = f ρ1 := by unfold sSeq; rw [e]
theorem g_step (e : a ρ = .nx ρ1) (h : Gn Xc (f ρ1) t Φ) : Gn Xc (sSeq a f ρ) t Φ := by rw [seq_nx' e]; exact h
theorem ev_set (h : Pv fe ρ w ρ1) (hr : ρ1.set i (some w) = ρ2 := by rfl) : sSet i fe ρ = .nx ρ2 := by
  unfold Pv at h
  unfold sSet
  rw [h, bindS_ok, setO_val, hr]
theorem ev_drop (h : Pl fe ρ w ρ1) : sDrop fe ρ = .nx ρ1 := by
  obtain ⟨o, e, l⟩ := h
  unfold sDrop
  rw [e]; rfl
theorem g_set (h : Pv fe ρ w ρ1) (hr : ρ1.set i (some w) = ρ2) (g : Gn Xc (f ρ2) t Φ) : Gn Xc (sSeq (sSet i fe) f ρ) t Φ := g_step (ev_set h hr) g
theorem g_drop (h : Pl fe ρ w ρ1) (g : Gn Xc (f ρ1) t Φ) : Gn Xc (sSeq (sDrop fe) f ρ) t Φ := g_step (ev_drop h) g
/-- an own list moves to another slot -/
theorem g_move {j : Nat} (hw : (ρ[j]?).join = some w) (hn : ∀ d, w ≠ .dat d) (hr : (ρ.set j none).set i (some w) = ρ2) (g : Gn Xc (f ρ2) t Φ) : Gn Xc (sSeq (sSet i (fV j)) f ρ) t Φ := by
  refine g_step (ρ1 := ρ2) ?_ g
  have ev : fV j ρ = .ok (.brw j) ρ := by
    unfold fV
    rw [hw]
    cases w with
    | dat d => exact (hn d rfl).elim
    | ml _ => rfl
    | mml _ => rfl
    | ob _ _ => rfl
    | st _ => rfl
  unfold sSet
  rw [ev, bindS_ok]
  have : own ρ (.brw j) = some (w, ρ.set j none) := by
    show (look ρ (.brw j)).map _ = _
    rw [look_brw, hw]; rfl
  unfold setO
  rw [this, ← hr]
theorem g_ret {g : γ} {wr : γ → Vl} {E : γ → Rho → Prop} (h : Pv fe ρ (wr g) ρ1) (hE : E g ρ1) : Gn Xc (sSeq (sRet fe) f ρ) (.ok g) (fRt wr E) := by
  unfold Pv at h
  refine ⟨ρ1, ?_, hE⟩
  have e : sRet fe ρ = .ret (wr g) ρ1 := by
    unfold sRet
    rw [h, bindS_ok, retO_val]
  unfold sSeq
  rw [e]
theorem ret_own {j : Nat} (hw : (ρ[j]?).join = some w) (hn : ∀ d, w ≠ .dat d) : sRet (fV j) ρ = .ret w (ρ.set j none) := by
  have ev : fV j ρ = .ok (.brw j) ρ := by
    unfold fV
    rw [hw]
    cases w with
    | dat d => exact (hn d rfl).elim
    | ml _ => rfl
    | mml _ => rfl
    | ob _ _ => rfl
    | st _ => rfl
  unfold sRet
  rw [ev, bindS_ok]
  have : own ρ (.brw j) = some (w, ρ.set j none) := by
    show (look ρ (.brw j)).map _ = _
    rw [look_brw, hw]; rfl
  unfold retO
  rw [this]
/-- an own list is returned -/
theorem g_retM {g : γ} {wr : γ → Vl} {E : γ → Rho → Prop} {j : Nat} (hw : (ρ[j]?).join = some (wr g)) (hn : ∀ d, wr g ≠ .dat d) (hr : ρ.set j none = ρ1) (hE : E g ρ1) : Gn Xc (sSeq (sRet (fV j)) f ρ) (.ok g) (fRt wr E) := by
  refine ⟨ρ1, ?_, hE⟩
  unfold sSeq
  rw [ret_own hw hn, hr]
/-- .. in a loop -/
theorem g_retF {β : Type} {g : γ} {E : β → Rho → Prop} {Er : γ → SO → Prop} (h : Gn Xc (sSeq (sRet fe) f ρ) (.ok g) Er) : Gn Xc (sSeq (sRet fe) f ρ) (.ok (Fl.ret g)) (fFl E Er) := h
theorem g_retN {E : Rho → Prop} (h : E ρ) : Gn Xc (sSeq sRetN f ρ) (.ok ()) (fPr E) := ⟨ρ, .inr rfl, h⟩
theorem g_retP {E : Rho → Prop} (h : E ρ) : Gn Xc (sNext ρ) (.ok ()) (fPr E) := ⟨ρ, .inl rfl, h⟩
theorem g_raise {c : Nat} (hX : Xc c ρ := by first | trivial | rfl) : Gn Xc (sSeq (sRaise c) f ρ) (.exc c : R δ) Φ := ⟨ρ, rfl, hX⟩
theorem g_nx {E : β → Rho → Prop} {b : β} (h : E b ρ) : Gn Xc (sNext ρ) (.ok b) (fNx E) := ⟨ρ, rfl, h⟩
theorem g_lp {E : β → Rho → Prop} {b : β} (h : E b ρ) : Gn Xc (sNext ρ) (.ok b) (fLp E) := ⟨ρ, .inl rfl, h⟩
theorem g_lpC {E : β → Rho → Prop} {b : β} (h : E b ρ) : Gn Xc (sSeq sCnt f ρ) (.ok b) (fLp E) := ⟨ρ, .inr rfl, h⟩
theorem g_fn {E : β → Rho → Prop} {Er : γ → SO → Prop} {b : β} (h : E b ρ) : Gn Xc (sNext ρ) (.ok (Fl.nx b)) (fFl E Er) := ⟨ρ, rfl, h⟩
theorem g_fc {E : β → Rho → Prop} {Er : γ → SO → Prop} {b : β} (h : E b ρ) : Gn Xc (sSeq sCnt f ρ) (.ok (Fl.ct b)) (fFl E Er) := ⟨ρ, rfl, h⟩
theorem g_fb {E : β → Rho → Prop} {Er : γ → SO → Prop} {b : β} (h : E b ρ) : Gn Xc (sSeq sBrk f ρ) (.ok (Fl.bk b)) (fFl E Er) := ⟨ρ, rfl, h⟩
/-- if; what comes behind goes into both ways -/
theorem g_if (hc : Tv c ρ k ρ1) (h1 : k = true → Gn Xc (sSeq A f ρ1) t1 Φ) (h2 : k = false → Gn Xc (sSeq B f ρ1) t2 Φ) : Gn Xc (sSeq (sIf c A B) f ρ) (if k = true then t1 else t2) Φ := by
  unfold Tv at hc
  have e : sIf c A B ρ = if k = true then A ρ1 else B ρ1 := by
    unfold sIf
    rw [hc, bindS_ok]
  unfold sSeq at h1 h2 ⊢
  rw [e]
  cases k with
  | true => exact h1 rfl
  | false => exact h2 rfl
/-- if, joined behind -/
theorem g_ifJ {E : β → Rho → Prop} {tj : R β} {tk : β → R δ} (hj : Gn Xc (sIf c A B ρ) tj (fNx E)) (h : ∀ b ρ', E b ρ' → Gn Xc (f ρ') (tk b) Φ) : Gn Xc (sSeq (sIf c A B) f ρ) (tj.bind tk) Φ := by
  cases tj with
  | stk => trivial
  | exc c0 =>
    obtain ⟨ρ', e, hX⟩ := hj
    exact ⟨ρ', by unfold sSeq; rw [e], hX⟩
  | ok b0 =>
    obtain ⟨ρ', e, hE⟩ := hj
    have := h b0 ρ' hE
    show Gn Xc _ (tk b0) Φ
    rw [seq_nx' e]; exact this
/-- a block, then what comes behind: loops and the like -/
theorem g_seqJ {E : β → Rho → Prop} {tj : R β} {tk : β → R δ} (hj : Gn Xc (a ρ) tj (fNx E)) (h : ∀ b ρ', E b ρ' → Gn Xc (f ρ') (tk b) Φ) : Gn Xc (sSeq a f ρ) (tj.bind tk) Φ := by
  cases tj with
  | stk => trivial
  | exc c0 =>
    obtain ⟨ρ', e, hX⟩ := hj
    exact ⟨ρ', by unfold sSeq; rw [e], hX⟩
  | ok b0 =>
    obtain ⟨ρ', e, hE⟩ := hj
    have := h b0 ρ' hE
    show Gn Xc _ (tk b0) Φ
    rw [seq_nx' e]; exact this
/-- .. that may return -/
theorem g_seqF {E : β → Rho → Prop} {Er : γ → SO → Prop} {tj : R (Fl β γ)} {tk : β → R δ} {hr : γ → δ} (hj : Gn Xc (a ρ) tj (fFl E Er)) (hret : ∀ g w ρ', Er g (.ret w ρ') → Φ (hr g) (.ret w ρ')) (hEr : ∀ g s, Er g s → ∃ w ρ', s = .ret w ρ') (hnb : ∀ b, tj ≠ .ok (.bk b)) (hnc : ∀ b, tj ≠ .ok (.ct b)) (h : ∀ b ρ', E b ρ' → Gn Xc (f ρ') (tk b) Φ) :
    Gn Xc (sSeq a f ρ) (tj.bind fun r => match r with
      | .nx b => tk b
      | .ct b => tk b
      | .bk b => tk b
      | .ret g => .ok (hr g)) Φ := by
  cases tj with
  | stk => trivial
  | exc c0 =>
    obtain ⟨ρ', e, hX⟩ := hj
    exact ⟨ρ', by unfold sSeq; rw [e], hX⟩
  | ok r =>
    cases r with
    | nx b0 =>
      obtain ⟨ρ', e, hE⟩ := hj
      have := h b0 ρ' hE
      show Gn Xc _ (tk b0) Φ
      rw [seq_nx' e]; exact this
    | ct b0 => exact (hnc b0 rfl).elim
    | bk b0 => exact (hnb b0 rfl).elim
    | ret g =>
      obtain ⟨w, ρ', e⟩ := hEr g _ hj
      have hj' : Er g (a ρ) := hj
      rw [e] at hj'
      show Φ (hr g) _
      have : sSeq a f ρ = .ret w ρ' := by unfold sSeq; rw [e]
      rw [this]
      exact hret g w ρ' hj'
/-- for -/
theorem ev_for {ι : α → PyData} {xs : List α} {Inv : β → Rho → Prop} {b0 : β} {tb : α → β → R β} (hi : Iv fi ρ (xs.map ι) ρ1) (h0 : Inv b0 ρ1) (hb : ∀ x ∈ xs, ∀ b ρ', Inv b ρ' → ∃ ρ2, bnd (ι x) ρ' = some ρ2 ∧ Gn Xc (body ρ2) (tb x b) (fLp Inv)) :
    Gn Xc (sFor fi bnd body ρ) (forR tb xs b0) (fNx Inv) := by
  unfold Iv at hi
  rw [sFor_ev hi]
  clear hi
  induction xs generalizing b0 ρ1 with
  | nil => exact ⟨ρ1, rfl, h0⟩
  | cons x xs ih =>
    obtain ⟨ρ2, e1, g1⟩ := hb x (by simp) b0 ρ1 h0
    rw [List.map_cons, forL_step e1]
    show Gn Xc _ ((tb x b0).bind (forR tb xs)) _
    cases ht : tb x b0 with
    | stk => trivial
    | exc c0 =>
      rw [ht] at g1
      obtain ⟨ρ', e, hX⟩ := g1
      exact ⟨ρ', by rw [e], hX⟩
    | ok b1 =>
      rw [ht] at g1
      obtain ⟨ρ', e, hI⟩ := g1
      have := ih hI fun y hy => hb y (List.mem_cons_of_mem _ hy)
      rcases e with e | e <;> rw [e] <;> exact this
/-- for, with ways out -/
theorem ev_forF {ι : α → PyData} {xs : List α} {Inv : β → Rho → Prop} {Er : γ → SO → Prop} {b0 : β} {tb : α → β → R (Fl β γ)} (hEr : ∀ g s, Er g s → ∃ w ρ', s = .ret w ρ') (hi : Iv fi ρ (xs.map ι) ρ1) (h0 : Inv b0 ρ1) (hb : ∀ x ∈ xs, ∀ b ρ', Inv b ρ' → ∃ ρ2, bnd (ι x) ρ' = some ρ2 ∧ Gn Xc (body ρ2) (tb x b) (fFl Inv Er)) :
    Gn Xc (sFor fi bnd body ρ) (forF tb xs b0) (fFl Inv Er) := by
  unfold Iv at hi
  rw [sFor_ev hi]
  clear hi
  induction xs generalizing b0 ρ1 with
  | nil => exact ⟨ρ1, rfl, h0⟩
  | cons x xs ih =>
    obtain ⟨ρ2, e1, g1⟩ := hb x (by simp) b0 ρ1 h0
    rw [List.map_cons, forL_step e1]
    show Gn Xc _ ((tb x b0).bind _) _
    cases ht : tb x b0 with
    | stk => trivial
    | exc c0 =>
      rw [ht] at g1
      obtain ⟨ρ', e, hX⟩ := g1
      exact ⟨ρ', by rw [e], hX⟩
    | ok r =>
      rw [ht] at g1
      cases r with
      | nx b1 =>
        obtain ⟨ρ', e, hI⟩ := g1
        have := ih hI fun y hy => hb y (List.mem_cons_of_mem _ hy)
        rw [e]; exact this
      | ct b1 =>
        obtain ⟨ρ', e, hI⟩ := g1
        have := ih hI fun y hy => hb y (List.mem_cons_of_mem _ hy)
        rw [e]; exact this
      | bk b1 =>
        obtain ⟨ρ', e, hI⟩ := g1
        rw [e]; exact ⟨ρ', rfl, hI⟩
      | ret g =>
        have g1' : Er g _ := g1
        obtain ⟨w, ρ', e⟩ := hEr g _ g1'
        rw [e] at g1' ⊢
        exact g1'
theorem forF_noB {f : α → β → R (Fl β γ)} : ∀ (xs : List α) (b : β), (∀ b', forF f xs b ≠ .ok (.bk b')) ∧ ∀ b', forF f xs b ≠ .ok (.ct b')
  | [], b => ⟨(fun _ z => nomatch z), (fun _ z => nomatch z)⟩
  | x :: xs, b => by
    show (∀ b', (f x b).bind _ ≠ _) ∧ ∀ b', (f x b).bind _ ≠ _
    cases f x b with
    | stk => exact ⟨(fun _ z => nomatch z), (fun _ z => nomatch z)⟩
    | exc _ => exact ⟨(fun _ z => nomatch z), (fun _ z => nomatch z)⟩
    | ok r =>
      rw [R.ok_bind]
      cases r with
      | nx b' => exact forF_noB xs b'
      | ct b' => exact forF_noB xs b'
      | bk b' => exact ⟨(fun _ z => nomatch z), (fun _ z => nomatch z)⟩
      | ret g => exact ⟨(fun _ z => nomatch z), (fun _ z => nomatch z)⟩
theorem whN_noB {c : β → R Bool} {f : β → R (Fl β γ)} : ∀ (k : Nat) (b : β), (∀ b', whN' c f k b ≠ .ok (.bk b')) ∧ ∀ b', whN' c f k b ≠ .ok (.ct b')
  | 0, b => ⟨(fun _ z => nomatch z), (fun _ z => nomatch z)⟩
  | k + 1, b => by
    show (∀ b', (c b).bind _ ≠ _) ∧ ∀ b', (c b).bind _ ≠ _
    cases c b with
    | stk => exact ⟨(fun _ z => nomatch z), (fun _ z => nomatch z)⟩
    | exc _ => exact ⟨(fun _ z => nomatch z), (fun _ z => nomatch z)⟩
    | ok t =>
      rw [R.ok_bind]
      cases t with
      | false => exact ⟨(fun _ z => nomatch z), (fun _ z => nomatch z)⟩
      | true =>
        simp only [if_true]
        cases f b with
        | stk => exact ⟨(fun _ z => nomatch z), (fun _ z => nomatch z)⟩
        | exc _ => exact ⟨(fun _ z => nomatch z), (fun _ z => nomatch z)⟩
        | ok r =>
          rw [R.ok_bind]
          cases r with
          | nx b' => exact whN_noB k b'
          | ct b' => exact whN_noB k b'
          | bk b' => exact ⟨(fun _ z => nomatch z), (fun _ z => nomatch z)⟩
          | ret g => exact ⟨(fun _ z => nomatch z), (fun _ z => nomatch z)⟩
theorem whF_noB {c : β → R Bool} {f : β → R (Fl β γ)} (b : β) : (∀ b', whF c f b ≠ .ok (.bk b')) ∧ ∀ b', whF c f b ≠ .ok (.ct b') := by
  classical
  unfold whF
  split
  · exact whN_noB _ _
  · exact ⟨(fun _ z => nomatch z), (fun _ z => nomatch z)⟩
/-- while -/
def GT (t : Out Bool) (r : R Bool) (E : Rho → Prop) : Prop := match r with
  | .ok k => ∃ ρ', t = .ok k ρ' ∧ E ρ'
  | .exc _ => False
  | .stk => True
theorem gt_gd {t : Out Bool} {r : R Bool} {E : Rho → Prop} (h : p → GT t r E) : GT t (gdR p r) E := by
  classical
  unfold gdR
  split
  · rename_i q; exact h q
  · trivial
theorem gt_ok {E : Rho → Prop} (h : Tv c ρ k ρ1) (hE : E ρ1) : GT (c ρ) (.ok k) E := ⟨ρ1, h, hE⟩
theorem ev_whF {Inv : β → Rho → Prop} {Er : γ → SO → Prop} {b0 : β} {tc : β → R Bool} {tb : β → R (Fl β γ)} (hEr : ∀ g s, Er g s → ∃ w ρ', s = .ret w ρ') (h0 : Inv b0 ρ) (hc : ∀ b ρ', Inv b ρ' → GT (c ρ') (tc b) (Inv b)) (hb : ∀ b ρ', Inv b ρ' → Gn Xc (body ρ') (tb b) (fFl Inv Er)) :
    Gn Xc (sWh c body ρ) (whF tc tb b0) (fFl Inv Er) := by
  have go : ∀ (n : Nat) (b : β) (ρ : Rho), Inv b ρ → whN' tc tb n b ≠ .stk → ∃ m, whN c body m ρ ≠ .stk ∧ Gn Xc (whN c body m ρ) (whN' tc tb n b) (fFl Inv Er) := by
    intro n
    induction n with
    | zero => intro b ρ _ h; exact (h rfl).elim
    | succ n ih =>
      intro b ρ hI h
      have unf : ∀ m, whN c body (m + 1) ρ = (c ρ).bindS fun t ρ1 => if t = true then
          match body ρ1 with
          | .nx ρ2 => whN c body m ρ2
          | .ct ρ2 => whN c body m ρ2
          | .bk ρ2 => .nx ρ2
          | .ret w ρ2 => .ret w ρ2
          | .exc c ρ2 => .exc c ρ2
          | .stk => .stk
        else .nx ρ1 := fun _ => rfl
      have h' : (tc b).bind (fun t => if t = true then (tb b).bind fun r => match r with
        | .nx b' => whN' tc tb n b'
        | .ct b' => whN' tc tb n b'
        | .bk b' => .ok (.nx b')
        | .ret g => .ok (.ret g)
        else .ok (.nx b)) ≠ .stk := h
      show ∃ m, _ ∧ Gn Xc _ ((tc b).bind (fun t => if t = true then (tb b).bind fun r => match r with
        | .nx b' => whN' tc tb n b'
        | .ct b' => whN' tc tb n b'
        | .bk b' => .ok (.nx b')
        | .ret g => .ok (.ret g)
        else .ok (.nx b))) _
      have c1 := hc b ρ hI
      cases ec : tc b with
      | stk => rw [ec] at h'; exact (h' rfl).elim
      | exc _ => rw [ec] at c1; exact c1.elim
      | ok t =>
        rw [ec] at c1 h'
        rw [R.ok_bind] at h' ⊢
        obtain ⟨ρ1, e1, hI1⟩ := c1
        cases t with
        | false => exact ⟨1, by rw [unf 0, e1]; exact (fun z => nomatch z), by rw [unf 0, e1]; exact ⟨ρ1, rfl, hI1⟩⟩
        | true =>
          simp only [if_true] at h' ⊢
          have b1 := hb b ρ1 hI1
          cases eb : tb b with
          | stk => rw [eb] at h'; exact (h' rfl).elim
          | exc c0 =>
            rw [eb] at b1
            obtain ⟨ρ2, e2, hX⟩ := b1
            exact ⟨1, by rw [unf 0, e1, bindS_ok, if_pos rfl, e2]; exact (fun z => nomatch z), by rw [unf 0, e1, bindS_ok, if_pos rfl, e2]; exact ⟨ρ2, rfl, hX⟩⟩
          | ok r =>
            rw [eb] at b1 h'
            rw [R.ok_bind] at h' ⊢
            cases r with
            | nx b' =>
              obtain ⟨ρ2, e2, hI2⟩ := b1
              obtain ⟨m, q1, q2⟩ := ih b' ρ2 hI2 h'
              exact ⟨m + 1, by rw [unf m, e1, bindS_ok, if_pos rfl, e2]; exact q1, by rw [unf m, e1, bindS_ok, if_pos rfl, e2]; exact q2⟩
            | ct b' =>
              obtain ⟨ρ2, e2, hI2⟩ := b1
              obtain ⟨m, q1, q2⟩ := ih b' ρ2 hI2 h'
              exact ⟨m + 1, by rw [unf m, e1, bindS_ok, if_pos rfl, e2]; exact q1, by rw [unf m, e1, bindS_ok, if_pos rfl, e2]; exact q2⟩
            | bk b' =>
              obtain ⟨ρ2, e2, hI2⟩ := b1
              exact ⟨1, by rw [unf 0, e1, bindS_ok, if_pos rfl, e2]; exact (fun z => nomatch z), by rw [unf 0, e1, bindS_ok, if_pos rfl, e2]; exact ⟨ρ2, rfl, hI2⟩⟩
            | ret g =>
              have b1' : Er g _ := b1
              obtain ⟨w, ρ2, e2⟩ := hEr g _ b1'
              rw [e2] at b1'
              exact ⟨1, by rw [unf 0, e1, bindS_ok, if_pos rfl, e2]; exact (fun z => nomatch z), by rw [unf 0, e1, bindS_ok, if_pos rfl, e2]; exact b1'⟩
  classical
  unfold whF
  split
  · rename_i hx
    obtain ⟨m, q1, q2⟩ := go _ b0 ρ h0 hx.choose_spec
    rw [sWh_eq q1]; exact q2
  · trivial
/-! calls at statement's place, with raises -/
/-- what an expression comes to -/
def Gx (Xc : Nat → Rho → Prop) (o : Out Opd) (t : R γ) (wr : γ → Vl) (E : γ → Rho → Prop) : Prop := match t with
  | .ok g => ∃ ρ', o = .ok (.val (wr g)) ρ' ∧ E g ρ'
  | .exc c => ∃ ρ', o = .exc c ρ' ∧ Xc c ρ'
  | .stk => True
theorem g_dropX {wr : γ → Vl} {E : γ → Rho → Prop} {r : R γ} {tk : γ → R δ} (h : Gx Xc (fe ρ) r wr E) (g : ∀ x ρ', E x ρ' → Gn Xc (f ρ') (tk x) Φ) : Gn Xc (sSeq (sDrop fe) f ρ) (r.bind tk) Φ := by
  cases r with
  | stk => trivial
  | exc c0 =>
    obtain ⟨ρ', e, hX⟩ := h
    refine ⟨ρ', ?_, hX⟩
    unfold sSeq sDrop
    rw [e]; rfl
  | ok x =>
    obtain ⟨ρ', e, hE⟩ := h
    have := g x ρ' hE
    show Gn Xc _ (tk x) _
    rw [seq_nx' (show sDrop fe ρ = .nx ρ' by unfold sDrop; rw [e]; rfl)]
    exact this
theorem g_setX {wr : γ → Vl} {E : γ → Rho → Prop} {r : R γ} {tk : γ → R δ} (h : Gx Xc (fe ρ) r wr E) (g : ∀ x ρ', E x ρ' → Gn Xc (f (ρ'.set i (some (wr x)))) (tk x) Φ) : Gn Xc (sSeq (sSet i fe) f ρ) (r.bind tk) Φ := by
  cases r with
  | stk => trivial
  | exc c0 =>
    obtain ⟨ρ', e, hX⟩ := h
    refine ⟨ρ', ?_, hX⟩
    unfold sSeq sSet
    rw [e]; rfl
  | ok x =>
    obtain ⟨ρ', e, hE⟩ := h
    have := g x ρ' hE
    show Gn Xc _ (tk x) _
    rw [seq_nx' (show sSet i fe ρ = .nx (ρ'.set i (some (wr x))) by unfold sSet; rw [e]; rfl)]
    exact this
theorem g_retX {wr : γ → Vl} {E : γ → Rho → Prop} {r : R γ} (h : Gx Xc (fe ρ) r wr E) : Gn Xc (sSeq (sRet fe) f ρ) r (fRt wr E) := by
  cases r with
  | stk => trivial
  | exc c0 =>
    obtain ⟨ρ', e, hX⟩ := h
    refine ⟨ρ', ?_, hX⟩
    unfold sSeq sRet
    rw [e]; rfl
  | ok x =>
    obtain ⟨ρ', e, hE⟩ := h
    refine ⟨ρ', ?_, hE⟩
    unfold sSeq sRet
    rw [e]; rfl
/-- what a def's call comes to: S at the arguments is r -/
def SpR {γ : Type} (S : CSpec) (ds : List PyData) (r : R γ) (wr : γ → Vl) : Prop := match r with
  | .ok g => S (ds.map .dat) = .ok (wr g) (List.replicate ds.length none)
  | .exc c => S (ds.map .dat) = .exc c (List.replicate ds.length none)
  | .stk => True
theorem gx_call {S : CSpec} {n : Nat} {ds : List PyData} {r : R γ} {wr : γ → Vl} (h1 : Av F ρ ds ρ1) (hs : SpR S ds r wr) (hn : ds.length = n := by rfl) (hX : ∀ c, Xc c ρ1 := by intro _; first | trivial | rfl) : Gx Xc (fCall (List.replicate n false) S F ρ) r wr (fun _ ρ' => ρ' = ρ1) := by
  subst hn
  cases r with
  | stk => trivial
  | exc c0 => exact ⟨ρ1, px_call (av_ab h1) hs rfl, hX _⟩
  | ok x => exact ⟨ρ1, pv_call h1 hs rfl, rfl⟩
theorem gx_callL {S : CSpec} {n : Nat} {ds : List PyData} {r : R γ} {wr : γ → Vl} (h1 : Ab F ρ ds ρ1) (hs : SpR S ds r wr) (hc : ∀ g, clean (wr g) = true) (hn : ds.length = n := by rfl) (hX : ∀ c, Xc c ρ1 := by intro _; first | trivial | rfl) : Gx Xc (fCall (List.replicate n false) S F ρ) r wr (fun _ ρ' => ρ' = ρ1) := by
  subst hn
  cases r with
  | stk => trivial
  | exc c0 => exact ⟨ρ1, px_call h1 hs rfl, hX _⟩
  | ok x => exact ⟨ρ1, pv_callL h1 hs (hc x) rfl, rfl⟩
/-! the whole def -/
theorem outs_fal : ∀ (n : Nat) (ρ : Rho), outs (List.replicate n false) ρ = List.replicate n none
  | 0, _ => rfl
  | n + 1, [] => by
    show none :: outs (List.replicate n false) [] = _
    rw [outs_fal n]; rfl
  | n + 1, r :: ρ => by
    show none :: outs (List.replicate n false) ρ = _
    rw [outs_fal n]; rfl
theorem sp_fun {n m : Nat} {fs : FS} {ds : List PyData} {r : R γ} {wr : γ → Vl} {E : γ → Rho → Prop} (hn : ds.length = n := by rfl) (h : Gn anyX (fs ((ds.map .dat).map some ++ List.replicate (m - n) none)) r (fRt wr E)) : SpR (specOf (List.replicate n false) m fs) ds r wr := by
  subst hn
  have hl : (ds.map Vl.dat).length = ds.length := List.length_map _
  cases r with
  | stk => trivial
  | exc c0 =>
    obtain ⟨ρ', e, hX⟩ := h
    show specOf _ _ _ _ = _
    unfold specOf
    rw [hl, e]
    show COut.exc c0 (outs _ ρ') = _
    rw [outs_fal]
  | ok x =>
    obtain ⟨ρ', e, _⟩ := h
    show specOf _ _ _ _ = _
    unfold specOf
    rw [hl, e]
    show COut.ok _ (outs _ ρ') = _
    rw [outs_fal]
theorem sp_proc {n m : Nat} {fs : FS} {ds : List PyData} {r : R Unit} {E : Rho → Prop} (hn : ds.length = n := by rfl) (h : Gn anyX (fs ((ds.map .dat).map some ++ List.replicate (m - n) none)) r (fPr E)) : SpR (specOf (List.replicate n false) m fs) ds r (fun _ => .dat .none) := by
  subst hn
  have hl : (ds.map Vl.dat).length = ds.length := List.length_map _
  cases r with
  | stk => trivial
  | exc c0 =>
    obtain ⟨ρ', e, hX⟩ := h
    show specOf _ _ _ _ = _
    unfold specOf
    rw [hl, e]
    show COut.exc c0 (outs _ ρ') = _
    rw [outs_fal]
  | ok x =>
    obtain ⟨ρ', e, _⟩ := h
    show specOf _ _ _ _ = _
    unfold specOf
    rcases e with e | e
    · rw [hl, e]
      show COut.ok _ (outs _ ρ') = _
      rw [outs_fal]
    · rw [hl, e]
      show COut.ok _ (outs _ ρ') = _
      rw [outs_fal]
end
end Mi
end
section
set_option Elab.async false
set_option linter.all false
set_option maxRecDepth 100000
/-! Tw4: facts of operators and built-ins, by kinds -/
namespace Mi
open PySem
instance : Inhabited PyData := ⟨.none⟩
def letR {α β : Type} (a : α) (k : α → R β) : R β := k a
theorem letR_eq {α β : Type} (a : α) (k : α → R β) : letR a k = k a := rfl
def inR (n : Nat) (i : Int) : Prop := -(n : Int) ≤ i ∧ i < n
def ix {α : Type} [Inhabited α] (xs : List α) (i : Int) : α := if 0 ≤ i then xs.getD i.toNat default else xs.getD (i + xs.length).toNat default
section
variable {Xc : Nat → Rho → Prop}
variable {α β : Type} {e : α → PyData} {f : β → PyData} {a b w : Vl} {xs ys : List α} {x y : α} {i j : Int} {k l : Bool} {d d' : PyData} {ds : List PyData} {n : Nat}
theorem y_add : gAdd (vI i) (vI j) = some (vI (i + j)) := by
  have h : gAddI (vI i) (vI j) = some (vI (i + j)) := gd_pos trivial
  unfold gAdd orG
  rw [h]
theorem y_addI : iop tt2 (fun i j => .int (i + j)) (vI i) (vI j) = some (vI (i + j)) := gd_pos trivial
theorem y_sub : gSub (vI i) (vI j) = some (vI (i - j)) := gd_pos trivial
theorem y_mul (h : L2.CMul i j) : gMul (vI i) (vI j) = some (vI (i * j)) := by
  have h' : gMulI (vI i) (vI j) = some (vI (i * j)) := gd_pos h
  unfold gMul orG
  rw [h']
theorem y_mulI (h : L2.CMul i j) : gMulI (vI i) (vI j) = some (vI (i * j)) := gd_pos h
theorem y_fdiv (h : L2.CDiv i j) : gFDiv (vI i) (vI j) = some (vI (i / j)) := gd_pos h
theorem y_mod (h : 0 < j) : gMod (vI i) (vI j) = some (vI (i % j)) := gd_pos h
theorem y_pow (h : L2.CPow i j) : gPow (vI i) (vI j) = some (vI (i ^ j.toNat)) := gd_pos h
theorem y_shl (h : L2.CPow i j) : gShl (vI i) (vI j) = some (vI (i * 2 ^ j.toNat)) := gd_pos h
theorem y_shr (h : 0 ≤ j) : gShr (vI i) (vI j) = some (vI (i / 2 ^ j.toNat)) := gd_pos h
theorem y_and : gAnd (vI i) (vI j) = some (vI (Builtin.bitAnd i j)) := gd_pos trivial
theorem y_or : gOr (vI i) (vI j) = some (vI (Builtin.bitOr i j)) := gd_pos trivial
theorem y_xor : gXor (vI i) (vI j) = some (vI (Builtin.bitXor i j)) := gd_pos trivial
theorem y_lt : gLt (vI i) (vI j) = some (vB (decide (i < j))) := gd_pos trivial
theorem y_le : gLe (vI i) (vI j) = some (vB (decide (i ≤ j))) := gd_pos trivial
theorem y_gt : gGt (vI i) (vI j) = some (vB (decide (j < i))) := gd_pos trivial
theorem y_ge : gGe (vI i) (vI j) = some (vB (decide (j ≤ i))) := gd_pos trivial
theorem y_neg : gU (fun i => -i) (vI i) = some (vI (-i)) := rfl
theorem y_inv : gU Builtin.bitNot (vI i) = some (vI (Builtin.bitNot i)) := rfl
theorem y_eq [DecidableEq α] {n : Nat} (h : Cod n e) (hn : n ≤ 64 := by decide) (ha : viewD a = some (e x) := by rfl) (hb : viewD b = some (e y) := by rfl) : gEq a b = some (vB (decide (x = y))) := by
  rw [gEq_of ha hb (h.shp hn x) (h.shp hn y), h.eqv]
theorem y_ne [DecidableEq α] {n : Nat} (h : Cod n e) (hn : n ≤ 64 := by decide) (ha : viewD a = some (e x) := by rfl) (hb : viewD b = some (e y) := by rfl) : gNe a b = some (vB (!decide (x = y))) := by
  rw [gNe_of ha hb (h.shp hn x) (h.shp hn y), h.eqv]
theorem y_eqS {s t : Str} : gEq (.dat (.str s)) (.dat (.str t)) = some (vB (decide (s = t))) := rfl
theorem y_neS {s t : Str} : gNe (.dat (.str s)) (.dat (.str t)) = some (vB (!decide (s = t))) := rfl
theorem y_eqD (ha : viewD a = some d := by rfl) (hb : viewD b = some d' := by rfl) (h : shp d ∧ shp d') : gEq a b = some (vB (PyData.eqv d d')) := gEq_of ha hb h.1 h.2
theorem y_neD (ha : viewD a = some d := by rfl) (hb : viewD b = some d' := by rfl) (h : shp d ∧ shp d') : gNe a b = some (vB (!PyData.eqv d d')) := gNe_of ha hb h.1 h.2
theorem y_in [DecidableEq α] {n : Nat} (h : Cod n e) (hn : n ≤ 63 := by decide) (ha : viewD a = some (e x) := by rfl) (hb : viewD b = some (.list (xs.map e)) ∨ viewD b = some (.tuple (xs.map e)) := by first | exact .inl rfl | exact .inr rfl) : gIn a b = some (vB (decide (x ∈ xs))) := by
  have s1 := h.shp (by omega) x
  unfold gIn
  rw [ha, Option.bind_some]
  rcases hb with hb | hb
  · rw [hb, Option.bind_some]
    show gd _ _ = _
    rw [gd_pos ⟨s1, (cod_lst h).shp (by omega) xs⟩, cod_any h]
  · rw [hb, Option.bind_some]
    show gd _ _ = _
    rw [gd_pos ⟨s1, (cod_tup h).shp (by omega) xs⟩, cod_any h]
theorem y_notIn [DecidableEq α] {n : Nat} (h : Cod n e) (hn : n ≤ 63 := by decide) (ha : viewD a = some (e x) := by rfl) (hb : viewD b = some (.list (xs.map e)) ∨ viewD b = some (.tuple (xs.map e)) := by first | exact .inl rfl | exact .inr rfl) : gNotIn a b = some (vB (!decide (x ∈ xs))) := by
  have s1 := h.shp (by omega) x
  unfold gNotIn
  rw [ha, Option.bind_some]
  rcases hb with hb | hb
  · rw [hb, Option.bind_some]
    show gd _ _ = _
    rw [gd_pos ⟨s1, (cod_lst h).shp (by omega) xs⟩, cod_any h]
  · rw [hb, Option.bind_some]
    show gd _ _ = _
    rw [gd_pos ⟨s1, (cod_tup h).shp (by omega) xs⟩, cod_any h]
/-! lists, tuples -/
abbrev szOk (n : Nat) : Prop := n ≤ 16777216
theorem szl {n : Nat} (h : szOk n) : n ≤ sizeLine := by
  have : sizeLine = 16777216 := by unfold sizeLine; decide
  omega
theorem notI_L {ds : List PyData} (h : asL a = some ds) (C : Int → Int → Prop) (g : Int → Int → PyData) : iop C g a b = none := by
  unfold iop
  split
  · cases h
  · rfl
theorem notI_T {ds : List PyData} (h : asT a = some ds) (C : Int → Int → Prop) (g : Int → Int → PyData) : iop C g a b = none := by
  unfold iop
  split
  · cases h
  · rfl
theorem y_catL (h : szOk (xs.length + ys.length)) (ha : asL a = some (xs.map e) := by rfl) (hb : asL b = some (ys.map e) := by rfl) : gAdd a b = some (.ml ((xs ++ ys).map e)) := by
  unfold gAdd gAddI
  unfold orG
  rw [notI_L ha]
  unfold gCatL
  simp only [ha, hb, Option.bind_some]
  rw [gd_pos (by rw [List.length_map, List.length_map]; exact szl h), List.map_append]
theorem y_catT (h : szOk (xs.length + ys.length)) (ha : asT a = some (xs.map e) := by rfl) (hb : asT b = some (ys.map e) := by rfl) : gAdd a b = some (.dat (.tuple ((xs ++ ys).map e))) := by
  unfold gAdd gAddI
  unfold orG
  rw [notI_T ha]
  have : gCatL a b = none := by
    unfold gCatL
    rw [asT_eq ha]; rfl
  rw [this]
  unfold gCatT
  simp only [ha, hb, Option.bind_some]
  rw [gd_pos (by rw [List.length_map, List.length_map]; exact szl h), List.map_append]
theorem atI_ix [Inhabited α] (h : inR xs.length i) : L2.atI (xs.map e) i = some (e (ix xs i)) := by
  obtain ⟨h1, h2⟩ := h
  unfold L2.atI L2.ixN ix
  rw [List.length_map]
  by_cases h0 : 0 ≤ i
  · rw [if_pos h0, if_pos h2, if_pos h0]
    show (xs.map e)[i.toNat]? = _
    have : i.toNat < xs.length := by omega
    simp [List.getD, this]
  · rw [if_neg h0, if_pos h1, if_neg h0]
    show (xs.map e)[(i + xs.length).toNat]? = _
    have : (i + xs.length).toNat < xs.length := by omega
    simp [List.getD, this]
theorem y_ix [Inhabited α] (h : inR xs.length i) (ha : asL a = some (xs.map e) ∨ asT a = some (xs.map e) := by first | exact .inl rfl | exact .inr rfl) : gIx a (vI i) = some (.dat (e (ix xs i))) := by
  unfold gIx
  rcases ha with ha | ha
  · simp only [ha, atI_ix h]; rfl
  · rw [asT_eq ha]
    show ((L2.atI (xs.map e) i).map Vl.dat) = _
    rw [atI_ix h]; rfl
/-- the place of a written tuple -/
theorem y_ixF {i : Int} (h : L2.atI ds i = some d := by rfl) (ha : asL a = some ds ∨ asT a = some ds := by first | exact .inl rfl | exact .inr rfl) : gIx a (vI i) = some (.dat d) := by
  unfold gIx
  rcases ha with ha | ha
  · simp only [ha, h]; rfl
  · rw [asT_eq ha]
    show ((L2.atI ds i).map Vl.dat) = _
    rw [h]; rfl
/-- data: the place in a tuple or list -/
def ixD (d : PyData) (i : Int) : PyData := match d with
  | .tuple ds => ix ds i
  | .list ds => ix ds i
  | _ => .none
def inD (d : PyData) (i : Int) : Prop := match d with
  | .tuple ds => inR ds.length i
  | .list ds => inR ds.length i
  | _ => False
theorem y_ixD (h : inD d i) : gIx (.dat d) (vI i) = some (.dat (ixD d i)) := by
  unfold inD at h
  unfold ixD
  split at h
  · rename_i ds
    have := atI_ix (e := fun d => d) h
    rw [show ds.map (fun d => d) = ds from List.map_id' ds] at this
    exact y_ixF this (.inr rfl)
  · rename_i ds
    have := atI_ix (e := fun d => d) h
    rw [show ds.map (fun d => d) = ds from List.map_id' ds] at this
    exact y_ixF this (.inl rfl)
  · exact h.elim
theorem y_len (ha : viewD a = some (.list (xs.map e)) ∨ viewD a = some (.tuple (xs.map e)) := by first | exact .inl rfl | exact .inr rfl) : g1 gLen [a] = some (vI (xs.length : Int)) := by
  show gLen a = _
  unfold gLen
  rcases ha with ha | ha <;> rw [ha] <;> simp [Option.bind_some]
theorem y_intI : g1 gInt [vI i] = some (vI i) := rfl
def bI (k : Bool) : Int := if k = true then 1 else 0
theorem y_intB : g1 gInt [vB k] = some (vI (bI k)) := by cases k <;> rfl
theorem y_abs : g1 gAbs [vI i] = some (vI (if i < 0 then -i else i)) := rfl
theorem y_sum {ns : List Int} (ha : asL a = some (ns.map .int) := by rfl) : g1 gSum [a] = some (vI ns.sum) := by
  show gSum a = _
  unfold gSum
  rw [ha, Option.bind_some, asInts_map]; rfl
theorem y_any1 {bs : List Bool} (ha : asL a = some (bs.map .bool) := by rfl) : g1 gAny [a] = some (vB (bs.any id)) := by
  show gAny a = _
  unfold gAny
  rw [ha, Option.bind_some, asBools_map]; rfl
theorem y_all1 {bs : List Bool} (ha : asL a = some (bs.map .bool) := by rfl) : g1 gAll [a] = some (vB (bs.all id)) := by
  show gAll a = _
  unfold gAll
  rw [ha, Option.bind_some, asBools_map]; rfl
theorem y_max1 {ns : List Int} (h : 0 < ns.length) (ha : asL a = some (ns.map .int) := by rfl) : g1 gMax1 [a] = some (vI (maxI ns)) := by
  show gMax1 a = _
  unfold gMax1
  rw [ha, Option.bind_some, asInts_map, Option.bind_some, gd_pos h]
theorem y_min1 {ns : List Int} (h : 0 < ns.length) (ha : asL a = some (ns.map .int) := by rfl) : g1 gMin1 [a] = some (vI (minI ns)) := by
  show gMin1 a = _
  unfold gMin1
  rw [ha, Option.bind_some, asInts_map, Option.bind_some, gd_pos h]
theorem y_2I {g : Int → Int → Int} : g2I g [vI i, vI j] = some (vI (g i j)) := rfl
theorem y_list (ha : asL a = some (xs.map e) ∨ asT a = some (xs.map e) := by first | exact .inl rfl | exact .inr rfl) : g1 gList [a] = some (.ml (xs.map e)) := by
  show gList a = _
  unfold gList
  rcases ha with ha | ha
  · rw [ha]
  · rw [asT_eq ha]; rfl
theorem y_tuple (ha : asL a = some (xs.map e) ∨ asT a = some (xs.map e) := by first | exact .inl rfl | exact .inr rfl) : g1 gTuple [a] = some (.dat (.tuple (xs.map e))) := by
  show gTuple a = _
  unfold gTuple
  rcases ha with ha | ha
  · rw [ha]
  · rw [asT_eq ha]; rfl
theorem y_set {ns : List Int} (h : ns.length < 4000) (ha : asL a = some (ns.map .int) ∨ asT a = some (ns.map .int) := by first | exact .inl rfl | exact .inr rfl) : g1 gSet [a] = some (.st ns) := by
  show gSet a = _
  unfold gSet
  have : ((asL a).orElse fun _ => asT a) = some (ns.map .int) := by
    rcases ha with ha | ha
    · rw [ha]; rfl
    · rw [asT_eq ha]; rfl
  rw [this, Option.bind_some, asInts_map, Option.bind_some, gd_pos h]
theorem y_sortS {ns : List Int} : orC (g1 gSortS) (g1 gSorted) [.st ns] = some (.ml ((sortSet ns).map .int)) := rfl
theorem y_sortI {ns : List Int} : orC (g1 gSortS) (g1 gSorted) [.ml (ns.map .int)] = some (.ml ((sortI ns).map .int)) := gSorted_ml ns
theorem y_repr (h : Rok d ∧ isRef d = true) (ha : viewD a = some d := by rfl) : g1 gRepr [a] = some (.dat (.str d.shown)) := by
  show gRepr a = _
  unfold gRepr
  rw [ha, Option.bind_some, gd_pos h]
/-! truth -/
theorem y_truI : tru (vI i) = some (i != 0) := rfl
theorem y_truL (ha : asL a = some (xs.map e) ∨ asT a = some (xs.map e) := by first | exact .inl rfl | exact .inr rfl) : tru a = some (!xs.isEmpty) := by
  have h2 : (xs.map e).isEmpty = xs.isEmpty := by cases xs <;> rfl
  rcases ha with ha | ha
  · unfold asL at ha
    split at ha
    · cases ha; show some (!(xs.map e).isEmpty) = _; rw [h2]
    · cases ha; show some (!(xs.map e).isEmpty) = _; rw [h2]
    · cases ha
  · rw [asT_eq ha]; show some (!(xs.map e).isEmpty) = _; rw [h2]
/-! slices -/
theorem cutD_map {lo hi : Option Int} : cutD (xs.map e) lo hi = (cutD xs lo hi).map e := by
  unfold cutD
  rw [List.length_map, List.map_take, List.map_drop]
theorem y_slL {lo hi : Option Int} (ha : asL a = some (xs.map e) := by rfl) : gSl a lo hi = some (.ml ((cutD xs lo hi).map e)) := by
  unfold gSl
  rw [ha, ← cutD_map]
theorem y_slT {lo hi : Option Int} (ha : asT a = some (xs.map e) := by rfl) : gSl a lo hi = some (.dat (.tuple ((cutD xs lo hi).map e))) := by
  unfold gSl
  rw [asT_eq ha, ← cutD_map]; rfl
end
/-! ### more expressions -/
section
variable {Xc : Nat → Rho → Prop}
variable {f g : FE} {F : FA} {ρ ρ1 ρ2 ρ3 ρ4 : Rho} {w a : Vl} {ds : List PyData} {d : PyData} {i : Nat} {os : List Opd} {c : Nat}
/-- a part of a slice -/
def Sv (f : FP) (ρ : Rho) (i : Option Int) (ρ' : Rho) : Prop := f ρ = .ok i ρ'
theorem sv_no : Sv pNo ρ none ρ := rfl
theorem sv_so {i : Int} (h : Pl f ρ (vI i) ρ1) : Sv (pSo f) ρ (some i) ρ1 := by
  obtain ⟨o, e, l⟩ := h
  unfold Sv pSo
  rw [e, bind_ok, l]
theorem pv_sl {fl fh : FP} {lo hi : Option Int} (h : Pl f ρ a ρ) (hl : Sv fl ρ lo ρ) (hh : Sv fh ρ hi ρ) (hg : gSl a lo hi = some w) : Pv (fSl f fl fh) ρ w ρ := by
  obtain ⟨o, e, l⟩ := h
  unfold Sv at hl hh
  unfold Pv fSl
  rw [e, bind_ok, hl, bind_ok, hh, bind_ok, l]
  show Mi.ret ρ (gSl a lo hi) = _
  rw [hg, ret_some]
/-- displays of values -/
theorem frzL_val : ∀ {ws : List Vl} {ds : List PyData}, ws.map viewD = ds.map some → frzL ρ (ws.map Opd.val) = some (ds, ρ)
  | [], [], _ => rfl
  | w :: ws, d :: ds, h => by
    simp only [List.map_cons, List.cons.injEq] at h
    show (((viewD w).map fun d => (d, ρ)).bind fun p => (frzL p.2 (ws.map Opd.val)).map fun q => (p.1 :: q.1, q.2)) = _
    rw [h.1]
    show ((frzL ρ (ws.map Opd.val)).map fun q => (d :: q.1, q.2)) = _
    rw [frzL_val h.2]; rfl
  | [], _ :: _, h => by simp at h
  | _ :: _, [], h => by simp at h
theorem pv_tup (h : Av F ρ ds ρ1) (hl : ds.length ≤ 100000 := by first | decide | exact Nat.le_of_ble_eq_true rfl) : Pv (fTup F) ρ (.dat (.tuple ds)) ρ1 := by
  obtain ⟨ws, e, l⟩ := h
  unfold Pv fTup
  rw [e, bind_ok]
  unfold mkT
  rw [frzL_val l]
  show (if ds.length ≤ 100000 then Out.ok (Opd.val (.dat (.tuple ds))) ρ1 else .stk) = _
  rw [if_pos hl]
theorem pv_lst (h : Av F ρ ds ρ1) (hl : ds.length ≤ 100000 := by first | decide | exact Nat.le_of_ble_eq_true rfl) : Pv (fLst F) ρ (.ml ds) ρ1 := by
  obtain ⟨ws, e, l⟩ := h
  unfold Pv fLst
  rw [e, bind_ok]
  unfold mkL
  rw [frzL_val l]
  show (if ds.length ≤ 100000 then Out.ok (Opd.val (.ml ds)) ρ1 else .stk) = _
  rw [if_pos hl]
/-- x.append(e) -/
theorem pv_app (hm : (ρ[i]?).join = some (.ml ds) := by rfl) (h : Pv f ρ w ρ1) (hd : viewD w = some d := by rfl) (hm1 : (ρ1[i]?).join = some (.ml ds) := by rfl) (hl : ds.length ≤ 100000) (hr : ρ1.set i (some (.ml (ds ++ [d]))) = ρ2) : Pv (fApp i f) ρ (.dat .none) ρ2 := by
  unfold Pv at h
  unfold Pv fApp
  have : isMl ρ i = true := by unfold isMl; rw [look_brw, hm]
  rw [if_pos this, h, bind_ok]
  have hf : frz1 ρ1 (.val w) = some (d, ρ1) := by show (viewD w).map _ = _; rw [hd]; rfl
  unfold appO
  rw [hf]
  show (match look ρ1 (.brw i) with
    | some (.ml ds) => if ds.length ≤ 100000 then Out.ok (Opd.val (.dat .none)) (ρ1.set i (some (.ml (ds ++ [d])))) else .stk
    | _ => .stk) = _
  rw [look_brw, hm1]
  show (if ds.length ≤ 100000 then _ else _) = _
  rw [if_pos hl, hr]
theorem pv_ext {es : List PyData} (hm : (ρ[i]?).join = some (.ml ds) := by rfl) (h : Pv f ρ (.ml es) ρ1) (hm1 : (ρ1[i]?).join = some (.ml ds) := by rfl) (hl : ds.length + es.length ≤ 100000) (hr : ρ1.set i (some (.ml (ds ++ es))) = ρ2) : Pv (fExt i f) ρ (.dat .none) ρ2 := by
  unfold Pv at h
  unfold Pv fExt
  have : isMl ρ i = true := by unfold isMl; rw [look_brw, hm]
  rw [if_pos this, h, bind_ok]
  show (match look ρ1 (.brw i) with
    | some (.ml ds) => if ds.length + es.length ≤ 100000 then Out.ok (Opd.val (.dat .none)) (ρ1.set i (some (.ml (ds ++ es)))) else .stk
    | _ => .stk) = _
  rw [look_brw, hm1]
  show (if ds.length + es.length ≤ 100000 then _ else _) = _
  rw [if_pos hl, hr]
theorem pv_pop (hm : (ρ[i]?).join = some (.ml ds) := by rfl) (hl : ds.getLast? = some d) (hr : ρ.set i (some (.ml ds.dropLast)) = ρ1) : Pv (fPop i) ρ (.dat d) ρ1 := by
  unfold Pv fPop
  rw [look_brw, hm]
  simp only [hl, hr]
/-- x[j] = e -/
theorem ev_setItem {fi fe : FE} {j : Int} {m : Nat} (h : Pv fe ρ w ρ1) (hd : viewD w = some d := by rfl) (hm : (ρ1[i]?).join = some (.ml ds) := by rfl) (hi : Pv fi ρ1 (vI j) ρ2) (hm2 : (ρ2[i]?).join = some (.ml ds) := by rfl) (hj : L2.ixN ds.length j = some m) (hr : ρ2.set i (some (.ml (ds.set m d))) = ρ3) : sSetItem i fi fe ρ = .nx ρ3 := by
  unfold Pv at h hi
  unfold sSetItem
  have hf : frz1 ρ1 (.val w) = some (d, ρ1) := by show (viewD w).map _ = _; rw [hd]; rfl
  have : isMl ρ1 i = true := by unfold isMl; rw [look_brw, hm]
  rw [h, bindS_ok, hf]
  show (if isMl ρ1 i = true then (fi ρ1).bindS fun oi ρ3 => setItemO i d oi ρ3 else .stk) = _
  rw [if_pos this, hi, bindS_ok]
  unfold setItemO
  rw [look_val]
  show (match look ρ2 (.brw i) with
    | some (.ml ds) => match L2.ixN ds.length j with
      | some m => SO.nx (ρ2.set i (some (.ml (ds.set m d))))
      | none => .stk
    | _ => .stk) = _
  rw [look_brw, hm2]
  simp only [hj, hr]
theorem ev_aug {g : Vl → Vl → Option Vl} {b : Vl} (h0 : (ρ[i]?).join = some (.dat d) := by rfl) (h : Pl f ρ b ρ1) (hg : g (.dat d) b = some w) (hr : ρ1.set i (some w) = ρ2) : sAug i g f ρ = .nx ρ2 := by
  obtain ⟨o, e, l⟩ := h
  unfold sAug
  rw [look_brw, h0]
  show (f ρ).bindS _ = _
  rw [e, bindS_ok]
  unfold augO
  rw [l, Option.bind_some, hg]
  show SO.nx _ = _
  rw [hr]
/-- the def of a list's place -/
theorem pick_call {io : List Bool} {ss : List CSpec} {s : CSpec} {fe : FE} {fa : FA} {k : Int} (he : Pv fe ρ (vI k) ρ) (ha : L2.atI ss k = some s) : fPick io ss fe fa ρ = fCall io s fa ρ := by
  unfold Pv at he
  unfold fPick
  rw [he, bind_ok]
  unfold pickO
  rw [look_val]
  simp only [ha]
end
section
variable {Xc : Nat → Rho → Prop}
variable {δ α : Type} {Φ : δ → SO → Prop} {f : FS} {fe : FE} {ρ ρ1 ρ2 : Rho} {i : Nat} {w : Vl} {v : α} {t : α → R δ}
/-- a slot is set; behind it its value is any -/
theorem g_setL {en : α → Vl} (h : Pv fe ρ (en v) ρ1) (g : ∀ x, Gn Xc (f (ρ1.set i (some (en x)))) (t x) Φ) : Gn Xc (sSeq (sSet i fe) f ρ) (letR v t) Φ := g_set h rfl (g v)
theorem g_setC {en : α → Vl} {rc : Int → Rho} {c : Int} {t : α → Int → R δ} (h : Pv fe ρ (en v) (rc c)) (g : ∀ x c, Gn Xc (f ((rc c).set i (some (en x)))) (t x c) Φ) : Gn Xc (sSeq (sSet i fe) f ρ) (letR v fun x => letR c fun c => t x c) Φ := g_set h rfl (g v c)
theorem g_nxt {s : FS} (e : s ρ = .nx ρ1) {t : R δ} (g : Gn Xc (f ρ1) t Φ) : Gn Xc (sSeq s f ρ) t Φ := g_step e g
end
end Mi
end
section
set_option Elab.async false
set_option linter.all false
set_option maxRecDepth 100000
set_option maxHeartbeats 1000000
/-! Ev40: enumerate, zip of two and three, over lists and tuples in any mix -/
namespace Mi
open PySem PySem.Spec PyProof.Rows L2

theorem meets_enumerate_new1 {v : Value} {o : Obj} {H : Heap → Prop} (B : Begins v o H) :
    Meets (Builtin.«enumerate.__new__» ⟨[.type "enumerate", v], []⟩) (fun _ R s => H s.heap ∧
      R (.ok (.ret (.ref (s.heap.push o).objs.size))) { s with heap := (s.heap.push o).push { cls := .type "enumerate", data := .fields #[.none, .bool false, .ref s.heap.objs.size, rawInt 0, .none, .none] } }) :=
  .of_wp fun prog w A R s h => by
    obtain ⟨hp, g, d, tk, os⟩ := s; obtain ⟨h1, h⟩ := h
    have hsub := sub_enumerate
    have q1 : ∀ {A' : Around} {E : Value → Shared → Prop} {Q : Value → Shared → Prop}, Q (.ref hp.objs.size) ⟨hp.push o, g, d, tk, os⟩ → wpAny (model prog w) A' (pyIter v) Q E ⟨hp, g, d, tk, os⟩ :=
      fun q => B.iter prog w _ _ ⟨hp, g, d, tk, os⟩ _ h1 q
    wp_walk using q1
    refine wpAny_stack_any fun st => wpAny_pure ?_
    split
    · rename_i c _ _ _ _ _
      cases (c == Value.type "enumerate")
      · wp_walk using q1
        exact ⟨_, rfl, h⟩
      · wp_walk using q1
        exact ⟨_, rfl, h⟩
    · wp_walk using q1
      exact ⟨_, rfl, h⟩
section
variable {prog : Program} {w : World} {A : Around} {E : Value → Shared → Prop} {s : Shared}
theorem enum_begins1 {v : Value} {o : Obj} {H : Heap → Prop} {Q : Value → Shared → Prop} (B : Begins v o H) (h1 : H s.heap)
    (h : ∀ h', IsEnum h' (s.heap.objs.size + 1) s.heap.objs.size 0 .none → h'.get? s.heap.objs.size = some o → h'.objs.size = s.heap.objs.size + 2 →
      (∀ b o, s.heap.get? b = some o → h'.get? b = some o) → Q (.ref (s.heap.objs.size + 1)) { s with heap := h' }) :
    wpAny (model prog w) A (call (.type "enumerate") [v]) Q E s := by
  refine callType_new F.called_enumerate (by decide) (F.typeCall_enumerate_1 _) (F.newCall_enumerate_1 _) (fun obj => F.args_object_init_2 obj _) F.entry_enumerate_new
    (meets_enumerate_new1 B) ⟨h1, ?_⟩
  have hz : (s.heap.push o).objs.size = s.heap.objs.size + 1 := Heap.size_push ..
  show _ ∧ _
  rw [hz]
  have he : IsEnum ((s.heap.push o).push { cls := .type "enumerate", data := .fields #[.none, .bool false, .ref s.heap.objs.size, rawInt 0, .none, .none] }) (s.heap.objs.size + 1) s.heap.objs.size 0 .none := by
    have := Heap.get?_push_size (s.heap.push o) (o := { cls := .type "enumerate", data := .fields #[.none, .bool false, .ref s.heap.objs.size, rawInt 0, .none, .none] }) rfl
    rw [hz] at this; exact this
  refine ⟨⟨_, he, rfl⟩, h _ he (Heap.get?_push_of_some _ (Heap.get?_push_size _ B.free)) (by rw [Heap.size_push, hz]) fun b o x => Heap.get?_push_of_some _ (Heap.get?_push_of_some _ x)⟩
end

/-! ### a source: a list or a tuple -/
structure Src where
  tup : Bool
  a : Addr
def Src.si (z : Src) (h : Heap) (it : Addr) (i : Nat) : Prop := if z.tup = true then h.IsTupleIter it z.a i else h.IsListIter it z.a i
def Src.sq (z : Src) (h : Heap) (its : Array Value) : Prop := if z.tup = true then h.IsTuple z.a its else h.IsList z.a its
def Src.ob (z : Src) : Obj := if z.tup = true then { cls := .type "tuple_iterator", data := .fields #[.ref z.a, .int 0 0] } else { cls := .type "list_iterator", data := .fields #[.ref z.a, .int 0 0] }
def Src.at (z : Src) (K : PySem.W.Frag) (H : Hp) (xs : List V) : Prop := if z.tup = true then SqT K H z.a xs else SqL K H z.a xs
theorem Src.begins (z : Src) (its : Array Value) : Begins (.ref z.a) z.ob fun h => z.sq h its := by
  obtain ⟨t, a⟩ := z
  cases t
  · exact begins_list a its
  · exact begins_tuple a its
theorem Src.si0 (z : Src) {h : Heap} {it : Addr} (e : h.get? it = some z.ob) : z.si h it 0 := by
  obtain ⟨t, a⟩ := z
  cases t <;> exact ⟨_, e, rfl, rfl⟩
theorem Src.si_at (z : Src) {h h' : Heap} {it : Addr} {i : Nat} (q : z.si h it i) (k : ∀ o, h.get? it = some o → h'.get? it = some o) : z.si h' it i := by
  obtain ⟨t, a⟩ := z
  cases t
  · exact Heap.IsListIter.at q k
  · exact Heap.IsTupleIter.at q k
theorem Src.si_ob (z : Src) {h : Heap} {it : Addr} {i : Nat} (q : z.si h it i) : ∃ o vs, h.get? it = some o ∧ o.data = .fields vs := by
  obtain ⟨t, a⟩ := z
  cases t
  · obtain ⟨o, e, _, d⟩ := q; exact ⟨o, _, e, d⟩
  · obtain ⟨o, e, _, d⟩ := q; exact ⟨o, _, e, d⟩
theorem Src.sq_ob (z : Src) {h : Heap} {its : Array Value} (q : z.sq h its) : ∃ o n, h.get? z.a = some o ∧ o.data = .seq its n := by
  obtain ⟨t, a⟩ := z
  cases t
  · obtain ⟨o, e, _, n, d⟩ := q; exact ⟨o, n, e, d⟩
  · obtain ⟨o, e, _, n, d⟩ := q; exact ⟨o, n, e, d⟩
theorem Src.ne (z : Src) {h : Heap} {its : Array Value} (q : z.sq h its) {b : Addr} {o : Obj} {vs : Array Value} (e : h.get? b = some o) (d : o.data = .fields vs) : z.a ≠ b := fun y => by
  obtain ⟨o', n, e', d'⟩ := z.sq_ob q
  rw [y, e] at e'
  cases e'
  rw [d] at d'
  cases d'
section
variable {prog : Program} {w : World} {A : Around}
theorem Src.draws (z : Src) (hh : A.handled = none) (it : Addr) (hne : z.a ≠ it) (its : Array Value) : Draws prog w A it [it, z.a] its.size (fun i v => its[i]? = some v) (fun i h => z.si h it i ∧ z.sq h its) := by
  obtain ⟨t, a⟩ := z
  cases t
  · exact Draws.list hh it a hne its
  · exact Draws.tuple hh it a hne its
/-- beyond the end -/
theorem Src.drawsE (z : Src) (hh : A.handled = none) (it : Addr) (hne : z.a ≠ it) (its : Array Value) (n : Nat) (hn : its.size ≤ n) : Draws prog w A it [it, z.a] n (fun _ _ => False) (fun i h => i = n ∧ z.si h it i ∧ z.sq h its) where
  live := fun i h ⟨_, q, _⟩ => by obtain ⟨o, _, e, _⟩ := z.si_ob q; exact ⟨o, e⟩
  frame := fun i h h' ⟨e, q1, q2⟩ k => ⟨e, z.si_at q1 fun o e => k it (by simp) o e, by
    obtain ⟨t, a⟩ := z
    cases t
    · exact Heap.IsList.at q2 fun o e => k a (by simp) o e
    · exact Heap.IsTuple.at q2 fun o e => k a (by simp) o e⟩
  item := fun i s Q E hi ⟨e, _⟩ => by omega
  done := fun s Q E ⟨_, q1, q2⟩ hE => by
    obtain ⟨t, a⟩ := z
    cases t
    · exact wpAny_nextOf_list_end hh q1 q2 (by rw [Array.getElem?_eq_none]; exact hn) hE
    · exact wpAny_nextOf_tuple_end hh q1 q2 (by rw [Array.getElem?_eq_none]; exact hn) hE
end
section
variable {X : Cx} {pins : List (Addr × Obj)} {σ : L2.St} {H : Hp} {s : Shared}
theorem Src.inv (z : Src) (I : L2.Inv X pins σ H s) {xs : List V} (h : z.at X.K H xs) : ∃ its : List Value, Vals xs its ∧ z.sq s.heap its.toArray ∧ xs.length ≤ sizeLine := by
  obtain ⟨t, a⟩ := z
  cases t
  · obtain ⟨its, rv, p, hz⟩ := I.list h
    exact ⟨its, rv, p.isList, hz⟩
  · obtain ⟨its, rv, p, hz⟩ := I.tuple h
    exact ⟨its, rv, p, hz⟩
theorem Src.inj (z : Src) (I : L2.Inv X pins σ H s) {xs ys : List V} (h : z.at X.K H xs) (h' : z.at X.K H ys) : xs = ys := by
  obtain ⟨t, a⟩ := z
  cases t
  · exact I.list_inj h h'
  · exact I.tuple_inj h h'
theorem Src.sq_lt (z : Src) {h : Heap} {its : Array Value} (q : z.sq h its) : z.a < h.objs.size := by
  obtain ⟨o, n, e, _⟩ := z.sq_ob q
  exact Heap.lt_size e
end
/-- what a walk's next does, for Turn -/
theorem turn_of {P : Program} {w : World} {K : PySem.W.Frag} {elts : List Expr} {kk : Nat} {tpos : Pos} {J : It} {fp : List Addr} {I0 : Addr} {tn : Nat → Heap → Prop} (mem : I0 ∈ fp)
    (obj : ∀ i h, tn i h → ∀ b ∈ fp, ∃ o, h.get? b = some o ∧ ∀ v, o.data ≠ .cell v)
    (keep : ∀ i h h', tn i h → (∀ b ∈ fp, ∀ o, h.get? b = some o → h'.get? b = some o) → tn i h')
    (item : ∀ (X : Cx), X.prog = P → X.w = w → X.K = K → X.A.handled = none → ∀ (i : Nat) (pins : List (Addr × Obj)) (s : Shared) (σ : L2.St) (H : Hp), L2.Inv X pins σ H s → tn i s.heap → J.go i H →
      ∃ (fp' wr : List Addr) (n : Nat) (Y : Nat → Heap → Value → Heap → Prop) (S : Nat → Heap → Prop), GoesN P w X.A (.Tuple elts kk tpos) I0 fp' wr n Y S ∧ i < n ∧ S i s.heap ∧ (∀ b ∈ wr, b ∈ fp) ∧ (∀ h', S (i + 1) h' → tn (i + 1) h') ∧
        ∀ u h', Y i s.heap u h' → ∃ (T : Addr) (us : List Value) (xs : List V), u = .ref T ∧ s.heap.objs.size ≤ T ∧ h'.IsTuple T us.toArray ∧ Vals xs us ∧ xs.length ≤ sizeLine ∧ (H T = none → J.yld i H (.ref T) (upd H T (.tup xs))))
    (done : ∀ (X : Cx), X.prog = P → X.w = w → X.K = K → X.A.handled = none → ∀ (i : Nat) (pins : List (Addr × Obj)) (s : Shared) (σ : L2.St) (H : Hp), L2.Inv X pins σ H s → tn i s.heap → J.stop i H →
      ∃ (fp' wr : List Addr) (Y : Nat → Heap → Value → Heap → Prop) (S : Nat → Heap → Prop), GoesN P w X.A (.Tuple elts kk tpos) I0 fp' wr i Y S ∧ S i s.heap ∧ (∀ b ∈ wr, b ∈ fp))
    (self : ∀ (A : Around) (i : Nat) (s : Shared) (Q : Value → Shared → Prop) (E : Value → Shared → Prop), tn i s.heap → Q (.ref I0) s → wpAny (model P w) A (pyIter (.ref I0)) Q E s) :
    Turn P w K (.Tuple elts kk tpos) J fp I0 tn where
  mem := mem
  obj := obj
  keep := keep
  item := by
    intro X hP hw hK hc i pins s σ H E I hf st hg
    obtain ⟨fp', wr, n, Y, S, W, hi, hS, hwr, hn, hY⟩ := item X hP hw hK (I.ok.hd hc) i pins s σ H I st hg
    refine W.goes i s _ E hi hS fun v h' tk hy hS' hk htk => ?_
    obtain ⟨T, us, xs, rfl, hT, hget, hv, hl, hyl⟩ := hY v h' hy
    have hTn : H T = none := I.hok.fresh hT
    have new : ObjOk X.prog X.w (upd H T (.tup xs)) h' T (.tup xs) := ⟨hl, us, hv, hget⟩
    have I1 : Inv X pins σ (upd H T (.tup xs)) { s with heap := h', toks := tk } :=
      I.turnedNew (ch := fp) (fun b o hb e => hk b o (fun q => hb (hwr b q)) e) hf hT new
    refine ⟨.ref T, _, I1, rfl, hyl hTn, hn _ hS', fun b hb => ?_⟩
    have hbT : b ≠ T := fun q => by
      obtain ⟨o, e, _⟩ := obj i _ st b hb
      exact Nat.not_lt.mpr hT (q ▸ Heap.lt_size e)
    rw [upd_ne hbT]
    exact (hf b hb).1
  done := by
    intro X hP hw hK hc i pins s σ H E I hf st hg
    obtain ⟨fp', wr, Y, S, W, hS, hwr⟩ := done X hP hw hK (I.ok.hd hc) i pins s σ H I st hg
    refine W.stops s _ E hS fun h' tk hk htk => ?_
    exact I.turnedL (ch := fp) (fun b o hb e => hk b o (fun q => hb (hwr b q)) e) hf
  self := self
/-! ### enumerate -/
def JEn (K : PySem.W.Frag) (z : Src) : It :=
  ⟨fun i H => ∃ (xs : List V) (x : V), z.at K H xs ∧ xs[i]? = some x, fun i H v H' => ∃ T x, v = .ref T ∧ H T = none ∧ H' = upd H T (.tup [.int (i : Nat), x]) ∧ ∀ xs, z.at K H xs → xs[i]? = some x, fun i H => ∃ xs : List V, z.at K H xs ∧ xs.length ≤ i⟩
theorem turn_en {P : Program} {w : World} {K : PySem.W.Frag} {elts : List Expr} {kk : Nat} {tpos : Pos} (z : Src) (e it : Addr) (hne : e ≠ it) :
    Turn P w K (.Tuple elts kk tpos) (JEn K z) [e, it] e (fun i h => (∃ old, IsEnum h e it ((i : Nat) : Int) old) ∧ z.si h it i) := by
  refine turn_of (by simp) (fun i h st b hb => ?_) (fun i h h' st k => ?_) ?_ ?_ (fun A i s Q E st h => let ⟨⟨_, he⟩, _⟩ := st; wpAny_pyIter_enum he h)
  · obtain ⟨⟨old, he⟩, hi⟩ := st
    have e' : b = e ∨ b = it := by simpa using hb
    rcases e' with q | q
    · rw [q]; exact ⟨_, he, fun v q => nomatch q⟩
    · obtain ⟨o, vs, e1, d⟩ := z.si_ob hi
      rw [q]; exact ⟨o, e1, fun v q => by rw [d] at q; cases q⟩
  · obtain ⟨⟨old, he⟩, hi⟩ := st
    exact ⟨⟨old, k e (by simp) _ he⟩, z.si_at hi fun o q => k it (by simp) o q⟩
  · intro X hP hw hK hh i pins s σ H I st hg
    subst hP hw hK
    obtain ⟨⟨old, he⟩, hi⟩ := st
    obtain ⟨xs, x, hq, hx⟩ := hg
    obtain ⟨its, rv, sq, hz⟩ := z.inv I hq
    obtain ⟨o, vs, ei, di⟩ := z.si_ob hi
    have ne1 : z.a ≠ it := z.ne sq ei di
    have ne2 : z.a ≠ e := z.ne sq he rfl
    have hl := rv.length
    have hlt : i < its.length := by
      have := (List.getElem?_eq_some_iff.mp hx).1
      omega
    refine ⟨_, _, _, _, _, GoesN.enumFrom 0 (z.draws (A := X.A.in1) (show X.A.in1.handled = none from hh) it ne1 its.toArray) e hne (by simp [hne]; exact Ne.symm ne2) (by simp), by simpa using hlt, ⟨⟨old, by simpa using he⟩, hi, sq⟩, fun b hb => hb, fun h' ⟨⟨o2, h1⟩, h2, _⟩ => ⟨⟨o2, by simpa using h1⟩, h2⟩, ?_⟩
    rintro u h' ⟨T, t, y, rfl, hT, hy, hTup⟩
    obtain ⟨u1, hu1, ru1⟩ := rv.get hx
    have : y = u1 := by
      have h2 : its.toArray[i]? = some u1 := by simpa using hu1
      rw [h2] at hy
      cases hy; rfl
    subst this
    exact ⟨T, [.int (0 + (i : Int)) t, y], [.int (i : Nat), x], rfl, hT, hTup, .cons ⟨_, by rw [Int.zero_add]⟩ (.cons ru1 .nil), (by show 2 ≤ sizeLine; decide), fun hn => ⟨T, x, rfl, hn, rfl, fun ys hy => by rw [z.inj I hy hq]; exact hx⟩⟩
  · intro X hP hw hK hh i pins s σ H I st hg
    subst hP hw hK
    obtain ⟨⟨old, he⟩, hi⟩ := st
    obtain ⟨xs, hq, hx⟩ := hg
    obtain ⟨its, rv, sq, hz⟩ := z.inv I hq
    obtain ⟨o, vs, ei, di⟩ := z.si_ob hi
    have ne1 : z.a ≠ it := z.ne sq ei di
    have ne2 : z.a ≠ e := z.ne sq he rfl
    have hl := rv.length
    exact ⟨_, _, _, _, GoesN.enumFrom 0 (z.drawsE (A := X.A.in1) (show X.A.in1.handled = none from hh) it ne1 its.toArray i (by simp; omega)) e hne (by simp [hne]; exact Ne.symm ne2) (by simp), ⟨⟨old, by simpa using he⟩, rfl, hi, sq⟩, fun b hb => hb⟩
/-- enumerate(e) -/
def iEn (K : PySem.W.Frag) (ta : TA) : TI := fun σ H R => ta σ H fun vs H1 => ∃ (z : Src) (xs : List V), vs = [.ref z.a] ∧ z.at K H1 xs ∧ R (JEn K z) H1
theorem pi_en {X : Cx} {e : Expr} {ta : TA} {p pos tpos : Pos} {elts : List Expr} {kk : Nat} (hg : Gl X "enumerate") (hm : X.mg "enumerate" = none) (ha : PA X [e] ta) (hs : starEach [e] X.env = [(false, eval e X.env)] := by rfl) :
    PI X (.Tuple elts kk tpos) (.Call (.Name "enumerate" p) [e] [] pos) (iEn X.K ta) := by
  refine ⟨fun pins s σ H R I h => ?_⟩
  refine Call_ (ld_blt I hg hm boot_enumerate (PyProof.Rows.callWith_type1 (thn (ha.run pos pins s σ H _ I h) fun us s1 ⟨vs, H1, I1, r1, q1⟩ => ?_) hs rfl))
  obtain ⟨z, xs, ex, hq, q⟩ := q1
  subst ex
  cases r1 with
  | cons r rr =>
    cases rr
    cases r
    obtain ⟨its, rv, sq, hz⟩ := z.inv I1 hq
    refine enum_begins1 (z.begins its.toArray) sq fun h' he hit hsz hk => wpAny_pyIter_enum he ?_
    have I2 : Inv X pins σ H1 { s1 with heap := h' } := I1.kept (t' := s1.toks) hk
    refine ⟨s1.heap.objs.size + 1, [s1.heap.objs.size + 1, s1.heap.objs.size], _, _, H1, rfl, I2, turn_en z (s1.heap.objs.size + 1) s1.heap.objs.size (Nat.succ_ne_self _), ⟨⟨.none, he⟩, z.si0 hit⟩, fun b hb => ?_, q⟩
    have e' : b = s1.heap.objs.size + 1 ∨ b = s1.heap.objs.size := by simpa using hb
    have hle : s1.heap.objs.size ≤ b := by
      rcases e' with z | z
      · rw [z]; exact Nat.le_add_right _ _
      · rw [z]; exact Nat.le_refl _
    exact I1.fpOk hle (I1.hok.fresh hle)
/-! ### zip of two -/
def JZ2 (K : PySem.W.Frag) (z1 z2 : Src) : It :=
  ⟨fun i H => ∃ (xs ys : List V) (x y : V), z1.at K H xs ∧ z2.at K H ys ∧ xs[i]? = some x ∧ ys[i]? = some y,
    fun i H v H' => ∃ T x y, v = .ref T ∧ H T = none ∧ H' = upd H T (.tup [x, y]) ∧ (∀ xs, z1.at K H xs → xs[i]? = some x) ∧ ∀ ys, z2.at K H ys → ys[i]? = some y,
    fun i H => ∃ xs ys : List V, z1.at K H xs ∧ z2.at K H ys ∧ (xs.length ≤ i ∨ ys.length ≤ i)⟩
theorem turn_z2 {P : Program} {w : World} {K : PySem.W.Frag} {elts : List Expr} {kk : Nat} {tpos : Pos} (z1 z2 : Src) (N : Addr) (l1 : z1.a < N) (l2 : z2.a < N) :
    Turn P w K (.Tuple elts kk tpos) (JZ2 K z1 z2) [N + 4, N + 2, N + 3, N, N + 1] (N + 4) (fun i h => IsZip h (N + 4) (N + 2) (N + 3) .none ∧ IsTupOf2 h (N + 2) (.ref N) (.ref (N + 1)) ∧ (∃ a1 a2, IsTupOf2 h (N + 3) a1 a2) ∧ z1.si h N i ∧ z2.si h (N + 1) i) := by
  have S : ZipSep2 (N + 4) (N + 2) (N + 3) N (N + 1) [N, z1.a] [N + 1, z2.a] := zip_sep2 (fp1 := [z1.a]) (fp2 := [z2.a]) (by simpa using l1) (by simpa using l2)
  have n1 : z1.a ≠ N := Nat.ne_of_lt l1
  have n2 : z2.a ≠ N + 1 := Nat.ne_of_lt (Nat.lt_succ_of_lt l2)
  refine turn_of (by simp) (fun i h st b hb => ?_) (fun i h h' st k => ?_) ?_ ?_ (fun A i s Q E st h => wpAny_pyIter_zip st.1 h)
  · obtain ⟨hz, hTI, ⟨x, y, hTO⟩, h1, h2⟩ := st
    have e' : b = N + 4 ∨ b = N + 2 ∨ b = N + 3 ∨ b = N ∨ b = N + 1 := by simpa using hb
    rcases e' with q | q | q | q | q
    · rw [q]; exact ⟨_, hz, fun v q => nomatch q⟩
    · rw [q]; exact ⟨_, hTI, fun v q => nomatch q⟩
    · rw [q]; exact ⟨_, hTO, fun v q => nomatch q⟩
    · obtain ⟨o, vs, e1, d⟩ := z1.si_ob h1
      rw [q]; exact ⟨o, e1, fun v q => by rw [d] at q; cases q⟩
    · obtain ⟨o, vs, e1, d⟩ := z2.si_ob h2
      rw [q]; exact ⟨o, e1, fun v q => by rw [d] at q; cases q⟩
  · obtain ⟨hz, hTI, ⟨x, y, hTO⟩, h1, h2⟩ := st
    exact ⟨k _ (by simp) _ hz, k _ (by simp) _ hTI, ⟨x, y, k _ (by simp) _ hTO⟩, z1.si_at h1 fun o q => k _ (by simp) o q, z2.si_at h2 fun o q => k _ (by simp) o q⟩
  · intro X hP hw hK hh i pins s σ H I st hg
    subst hP hw hK
    obtain ⟨hz, hTI, hTO, h1, h2⟩ := st
    obtain ⟨xs, ys, x, y, hq1, hq2, hx, hy⟩ := hg
    obtain ⟨its1, rv1, sq1, hz1⟩ := z1.inv I hq1
    obtain ⟨its2, rv2, sq2, hz2⟩ := z2.inv I hq2
    have hl1 := rv1.length
    have hl2 := rv2.length
    have hlt1 := (List.getElem?_eq_some_iff.mp hx).1
    have hlt2 := (List.getElem?_eq_some_iff.mp hy).1
    have hh1 : X.A.in1.handled = none := hh
    refine ⟨_, _, _, _, _, GoesN.zip2 S (z1.draws hh1 N n1 its1.toArray) (z2.draws hh1 (N + 1) n2 its2.toArray), by simp; omega, ⟨hz, hTI, hTO, ⟨h1, sq1⟩, h2, sq2⟩, fun b hb => ?_, fun h' ⟨q1, q2, q3, q4, q5⟩ => ⟨q1, q2, q3, q4.1, q5.1⟩, ?_⟩
    · simp at hb ⊢; rcases hb with q | q | q | q <;> simp [q]
    rintro u h' ⟨T, u1, u2, rfl, hT, p1, p2, hTup⟩
    obtain ⟨v1, hv1, rv1'⟩ := rv1.get hx
    obtain ⟨v2, hv2, rv2'⟩ := rv2.get hy
    have e1 : u1 = v1 := by
      have h2 : its1.toArray[i]? = some v1 := by simpa using hv1
      rw [h2] at p1; cases p1; rfl
    have e2 : u2 = v2 := by
      have h2 : its2.toArray[i]? = some v2 := by simpa using hv2
      rw [h2] at p2; cases p2; rfl
    subst e1 e2
    exact ⟨T, [u1, u2], [x, y], rfl, hT, hTup, .cons rv1' (.cons rv2' .nil), (by show 2 ≤ sizeLine; decide), fun hn => ⟨T, x, y, rfl, hn, rfl, (fun l hl => by rw [z1.inj I hl hq1]; exact hx), fun l hl => by rw [z2.inj I hl hq2]; exact hy⟩⟩
  · intro X hP hw hK hh i pins s σ H I st hg
    subst hP hw hK
    obtain ⟨hz, hTI, hTO, h1, h2⟩ := st
    obtain ⟨xs, ys, hq1, hq2, hend⟩ := hg
    obtain ⟨its1, rv1, sq1, hz1⟩ := z1.inv I hq1
    obtain ⟨its2, rv2, sq2, hz2⟩ := z2.inv I hq2
    have hl1 := rv1.length
    have hl2 := rv2.length
    have hh1 : X.A.in1.handled = none := hh
    have wr : ∀ b ∈ [N + 4, N + 3, N, N + 1], b ∈ [N + 4, N + 2, N + 3, N, N + 1] := fun b hb => by
      simp at hb ⊢; rcases hb with q | q | q | q <;> simp [q]
    by_cases b1 : its1.length ≤ i <;> by_cases b2 : its2.length ≤ i
    · have W := GoesN.zip2 (elts := elts) (x1 := kk) (pos := tpos) (prog := X.prog) (w := X.w) (A := X.A) S (z1.drawsE hh1 N n1 its1.toArray i (by simpa using b1)) (z2.drawsE hh1 (N + 1) n2 its2.toArray i (by simpa using b2))
      rw [Nat.min_self] at W
      exact ⟨_, _, _, _, W, ⟨hz, hTI, hTO, ⟨rfl, h1, sq1⟩, rfl, h2, sq2⟩, wr⟩
    · have W := GoesN.zip2 (elts := elts) (x1 := kk) (pos := tpos) (prog := X.prog) (w := X.w) (A := X.A) S (z1.drawsE hh1 N n1 its1.toArray i (by simpa using b1)) (z2.draws hh1 (N + 1) n2 its2.toArray)
      rw [Nat.min_eq_left (by simp; omega)] at W
      exact ⟨_, _, _, _, W, ⟨hz, hTI, hTO, ⟨rfl, h1, sq1⟩, h2, sq2⟩, wr⟩
    · have W := GoesN.zip2 (elts := elts) (x1 := kk) (pos := tpos) (prog := X.prog) (w := X.w) (A := X.A) S (z1.draws hh1 N n1 its1.toArray) (z2.drawsE hh1 (N + 1) n2 its2.toArray i (by simpa using b2))
      rw [Nat.min_eq_right (by simp; omega)] at W
      exact ⟨_, _, _, _, W, ⟨hz, hTI, hTO, ⟨h1, sq1⟩, rfl, h2, sq2⟩, wr⟩
    · exfalso
      rcases hend with q | q <;> omega
def iZ2 (K : PySem.W.Frag) (ta : TA) : TI := fun σ H R => ta σ H fun vs H1 => ∃ (z1 z2 : Src) (xs ys : List V), vs = [.ref z1.a, .ref z2.a] ∧ z1.at K H1 xs ∧ z2.at K H1 ys ∧ R (JZ2 K z1 z2) H1
theorem pi_z2 {X : Cx} {e e2 : Expr} {ta : TA} {p pos tpos : Pos} {elts : List Expr} {kk : Nat} (hg : Gl X "zip") (hm : X.mg "zip" = none) (ha : PA X [e, e2] ta)
    (hs : starEach [e, e2] X.env = (false, eval e X.env) :: starEach [e2] X.env := by rfl) (hpl : (backTo pos (starEach [e2] X.env)).any (·.1) = false := by rfl) :
    PI X (.Tuple elts kk tpos) (.Call (.Name "zip" p) [e, e2] [] pos) (iZ2 X.K ta) := by
  refine ⟨fun pins s σ H R I h => ?_⟩
  refine Call_ (ld_blt I hg hm PyProof.Rows.boot_zip (PyProof.Rows.callWith_type1 (thn (ha.run pos pins s σ H _ I h) fun us s1 ⟨vs, H1, I1, r1, q1⟩ => ?_) hs hpl))
  obtain ⟨z1, z2, xs, ys, ex, hq1, hq2, q⟩ := q1
  subst ex
  cases r1 with
  | cons r rr =>
    cases rr with
    | cons r' rr =>
      cases rr
      cases r
      cases r'
      obtain ⟨its1, rv1, sq1, hz1⟩ := z1.inv I1 hq1
      obtain ⟨its2, rv2, sq2, hz2⟩ := z2.inv I1 hq2
      refine zip_begins2 (z1.begins its1.toArray) (z2.begins its2.toArray) sq1 sq2 fun h' hz hTI hTO g1 g2 hsz hk => wpAny_pyIter_zip hz ?_
      have I2 : Inv X pins σ H1 { s1 with heap := h' } := I1.kept (t' := s1.toks) hk
      refine ⟨s1.heap.objs.size + 4, [s1.heap.objs.size + 4, s1.heap.objs.size + 2, s1.heap.objs.size + 3, s1.heap.objs.size, s1.heap.objs.size + 1], _, _, H1, rfl, I2, turn_z2 z1 z2 s1.heap.objs.size (z1.sq_lt sq1) (z2.sq_lt sq2), ⟨hz, hTI, ⟨_, _, hTO⟩, z1.si0 g1, z2.si0 g2⟩, fun c hcm => ?_, q⟩
      have e' : c = s1.heap.objs.size + 4 ∨ c = s1.heap.objs.size + 2 ∨ c = s1.heap.objs.size + 3 ∨ c = s1.heap.objs.size ∨ c = s1.heap.objs.size + 1 := by simpa using hcm
      have hle : s1.heap.objs.size ≤ c := by
        rcases e' with z | z | z | z | z
        · rw [z]; exact Nat.le_add_right _ _
        · rw [z]; exact Nat.le_add_right _ _
        · rw [z]; exact Nat.le_add_right _ _
        · rw [z]; exact Nat.le_refl _
        · rw [z]; exact Nat.le_add_right _ _
      exact I1.fpOk hle (I1.hok.fresh hle)
end Mi
end
section
set_option Elab.async false
set_option linter.all false
set_option maxRecDepth 100000
set_option maxHeartbeats 1000000
/-! Ev41: enumerate, zip, stars, pairs assigned, isinstance, reverse, ranges with a step, a list walked while it is held -/
namespace Mi
open PySem PySem.Spec PyProof.Rows L2
section
variable {X : Cx} {tg e e2 a b c : Expr} {G : Glb} {W : WX} {f : FE} {fa : FA} {p p2 pos : Pos} {k n : Nat} {π : List Bool}
/-- a frozen sequence, as a source -/
theorem src_of {K : PySem.W.Frag} {P : Hp} {v : V} {d : PyData} {ds : List PyData} (h : Dp K P v d) (e : d = .list ds ∨ d = .tuple ds) : ∃ (z : Src) (xs : List V), v = .ref z.a ∧ z.at K P xs ∧ DpAll K P xs ds := by
  rcases e with rfl | rfl
  · cases h with
    | lst hs ha => exact ⟨⟨false, _⟩, _, rfl, hs, ha⟩
  · cases h with
    | tup hs ha => exact ⟨⟨true, _⟩, _, rfl, hs, ha⟩
theorem Src.mono (z : Src) {K : PySem.W.Frag} {P P' : Hp} {xs : List V} (h : z.at K P xs) (e : Same P P') : z.at K P' xs := by
  obtain ⟨t, a⟩ := z
  cases t
  · exact e.seq h
  · exact sqT_mono e h
/-- the items of a sequence -/
def seqOf : PyData → Option (List PyData)
  | .list ds => some ds
  | .tuple ds => some ds
  | _ => none
theorem seqOf_eq {d : PyData} {ds : List PyData} (h : seqOf d = some ds) : d = .list ds ∨ d = .tuple ds := by
  unfold seqOf at h
  split at h
  · cases h; exact .inl rfl
  · cases h; exact .inr rfl
  · cases h
/-! ### enumerate -/
def enD (ds : List PyData) : List PyData := (List.range ds.length).zipWith (fun i d => .tuple [.int (i : Nat), d]) ds
theorem enD_get {ds : List PyData} {i : Nat} {d : PyData} (h : ds[i]? = some d) : (enD ds)[i]? = some (.tuple [.int (i : Nat), d]) := by
  have hl := (List.getElem?_eq_some_iff.mp h).1
  unfold enD
  rw [List.getElem?_zipWith, h, List.getElem?_range hl]
theorem enD_len (ds : List PyData) : (enD ds).length = ds.length := by unfold enD; simp
noncomputable def en1 (ρ : Rho) (os : List Opd) : Out (List PyData) := match frzL ρ os with
  | some ([d], ρ2) => match seqOf d with
    | some ds => .ok (enD ds) ρ2
    | none => .stk
  | _ => .stk
noncomputable def iEnu (fa : FA) : FI := fun ρ => (fa ρ).bind fun os ρ1 => en1 ρ1 os
theorem same_at {P P1 : Hp} {T : Addr} {o : HO} (h : P T = none) : Same P (upd P T o) := same_upd h
theorem yl_en {P : Hp} {z : Src} {xs : List V} {ds : List PyData} (h : z.at G.K P xs) (hd : DpAll G.K P xs ds) : Yl G (JEn G.K z) P (enD ds) := fun i P1 H e1 e2 => by
  have hl := dpa_len _ _ hd
  have e := e1.trans e2
  rw [enD_len]
  refine ⟨fun hi => ⟨xs, z.mono h e, by omega⟩, fun hi => ?_⟩
  have hx : ds[i]? = some ds[i] := List.getElem?_eq_getElem hi
  obtain ⟨v, hv, hdv⟩ := dpa_get _ _ hd i _ hx
  refine ⟨⟨xs, v, z.mono h e, hv⟩, ?_⟩
  rintro x H' ⟨T, y, rfl, hT, rfl, hy⟩
  have := hy xs (z.mono h e)
  rw [hv] at this
  cases this
  have hP : P1 T = none := same_none e2 hT
  exact ⟨upd P1 T (.tup [.int (i : Nat), v]), _, Alc.tup e2 hT, enD_get hx, .tup (.inl (.inl upd_same)) (.cons (.int _) (.cons (dp_mono ((e1.trans (same_upd hP))) _ _ hdv) .nil))⟩
theorem i_Enu {elts : List Expr} {kk : Nat} {tpos : Pos} (hK : X.K = G.K) (hm : X.mg "enumerate" = none) (ha : PA X [e] (tA G W fa)) (hg : Gl X "enumerate" := by rfl) (hs : starEach [e] X.env = [(false, eval e X.env)] := by rfl) :
    PI X (.Tuple elts kk tpos) (.Call (.Name "enumerate" p) [e] [] pos) (tI G W (iEnu fa)) := PI.imp (pi_en hg hm ha hs) fun σ H R ⟨ρ, P, F, nw, h⟩ => by
  rw [hK]
  refine tA_bind (End := fun P H F => EndI G W P H F σ R) nw h (fun _ _ z => z) (fun z => z) fun os ρ1 vs P1 H1 F1 S e1 h1 n1 s1 hx q1 => ?_
  unfold en1 at h1
  split at h1
  · rename_i d ρ2 ef
    obtain ⟨P2, F2, n2, d2, z2⟩ := frzL_ok n1 hx ef
    cases d2 with
    | cons hd hn =>
      cases hn
      split at h1
      · rename_i ds es
        obtain ⟨z, xs, rfl, hz, hxs⟩ := src_of hd (seqOf_eq es)
        exact ⟨z, xs, rfl, z.mono hz n2.ex, h1 _ P2 H1 F2 n2 (z2.stp s1 fun b hb => (q1 b hb).2) (yl_en hz hxs)⟩
      · exact h1.elim
  · exact h1.elim
/-! ### zip of two -/
def z2D (ds es : List PyData) : List PyData := ds.zipWith (fun d e => .tuple [d, e]) es
theorem z2D_len (ds es : List PyData) : (z2D ds es).length = min ds.length es.length := by unfold z2D; simp
noncomputable def zp2 (ρ : Rho) (os : List Opd) : Out (List PyData) := match frzL ρ os with
  | some ([d, e], ρ2) => match seqOf d, seqOf e with
    | some ds, some es => .ok (z2D ds es) ρ2
    | _, _ => .stk
  | _ => .stk
noncomputable def iZip2 (fa : FA) : FI := fun ρ => (fa ρ).bind fun os ρ1 => zp2 ρ1 os
theorem yl_z2 {P : Hp} {z1 z2 : Src} {xs ys : List V} {ds es : List PyData} (h : z1.at G.K P xs) (hd : DpAll G.K P xs ds) (h2 : z2.at G.K P ys) (hd2 : DpAll G.K P ys es) : Yl G (JZ2 G.K z1 z2) P (z2D ds es) := fun i P1 H e1 e2 => by
  have hl := dpa_len _ _ hd
  have hl2 := dpa_len _ _ hd2
  have e := e1.trans e2
  rw [z2D_len]
  refine ⟨fun hi => ⟨xs, ys, z1.mono h e, z2.mono h2 e, by omega⟩, fun hi => ?_⟩
  have hx : ds[i]? = some ds[i] := List.getElem?_eq_getElem (by omega)
  have hy : es[i]? = some es[i] := List.getElem?_eq_getElem (by omega)
  obtain ⟨v, hv, hdv⟩ := dpa_get _ _ hd i _ hx
  obtain ⟨u, hu, hdu⟩ := dpa_get _ _ hd2 i _ hy
  refine ⟨⟨xs, ys, v, u, z1.mono h e, z2.mono h2 e, hv, hu⟩, ?_⟩
  rintro x H' ⟨T, a, b, rfl, hT, rfl, h3, h4⟩
  have q3 := h3 xs (z1.mono h e)
  rw [hv] at q3
  cases q3
  have q4 := h4 ys (z2.mono h2 e)
  rw [hu] at q4
  cases q4
  have hP : P1 T = none := same_none e2 hT
  have ee := e1.trans (same_upd (o := .tup [v, u]) hP)
  refine ⟨upd P1 T (.tup [v, u]), .tuple [ds[i], es[i]], Alc.tup e2 hT, ?_, .tup (.inl (.inl upd_same)) (.cons (dp_mono ee _ _ hdv) (.cons (dp_mono ee _ _ hdu) .nil))⟩
  unfold z2D
  rw [List.getElem?_zipWith, hx, hy]
theorem i_Zip2 {elts : List Expr} {kk : Nat} {tpos : Pos} (hK : X.K = G.K) (hm : X.mg "zip" = none) (ha : PA X [e, e2] (tA G W fa)) (hg : Gl X "zip" := by rfl) (hs : starEach [e, e2] X.env = (false, eval e X.env) :: starEach [e2] X.env := by rfl) (hpl : (backTo pos (starEach [e2] X.env)).any (·.1) = false := by rfl) :
    PI X (.Tuple elts kk tpos) (.Call (.Name "zip" p) [e, e2] [] pos) (tI G W (iZip2 fa)) := PI.imp (pi_z2 hg hm ha hs hpl) fun σ H R ⟨ρ, P, F, nw, h⟩ => by
  rw [hK]
  refine tA_bind (End := fun P H F => EndI G W P H F σ R) nw h (fun _ _ z => z) (fun z => z) fun os ρ1 vs P1 H1 F1 S e1 h1 n1 s1 hx q1 => ?_
  unfold zp2 at h1
  split at h1
  · rename_i d e' ρ2 ef
    obtain ⟨P2, F2, n2, d2, z2⟩ := frzL_ok n1 hx ef
    cases d2 with
    | cons hd hn =>
      cases hn with
      | cons hd2 hn =>
        cases hn
        split at h1
        · rename_i ds es e3 e4
          obtain ⟨z, xs, rfl, hz, hxs⟩ := src_of hd (seqOf_eq e3)
          obtain ⟨z', ys, rfl, hz', hys⟩ := src_of hd2 (seqOf_eq e4)
          exact ⟨z, z', xs, ys, rfl, z.mono hz n2.ex, z'.mono hz' n2.ex, h1 _ P2 H1 F2 n2 (z2.stp s1 fun b hb => (q1 b hb).2) (yl_z2 hz hxs hz' hys)⟩
        · exact h1.elim
  · exact h1.elim
/-! ### range with a step of -1 -/
def rangeDn (lo hi : Int) : List PyData := (List.range (lo - hi).toNat).map fun k => .int (lo - (k : Nat))
noncomputable def rg3 (ρ : Rho) (os : List Opd) : Out (List PyData) := match looks ρ os with
  | some [.dat (.int i), .dat (.int j), .dat (.int c)] => if -(2 ^ 62) ≤ i ∧ i < 2 ^ 62 ∧ -(2 ^ 62) ≤ j ∧ j < 2 ^ 62 ∧ c = -1 then .ok (rangeDn i j) ρ else .stk
  | _ => .stk
noncomputable def iR3 (f : FA) : FI := fun ρ => (f ρ).bind fun os ρ1 => rg3 ρ1 os
theorem yl_rng3 {P : Hp} {lo hi : Int} : Yl G (Itc lo (-1) (lo - hi).toNat) P (rangeDn lo hi) := fun i P1 H e1 e2 => by
  have hl : (rangeDn lo hi).length = (lo - hi).toNat := by unfold rangeDn; rw [List.length_map, List.length_range]
  rw [hl]
  refine ⟨fun h => h, fun hi => ⟨hi, ?_⟩⟩
  rintro x H' ⟨rfl, rfl⟩
  refine ⟨P1, .int (lo - (i : Nat)), Alc.refl e2, ?_, ?_⟩
  · unfold rangeDn
    rw [List.getElem?_map, List.getElem?_range (by omega)]
    rfl
  · have : lo + (i : Nat) * (-1 : Int) = lo - (i : Nat) := by omega
    rw [this]
    exact .int _
theorem i_R3 (hm : X.mg "range" = none) (ha : PA X [a, b, c] (tA G W fa)) (hg : Gl X "range" := by rfl) (hs : starEach [a, b, c] X.env = (false, eval a X.env) :: starEach [b, c] X.env := by rfl) (hpl : (backTo pos (starEach [b, c] X.env)).any (·.1) = false := by rfl) :
    PI X tg (.Call (.Name "range" p) [a, b, c] [] pos) (tI G W (iR3 fa)) := PI.imp (pi_range3 hg hm ha hs hpl) fun σ H R ⟨ρ, P, F, nw, h⟩ => by
  refine tA_bind (End := fun P H F => EndI G W P H F σ R) nw h (fun _ _ z => z) (fun z => z) fun os ρ1 vs P1 H1 F1 S e1 h1 n1 s1 hx q1 => ?_
  unfold rg3 at h1
  split at h1
  · rename_i i j c el
    split at h1
    · rename_i hj
      have hvs := hx.looks n1 el
      obtain ⟨a1, a2, a3, a4, rfl⟩ := hj
      match vs, hvs with
      | [v, u, z], ⟨hv, hu, hz, _⟩ =>
        exact ⟨i, j, -1, (i - j).toNat, by rw [ow_int hv, ow_int hu, ow_int hz], RgC.neg a1 a2 a3 a4, h1 _ P1 H1 F1 n1 s1 yl_rng3⟩
    · exact h1.elim
  · exact h1.elim
end
/-! ### stars in displays -/
section
variable {X : Cx} {e : Expr} {es : List Expr} {G : Glb} {W : WX} {f : FE} {g : FA} {p : Pos}
noncomputable def aStar (f : FE) (g : FA) : FA := fun ρ => (f ρ).bind fun o ρ1 => match frz1 ρ1 o with
  | some (d, ρ2) => match seqOf d with
    | some ds => (g ρ2).bind fun xs ρ3 => .ok (ds.map (fun d => .val (.dat d)) ++ xs) ρ3
    | none => .stk
  | none => .stk
theorem hasL_app {P H : Hp} {F : Nat → Ad} {σ : L2.St} {os : List Opd} {vs : List V} {S : Ad} (h : HasL G P H F σ S vs os) : ∀ {ds : List PyData} {xs : List V}, DpAll G.K P xs ds → HasL G P H F σ S (xs ++ vs) (ds.map (fun d => .val (.dat d)) ++ os)
  | [], _, hd => by cases hd; exact h
  | d :: ds, _, hd => by
    cases hd with
    | cons h1 h2 => exact ⟨nobody, S, ⟨h1, fun _ z => z.elim, fun _ z => z.elim, fun _ z => z.elim, fun _ _ z => z.elim⟩, hasL_app h h2, fun _ z => z.elim, fun _ z => z⟩
theorem pa_starV (hK : X.K = G.K) (he : PE X e (tE G W f)) (hr : PA X es (tA G W g)) (hs : starEach (.Starred e p :: es) X.env = (true, eval e X.env) :: starEach es X.env := by rfl) : PA X (.Starred e p :: es) (tA G W (aStar f g)) :=
  PA.imp (StX.pa_star he hr hs) fun σ H Q ⟨ρ, P, F, n, h⟩ => by
    refine tE_bind (End := fun P H F => EndA G W P H F σ Q) n h (fun _ _ z => z) (fun z => z) fun x ρ1 vx P1 H1 F1 S1 e1 h1 n1 s1 hx q1 => ?_
    split at h1
    · rename_i d ρ2 ef
      obtain ⟨P2, F2, n2, d2, z2⟩ := frz1_ok n1 hx ef
      have s2 := z2.stp s1 q1
      split at h1
      · rename_i ds es'
        obtain ⟨z, xs, rfl, hz, hxs⟩ := src_of d2 (seqOf_eq es')
        have hz1 : z.at X.K H1 xs := by rw [hK]; exact z.mono hz n2.ex
        refine ⟨z.a, xs, rfl, ?_, ρ2, P2, F2, n2, ?_⟩
        · obtain ⟨t, a⟩ := z
          cases t
          · exact .inr hz1
          · exact .inl hz1
        · cases e : g ρ2 with
          | stk => rw [e] at h1; exact h1.elim
          | exc c ρ3 =>
            rw [e] at h1
            exact fun P3 H3 F3 n3 s3 => h1 P3 H3 F3 n3 (s2.trans s3)
          | ok ys ρ3 =>
            rw [e] at h1
            intro vs P3 H3 F3 S3 n3 s3 hs3 q3
            refine h1 (xs ++ vs) P3 H3 F3 S3 n3 (s2.trans s3) (hasL_app hs3 (dpa_mono s3.ex _ _ hxs)) fun b hb => ⟨(q3 b hb).1, ?_⟩
            rcases (q3 b hb).2 with ⟨i, hi⟩ | z
            · exact s2.sub i b hi
            · exact .inr (Classical.byContradiction fun q => s2.al b q z)
      · exact h1.elim
    · exact h1.elim
end
/-! ### a, b = x, y; a, b = e -/
section
variable {X : Cx} {G : Glb} {W : WX} {n k i j : Nat} {π : List Bool} {x y : Str} {a b e tg : Expr} {fa : FA} {fe : FE} {bnd : FB} {px py pt pos : Pos}
theorem tA_bindS {P H : Hp} {F : Nat → Ad} {σ : L2.St} {ρ : Rho} {D : Ends} {Q : List V → Hp → Prop} {k : List Opd → Rho → SO} (nw : Now G P H σ ρ F) (hl : σ.length = n) (hE : EndS G W n π P H F σ D ((fa ρ).bindS k))
    (h : ∀ os ρ1 vs P1 H1 F1 S, EndS G W n π P1 H1 F1 σ D (k os ρ1) → Now G P1 H1 σ ρ1 F1 → Stp P H F P1 H1 F1 → HasL G P1 H1 F1 σ S vs os → (∀ b, S b → (P1 b = none ∧ H1 b ≠ none ∧ ∀ i, ¬ F1 i b) ∧ ((∃ i, F i b) ∨ H b = none)) → EndS G W n π P H F σ D (k os ρ1) → Q vs H1) : tA G W fa σ H Q := by
  refine ⟨ρ, P, F, nw, ?_⟩
  cases e : fa ρ with
  | ok os ρ1 =>
    rw [e] at hE
    exact fun vs P1 H1 F1 S n1 s1 h1 q1 => h os ρ1 vs P1 H1 F1 S (EndS.trans s1 (Kp.refl hl) hE) n1 s1 h1 q1 hE
  | exc c ρ' =>
    rw [e] at hE
    exact fun P1 H1 F1 n1 s1 => hE σ P1 H1 F1 n1 s1 (Kp.refl hl)
  | stk =>
    rw [e] at hE
    exact hE.elim
noncomputable def setO2 (i j : Nat) (os : List Opd) (ρ : Rho) : SO := match frzL ρ os with
  | some ([d, e], ρ1) => .nx ((ρ1.set i (some (.dat d))).set j (some (.dat e)))
  | _ => .stk
noncomputable def sPar (i j : Nat) (fa : FA) : FS := fun ρ => (fa ρ).bindS fun os ρ1 => setO2 i j os ρ1
theorem s_par {kt k2 pt2} (hc : X.calm = true) (hN : X.N.Nodup) (hi : X.N[i]? = some x) (hj : X.N[j]? = some y) (hij : i ≠ j) (hx : X.env.scope.names.lookup x = some .local) (hy : X.env.scope.names.lookup y = some .local) (hni : i < n) (hnj : j < n) (hpi : ioAt π i = false) (hpj : ioAt π j = false)
    (ha : PA X [a, b] (tA G W fa)) (hw : swappedStores [.Tuple [.Name x px, .Name y py] kt pt] (.Tuple [a, b] k2 pt2) X.env = pure (some [x, y]) := by rfl)
    (hs : swapsWithSole [.Tuple [.Name x px, .Name y py] kt pt] (.Tuple [a, b] k2 pt2) pos.line X.env = pure false := by rfl) :
    PS X (.Assign [.Tuple [.Name x px, .Name y py] kt pt] (.Tuple [a, b] k2 pt2) pos) (tS G W n π (sPar i j fa)) := PS.imp (ps_par hc hN hi hj hij hx hy ha hw hs) fun D σ H ⟨ρ, P, F, nw, hl, h⟩ => by
  refine tA_bindS nw hl h fun os ρ1 vs P1 H1 F1 S _ n1 s1 hs q1 h0 => ?_
  unfold setO2 at h0
  split at h0
  · rename_i d e ρ2 ef
    obtain ⟨P2, F2, n2, d2, z2⟩ := frzL_ok n1 hs ef
    have s2 := z2.stp s1 fun b hb => (q1 b hb).2
    cases d2 with
    | cons hd hn =>
      cases hn with
      | cons he hn =>
        cases hn
        refine ⟨_, _, rfl, ?_⟩
        have m1 := now_dat n2 hd (i := i) (by omega)
        have m2 := now_dat m1 he (i := j) (by rw [List.length_set]; omega)
        exact h0 _ P2 H1 _ m2 (stp_set (stp_set s2 fun _ z => z.elim) fun _ z => z.elim) ((Kp.set hl hpi).trans (Kp.set (by rw [List.length_set]; exact hl) hpj))
  · exact h0.elim
noncomputable def asgO (b : FB) (o : Opd) (ρ : Rho) : SO := match frz1 ρ o with
  | some (d, ρ1) => match b d ρ1 with
    | some ρ2 => .nx ρ2
    | none => .stk
  | none => .stk
noncomputable def sAsg (b : FB) (f : FE) : FS := fun ρ => (f ρ).bindS fun o ρ1 => asgO b o ρ1
theorem s_asg (he : PE X e (tE G W fe)) (hg : PG X tg (tG G n π bnd)) (hs : swapsWithSole [tg] e pos.line X.env = pure false := by rfl) (hw : swappedStores [tg] e X.env = pure none := by rfl) (h1 : (assignEach [tg] X.env).map (·.2) = [assign tg X.env] := by rfl) : PS X (.Assign [tg] e pos) (tS G W n π (sAsg bnd fe)) :=
  PS.imp (ps_asg he hg hs hw h1) fun D σ H ⟨ρ, P, F, nw, hl, h⟩ => by
    refine tE_bindS nw hl h fun o ρ1 v P1 H1 F1 S _ n1 s1 hs q1 h0 => ?_
    unfold asgO at h0
    split at h0
    · rename_i d ρ2 ef
      obtain ⟨P2, F2, n2, d2, z2⟩ := frz1_ok n1 hs ef
      have s2 := z2.stp s1 q1
      split at h0
      · rename_i ρ3 eb
        exact ⟨ρ2, P2, F2, d, ρ3, n2, hl, d2, eb, fun σ' F' n3 s3 k3 => h0 σ' P2 H1 F' n3 (s2.trans s3) k3⟩
      · exact h0.elim
    · exact h0.elim
end
/-! ### a list of a slot, walked while it is held -/
theorem Kp.mono {n : Nat} {π π' : List Bool} {σ σ' : L2.St} (h : Kp n π' σ σ') (e : ∀ j, ioAt π j = true → ioAt π' j = true) : Kp n π σ σ' := ⟨h.len, fun j hj => h.pin j (e j hj)⟩
noncomputable def forLB (i : Nat) (ds0 : List PyData) (b : FB) (body : FS) : List PyData → FS
  | [], ρ => .nx ρ
  | d :: ds, ρ => match b d ρ with
    | none => .stk
    | some ρ1 => match body ρ1 with
      | .nx ρ2 => by classical exact if look ρ2 (.brw i) = some (.ml ds0) then forLB i ds0 b body ds ρ2 else .stk
      | .ct ρ2 => by classical exact if look ρ2 (.brw i) = some (.ml ds0) then forLB i ds0 b body ds ρ2 else .stk
      | .bk ρ2 => .nx ρ2
      | .ret w ρ2 => .ret w ρ2
      | .exc c ρ2 => .exc c ρ2
      | .stk => .stk
noncomputable def sForB (i : Nat) (b : FB) (body : FS) : FS := fun ρ => match look ρ (.brw i) with
  | some (.ml ds) => forLB i ds b body ds ρ
  | _ => .stk
section
variable {X : Cx} {tg : Expr} {body : List Stmt} {G : Glb} {W : WX} {n i : Nat} {π π' : List Bool} {b : FB} {fb : FS} {pos p3 : Pos} {x : Str}
theorem s_forB (hp : PassesOwn (model X.prog X.w) X.A X.env X.xe) (hc : X.calm = true) (hK : X.K = G.K) (ho : PE X (.Name x p3) (tVar i)) (hpi : ioAt π' i = true) (hpp : ∀ j, ioAt π j = true → ioAt π' j = true)
    (hg : PG X tg (tG G n π' b)) (hb : PSs X body (tS G W n π' fb)) (hs : ∀ z, foldedSetIterable (.Name x p3) X.env z = pure z := by intro _; rfl) :
    PS X (.For tg (.Name x p3) body [] pos) (tS G W n π (sForB i b fb)) := PS.imp (ps_for hp hc (pi_sq ho) hg hb hs) fun D σ H ⟨ρ, P, F, nw, hl, h⟩ => by
  unfold sForB at h
  split at h
  rotate_left
  · exact h.elim
  rename_i ds hlk
  obtain ⟨a, xs0, hσ, hF, hH, hD⟩ := now_ml nw hlk
  have sq : ∀ {P2 H2 σ2 ρ2 F2}, Now G P2 H2 σ2 ρ2 F2 → look ρ2 (.brw i) = some (.ml ds) → σ2[i]? = some (some (.ref a)) → ∃ xs, SqL X.K H2 a xs ∧ DpAll G.K P2 xs ds := fun n2 l2 s2 => by
    obtain ⟨a', xs, h1, h2, h3, h4⟩ := now_ml n2 l2
    rw [s2] at h1
    cases h1
    exact ⟨xs, .inl (.inl h3), h4⟩
  refine ⟨.ref a, hσ, a, rfl, .inl ⟨?_, ?_⟩⟩
  · obtain ⟨xs, h1, _⟩ := sq nw hlk hσ
    exact ⟨xs, h1⟩
  refine ⟨fun j m σ' H' => m = ds.length - j ∧ j ≤ ds.length ∧ ∃ ρ' P' F', Now G P' H' σ' ρ' F' ∧ σ'.length = n ∧ look ρ' (.brw i) = some (.ml ds) ∧ σ'[i]? = some (some (.ref a)) ∧ EndS G W n π P' H' F' σ' D (forLB i ds b fb (ds.drop j) ρ'), ⟨_, rfl, Nat.zero_le _, ρ, P, F, nw, hl, hlk, hσ, h⟩, ?_⟩
  rintro j m σ2 H2 ⟨rfl, hj, ρ2, P2, F2, n2, l2, k2, a2, h2⟩
  obtain ⟨xs, hx, hxs⟩ := sq n2 k2 a2
  have hlen := dpa_len _ _ hxs
  by_cases hlt : j < ds.length
  · have hd : ds[j]? = some ds[j] := List.getElem?_eq_getElem hlt
    obtain ⟨v, hv, hdv⟩ := dpa_get _ _ hxs j _ hd
    refine .inr ⟨⟨xs, v, hx, hv⟩, fun σ' H' => j + 1 ≤ ds.length ∧ ∃ ρ' P' F', Now G P' H' σ' ρ' F' ∧ σ'.length = n ∧ look ρ' (.brw i) = some (.ml ds) ∧ σ'[i]? = some (some (.ref a)) ∧ EndS G W n π P' H' F' σ' D (forLB i ds b fb (ds.drop (j + 1)) ρ'), fun σ' H' ⟨q1, q2⟩ => ⟨_, by omega, rfl, q1, q2⟩, fun u H3 hy => ?_⟩
    obtain ⟨rfl, y⟩ := hy
    have := y xs hx
    rw [hv] at this
    cases this
    have ed : ds.drop j = ds[j] :: ds.drop (j + 1) := List.drop_eq_getElem_cons hlt
    rw [ed] at h2
    unfold forLB at h2
    cases eb : b ds[j] ρ2 with
    | none => rw [eb] at h2; exact h2.elim
    | some ρ3 =>
      simp only [eb] at h2
      refine ⟨ρ2, P2, F2, ds[j], ρ3, n2, l2, hdv, eb, fun σ4 F4 n4 s4 k4 => ⟨ρ3, P2, F4, n4, k4.len, ?_⟩⟩
      have h4 := EndS.trans s4 (k4.mono hpp) h2
      have pin4 : σ4[i]? = some (some (.ref a)) := by rw [k4.pin i hpi]; exact a2
      have next : ∀ {ρ5 : Rho}, EndS G W n π P2 H3 F4 σ4 D (by classical exact if look ρ5 (.brw i) = some (.ml ds) then forLB i ds b fb (ds.drop (j + 1)) ρ5 else .stk) → ∀ σ' P' H' F', Now G P' H' σ' ρ5 F' → Stp P2 H3 F4 P' H' F' → Kp n π' σ4 σ' →
          j + 1 ≤ ds.length ∧ ∃ ρ' P' F', Now G P' H' σ' ρ' F' ∧ σ'.length = n ∧ look ρ' (.brw i) = some (.ml ds) ∧ σ'[i]? = some (some (.ref a)) ∧ EndS G W n π P' H' F' σ' D (forLB i ds b fb (ds.drop (j + 1)) ρ') := fun {ρ5} h5 σ' P' H' F' n5 s5 k5 => by
        split at h5
        · rename_i q
          exact ⟨hlt, ρ5, P', F', n5, k5.len, q, by rw [k5.pin i hpi]; exact pin4, EndS.trans s5 (k5.mono hpp) h5⟩
        · exact h5.elim
      cases ef : fb ρ3 with
      | nx ρ5 => rw [ef] at h4; exact next h4
      | ct ρ5 => rw [ef] at h4; exact next h4
      | bk ρ5 => rw [ef] at h4; exact fun σ' P' H' F' n5 s5 k5 => h4 σ' P' H' F' n5 s5 (k5.mono hpp)
      | ret w ρ5 => rw [ef] at h4; exact fun v σ' P' H' F' S n5 s5 k5 => h4 v σ' P' H' F' S n5 s5 (k5.mono hpp)
      | exc c ρ5 => rw [ef] at h4; exact fun σ' P' H' F' n5 s5 k5 => h4 σ' P' H' F' n5 s5 (k5.mono hpp)
      | stk => rw [ef] at h4; exact h4.elim
  · have : j = ds.length := by omega
    subst this
    rw [List.drop_length] at h2
    exact .inl ⟨⟨xs, hx, by omega⟩, h2 σ2 P2 H2 F2 n2 Stp.refl (Kp.refl l2)⟩
end
/-! ### isinstance(x, tuple) -/
def isTup : PyData → Bool
  | .tuple _ => true
  | _ => false
def gIsT (a : Vl) : Option Vl := match viewD a with
  | some (.dict _) => none
  | some d => some (vB (isTup d))
  | none => none
section
variable {X : Cx} {G : Glb} {W : WX} {k n i : Nat} {π : List Bool} {e : Expr} {f : FE} {p p2 p3 pos : Pos}
theorem dp_ty {K : PySem.W.Frag} {H : Hp} {d : PyData} {v : V} (h : Dp K H v d) (hd : ∀ kvs, d ≠ .dict kvs) : ∃ T : String, TyX K H v (.type T) ∧ kitB T "tuple" = some (isTup d) := by
  cases d with
  | none => cases h; exact ⟨_, .base .non, by decide +kernel⟩
  | bool b => cases h; exact ⟨_, .base (.bl _), (by decide +kernel : kitB "bool" "tuple" = some false)⟩
  | int b => cases h; exact ⟨_, .base (.int _), (by decide +kernel : kitB "int" "tuple" = some false)⟩
  | str b => cases h; exact ⟨_, .base (.str _), (by decide +kernel : kitB "str" "tuple" = some false)⟩
  | list ds =>
    cases h with
    | lst hs ha =>
      refine ⟨"list", ?_, (by decide +kernel : kitB "list" "tuple" = some false)⟩
      rcases hs with (h | ⟨o, h⟩) | ⟨o, its, n, h, c, _⟩
      · exact .base (.lst h)
      · exact .base (.frz h)
      · exact .kList h c
  | tuple ds =>
    cases h with
    | tup hs ha =>
      refine ⟨"tuple", ?_, (by decide +kernel : kitB "tuple" "tuple" = some true)⟩
      rcases hs with (h | ⟨o, h⟩) | ⟨o, its, n, h, c, _⟩
      · exact .base (.tup h)
      · exact .fTuple h
      · exact .kTuple h c
  | dict kvs => exact (hd kvs rfl).elim
theorem e_isTup (hK : X.K = G.K) (hm : X.mg "isinstance" = none) (hm2 : X.mg "tuple" = none) (he : PE X e (tE G W f)) (hg : Gl X "isinstance" := by rfl) (hg2 : Gl X "tuple" := by rfl)
    (hs : starEach [e, .Name "tuple" p2] X.env = (false, eval e X.env) :: starEach [.Name "tuple" p2] X.env := by rfl) (hpl : (backTo pos (starEach [.Name "tuple" p2] X.env)).any (·.1) = false := by rfl) (hs2 : starEach [.Name "tuple" p2] X.env = (false, eval (.Name "tuple" p2) X.env) :: starEach [] X.env := by rfl) :
    PE X (.Call (.Name "isinstance" p) [e, .Name "tuple" p2] [] pos) (tE G W (una gIsT f)) :=
  PE.imp (pe_callB call_isi hg hm (by decide +kernel) (pa_cons he (pa_cons (pe_bltn (v := .ty "tuple") (u := .type "tuple") hg2 hm2 (by decide +kernel) rfl) pa_nil hs2) hs) (he := hs) (hpl := hpl)) fun σ H Q ⟨ρ, P, F, n, h⟩ => by
    refine tE_bind (End := fun P H F => EndO G W P H F σ Q) n h (fun _ _ z => z) (fun z => z) fun x ρ1 vx P1 H1 F1 S1 e1 h1 n1 s1 hx q1 => ?_
    obtain ⟨w, hw, h2⟩ := endO_val (EndO.trans s1 h1)
    cases ea : look ρ1 x with
    | none => rw [ea] at hw; cases hw
    | some a =>
      rw [ea] at hw
      have hw' : gIsT a = some w := hw
      unfold gIsT at hw'
      split at hw'
      · cases hw'
      · rename_i d hnd hd
        cases hw'
        have dp := (hx.look n1 ea).dp n1.ex hd
        obtain ⟨T, ty, kb⟩ := dp_ty dp hnd
        exact ⟨vx, .ty "tuple", .type T, .type "tuple", isTup d, rfl, .ty _, by rw [hK]; exact ty, kit_ty kb, h2.same n1 (Dp.bl _)⟩
      · cases hw'
/-! ### xs[::-1] -/
def gRev (a : Vl) : Option Vl := (asL a).map fun ds => .ml ds.reverse
theorem e_revL (hK : X.K = G.K) {k : Nat} {p1 : Pos} (he : PE X e (tE G W f)) : PE X (.Subscript e (.Slice none none (some (.UnaryOp .USub (.Constant (.int 1) k p1) p2)) p3) pos) (tE G W (una gRev f)) :=
  PE.imp (pe_revL he) fun σ H Q h => by
    rw [hK]
    refine una_ok (r := fun x H1 Q => ∃ a xs, x = .ref a ∧ SqL G.K H1 a xs ∧ ∀ p, H1 p = none → Q (.ref p) (upd H1 p (.lst xs.reverse))) (fun P H x a w Q e hx hw q => ?_) h
    unfold gRev at hw
    cases ea : asL a with
    | none => rw [ea] at hw; cases hw
    | some ds =>
      rw [ea] at hw
      cases hw
      obtain ⟨p, xs, rfl, hs, ha⟩ := hx.lst e ea
      exact ⟨p, xs, rfl, hs, fun l hl => q _ P _ _ (Alc.own e hl) ⟨l, _, rfl, rfl, upd_same, dpa_rev ha⟩⟩
/-! ### sorted(.., reverse=True) -/
def rSortR (K : PySem.W.Frag) (b : Bool) : List V → List V → Hp → VK → Prop := fun vs zs H Q => ∃ (P : Hp) (a : Addr) (xs : List V) (ds : List PyData), Same P H ∧ vs = [V.ref a] ∧ zs = [.bl b] ∧ SqL K H a xs ∧ DpAll K P xs ds ∧ Srt ds ∧
  ∀ (ys : List V) (p : Addr), DpAll K P ys (sortD b ds) → H p = none → Q (.ref p) (upd H p (.lst ys))
theorem cr_sortR {b : Bool} (c : Cxt G X W k) : CallRK X (.builtin "sorted") [Str.ofString "reverse"] (rSortR X.K b) := by
  intro pins s σ H vs zs us ws Q I r rz h
  obtain ⟨P, a, xs, ds, e, rfl, rfl, hs, ha, so, q⟩ := h
  obtain ⟨w1, rfl, e1⟩ := vals1 rz
  obtain rfl : w1 = Value.bool b := e1
  obtain ⟨its, rv, hl, hz⟩ := I.list hs
  rw [Vals.ref1 r]
  have hlen := rv.length
  have hlen2 := dpa_len _ _ ha
  have ed := eachD rv ha
  refine PySem.W.sorted_rev_data (b := b) (enc := id) hl.isList ed (eachReads I e ed) (by rw [List.map_id]; exact so.al) (by rw [List.map_id]; exact so.so) (by omega) (fun b hb => ?_) fun out ho eo => ?_
  · have := so.dp b hb
    have := c.room.un
    show X.A.units + 2 + b.depth < cLine
    omega
  · obtain ⟨ys, ry, dy⟩ := dOfEach eo
    obtain ⟨ep, he'⟩ := PyProof.Rows.sortedAll_at s.heap its out.toArray
    have hy := ry.length
    exact ⟨.ref _, upd H (s.heap.objs.size + 1) (.lst ys), I.laid (t' := s.toks) (fun _ _ => PyProof.Rows.sortedAll_old) (Nat.le_succ _) ⟨by omega, out, ep, ry, he'⟩, rfl, q ys _ dy (I.hok.fresh (Nat.le_succ _))⟩
noncomputable def gSortR (a : Vl) : Option Vl := (asL a).bind fun ds => gd (Srt ds) (.ml (sortD true ds))
theorem e_sortR (c : Cxt G X W k) (hm : X.mg "sorted" = none) {j : Nat} {kp kp2 : Pos} (he : PE X e (tE G W f)) (hg : Gl X "sorted" := by rfl)
    (hst : backTo pos (starEach [e] X.env) = (false, eval e X.env) :: backTo pos (starEach [] X.env) := by rfl) (hpl : (backTo pos (starEach [e] X.env)).any (·.1) = false := by rfl) (hs : starEach [e] X.env = (false, eval e X.env) :: starEach [] X.env := by rfl)
    (hall : (backToKw pos (keywordEach [⟨some "reverse", .Constant (.bool true) j kp, kp2⟩] X.env)).all (·.1.isSome) = true := by rfl) (hnone : (backToKw pos (keywordEach [⟨some "reverse", .Constant (.bool true) j kp, kp2⟩] X.env)).any (·.1.isNone) = false := by rfl) (hks : (backToKw pos (keywordEach [⟨some "reverse", .Constant (.bool true) j kp, kp2⟩] X.env)).filterMap (·.1) = [Str.ofString "reverse"] := by rfl) :
    PE X (.Call (.Name "sorted" p) [e] [⟨some "reverse", .Constant (.bool true) j kp, kp2⟩] pos) (tE G W (una gSortR f)) :=
  PE.imp (pe_callBK (cr_sortR (b := true) c) hg hm (by decide +kernel) (pa_cons he pa_nil hs) (pk_cons (pe_bl (b := true)) pk_nil) (he := hst) (hpl := hpl) (hall := hall) (hnone := hnone) (hks := hks)) fun σ H Q h => by
    rw [c.K]
    refine una_ok (r := fun x H1 Q => rSortR G.K true [x] [.bl true] H1 Q) (fun P H x a w Q e hx hw q => ?_) h
    unfold gSortR at hw
    obtain ⟨ds, hd, hw⟩ := Option.bind_eq_some_iff.mp hw
    obtain ⟨so, rfl⟩ := gd_some hw
    obtain ⟨p, xs, rfl, hs, ha⟩ := hx.lst e hd
    exact ⟨P, p, xs, ds, e, rfl, rfl, hs, ha, so, fun ys l dy hl => q _ P _ _ (Alc.own e hl) ⟨l, ys, rfl, rfl, upd_same, dy⟩⟩
end
end Mi
end
section
set_option Elab.async false
set_option linter.all false
set_option maxRecDepth 100000
set_option maxHeartbeats 1000000
/-! Ev42: t[::-1] of a tuple; a chain of three; freezing a slot -/
namespace Mi
open PySem PySem.Spec PyProof.Rows L2
section
variable {prog : Program} {w : World} {A : Around} {E : Value → Shared → Prop} {s : Shared}
theorem adjust_rev (n : Nat) : Builtin.Slice.sliceAdjust none none (-1) (n : Int) = ((n : Int) - 1, -1) := rfl
theorem places_rev (n : Nat) : Builtin.Slice.slicePlaces ((n : Int) - 1) (-1) (-1) = n := by
  unfold Builtin.Slice.slicePlaces
  have h1 : ¬ ((-1 : Int) > 0) := by decide
  simp only [h1, if_false]
  split
  · rw [show (- -1 : Int) = 1 by decide, Int.ediv_one]; omega
  · omega
theorem pick_rev (xs : Array Value) : ((List.range xs.size).filterMap fun (m : Nat) => xs[((xs.size : Int) - 1 + (m : Int) * (-1)).toNat]?).toArray = xs.toList.reverse.toArray := by
  have e : (List.range xs.size).filterMap (fun (m : Nat) => xs[((xs.size : Int) - 1 + (m : Int) * (-1)).toNat]?) = ((List.range xs.size).map fun k => xs.size - 1 - k).filterMap (xs[·]?) := by
    rw [List.filterMap_map]
    have cg : ∀ (l : List Nat), (∀ m ∈ l, m < xs.size) → l.filterMap (fun (m : Nat) => xs[((xs.size : Int) - 1 + (m : Int) * (-1)).toNat]?) = l.filterMap ((fun x => xs[x]?) ∘ fun k => xs.size - 1 - k) := by
      intro l
      induction l with
      | nil => intro _; rfl
      | cons m l ih =>
        intro hm
        have h1 := hm m (by simp)
        have e1 : ((xs.size : Int) - 1 + (m : Int) * (-1)).toNat = xs.size - 1 - m := by omega
        rw [List.filterMap_cons, List.filterMap_cons, ih fun k hk => hm k (List.mem_cons_of_mem _ hk)]
        simp only [Function.comp_apply, e1]
    exact cg _ fun m hm => List.mem_range.mp hm
  rw [e, PySem.W.krv_range, List.filterMap_reverse, PySem.W.krv_all]
theorem getItem_tuple_rev {t sl : Addr} {items : Array Value} {vs : Value} {Q : Value → Shared → Prop} (ht : IsTup s.heap t items) (hs : s.heap.IsSliceOf sl .none .none vs) (ps : IsPart vs (some (-1)))
    (h : Q (.ref s.heap.objs.size) { s with heap := s.heap.push { cls := .type "tuple", data := .seq items.toList.reverse.toArray } })
    (hsz : items.size ≤ sizeLine) : wpAny (model prog w) A (getItem (.ref t) (.ref sl)) Q E s := by
  have htake : sizeOk (.seq items.toList.reverse.toArray) := by
    show items.toList.reverse.toArray.size ≤ sizeLine
    rw [List.size_toArray, List.length_reverse, Array.length_toList]
    exact hsz
  obtain ⟨os, hos, hcs, hds⟩ := id hs
  have hTs : s.TypeIs (.ref sl) "slice" := ⟨os, hos, hcs⟩
  unfold getItem
  try with_reducible refine wpAny_holding ?_
  first | refine wpAny_bind (wpAny_pure ?_) | skip
  refine wpAny_bind (wpAny_sequenceKey ht.typeIs (by decide) ?_)
  refine wpAny_bind (wpAny_callSpecial?_slot (name := Str.ofString "__getitem__") ht.typeIs PyProof.Rows.slot_tuple_getitem
    (wpAny_call_entry PyProof.Rows.slot_tuple_getitem ht.typeIs entry_tuple_getitem ?_ (args_tuple_getitem _ _)))
  show wpAny _ _ (Builtin.Tuple.tupleItemsOf (.ref t) >>= _) _ _ s
  refine wpAny_bind (tupleItemsOf_ ht ?_)
  refine wpAny_bind (wpAny_typeOf hTs ?_)
  rw [if_pos (by decide)]
  refine wpAny_bind ?_
  unfold Builtin.Slice.sliceApplied Builtin.Slice.sliceFields
  refine wpAny_bind (wpAny_bind (wpAny_field hos hds (x := .none) rfl (wpAny_bind (wpAny_field hos hds (x := .none) rfl (wpAny_bind (wpAny_field hos hds (x := vs) rfl (wpAny_pure ?_)))))))
  refine wpAny_bind (HT.slicePart_ ps ?_)
  show wpAny _ _ (if ((-1 : Int) == 0) = true then _ else _) _ _ s
  rw [if_neg (by decide)]
  refine wpAny_bind (HT.slicePart_ .none (wpAny_bind (HT.slicePart_ .none (wpAny_bind (wpAny_pure ?_)))))
  show wpAny _ _ (match Builtin.Slice.sliceAdjust none none (-1) (items.size : Int) with | (lo, hi) => pure (lo, (-1 : Int), Builtin.Slice.slicePlaces lo hi (-1))) _ _ s
  rw [adjust_rev]
  show wpAny _ _ (pure ((items.size : Int) - 1, (-1 : Int), Builtin.Slice.slicePlaces ((items.size : Int) - 1) (-1) (-1))) _ _ s
  rw [places_rev]
  refine wpAny_pure ?_
  have hno : ¬ ((((items.size : Int) - 1) == 0 && (-1 : Int) == 1 && items.size == items.size) = true) := by
    intro q
    rw [Bool.and_eq_true, Bool.and_eq_true] at q
    exact absurd q.1.2 (by decide)
  show wpAny _ _ (if (((items.size : Int) - 1) == 0 && (-1 : Int) == 1 && items.size == items.size) = true then _ else _) _ _ s
  rw [if_neg hno, pick_rev]
  first
    | exact wpAny_bind (m := Builtin.Tuple.tupleExact _) (wpAny_newObj_type (wpAny_pure ⟨_, rfl, wpAny_pure h⟩) htake)
    | exact wpAny_bind (m := Builtin.Tuple.tupleExact _) (wpAny_newObj_type (wpAny_bind (wpAny_pure (wpAny_pure ⟨_, rfl, wpAny_pure h⟩))) htake)
    | exact wpAny_bind (wpAny_bind (m := Builtin.Tuple.tupleExact _) (wpAny_newObj_type (wpAny_pure (wpAny_pure ⟨_, rfl, wpAny_pure h⟩)) htake))
    | exact wpAny_bind (wpAny_bind (m := Builtin.Tuple.tupleExact _) (wpAny_newObj_type (wpAny_pure ⟨_, rfl, wpAny_pure h⟩) htake))
end
section
variable {X : Cx} {G : Glb} {W : WX} {k n i : Nat} {π : List Bool} {e : Expr} {f : FE} {p p2 p3 pos : Pos}
/-- xs[::-1], a list or a tuple -/
def tRevA (K : PySem.W.Frag) (te : TE) : TE := fun σ H Q => te σ H fun x H1 => ∃ a xs, x = .ref a ∧ ((SqL K H1 a xs ∧ ∀ p, H1 p = none → Q (.ref p) (upd H1 p (.lst xs.reverse))) ∨ (SqT K H1 a xs ∧ ∀ p, H1 p = none → Q (.ref p) (upd H1 p (.tup xs.reverse))))
theorem pe_revA {e : Expr} {te : TE} {k : Nat} {p1 p2 p3 pos : Pos} (he : PE X e te) : PE X (.Subscript e (.Slice none none (some (.UnaryOp .USub (.Constant (.int 1) k p1) p2)) p3) pos) (tRevA X.K te) := by
  refine ⟨fun pins s σ H Q I h => ?_⟩
  refine Subscript_ (thn (he.run pins s σ H _ I h) fun v s1 ⟨x, H1, I1, r1, q1⟩ => ?_)
  obtain ⟨a, xs, ex, q⟩ := q1
  subst ex
  cases r1
  have hst : PO X (some (.UnaryOp .USub (.Constant (.int 1) k p1) p2)) (tPart (tUn (rU fun i => .int (-i)) (tC (.int 1)))) := po_some (pe_un un_neg pe_int)
  refine wpAny_Slice (thn (po_none.run pins s1 σ H1 (fun o H2 => o = none ∧ H2 = H1) I1 ⟨rfl, rfl⟩) fun vl s2 ⟨l, H2, I2, pl, el, e2⟩ => ?_)
  subst el e2
  refine thn (po_none.run pins s2 σ H2 (fun o H3 => o = none ∧ H3 = H2) I2 ⟨rfl, rfl⟩) fun vu s3 ⟨u, H3, I3, pu, eu, e3⟩ => ?_
  subst eu e3
  refine thn (hst.run pins s3 σ H3 (fun o H4 => o = some (-1) ∧ H4 = H3) I3 ⟨1, rfl, -1, rfl, rfl, rfl⟩) fun vs s4 ⟨o, H4, I4, ps, eo, e4⟩ => ?_
  subst eo e4
  have I5 : Inv X pins σ H4 { s4 with heap := s4.heap.push { cls := .type "slice", data := .fields #[vl, vu, vs] } } := I4.kept (t' := s4.toks) fun b ob q => Heap.get?_push_of_some _ q
  have evl : vl = .none := by cases pl; rfl
  have evu : vu = .none := by cases pu; rfl
  subst evl evu
  show wpAny (model X.prog X.w) X.A (subscriptTail e (.Slice none none (some (.UnaryOp .USub (.Constant (.int 1) k p1) p2)) p3) (.ref a) (.ref s4.heap.objs.size)) (EP X pins σ Q) X.xe { s4 with heap := s4.heap.push { cls := .type "slice", data := .fields #[.none, .none, vs] } }
  rcases q with ⟨hx, q⟩ | ⟨hx, q⟩
  · obtain ⟨its, r, ht, hz⟩ := I5.list hx
    have hlen := r.length
    refine tail_any (ops := [.ref a, .ref s4.heap.objs.size]) ht.isList.typeIs (PySem.slot_list_getitem.lookup) ?_ (by with_unfolding_all rfl)
    refine wpAny_getItem_list_slice ht.isList (Heap.IsSliceOf.new _ .none .none vs) pl pu ps (by decide) ?_ (by rw [List.size_toArray]; omega)
    rw [PySem.W.krv_pick]
    refine ⟨.ref _, _, I5.laid (t' := s4.toks) (o := .lst xs.reverse) (fun b ob q => Heap.get?_push_of_some _ q) (Nat.le_refl _) ?_, rfl, q _ (I5.hok.fresh (Nat.le_refl _))⟩
    exact ⟨by rw [List.length_reverse]; exact hz, _, 0, r.reverse, Heap.get?_push_size _ rfl⟩
  · obtain ⟨its, r, ht, hz⟩ := I5.tuple hx
    have hlen := r.length
    refine tail_any (ops := [.ref a, .ref s4.heap.objs.size]) ht.typeIs (PyProof.Rows.slot_tuple_getitem.lookup) ?_ (by with_unfolding_all rfl)
    refine getItem_tuple_rev ht (Heap.IsSliceOf.new _ .none .none vs) ps ?_ (by rw [List.size_toArray]; omega)
    refine ⟨.ref _, _, I5.laid (t' := s4.toks) (o := .tup xs.reverse) (fun b ob q => Heap.get?_push_of_some _ q) (Nat.le_refl _) ?_, rfl, q _ (I5.hok.fresh (Nat.le_refl _))⟩
    exact ⟨by rw [List.length_reverse]; exact hz, _, r.reverse, IsTup.new _ _⟩
def gRevA (a : Vl) : Option Vl := match asL a with
  | some ds => some (.ml ds.reverse)
  | none => (asT a).map fun ds => .dat (.tuple ds.reverse)
theorem e_rev (hK : X.K = G.K) {k : Nat} {p1 : Pos} (he : PE X e (tE G W f)) : PE X (.Subscript e (.Slice none none (some (.UnaryOp .USub (.Constant (.int 1) k p1) p2)) p3) pos) (tE G W (una gRevA f)) :=
  PE.imp (pe_revA he) fun σ H Q h => by
    rw [hK]
    refine una_ok (r := fun x H1 Q => ∃ a xs, x = .ref a ∧ ((SqL G.K H1 a xs ∧ ∀ p, H1 p = none → Q (.ref p) (upd H1 p (.lst xs.reverse))) ∨ (SqT G.K H1 a xs ∧ ∀ p, H1 p = none → Q (.ref p) (upd H1 p (.tup xs.reverse))))) (fun P H x a w Q e hx hw q => ?_) h
    unfold gRevA at hw
    cases ea : asL a with
    | some ds =>
      rw [ea] at hw
      cases hw
      obtain ⟨p, xs, rfl, hs, ha⟩ := hx.lst e ea
      exact ⟨p, xs, rfl, .inl ⟨hs, fun l hl => q _ P _ _ (Alc.own e hl) ⟨l, _, rfl, rfl, upd_same, dpa_rev ha⟩⟩⟩
    | none =>
      rw [ea] at hw
      obtain ⟨ds, et, rfl⟩ := Option.map_eq_some_iff.mp hw
      obtain ⟨p, xs, rfl, hs, ha⟩ := hx.tup e et
      have hP : ∀ l, H l = none → P l = none := fun l hl => same_none e hl
      exact ⟨p, xs, rfl, .inr ⟨hs, fun l hl => q _ (upd P l (.tup xs.reverse)) _ _ (Alc.tup e hl) (.tup (.inl (.inl upd_same)) (dpa_mono (same_upd (hP l hl)) _ _ (dpa_rev ha)))⟩⟩
/-- a slot's own list is frozen as it is read -/
def fZ (f : FE) : FE := fun ρ => (f ρ).bind fun o ρ1 => match frz1 ρ1 o with
  | some (d, ρ2) => .ok (.val (.dat d)) ρ2
  | none => .stk
theorem e_Z (he : PE X e (tE G W f)) : PE X e (tE G W (fZ f)) := PE.imp he fun σ H Q ⟨ρ, P, F, n, h⟩ => by
  refine tE_bind (End := fun P H F => EndO G W P H F σ Q) n h (fun _ _ z => z) (fun z => z) fun x ρ1 vx P1 H1 F1 S1 e1 h1 n1 s1 hx q1 => ?_
  split at h1
  · rename_i d ρ2 ef
    obtain ⟨P2, F2, n2, d2, z2⟩ := frz1_ok n1 hx ef
    exact h1 vx P2 H1 F2 nobody n2 (z2.stp s1 q1) ⟨d2, fun _ z => z.elim, fun _ z => z.elim, fun _ z => z.elim, fun _ _ z => z.elim⟩ fun _ z => z.elim
  · exact h1.elim
end
end Mi
namespace Mi
/-- the pins of a list, as far as they go -/
theorem pin_le {π π' : List Bool} (h : (List.range π.length).all (fun j => !ioAt π j || ioAt π' j) = true) : ∀ j, ioAt π j = true → ioAt π' j = true := fun j hj => by
  have hl : j < π.length := Classical.byContradiction fun q => by
    unfold ioAt at hj
    rw [List.getD_eq_getElem?_getD, List.getElem?_eq_none (by omega)] at hj
    cases hj
  have := List.all_eq_true.mp h j (List.mem_range.mpr hl)
  simpa [hj] using this
end Mi
namespace Mi
open PySem PySem.Spec PyProof.Rows L2
theorem z_rd {G : Glb} {W : WX} {f : FE} {σ : L2.St} {H : Hp} {Q : VK} (h : tE G W (fZ f) σ H Q) : tE G W f σ H Q := by
  obtain ⟨ρ, P, F, n, h⟩ := h
  refine tE_bind (End := fun P H F => EndO G W P H F σ Q) n h (fun _ _ z => z) (fun z => z) fun x ρ1 vx P1 H1 F1 S1 e1 h1 n1 s1 hx q1 => ?_
  split at h1
  · rename_i d ρ2 ef
    obtain ⟨P2, F2, n2, d2, z2⟩ := frz1_ok n1 hx ef
    exact h1 vx P2 H1 F2 nobody n2 (z2.stp s1 q1) ⟨d2, fun _ z => z.elim, fun _ z => z.elim, fun _ z => z.elim, fun _ _ z => z.elim⟩ fun _ z => z.elim
  · exact h1.elim
section
variable {X : Cx} {G : Glb} {W : WX} {k n i : Nat} {π : List Bool} {elt tg iter tg1 iter1 t t1 : Expr} {scope : Scope} {own : List (Str × Nat)} {vs vs1 : List Nat} {pos spos py : Pos} {fi fi1 : FI} {b b1 : FB} {c c1 : FT} {e : FE} {y : Str} {tt tt1 : TT} {ifs ifs1 : List Expr}
/-- name = [..] -/
theorem s_setCompZ (cx : Cxt G X W k) (hn : X.N.length = n) (hy : X.N[i]? = some y) (hyl : X.env.scope.names.lookup y = some .local) (hin : i < n) (hpi : ioAt π i = false) (hi : PI X tg iter (tI G W fi)) (ok : blkC X.N X.env.scope scope own = true) (hvs : own.map (·.2) = vs) {π' : List Bool} (hp : blkPi n vs = π')
    (hg : ∀ (s : Shared) (H : Hp) (C : Addr) (cl : List (Str × Addr)) (fp : List Addr), PG (X.blk s H scope (compEnvC scope cl C X.env) fp) tg (tG G n π' b))
    (ht : ∀ (s : Shared) (H : Hp) (C : Addr) (cl : List (Str × Addr)) (fp : List Addr), PTs (X.blk s H scope (compEnvC scope cl C X.env) fp) ifs tt) (htt : ∀ σ H Q, tT G noW c σ H Q → tt σ H Q)
    (he : ∀ (s : Shared) (H : Hp) (C : Addr) (cl : List (Str × Addr)) (fp : List Addr), PE (X.blk s H scope (compEnvC scope cl C X.env) fp) elt (tE G noW e)) (hs : ∀ x, foldedSetIterable iter X.env x = pure x := by intro _; rfl)
    (hsw : swapsWith (.ListComp elt [⟨tg, iter, ifs, 0⟩] scope pos) (some (.Name y py)) spos.line X.env = pure true) :
    PS X (.Assign [.Name y py] (.ListComp elt [⟨tg, iter, ifs, 0⟩] scope pos) spos) (tS G W n π (sSet i (fZ (fComp vs fi b c e)))) := by
  constructor
  intro pins s σ H D I h
  have hl : σ.length = n := I.len.trans hn
  have h2 := z_rd (set_rd hin hpi h)
  subst hvs hp
  exact (ps_setLc (i := i) (wi := tI G W fi) (te := tE G noW e) cx.calm cx.nd hy hyl hsw hi (blkOk_by ok) hg ht he hs).run pins s σ H D I (by rw [← hl]; exact comp_rd htt h2)
theorem s_setComp2Z (cx : Cxt G X W k) (hn : X.N.length = n) (hy : X.N[i]? = some y) (hyl : X.env.scope.names.lookup y = some .local) (hin : i < n) (hpi : ioAt π i = false) (hi : PI X tg iter (tI G W fi)) (ok : blkC X.N X.env.scope scope own = true) (hvs : own.map (·.2) = vs) (hv : ∀ j ∈ vs1, j ∈ vs) {π' π1 : List Bool} (hp : blkPi n vs = π') (hp1 : blkPi n vs1 = π1)
    (hg : ∀ (s : Shared) (H : Hp) (C : Addr) (cl : List (Str × Addr)) (fp : List Addr), PG (X.blk s H scope (compEnvC scope cl C X.env) fp) tg (tG G n π' b))
    (ht : ∀ (s : Shared) (H : Hp) (C : Addr) (cl : List (Str × Addr)) (fp : List Addr), PTs (X.blk s H scope (compEnvC scope cl C X.env) fp) ifs tt) (htt : ∀ σ H Q, tT G noW c σ H Q → tt σ H Q)
    (hi1 : ∀ (s : Shared) (H : Hp) (C : Addr) (cl : List (Str × Addr)) (fp : List Addr), PI (X.blk s H scope (compEnvC scope cl C X.env) fp) tg1 iter1 (tI G noW fi1))
    (hg1 : ∀ (s : Shared) (H : Hp) (C : Addr) (cl : List (Str × Addr)) (fp : List Addr), PG (X.blk s H scope (compEnvC scope cl C X.env) fp) tg1 (tG G n π1 b1))
    (ht1 : ∀ (s : Shared) (H : Hp) (C : Addr) (cl : List (Str × Addr)) (fp : List Addr), PTs (X.blk s H scope (compEnvC scope cl C X.env) fp) ifs1 tt1) (htt1 : ∀ σ H Q, tT G noW c1 σ H Q → tt1 σ H Q)
    (he : ∀ (s : Shared) (H : Hp) (C : Addr) (cl : List (Str × Addr)) (fp : List Addr), PE (X.blk s H scope (compEnvC scope cl C X.env) fp) elt (tE G noW e)) (hs : ∀ x, foldedSetIterable iter X.env x = pure x := by intro _; rfl) (hs1 : ∀ env x, foldedSetIterable iter1 env x = pure x := by intro _ _; rfl)
    (hsw : swapsWith (.ListComp elt [⟨tg, iter, ifs, 0⟩, ⟨tg1, iter1, ifs1, 0⟩] scope pos) (some (.Name y py)) spos.line X.env = pure true) :
    PS X (.Assign [.Name y py] (.ListComp elt [⟨tg, iter, ifs, 0⟩, ⟨tg1, iter1, ifs1, 0⟩] scope pos) spos) (tS G W n π (sSet i (fZ (fComp2 vs vs1 fi b c fi1 b1 c1 e)))) := by
  constructor
  intro pins s σ H D I h
  have hl : σ.length = n := I.len.trans hn
  have h2 := z_rd (set_rd hin hpi h)
  subst hvs hp hp1
  exact (ps_setLc2 (i := i) (wi := tI G W fi) (te := tE G noW e) cx.calm cx.nd hy hyl hsw hi (blkOk_by ok) hv hg ht hi1 hg1 ht1 he hs hs1).run pins s σ H D I (by rw [← hl]; exact comp2_rd htt htt1 hv h2)
end
end Mi
end
section
set_option Elab.async false
set_option linter.all false
set_option maxRecDepth 100000
set_option maxHeartbeats 1000000
/-! Ev43: any, all of a list of ints -/
namespace Mi
open PySem L2 PyProof.Rows
theorem intsAre_get : ∀ {us : List Value} {ns : List Int} {i : Nat} {v : Value}, IntsAre us ns → us[i]? = some v → ∃ n t, ns[i]? = some n ∧ v = .int n t
  | _, _, i, _, .nil, h => by simp at h
  | _, _, 0, v, .cons n t r, h => by simp at h; exact ⟨n, t, rfl, h.symm⟩
  | _, _, i + 1, v, .cons n t r, h => by
    obtain ⟨m, t', e, q⟩ := intsAre_get (i := i) r (by simpa using h)
    exact ⟨m, t', by simpa using e, q⟩
theorem truth_ints {prog : Program} {w : World} {A : Around} {ns : List Int} {its : List Value} (e : IntsAre its ns) :
    TruthOf prog w A (fun i v => its.toArray[i]? = some v) (fun i => (ns.map (· != 0)).getD i false) := fun i v s Q E hv hq => by
  have hv' : its[i]? = some v := by simpa using hv
  obtain ⟨n, t, h1, rfl⟩ := intsAre_get e hv'
  have hg : (ns.map (· != 0)).getD i false = (n != 0) := by rw [List.getD_eq_getElem?_getD, List.getElem?_map, h1] <;> rfl
  have hq' : Q ((ns.map (· != 0)).getD i false) s := hq
  rw [hg] at hq'
  exact PyProof.Rows.truthy_int hq'
section
variable {X : Cx} {G : Glb} {W : WX} {k : Nat}
def rAnyI (K : PySem.W.Frag) : List V → Hp → VK → Prop := fun vs H Q => ∃ (a : Addr) (ns : List Int), vs = [V.ref a] ∧ SqL K H a (ns.map V.int) ∧ Q (.bl ((ns.map (· != 0)).any id)) H
def rAllI (K : PySem.W.Frag) : List V → Hp → VK → Prop := fun vs H Q => ∃ (a : Addr) (ns : List Int), vs = [V.ref a] ∧ SqL K H a (ns.map V.int) ∧ Q (.bl ((ns.map (· != 0)).all id)) H
theorem cr_anyI (hc : X.calm = true) : CallR X (.builtin "any") (rAnyI X.K) := by
  intro pins s σ H vs us Q I r h
  obtain ⟨a, ns, rfl, hs, q⟩ := h
  obtain ⟨its, rv, hl, _⟩ := I.list hs
  rw [Vals.ref1 r]
  have hb := rv.ints
  refine call_any_walk (iter_any hl.isList fun s₂ e2 st hne => ?_)
  subst e2
  refine ⟨_, _, _, _, _, _, _, rfl, Walks.list (A := X.A.in1) (I.ok.hd hc) _ a hne its.toArray, st, truth_ints hb, fun h' tk hk => ?_⟩
  refine ⟨.bl _, H, I.kept fun b o eo => hk b o (fun hmem => ?_) (Heap.get?_push_of_some _ eo), ?_, q⟩
  · rcases List.mem_cons.mp hmem with e1 | hmem
    · exact absurd (e1 ▸ Heap.lt_size eo) (Nat.lt_irrefl _)
    · cases hmem
  · show Value.bool _ = Value.bool _
    rw [← L2.any_range, List.size_toArray, List.length_map, hb.length]
theorem cr_allI (hc : X.calm = true) : CallR X (.builtin "all") (rAllI X.K) := by
  intro pins s σ H vs us Q I r h
  obtain ⟨a, ns, rfl, hs, q⟩ := h
  obtain ⟨its, rv, hl, _⟩ := I.list hs
  rw [Vals.ref1 r]
  have hb := rv.ints
  refine call_all_walk (iter_any hl.isList fun s₂ e2 st hne => ?_)
  subst e2
  refine ⟨_, _, _, _, _, _, _, rfl, Walks.list (A := X.A.in1) (I.ok.hd hc) _ a hne its.toArray, st, truth_ints hb, fun h' tk hk => ?_⟩
  refine ⟨.bl _, H, I.kept fun b o eo => hk b o (fun hmem => ?_) (Heap.get?_push_of_some _ eo), ?_, q⟩
  · rcases List.mem_cons.mp hmem with e1 | hmem
    · exact absurd (e1 ▸ Heap.lt_size eo) (Nat.lt_irrefl _)
    · cases hmem
  · show Value.bool _ = Value.bool _
    rw [← L2.all_range, List.size_toArray, List.length_map, hb.length]
def gAnyI (a : Vl) : Option Vl := (asL a).bind fun ds => (asInts ds).map fun ns => vB ((ns.map (· != 0)).any id)
def gAllI (a : Vl) : Option Vl := (asL a).bind fun ds => (asInts ds).map fun ns => vB ((ns.map (· != 0)).all id)
theorem b_anyI (c : Cxt G X W k) : BltV G X (.builtin "any") (g1 gAnyI) := ⟨⟨_, cr_anyI c.calm, callOk1 fun P H v a w Q e h hw q => by
  obtain ⟨ds, hd, hw⟩ := Option.bind_eq_some_iff.mp hw
  obtain ⟨ns, hn, rfl⟩ := Option.map_eq_some_iff.mp hw
  obtain ⟨p, xs, rfl, hs, ha⟩ := h.lst e hd
  rw [asInts_eq hn] at ha
  rw [dpa_ints ha] at hs
  exact ⟨p, ns, rfl, by rw [c.K]; exact hs, q _ P H nobody (Alc.refl e) (Dp.bl _)⟩⟩⟩
theorem b_allI (c : Cxt G X W k) : BltV G X (.builtin "all") (g1 gAllI) := ⟨⟨_, cr_allI c.calm, callOk1 fun P H v a w Q e h hw q => by
  obtain ⟨ds, hd, hw⟩ := Option.bind_eq_some_iff.mp hw
  obtain ⟨ns, hn, rfl⟩ := Option.map_eq_some_iff.mp hw
  obtain ⟨p, xs, rfl, hs, ha⟩ := h.lst e hd
  rw [asInts_eq hn] at ha
  rw [dpa_ints ha] at hs
  exact ⟨p, ns, rfl, by rw [c.K]; exact hs, q _ P H nobody (Alc.refl e) (Dp.bl _)⟩⟩⟩
theorem b_any2 (c : Cxt G X W k) : BltV G X (.builtin "any") (orC (g1 gAny) (g1 gAnyI)) := BltV.or (b_any c) (b_anyI c)
theorem b_all2 (c : Cxt G X W k) : BltV G X (.builtin "all") (orC (g1 gAll) (g1 gAllI)) := BltV.or (b_all c) (b_allI c)
end
end Mi
end
section
set_option Elab.async false
set_option linter.all false
set_option maxRecDepth 100000
set_option maxHeartbeats 1000000
/-! Ev44: own instances: fields read and stored, methods called, instances made -/
namespace Mi
open PySem L2 PyProof.Rows
section
variable {G : Glb} {P H : Hp} {f : Str} {v : V} {d : PyData}
theorem flds_look : ∀ {fv : List (Str × V)} {fs : List (Str × PyData)}, Flds G P fv fs → fs.lookup f = some d → ∃ v, fv.lookup f = some v ∧ Dp G.K P v d
  | [], [], _, h => by simp at h
  | (g, x) :: r, (g', y) :: t, ⟨e, h1, h2⟩, h => by
    subst e
    rw [List.lookup_cons] at h ⊢
    cases q : f == g with
    | true => rw [q] at h; cases h; exact ⟨x, rfl, h1⟩
    | false => rw [q] at h; exact flds_look h2 h
  | [], _ :: _, h, _ => h.elim
  | _ :: _, [], h, _ => h.elim
theorem flds_none : ∀ {fv : List (Str × V)} {fs : List (Str × PyData)}, Flds G P fv fs → fs.lookup f = none → fv.lookup f = none
  | [], [], _, h => rfl
  | (g, x) :: r, (g', y) :: t, ⟨e, h1, h2⟩, h => by
    subst e
    rw [List.lookup_cons] at h ⊢
    cases q : f == g with
    | true => rw [q] at h; cases h
    | false => rw [q] at h; exact flds_none h2 h
  | [], _ :: _, h, _ => h.elim
  | _ :: _, [], h, _ => h.elim
def putD (f : Str) (d : PyData) : List (Str × PyData) → List (Str × PyData)
  | [] => [(f, d)]
  | (g, x) :: r => if g = f then (g, d) :: r else (g, x) :: putD f d r
theorem flds_put (hd : Dp G.K P v d) : ∀ {fv : List (Str × V)} {fs : List (Str × PyData)}, Flds G P fv fs → Flds G P (putF f v fv) (putD f d fs)
  | [], [], _ => ⟨rfl, hd, trivial⟩
  | (g, x) :: r, (g', y) :: t, ⟨e, h1, h2⟩ => by
    subst e
    unfold putF putD
    by_cases q : g = f
    · rw [if_pos q, if_pos q]; exact ⟨rfl, hd, h2⟩
    · rw [if_neg q, if_neg q]; exact ⟨rfl, h1, flds_put hd h2⟩
  | [], _ :: _, h => h.elim
  | _ :: _, [], h => h.elim
theorem flds_len : ∀ {fv : List (Str × V)} {fs : List (Str × PyData)}, Flds G P fv fs → fv.length = fs.length
  | [], [], _ => rfl
  | _ :: r, _ :: t, ⟨_, _, h⟩ => by rw [List.length_cons, List.length_cons, flds_len h]
  | [], _ :: _, h => h.elim
  | _ :: _, [], h => h.elim
end
/-! ### a field is read -/
def gAt (c : Nat) (f : Str) : Vl → Option Vl
  | .ob c' fs => if c' = c then (fs.lookup f).map .dat else none
  | _ => none
section
variable {X : Cx} {W : WX} {G : Glb} {n k i c : Nat} {π : List Bool} {e value : Expr} {f x : Str} {fe : FE} {pos pos' p3 : Pos}
theorem e_at (hK : X.K = G.K) (cl : Cls G.K (G.cl c)) (na : NoAttr G.K (G.cl c) f) (he : PE X e (tE G W fe)) (hb : attributeBase e f X.env (eval e X.env) = eval e X.env := by rfl) : PE X (.Attribute e f pos) (tE G W (una (gAt c f) fe)) :=
  PE.imp (pe_fld he hb) fun σ H Q h => by
    rw [hK]
    refine una_ok (r := fun x H1 Q => ∃ a C dx fs v, x = .ref a ∧ H1 a = some (.ins C dx fs) ∧ Cls G.K C ∧ NoAttr G.K C f ∧ fs.lookup f = some v ∧ Q v H1) (fun P H x a w Q e hx hw q => ?_) h
    unfold gAt at hw
    split at hw
    · rename_i c' fs
      split at hw
      · rename_i ec
        subst ec
        obtain ⟨d, hl, rfl⟩ := Option.map_eq_some_iff.mp hw
        obtain ⟨S, a, dx, fv, rfl, _, hH, hF⟩ := hx
        obtain ⟨v, hv, hd⟩ := flds_look hF hl
        exact ⟨a, _, dx, fv, v, rfl, hH, cl, na, hv, q v P H nobody (Alc.refl e) hd⟩
      · cases hw
    · cases hw
/-! ### a field is stored -/
theorem now_ob {P H : Hp} {σ : L2.St} {ρ : Rho} {F : Nat → Ad} {fs : List (Str × PyData)} (nw : Now G P H σ ρ F) (hw : look ρ (.brw i) = some (.ob c fs)) : ∃ a dx fv, σ[i]? = some (some (.ref a)) ∧ F i a ∧ H a = some (.ins (G.cl c) dx fv) ∧ Flds G P fv fs := by
  obtain ⟨v, h1, a, dx, fv, rfl, h2, h3, h4⟩ := nw.rd i _ (join_some hw)
  exact ⟨a, dx, fv, h1, h2, h3, h4⟩
theorem now_updO {P H : Hp} {σ : L2.St} {ρ : Rho} {F : Nat → Ad} {a dx : Addr} {fv : List (Str × V)} {fs : List (Str × PyData)} (nw : Now G P H σ ρ F) (hs : σ[i]? = some (some (.ref a))) (ha : F i a) (hd : Flds G P fv fs) : Now G P (upd H a (.ins (G.cl c) dx fv)) σ (ρ.set i (some (.ob c fs))) F := by
  have na : ∀ b o, P b = some o → b ≠ a := fun b o h e => by rw [e, nw.np i a ha] at h; cases h
  refine ⟨fun b o h => by rw [upd_ne (na b o h)]; exact nw.ex b o h, nw.dj, nw.np, fun j b h => ?_, fun j w' h => ?_, fun j b u h e => ?_⟩
  · by_cases q : b = a
    · rw [q, upd_same]; exact fun z => nomatch z
    · rw [upd_ne q]; exact nw.al j b h
  · by_cases e : i = j
    · subst e
      by_cases hl : i < ρ.length
      · rw [List.getElem?_set_self hl] at h
        cases h
        exact ⟨_, hs, a, dx, fv, rfl, ha, upd_same, hd⟩
      · rw [List.getElem?_eq_none (by rw [List.length_set]; omega)] at h
        cases h
    · rw [List.getElem?_set_ne e] at h
      obtain ⟨v', h1, h2⟩ := nw.rd j w' h
      refine ⟨v', h1, h2.mono (Same.refl P) (fun b o hb q => ?_) fun b hb => hb⟩
      rw [upd_ne (fun (z : b = a) => e (nw.dj i j a ha (by rw [← z]; exact hb)))]
      exact q
  · by_cases q : b = a
    · rw [q, upd_same] at e; cases e; rfl
    · rw [upd_ne q] at e; exact nw.kd j b u h e
theorem stp_updO {P H : Hp} {σ : L2.St} {ρ : Rho} {F : Nat → Ad} {a : Addr} {o' : HO} {P0 H0 : Hp} {F0 : Nat → Ad} (nw : Now G P H σ ρ F) (s : Stp P0 H0 F0 P H F) (ha : F i a) : Stp P0 H0 F0 P (upd H a o') F := by
  refine ⟨s.ex, fun b o h hf => ?_, s.sub, s.pn, fun b h => ?_⟩
  · rw [upd_ne (fun (z : b = a) => s.out (by rw [h]; exact fun z => nomatch z) hf i (by rw [z]; exact ha))]
    exact s.fr b o h hf
  · by_cases q : b = a
    · rw [q, upd_same]; exact fun z => nomatch z
    · rw [upd_ne q]; exact s.al b h
def putO (i c : Nat) (f : Str) (d : PyData) (ρ : Rho) : SO := match look ρ (.brw i) with
  | some (.ob c' fs) => if c' = c ∧ fs.length < 900 then .nx (ρ.set i (some (.ob c (putD f d fs)))) else .stk
  | _ => .stk
def sPut (i c : Nat) (f : Str) (fe : FE) : FS := fun ρ => (fe ρ).bindS fun o ρ1 => match frz1 ρ1 o with
  | some (d, ρ2) => putO i c f d ρ2
  | none => .stk
theorem s_put (hK : X.K = G.K) (cl : Cls G.K (G.cl c)) (na : NoAttr G.K (G.cl c) f) (ho : PE X (.Name x p3) (tVar i)) (hv : PE X value (tE G W fe)) (hs : swapsWith value (some (.Attribute (.Name x p3) f pos')) pos.line X.env = pure false := by rfl) :
    PS X (.Assign [.Attribute (.Name x p3) f pos'] value pos) (tS G W n π (sPut i c f fe)) := PS.imp (ps_fld ho hv hs) fun D σ H ⟨ρ, P, F, nw, hl, h⟩ => by
  rw [hK]
  refine tE_bindS nw hl h fun o ρ1 v P1 H1 F1 S _ n1 s1 hx q1 h0 => ?_
  cases ef : frz1 ρ1 o with
  | none => simp only [ef] at h0; exact h0.elim
  | some p =>
    obtain ⟨d, ρ2⟩ := p
    simp only [ef] at h0
    obtain ⟨P2, F2, n2, d2, z2⟩ := frz1_ok n1 hx ef
    have s2 := z2.stp s1 q1
    unfold putO at h0
    split at h0
    · rename_i c' fs el
      split at h0
      · rename_i hc
        obtain ⟨rfl, hz⟩ := hc
        obtain ⟨a, dx, fv, hs2, hF2, hH2, hd2⟩ := now_ob n2 el
        have h2 := EndS.trans s2 (Kp.refl hl) h0
        have l1 := flds_len hd2
        refine ⟨.ref a, hs2, a, _, dx, fv, rfl, hH2, cl, na, by omega, ?_⟩
        exact h2 σ P2 _ F2 (now_updO n2 hs2 hF2 (flds_put d2 hd2)) (stp_updO n2 Stp.refl hF2) (Kp.refl hl)
      · exact h0.elim
    · exact h0.elim
/-- self.f += e, whole numbers -/
def augF (i c : Nat) (f : Str) (g : Vl → Vl → Option Vl) (fe : FE) : FS := fun ρ => match look ρ (.brw i) with
  | some (.ob c' fs) => if c' = c then match fs.lookup f with
    | some d => (fe ρ).bindS fun o ρ1 => match (look ρ1 o).bind (g (.dat d)) with
      | some (.dat d') => putO i c f d' ρ1
      | _ => .stk
    | none => .stk
    else .stk
  | _ => .stk
/-! ### methods -/
def fMeth (i c : Nat) (m : Str) (io : List Bool) (spec : CSpec) (fa : FA) : FE := fun ρ => match look ρ (.brw i) with
  | some (.ob c' fs) => if c' = c ∧ fs.lookup m = none then fCall (true :: io) spec (aCons (fV i) fa) ρ else .stk
  | _ => .stk
/-- a method of the class c -/
structure CalM (P : Program) (G : Glb) (mg : Str → Option Value) (base : Heap) (k : Nat) (c : Nat) (m : Str) (io : List Bool) (spec : CSpec) : Prop where
  ex : ∃ (f : Addr) (fd : FuncData) (ps : List Str), FnG P G.w G.K mg base k f fd ps (spV G io spec) ∧ Meth G.K (G.cl c) m f ∧ Cls G.K (G.cl c) ∧ Binds G.K fd ps []
theorem ta_first {fa : FA} {σ : L2.St} {H : Hp} {R : List V → Hp → Prop} {v : V} {ρ : Rho} {P : Hp} {F : Nat → Ad} {w : Vl} (nw : Now G P H σ ρ F) (hs : σ[i]? = some (some v)) (hw : look ρ (.brw i) = some w) (hd : ∀ d, w ≠ .dat d) (h : EndA G W P H F σ R (aCons (fV i) fa ρ)) : tA G W fa σ H (fun vs H1 => R (v :: vs) H1) := by
  have ev : fV i ρ = .ok (.brw i) ρ := by
    unfold fV
    rw [show (ρ[i]?).join = some w from hw]
    cases w with
    | dat d => exact (hd d rfl).elim
    | ml _ => rfl
    | mml _ => rfl
    | ob _ _ => rfl
    | st _ => rfl
  refine ⟨ρ, P, F, nw, ?_⟩
  unfold aCons at h
  rw [ev, bind_ok] at h
  cases e : fa ρ with
  | stk => rw [e] at h; exact h.elim
  | exc k ρ' => rw [e] at h; exact h
  | ok os ρ1 =>
    rw [e, bind_ok] at h
    intro vs P1 H1 F1 S n1 s1 hl q1
    exact h (v :: vs) P1 H1 F1 S n1 s1 ⟨nobody, S, hs, hl, fun _ z => z.elim, fun _ z => z⟩ q1
theorem call_rdE {io : List Bool} {spec : CSpec} {fa : FA} {P H : Hp} {F : Nat → Ad} {σ : L2.St} {ρ : Rho} {Q : VK} (n : Now G P H σ ρ F) (h : EndO G W P H F σ Q (fCall io spec fa ρ)) : EndA G W P H F σ (fun vs H1 => spV G io spec vs H1 Q (fun cls d H' => W cls d σ H')) (fa ρ) := by
  unfold fCall at h
  cases e : fa ρ with
  | stk => rw [e] at h; exact h.elim
  | exc c ρ' => rw [e] at h; exact h
  | ok os ρ1 =>
    rw [e] at h
    intro vs P1 H1 F1 S1 n1 s1 hs q1
    have h1 : EndO G W P H F σ Q (if ioC io os = true then
      match argW ρ1 io os with
      | some ws => match spec ws with
        | .ok w outs => if noBor io os || (clean w && outs.all cleanO) then .ok (.val w) (setIO ρ1 io os outs) else .stk
        | .exc c outs => if noBor io os || outs.all cleanO then .exc c (setIO ρ1 io os outs) else .stk
        | .stk => .stk
      | none => .stk
    else .stk) := h
    by_cases hc : ioC io os = true
    · rw [if_pos hc] at h1
      cases ha : argW ρ1 io os with
      | none => rw [ha] at h1; exact h1.elim
      | some ws =>
        rw [ha] at h1
        obtain ⟨l1, l2, l3, _⟩ := argW_at hs ha
        refine ⟨ws, _, _, l2, l3, call_in n1 hs (fun b hb => (q1 b hb).1) hc ha, fun j b h => h.1, ?_⟩
        cases hsp : spec ws with
        | stk => simp only [hsp] at h1; exact h1.elim
        | exc c outs =>
          simp only [hsp] at h1
          by_cases cl : (noBor io os || outs.all cleanO) = true
          · rw [if_pos cl] at h1
            intro P' H' F' nF hF st lo
            obtain ⟨Pa, F2, n2, s2, _⟩ := call_back n1 s1 hs q1 hc ha nF hF st lo cl
            exact h1 Pa H' F2 n2 s2
          · rw [if_neg cl] at h1; exact h1.elim
        | ok w outs =>
          simp only [hsp] at h1
          by_cases cl : (noBor io os || (clean w && outs.all cleanO)) = true
          · rw [if_pos cl] at h1
            intro v P' H' F' S nF hF st tm src lo
            have cl2 : (noBor io os || outs.all cleanO) = true := by
              rcases Bool.or_eq_true_iff.mp cl with z | z
              · rw [z, Bool.true_or]
              · rw [(Bool.and_eq_true_iff.mp z).2, Bool.or_true]
            obtain ⟨Pa, F2, n2, s2, keep, paN, off⟩ := call_back n1 s1 hs q1 hc ha nF hF st lo cl2
            refine h1 v Pa H' F2 S n2 s2 ⟨keep S v w ?_ tm.ow, fun b hb => paN b (tm.np b hb), tm.al, fun b hb i q => ?_, tm.kd⟩ fun b hb => ?_
            · rcases Bool.or_eq_true_iff.mp cl with z | z
              · exact .inl z
              · exact .inr (Bool.and_eq_true_iff.mp z).1
            · rcases off i b q with ⟨j, y⟩ | ⟨y, no⟩
              · exact tm.dj b hb j y
              · rcases src b hb with ⟨j, x⟩ | x
                · exact no j x
                · exact n1.al i b y x
            · rcases src b hb with ⟨j, _, i, _, x⟩ | x
              · exact s1.sub i b x
              · exact .inr (Classical.byContradiction fun q => s1.al b q x)
          · rw [if_neg cl] at h1; exact h1.elim
    · rw [if_neg hc] at h1
      exact h1.elim
section
variable {j : Nat} {m : Str} {io : List Bool} {spec : CSpec} {fa : FA} {es : List Expr} {apos : Pos}
theorem meth_rd {P H : Hp} {F : Nat → Ad} {σ : L2.St} {ρ : Rho} {Q : VK} {a : Addr} {w : Vl} (nw : Now G P H σ ρ F) (hs : σ[i]? = some (some (.ref a))) (hw : look ρ (.brw i) = some w) (hd : ∀ d, w ≠ .dat d) (h : EndO G W P H F σ Q (fCall io spec (aCons (fV i) fa) ρ)) :
    tA G W fa σ H (fun vs H1 => spV G io spec (.ref a :: vs) H1 Q (fun cls d H' => W cls d σ H')) := ta_first nw hs hw hd (call_rdE nw h)
theorem e_meth (cx : Cxt G X W k) (cm : CalM X.prog G X.mg X.base j c m (true :: io) spec) (hw : X.w = G.w) (hj : j ≤ k) (ho : PE X (.Name x p3) (tVar i)) (ha : PA X (e :: es) (tA G W fa)) {pl : Sem Bool}
    (hst : starEach (e :: es) X.env = (false, eval e X.env) :: starEach es X.env := by rfl) (hpl : (backTo pos (starEach es X.env)).any (·.1) = false := by rfl)
    (ht : eval (.Call (.Attribute (.Name x p3) m apos) (e :: es) [] pos) X.env = (do
      let ov ← eval (.Name x p3) X.env
      standAt apos.atName
      let (f, first) ← holding [ov] (getMethod ov m pl)
      callWith pos f first (backTo pos (starEach (e :: es) X.env)) (backToKw pos (keywordEach [] X.env))) := by rfl) :
    PE X (.Call (.Attribute (.Name x p3) m apos) (e :: es) [] pos) (tE G W (fMeth i c m io spec fa)) := by
  obtain ⟨f, fd, ps, F, hm, cl, hb⟩ := cm.ex
  have F' : FnG X.prog X.w X.K X.mg X.base k f fd ps (spV G (true :: io) spec) := by rw [hw, cx.K]; exact F.mono hj
  have hm' : Meth X.K (G.cl c) m f := by rw [cx.K]; exact hm
  have cl' : Cls X.K (G.cl c) := by rw [cx.K]; exact cl
  have hb' : Binds X.K fd ps [] := by rw [cx.K]; exact hb
  refine ⟨fun pins s σ H Q I h => ?_⟩
  obtain ⟨ρ, P, Fm, nw, h⟩ := h
  unfold fMeth at h
  split at h
  · rename_i c' fs el
    split at h
    · rename_i hc
      obtain ⟨rfl, hn⟩ := hc
      obtain ⟨a, dx, fv, hs, hF, hH, hd⟩ := now_ob nw el
      refine PySem.W.methodCall_KW (pl := pl) (thn (ho.run pins s σ H (fun x H1 => x = .ref a ∧ H1 = H) I ⟨.ref a, hs, rfl, rfl⟩) fun u s1 ⟨y, H1, I1, rx, ex, eh⟩ => ?_) ht
      subst ex
      subst eh
      obtain rfl : u = Value.ref a := rx
      refine getmeth_ok I1 hH cl' hm' (flds_none hd hn) ?_
      refine PySem.W.callWith_K (first := [.ref a]) (h₀ := X.base) I.ok.mod.kin hm'.kp (thn (ha.run pos pins s1 σ H1 _ I1 (meth_rd nw hs el (fun _ z => nomatch z) h)) fun us s2 ⟨vs, H2, I2, r, q2⟩ => ⟨I2.kIn, ?_⟩) hst hpl
      exact run_fnG (us := .ref a :: us) (vs := .ref a :: vs) F' cx hb' I2 (.cons rfl r) q2
    · exact h.elim
  · exact h.elim
theorem e_meth0 (cx : Cxt G X W k) (cm : CalM X.prog G X.mg X.base j c m [true] spec) (hw : X.w = G.w) (hj : j ≤ k) (ho : PE X (.Name x p3) (tVar i)) {pl : Sem Bool}
    (ht : eval (.Call (.Attribute (.Name x p3) m apos) [] [] pos) X.env = (do
      let ov ← eval (.Name x p3) X.env
      standAt apos.atName
      let (f, first) ← holding [ov] (getMethod ov m pl)
      callWith pos f first (backTo pos (starEach [] X.env)) (backToKw pos (keywordEach [] X.env))) := by rfl) :
    PE X (.Call (.Attribute (.Name x p3) m apos) [] [] pos) (tE G W (fMeth i c m [] spec aNil)) := by
  obtain ⟨f, fd, ps, F, hm, cl, hb⟩ := cm.ex
  have F' : FnG X.prog X.w X.K X.mg X.base k f fd ps (spV G [true] spec) := by rw [hw, cx.K]; exact F.mono hj
  have hm' : Meth X.K (G.cl c) m f := by rw [cx.K]; exact hm
  have cl' : Cls X.K (G.cl c) := by rw [cx.K]; exact cl
  have hb' : Binds X.K fd ps [] := by rw [cx.K]; exact hb
  refine ⟨fun pins s σ H Q I h => ?_⟩
  obtain ⟨ρ, P, Fm, nw, h⟩ := h
  unfold fMeth at h
  split at h
  · rename_i c' fs el
    split at h
    · rename_i hc
      obtain ⟨rfl, hn⟩ := hc
      obtain ⟨a, dx, fv, hs, hF, hH, hd⟩ := now_ob nw el
      refine PySem.W.methodCall_KW (pl := pl) (thn (ho.run pins s σ H (fun x H1 => x = .ref a ∧ H1 = H) I ⟨.ref a, hs, rfl, rfl⟩) fun u s1 ⟨y, H1, I1, rx, ex, eh⟩ => ?_) ht
      subst ex
      subst eh
      obtain rfl : u = Value.ref a := rx
      refine getmeth_ok I1 hH cl' hm' (flds_none hd hn) ?_
      obtain ⟨ρ', P', F'', n', h'⟩ := meth_rd nw hs el (fun _ z => nomatch z) h
      have q2 := h' [] P' H1 F'' nobody n' Stp.refl trivial fun b z => z.elim
      exact PySem.W.callWith_K0 (first := [.ref a]) I1.kIn hm'.kp (run_fnG (us := [.ref a]) (vs := [.ref a]) F' cx hb' I1 (.cons rfl .nil) q2)
    · exact h.elim
  · exact h.elim
end
end
end Mi
end
section
set_option Elab.async false
set_option linter.all false
set_option maxRecDepth 100000
set_option maxHeartbeats 1000000
/-! Ev45: an own instance is made -/
namespace Mi
open PySem L2 PyProof.Rows
/-- operands that are values: their data -/
def argD : List Opd → Option (List PyData)
  | [] => some []
  | .val w :: os => (viewD w).bind fun d => (argD os).map fun ds => d :: ds
  | .brw _ :: _ => none
theorem argD_W {ρ : Rho} : ∀ {os : List Opd} {ds : List PyData}, argD os = some ds → argW ρ (List.replicate ds.length false) os = some (ds.map .dat) ∧ (∀ n, noBor (List.replicate n false) os = true) ∧ os.length = ds.length
  | [], ds, h => by cases h; exact ⟨rfl, fun n => by cases n <;> rfl, rfl⟩
  | .val w :: os, ds, h => by
    unfold argD at h
    obtain ⟨d, hd, h⟩ := Option.bind_eq_some_iff.mp h
    obtain ⟨ds', h2, rfl⟩ := Option.map_eq_some_iff.mp h
    obtain ⟨a, b, c⟩ := argD_W (ρ := ρ) h2
    refine ⟨?_, fun n => ?_, by simp [c]⟩
    · show ((look ρ (.val w)).bind viewD).bind (fun d => (argW ρ (List.replicate ds'.length false) os).map fun ws => Vl.dat d :: ws) = _
      rw [look_val, Option.bind_some, hd, Option.bind_some, a]; rfl
    · cases n with
      | zero => rfl
      | succ n =>
        have := b n
        unfold noBor at this ⊢
        rw [List.replicate_succ, List.zip_cons_cons, List.all_cons, this]; rfl
  | .brw _ :: _, ds, h => by cases h
theorem ioC_fls {n : Nat} {os : List Opd} : ioC (List.replicate n false) os = true := by
  unfold ioC
  rw [List.all_eq_true]
  intro p hp
  rw [List.eq_of_mem_replicate (List.of_mem_zip (a := p.1) (b := p.2) hp).1]
  rfl
theorem setIO_fls {ρ : Rho} : ∀ {n : Nat} {os : List Opd} {outs : List (Option Vl)}, setIO ρ (List.replicate n false) os outs = ρ
  | 0, os, outs => by cases os <;> cases outs <;> rfl
  | n + 1, [], [] => rfl
  | n + 1, [], _ :: _ => rfl
  | n + 1, o :: os, [] => rfl
  | n + 1, o :: os, w :: outs => setIO_fls (n := n) (os := os) (outs := outs)
theorem ioAt_fls {n j : Nat} : ioAt (List.replicate n false) j = false := by
  unfold ioAt
  rw [List.getD_eq_getElem?_getD, List.getElem?_replicate]
  split <;> rfl
def makeO (c : Nat) (ρ : Rho) : COut → Out Opd
  | .ok (.dat .none) (some (.ob c' fs) :: _) => if c' = c then .ok (.val (.ob c fs)) ρ else .stk
  | .exc k _ => .exc k ρ
  | _ => .stk
def fMake (c n : Nat) (spec : CSpec) (fa : FA) : FE := fun ρ => (fa ρ).bind fun os ρ1 => match argD os with
  | some ds => if ds.length = n then makeO c ρ1 (spec (.ob c [] :: ds.map .dat)) else .stk
  | none => .stk
section
variable {G : Glb} {W : WX} {c n : Nat} {spec : CSpec} {fa : FA} {σ : L2.St} {H : Hp} {Q : VK}
def insH (G : Glb) (c : Nat) (y dx : Addr) (H : Hp) : Hp := upd (upd H dx (.own y)) y (.ins (G.cl c) dx [])
theorem insH_old {y dx b : Addr} {o : HO} (hy : H y = none) (hd : H dx = none) (h : H b = some o) : insH G c y dx H b = some o := by
  have h1 : b ≠ y := fun z => by rw [z, hy] at h; cases h
  have h2 : b ≠ dx := fun z => by rw [z, hd] at h; cases h
  unfold insH
  rw [upd_ne h1, upd_ne h2]; exact h
theorem make_rd (h : tE G W (fMake c n spec fa) σ H Q) : tA G W fa σ H (fun vs H1 => ∀ y dx, H1 y = none → H1 dx = none → dx ≠ y → spV G (true :: List.replicate n false) spec (.ref y :: vs) (insH G c y dx H1) (fun v H2 => v = .non ∧ Q (.ref y) H2) (fun cls d H' => W cls d σ H')) := by
  obtain ⟨ρ, P, F, nw, h⟩ := h
  refine tA_bind (End := fun P H F => EndO G W P H F σ Q) nw h (fun _ _ z => z) (fun z => z) fun os ρ1 vs P1 H1 F1 S1 e1 h1 n1 s1 hs q1 => ?_
  intro y dx hy hdx hne
  cases ha : argD os with
  | none => rw [ha] at h1; exact h1.elim
  | some ds =>
    rw [ha] at h1
    simp only at h1
    by_cases hlen : ds.length = n
    case neg => rw [if_neg hlen] at h1; exact h1.elim
    rw [if_pos hlen] at h1
    subst hlen
    obtain ⟨aW, nB, lo⟩ := argD_W (ρ := ρ1) ha
    obtain ⟨l1, l2, l3, _⟩ := argW_at hs aW
    have n2 := call_in n1 hs (fun b hb => (q1 b hb).1) (ioC_fls (n := ds.length) (os := os)) aW
    have old : ∀ {b : Addr} {o : HO}, H1 b = some o → insH G c y dx H1 b = some o := fun h => insH_old hy hdx h
    have nold : ∀ {b : Addr}, H1 b ≠ none → insH G c y dx H1 b ≠ none := fun {b} h => by
      cases q : H1 b with
      | none => exact (h q).elim
      | some o => rw [old q]; exact fun z => nomatch z
    have aty : insH G c y dx H1 y = some (.ins (G.cl c) dx []) := upd_same
    have noF : ∀ j b, ¬ inF (List.replicate ds.length false) os F1 j b := fun j b z => by
      have := z.1
      rw [ioAt_fls] at this; cases this
    let Fy : Nat → Ad := fun j b => j = 0 ∧ b = y
    have nY : Now G (froz P1 H1 (inZ (List.replicate ds.length false) os F1 S1)) (insH G c y dx H1) (some (.ref y) :: vs.map some) (some (.ob c []) :: (ds.map Vl.dat).map some) Fy := by
      refine ⟨fun b o h => old (n2.ex b o h), fun i j a hi hj => by rw [hi.1, hj.1], fun i a hi => ?_, fun i a hi => by rw [hi.2, aty]; exact (fun z => nomatch z), fun i w hw => ?_, fun i b o hi ho => ?_⟩
      · rw [hi.2]; exact same_none n2.ex hy
      · cases i with
        | zero =>
          simp at hw
          subst hw
          exact ⟨.ref y, rfl, y, dx, [], rfl, ⟨rfl, rfl⟩, aty, trivial⟩
        | succ i =>
          obtain ⟨v, h1, h2⟩ := n2.rd i w (by simpa using hw)
          refine ⟨v, by simpa using h1, ?_⟩
          have hwd : ∃ d, w = .dat d := by
            have hw' : ((ds.map Vl.dat).map some)[i]? = some (some w) := by simpa using hw
            rw [List.map_map, List.getElem?_map] at hw'
            obtain ⟨d, _, e⟩ := Option.map_eq_some_iff.mp hw'
            exact ⟨d, (Option.some.inj e).symm⟩
          obtain ⟨d, rfl⟩ := hwd
          exact h2
      · rw [hi.2, aty] at ho
        cases ho; rfl
    refine ⟨.ob c [] :: ds.map .dat, _, Fy, by simp [l2], by simp, nY, fun j b hj => by rw [hj.1]; rfl, ?_⟩
    -- what comes back
    have back : ∀ {P' H' : Hp} {F' : Nat → Ad} {o0 : Option Vl} {outs : List (Option Vl)}, Now G P' H' ((V.ref y :: vs).map some) (o0 :: outs) F' → (∀ j b, F' j b → ioAt (true :: List.replicate ds.length false) j = true) →
        Stp (froz P1 H1 (inZ (List.replicate ds.length false) os F1 S1)) (insH G c y dx H1) Fy P' H' F' → outs.length = ds.length →
        ∃ Pa F2, Now G Pa H' σ ρ1 F2 ∧ Stp P H F Pa H' F2 ∧ (∀ S v w, Ow G P' H' S v w → Ow G Pa H' S v w) ∧ (∀ b, P' b = none → Pa b = none) ∧ (∀ i b, F2 i b → (∃ j, F' (j + 1) b) ∨ F1 i b) ∧ ∀ b, F' 0 b → H1 b = none := by
      intro P' H' F' o0 outs nF hF st lo2
      have nF2 : Now G P' H' (vs.map some) outs (fun j => F' (j + 1)) := ⟨nF.ex, fun i j a hi hj => by have := nF.dj _ _ _ hi hj; omega, fun i a hi => nF.np _ a hi, fun i a hi => nF.al _ a hi, fun i w hw => by
        obtain ⟨v, h1, h2⟩ := nF.rd (i + 1) w (by simpa using hw)
        exact ⟨v, by simpa using h1, h2⟩, fun i b o hi ho => nF.kd _ b o hi ho⟩
      have st2 : Stp (froz P1 H1 (inZ (List.replicate ds.length false) os F1 S1)) H1 (inF (List.replicate ds.length false) os F1) P' H' (fun j => F' (j + 1)) := by
        refine ⟨st.ex, fun b o h _ => st.fr b o (old h) fun i hi => ?_, fun i b hb => ?_, fun b hb => ?_, fun b hb => st.al b (nold hb)⟩
        · rw [hi.2, hy] at h; cases h
        · rcases st.sub (i + 1) b hb with ⟨j, hj⟩ | z
          · right; rw [hj.2]; exact hy
          · exact .inr (Classical.byContradiction fun q => nold q z)
        · rcases st.pn b hb with z | ⟨j, hj⟩ | z
          · exact .inl z
          · right; right; rw [hj.2]; exact hy
          · exact .inr (.inr (Classical.byContradiction fun q => nold q z))
      obtain ⟨Pa, F2, n3, s3, keep, paN, off⟩ := call_back n1 s1 hs q1 ioC_fls aW nF2 (fun j b hb => by simpa only [ioAt_cons] using hF (j + 1) b hb) st2 (by simpa using lo2) (by rw [nB]; rfl)
      rw [setIO_fls] at n3
      refine ⟨Pa, F2, n3, s3, fun S v w h => keep S v w (.inl (nB _)) h, paN, fun i b hb => (off i b hb).imp id fun z => z.1, fun b hb => ?_⟩
      rcases st.sub 0 b hb with ⟨j, hj⟩ | z
      · rw [hj.2]; exact hy
      · exact Classical.byContradiction fun q => nold q z
    cases hsp : spec (.ob c [] :: ds.map .dat) with
    | stk => rw [hsp] at h1; exact h1.elim
    | exc k outs =>
      rw [hsp] at h1
      intro P' H' F' nF hF st lo2
      cases outs with
      | nil => simp at lo2
      | cons o0 outs =>
        obtain ⟨Pa, F2, n3, s3, _⟩ := back nF hF st (by simpa using lo2)
        exact h1 Pa H' F2 n3 s3
    | ok w outs =>
      rw [hsp] at h1
      unfold makeO at h1
      split at h1
      · rename_i c' fs outs' heq
        injection heq with ew eo
        subst ew
        subst eo
        split at h1
        · rename_i ec
          subst ec
          intro v P' H' F' S nF hF st tm src lo2
          obtain ⟨Pa, F2, n3, s3, keep, paN, off, h0⟩ := back nF hF st (by simpa using lo2)
          have ev : v = .non := by
            have := tm.ow
            cases this; rfl
          refine ⟨ev, ?_⟩
          obtain ⟨v0, hv0, ow0⟩ := nF.rd 0 (.ob c' fs) rfl
          have e0 : v0 = .ref y := by simpa using hv0.symm
          subst e0
          refine h1 (.ref y) Pa H' F2 (F' 0) n3 s3 ⟨keep _ _ _ ow0, fun b hb => paN b (nF.np 0 b hb), fun b hb => nF.al 0 b hb, fun b hb i hi => ?_, fun b o hb ho => nF.kd 0 b o hb ho⟩ fun b hb => ?_
          · rcases off i b hi with ⟨j, hj⟩ | hj
            · have := nF.dj _ _ _ hb hj; omega
            · exact n1.al i b hj (h0 b hb)
          · exact .inr (Classical.byContradiction fun q => s1.al b q (h0 b hb))
        · exact h1.elim
      · rename_i heq
        cases heq
      · exact h1.elim
end
/-- the class number c of the name, its __init__ -/
structure CalN (P : Program) (G : Glb) (mg : Str → Option Value) (base : Heap) (k : Nat) (name : Str) (c : Nat) (io : List Bool) (spec : CSpec) : Prop where
  ex : ∃ (f : Addr) (fd : FuncData) (ps : List Str), FnG P G.w G.K mg base k f fd ps (spV G io spec) ∧ Mk G.K (G.cl c) f ∧ mg name = some (.ref (G.cl c)) ∧ Binds G.K fd ps []
section
variable {X : Cx} {G : Glb} {W : WX} {k j c n : Nat} {spec : CSpec} {fa : FA} {x : Str} {p pos : Pos} {e : Expr} {es : List Expr} {C f : Addr} {fd : FuncData} {ps : List Str} {sp : Sp}
theorem run_makeG {pins : List (Addr × Obj)} {σ : L2.St} {H : Hp} {s : Shared} {Q : VK} {us : List Value} {vs : List V} (M : Mk X.K C f) (F : FnG X.prog X.w X.K X.mg X.base j f fd ps sp) (cx : Cxt G X W k) (hj : j + 1 ≤ k) (hb : Binds X.K fd ps []) (I : Inv X pins σ H s) (r : Vals vs us)
    (h : ∀ x dx, H x = Option.none → H dx = Option.none → dx ≠ x → sp (V.ref x :: vs) (upd (upd H dx (.own x)) x (.ins C dx [])) (fun v H2 => v = .non ∧ Q (.ref x) H2) (fun cls d H' => W cls d σ H')) :
    wpAny (model X.prog X.w) X.A (call (.ref C) us) (EP X pins σ Q) X.xe s := by
  have hq := h (s.heap.objs.size + 1) s.heap.objs.size (I.hok.fresh (Nat.le_succ _)) (I.hok.fresh (Nat.le_refl _)) (Nat.ne_of_lt (Nat.lt_succ_self _))
  have I2 := Inv.made (C := C) I
  have r2 : Vals (V.ref (s.heap.objs.size + 1) :: vs) (Value.ref (s.heap.objs.size + 1) :: us) := .cons rfl r
  have hl : (Value.ref (s.heap.objs.size + 1) :: us).length = ps.length := r2.length.symm.trans (F.len _ _ _ _ hq)
  have b := hb _ (Value.ref (s.heap.objs.size + 1) :: us) I2.kIn (by rw [List.append_nil]; exact hl)
  rw [List.append_nil] at b
  refine wpAny_call (make_map (f := f) I.kIn M.makes M.init (beq_iff_eq.mp M.fn) (codeAny_mono (F.run _ X.stack _ _ _ (Value.ref (s.heap.objs.size + 1) :: us) _ _ _ (RoomG.make ⟨cx.room.mono hj, cx.gd⟩ C us []) (I2.env0.make C us []) b r2 hq) fun r s' hq' => ?_))
  cases r with
  | error e => exact L2N.passAt cx.tk σ pins _ _ e s' I2 hq'
  | ok fl =>
    cases fl with
    | ret u =>
      obtain ⟨v, H', I3, rv, ev, q3⟩ := I2.after hq'
      subst ev
      exact ⟨rv, ⟨V.ref (s.heap.objs.size + 1), H', I3, rfl, q3⟩⟩
    | next => exact False.elim hq'
    | brk => exact False.elim hq'
    | cont => exact False.elim hq'
theorem e_make (cx : Cxt G X W k) (m : CalN X.prog G X.mg X.base j x c (true :: List.replicate n false) spec) (hw : X.w = G.w) (hj : j + 1 ≤ k) (ha : PA X (e :: es) (tA G W fa)) (hg : Gl X x := by rfl) (hdb : (x == ("__debug__" : Str)) = false := by decide)
    (he : starEach (e :: es) X.env = (false, eval e X.env) :: starEach es X.env := by rfl) (hpl : (backTo pos (starEach es X.env)).any (·.1) = false := by rfl) :
    PE X (.Call (.Name x p) (e :: es) [] pos) (tE G W (fMake c n spec fa)) := by
  obtain ⟨f, fd, ps, F, M, hm, hb⟩ := m.ex
  have F' : FnG X.prog X.w X.K X.mg X.base j f fd ps (spV G (true :: List.replicate n false) spec) := by rw [hw, cx.K]; exact F
  have M' : Mk X.K (G.cl c) f := by rw [cx.K]; exact M
  have hb' : Binds X.K fd ps [] := by rw [cx.K]; exact hb
  refine ⟨fun pins s σ H Q I h => ?_⟩
  refine wpAny_Call_Name_kw (ld_glob I hg hm ?_ hdb)
  refine PySem.W.callWith_K (h₀ := X.base) I.ok.mod.kin M'.kp (thn (ha.run pos pins s σ H _ I (make_rd h)) fun us s1 ⟨vs, H1, I1, r, q⟩ => ⟨I1.kIn, ?_⟩) he hpl
  exact run_makeG M' F' cx hj hb' I1 r fun y dx h1 h2 h3 => q y dx h1 h2 h3
end
/-! ### self.f += e, whole numbers -/
def incO (i c : Nat) (f : Str) (m : Int) (o : Opd) (ρ : Rho) : SO := match look ρ o with
  | some (.dat (.int j)) => putO i c f (.int (m + j)) ρ
  | _ => .stk
def sInc (i c : Nat) (f : Str) (fe : FE) : FS := fun ρ => match look ρ (.brw i) with
  | some (.ob c' fs) => if c' = c then (match fs.lookup f with
    | some (.int m) => (fe ρ).bindS fun o ρ1 => incO i c f m o ρ1
    | _ => .stk) else .stk
  | _ => .stk
section
variable {X : Cx} {W : WX} {G : Glb} {n i c : Nat} {π : List Bool} {value : Expr} {f x : Str} {fe : FE} {pos pos' p3 : Pos}
theorem s_inc (hK : X.K = G.K) (cl : Cls G.K (G.cl c)) (na : NoAttr G.K (G.cl c) f) (ho : PE X (.Name x p3) (tVar i)) (hv : PE X value (tE G W fe)) :
    PS X (.AugAssign (.Attribute (.Name x p3) f pos') .Add value pos) (tS G W n π (sInc i c f fe)) := PS.imp (ps_fldaug ho hv in_add) fun D σ H ⟨ρ, P, F, nw, hl, h⟩ => by
  rw [hK]
  unfold sInc at h
  split at h
  · rename_i c' fs el
    split at h
    · rename_i ec
      subst ec
      split at h
      · rename_i m em
        obtain ⟨a, dx, fv, hs, hF, hH, hd⟩ := now_ob nw el
        obtain ⟨v, hv', hdv⟩ := flds_look hd em
        have ev : v = .int m := by cases hdv; rfl
        subst ev
        refine ⟨.ref a, hs, a, _, dx, fv, _, rfl, hH, cl, na, hv', ?_⟩
        refine tE_bindS nw hl h fun o ρ1 y P1 H1 F1 S _ n1 s1 hx q1 h0 => ?_
        unfold incO at h0
        split at h0
        · rename_i j ej
          have ey : y = .int j := ow_int (hx.look n1 ej)
          subst ey
          refine ⟨m, j, rfl, rfl, ?_⟩
          unfold putO at h0
          split at h0
          · rename_i c2 fs2 el2
            split at h0
            · rename_i hc
              obtain ⟨rfl, hz⟩ := hc
              obtain ⟨a2, dx2, fv2, hs2, hF2, hH2, hd2⟩ := now_ob n1 el2
              have ea : a2 = a := by rw [hs] at hs2; simpa using hs2.symm
              subst ea
              have h2 := EndS.trans s1 (Kp.refl hl) h0
              have l1 := flds_len hd2
              exact ⟨dx2, fv2, hH2, by omega, h2 σ P1 _ F1 (now_updO n1 hs2 hF2 (flds_put (Dp.int _) hd2)) (stp_updO n1 Stp.refl hF2) (Kp.refl hl)⟩
            · exact h0.elim
          · exact h0.elim
        · exact h0.elim
      · exact h.elim
    · exact h.elim
  · exact h.elim
end
end Mi
end
section
set_option Elab.async false
set_option linter.all false
set_option maxRecDepth 100000
set_option maxHeartbeats 1000000
/-! Ev46: a class of the text: its methods -/
namespace Mi
open PySem PySem.Spec PyProof.Rows L2
/-- the statements of a class -/
def clsBody (s : Stmt) : List Stmt := match s with
  | .ClassDef _ _ _ b .. => b
  | _ => []
structure MDef (G : Glb) (c : Nat) (m qual : Str) (st : Stmt) (ps : List Str) : Prop where
  ex : ∃ (f : Addr) (fd : FuncData), Fun G.K m qual st f fd ∧ Meth G.K (G.cl c) m f ∧ Cls G.K (G.cl c) ∧ Binds G.K fd ps []
structure NDef (G : Glb) (mg : Str → Option Value) (name : Str) (c : Nat) (qual : Str) (st : Stmt) (ps : List Str) : Prop where
  ex : ∃ (f : Addr) (fd : FuncData), Fun G.K "__init__" qual st f fd ∧ Mk G.K (G.cl c) f ∧ mg name = some (.ref (G.cl c)) ∧ Binds G.K fd ps []
section
variable {P : Program} {G : Glb} {mg : Str → Option Value} {base : Heap} {k n c : Nat} {name m qual : Str} {st : Stmt} {N ps : List Str} {io : List Bool} {fs : FS} {spec spec' : CSpec}
theorem MDef.cal (d : MDef G c m qual st ps) (S : FnScope N ps (defScope st)) (hio : io.length = ps.length) (hn : N.length = n)
    (body : ∀ (f : Addr) (cdv : Value) (A : Around) (outer : List Env) (s : Shared) (H : Hp) (E : XK), Cxt G (cxOf (L2N.CX P G.w) P G.w G.K mg base N qual (defScope st) f cdv A outer s H E) (fun cls d _ H => E cls d H) k →
      PSs (cxOf (L2N.CX P G.w) P G.w G.K mg base N qual (defScope st) f cdv A outer s H E) (defBody st) (tS G (fun cls d _ H => E cls d H) n io fs)) :
    CalM P G mg base (k + 1) c m io (specOf io n fs) := by
  obtain ⟨f, fd, Fn, hm, hk, hb⟩ := d.ex
  exact ⟨f, fd, ps, fn_def Fn S hio hn (body f), hm, hk, hb⟩
theorem NDef.cal (d : NDef G mg name c qual st ps) (S : FnScope N ps (defScope st)) (hio : io.length = ps.length) (hn : N.length = n)
    (body : ∀ (f : Addr) (cdv : Value) (A : Around) (outer : List Env) (s : Shared) (H : Hp) (E : XK), Cxt G (cxOf (L2N.CX P G.w) P G.w G.K mg base N qual (defScope st) f cdv A outer s H E) (fun cls d _ H => E cls d H) k →
      PSs (cxOf (L2N.CX P G.w) P G.w G.K mg base N qual (defScope st) f cdv A outer s H E) (defBody st) (tS G (fun cls d _ H => E cls d H) n io fs)) :
    CalN P G mg base (k + 1) name c io (specOf io n fs) := by
  obtain ⟨f, fd, Fn, hm, hk, hb⟩ := d.ex
  exact ⟨f, fd, ps, fn_def Fn S hio hn (body f), hm, hk, hb⟩
theorem CalM.imp (h : CalM P G mg base k c m io spec) (e : ∀ ws, spec' ws ≠ .stk → spec ws = spec' ws) : CalM P G mg base k c m io spec' := by
  obtain ⟨f, fd, ps, F, r⟩ := h.ex
  exact ⟨f, fd, ps, spec_imp F e, r⟩
theorem CalN.imp (h : CalN P G mg base k name c io spec) (e : ∀ ws, spec' ws ≠ .stk → spec ws = spec' ws) : CalN P G mg base k name c io spec' := by
  obtain ⟨f, fd, ps, F, r⟩ := h.ex
  exact ⟨f, fd, ps, spec_imp F e, r⟩
/-- the names that no class of it has -/
abbrev NoAts (K : PySem.W.Frag) (C : Addr) (l : List Str) : Prop := ∀ f, l.contains f = true → NoAttr K C f
theorem NoAts.at {K : PySem.W.Frag} {C : Addr} {l : List Str} (h : NoAts K C l) (f : Str) (hf : l.contains f = true) : NoAttr K C f := h f hf
end
end Mi
end
section
set_option Elab.async false
set_option linter.all false
set_option maxRecDepth 100000
set_option maxHeartbeats 1000000
/-! Ev47: tuple(range(..)), list(range(..)) -/
namespace Mi
open PySem PySem.Spec PyProof.Rows L2
theorem dpa_rg {K : PySem.W.Frag} {P : Hp} (a b : Int) : DpAll K P (rgV a b) (rangeD a b) := by
  unfold rgV rangeD
  generalize (b - a).toNat = n
  have : ∀ l : List Nat, DpAll K P (l.map fun i => V.int (a + (i : Nat))) (l.map fun i => PyData.int (a + (i : Nat))) := fun l => by
    induction l with
    | nil => exact .nil
    | cons i l ih => exact .cons (.int _) ih
  exact this _
noncomputable def gTupR1 : Vl → Option Vl
  | .dat (.int n) => gd (RgOk 0 n) (.dat (.tuple (rangeD 0 n)))
  | _ => none
noncomputable def gLstR1 : Vl → Option Vl
  | .dat (.int n) => gd (RgOk 0 n) (.ml (rangeD 0 n))
  | _ => none
section
variable {X : Cx} {W : WX} {G : Glb} {k : Nat} {e : Expr} {fe : FE} {p p2 pos pos2 : Pos}
theorem e_tupR1 (cx : Cxt G X W k) (hm : X.mg "tuple" = none) (hr : X.mg "range" = none) (he : PE X e (tE G W fe)) (hg : Gl X "tuple" := by rfl) (hg2 : Gl X "range" := by rfl)
    (na : starEach [e] X.env = (false, eval e X.env) :: starEach [] X.env := by rfl) (na2 : starEach [.Call (.Name "range" p2) [e] [] pos2] X.env = (false, eval (.Call (.Name "range" p2) [e] [] pos2) X.env) :: starEach [] X.env := by rfl) :
    PE X (.Call (.Name "tuple" p) [.Call (.Name "range" p2) [e] [] pos2] [] pos) (tE G W (una gTupR1 fe)) :=
  PE.imp (pe_tupRg cx.calm hg hm (prg_1 hg2 hr he na) na2) fun σ H Q h => by
    refine una_ok (r := fun x H1 Q => ∃ n, x = .int n ∧ RgOk 0 n ∧ ∀ q, H1 q = none → Q (.ref q) (upd H1 q (.tup (rgV 0 n)))) (fun P H x a w Q e hx hw q => ?_) h
    unfold gTupR1 at hw
    split at hw
    · rename_i n
      obtain ⟨hk, rfl⟩ := gd_some hw
      have ex := ow_int hx
      exact ⟨n, ex, hk, fun l hl => q _ (upd P l (.tup (rgV 0 n))) _ _ (Alc.tup e hl) (.tup (.inl (.inl upd_same)) (dpa_rg 0 n))⟩
    · cases hw
theorem e_lstR1 (cx : Cxt G X W k) (hm : X.mg "list" = none) (hr : X.mg "range" = none) (he : PE X e (tE G W fe)) (hg : Gl X "list" := by rfl) (hg2 : Gl X "range" := by rfl)
    (na : starEach [e] X.env = (false, eval e X.env) :: starEach [] X.env := by rfl) (na2 : starEach [.Call (.Name "range" p2) [e] [] pos2] X.env = (false, eval (.Call (.Name "range" p2) [e] [] pos2) X.env) :: starEach [] X.env := by rfl) :
    PE X (.Call (.Name "list" p) [.Call (.Name "range" p2) [e] [] pos2] [] pos) (tE G W (una gLstR1 fe)) :=
  PE.imp (pe_listRg cx.calm hg hm (prg_1 hg2 hr he na) na2) fun σ H Q h => by
    refine una_ok (r := fun x H1 Q => ∃ n, x = .int n ∧ RgOk 0 n ∧ ∀ q, H1 q = none → Q (.ref q) (upd H1 q (.lst (rgV 0 n)))) (fun P H x a w Q e hx hw q => ?_) h
    unfold gLstR1 at hw
    split at hw
    · rename_i n
      obtain ⟨hk, rfl⟩ := gd_some hw
      have ex := ow_int hx
      exact ⟨n, ex, hk, fun l hl => q _ P _ _ (Alc.own e hl) ⟨l, _, rfl, rfl, upd_same, dpa_rg 0 n⟩⟩
    · cases hw
end
end Mi
end
section
set_option Elab.async false
set_option linter.all false
set_option maxRecDepth 100000
set_option maxHeartbeats 1000000
/-! Ev48: C(..).m(): a method of a fresh instance -/
namespace Mi
open PySem PySem.Spec PyProof.Rows L2
def tmpO (spec : CSpec) (c : Nat) (fs : List (Str × PyData)) (ρ : Rho) : Out Opd := match spec [.ob c fs] with
  | .ok w _ => .ok (.val w) ρ
  | .exc k _ => .exc k ρ
  | .stk => .stk
section
variable {G : Glb} {W : WX} {c : Nat} {spec : CSpec} {σ : L2.St} {ρ1 : Rho} {P H P1 H1 : Hp} {F F1 : Nat → Ad} {S : Ad} {Q : VK} {a : Addr} {fs : List (Str × PyData)}
theorem meth_tmp (n1 : Now G P1 H1 σ ρ1 F1) (s1 : Stp P H F P1 H1 F1) (t : Tmp G P1 H1 F1 S (.ref a) (.ob c fs)) (src : ∀ b, S b → (∃ i, F i b) ∨ H b = none) (h : EndO G W P H F σ Q (tmpO spec c fs ρ1)) : spV G [true] spec [.ref a] H1 Q (fun cls d H' => W cls d σ H') := by
  have nonH : ∀ {b : Addr}, H1 b = none → H b = none := fun {b} h => Classical.byContradiction fun q => s1.al b q h
  have back : ∀ {P' H' : Hp} {F' : Nat → Ad}, Same P' H' → Stp P1 H1 (fun j b => j = 0 ∧ S b) P' H' F' → Now G P' H' σ ρ1 F1 ∧ Stp P H F P' H' F1 := by
    intro P' H' F' ex st
    have keep : ∀ i b o, F1 i b → H1 b = some o → H' b = some o := fun i b o hi ho => st.fr b o ho fun j hj => t.dj b hj.2 i hi
    refine ⟨⟨ex, n1.dj, fun i b hi => ?_, fun i b hi => st.al b (n1.al i b hi), fun i w hw => ?_, fun i b o hi ho => ?_⟩, ⟨fun b o hb => st.ex b o (s1.ex b o hb), fun b o ho hf => ?_, s1.sub, fun b hb => ?_, fun b hb => st.al b (s1.al b hb)⟩⟩
    · refine Classical.byContradiction fun q => ?_
      rcases st.pn b q with z | ⟨j, hj⟩ | z
      · exact z (n1.np i b hi)
      · exact t.dj b hj.2 i hi
      · exact n1.al i b hi z
    · obtain ⟨v, h1, h2⟩ := n1.rd i w hw
      exact ⟨v, h1, h2.mono st.ex (fun b o hb q => keep i b o hb q) fun b hb => hb⟩
    · cases q : H1 b with
      | none => exact (n1.al i b hi q).elim
      | some o1 =>
        have := keep i b o1 hi q
        rw [this] at ho
        cases ho
        exact n1.kd i b _ hi q
    · refine st.fr b o (s1.fr b o ho hf) fun j hj => ?_
      rcases src b hj.2 with ⟨i, hi⟩ | z
      · exact hf i hi
      · rw [z] at ho; cases ho
    · rcases st.pn b hb with z | ⟨j, hj⟩ | z
      · exact s1.pn b z
      · exact .inr (src b hj.2)
      · exact .inr (.inr (nonH z))
  refine ⟨[.ob c fs], P1, fun j b => j = 0 ∧ S b, rfl, rfl, ⟨n1.ex, fun i j b hi hj => by rw [hi.1, hj.1], fun i b hi => t.np b hi.2, fun i b hi => t.al b hi.2, fun i w hw => ?_, fun i b o hi ho => t.kd b o hi.2 ho⟩, fun j b hj => by rw [hj.1]; rfl, ?_⟩
  · cases i with
    | zero =>
      simp at hw
      subst hw
      exact ⟨.ref a, rfl, t.ow.mono (Same.refl _) (fun _ _ _ q => q) fun b hb => ⟨rfl, hb⟩⟩
    | succ i => simp at hw
  · unfold tmpO at h
    cases hsp : spec [.ob c fs] with
    | stk => rw [hsp] at h; exact h.elim
    | exc k outs =>
      rw [hsp] at h
      intro P' H' F' nF hF st lo
      obtain ⟨n2, s2⟩ := back nF.ex st
      exact h P' H' F1 n2 s2
    | ok w outs =>
      rw [hsp] at h
      intro v P' H' F' S' nF hF st tm srcs lo
      obtain ⟨n2, s2⟩ := back nF.ex st
      refine h v P' H' F1 S' n2 s2 ⟨tm.ow, tm.np, tm.al, fun b hb i hi => ?_, tm.kd⟩ fun b hb => ?_
      · rcases srcs b hb with ⟨j, hj⟩ | z
        · exact t.dj b hj.2 i hi
        · exact n1.al i b hi z
      · rcases srcs b hb with ⟨j, hj⟩ | z
        · exact src b hj.2
        · exact .inr (nonH z)
end
def fTmp (c : Nat) (m : Str) (spec : CSpec) (f : FE) : FE := fun ρ => (f ρ).bind fun o ρ1 => match o with
  | .val (.ob c' fs) => if c' = c ∧ fs.lookup m = none then tmpO spec c fs ρ1 else .stk
  | _ => .stk
section
variable {X : Cx} {G : Glb} {W : WX} {k j c : Nat} {spec : CSpec} {m : Str} {o : Expr} {fe : FE} {apos pos : Pos}
theorem e_tmp (cx : Cxt G X W k) (cm : CalM X.prog G X.mg X.base j c m [true] spec) (hw : X.w = G.w) (hj : j ≤ k) (ho : PE X o (tE G W fe)) {pl : Sem Bool}
    (ht : eval (.Call (.Attribute o m apos) [] [] pos) X.env = (do
      let ov ← eval o X.env
      standAt apos.atName
      let (f, first) ← holding [ov] (getMethod ov m pl)
      callWith pos f first (backTo pos (starEach [] X.env)) (backToKw pos (keywordEach [] X.env))) := by rfl) :
    PE X (.Call (.Attribute o m apos) [] [] pos) (tE G W (fTmp c m spec fe)) := by
  obtain ⟨f, fd, ps, F, hm, cl, hb⟩ := cm.ex
  have F' : FnG X.prog X.w X.K X.mg X.base k f fd ps (spV G [true] spec) := by rw [hw, cx.K]; exact F.mono hj
  have hm' : Meth X.K (G.cl c) m f := by rw [cx.K]; exact hm
  have cl' : Cls X.K (G.cl c) := by rw [cx.K]; exact cl
  have hb' : Binds X.K fd ps [] := by rw [cx.K]; exact hb
  refine ⟨fun pins s σ H Q I h => ?_⟩
  obtain ⟨ρ, P, Fm, nw, h⟩ := h
  have rd : tE G W fe σ H (fun x H1 => ∃ a dx fv, x = .ref a ∧ H1 a = some (.ins (G.cl c) dx fv) ∧ fv.lookup m = none ∧ spV G [true] spec [.ref a] H1 Q (fun cls d H' => W cls d σ H')) := by
    refine tE_bind (End := fun P H F => EndO G W P H F σ Q) nw h (fun _ _ z => z) (fun z => z) fun x ρ1 vx P1 H1 F1 S1 e1 h1 n1 s1 hx q1 => ?_
    cases x with
    | brw i => exact h1.elim
    | val w =>
      cases w with
      | dat _ => exact h1.elim
      | ml _ => exact h1.elim
      | mml _ => exact h1.elim
      | st _ => exact h1.elim
      | ob c' fs =>
        simp only at h1
        split at h1
        · rename_i hc
          obtain ⟨rfl, hn⟩ := hc
          have t : Tmp G P1 H1 F1 S1 vx (.ob c' fs) := hx
          obtain ⟨a, dx, fv, rfl, _, hH, hF⟩ := id t.ow
          exact ⟨a, dx, fv, rfl, hH, flds_none hF hn, meth_tmp n1 s1 t q1 h1⟩
        · exact h1.elim
  refine PySem.W.methodCall_KW (pl := pl) (thn (ho.run pins s σ H _ I rd) fun u s1 ⟨x, H1, I1, rx, a, dx, fv, ex, hH, hl, q2⟩ => ?_) ht
  subst ex
  obtain rfl : u = Value.ref a := rx
  refine getmeth_ok I1 hH cl' hm' hl ?_
  exact PySem.W.callWith_K0 (first := [.ref a]) I1.kIn hm'.kp (run_fnG (us := [.ref a]) (vs := [.ref a]) F' cx hb' I1 (.cons rfl .nil) q2)
end
end Mi
end
section
set_option Elab.async false
set_option linter.all false
set_option maxRecDepth 100000
set_option maxHeartbeats 1000000
/-! Ev49: from the facts of the head to classes with methods -/
namespace Mi
open PySem PySem.Spec PyProof.Rows L2
def clOf (l : List Addr) : Nat → Addr := fun i => l.getD i 0
section
variable {h : Heap} {mg : Str → Option Value} {G : Glb} {c : Nat} {name m qual : Str} {st : Stmt} {ps : List Str} {f : Addr} {oc kV doc pm cdv ct : Value} {od an : Option Addr} {osl : Array (Option Value)}
theorem mdef_in (a : PySem.W.findIn G.K (.ref (G.cl c)) m = some (some (.ref f)))
    (l : G.K.lookup f = some ⟨oc, od, .func (PySem.W.fnOf m qual (defArgs st) (defBody st) (defScope st) .none kV doc pm an cdv ct), osl⟩) (cd : PySem.W.codeIn G.K cdv qual = true) (k : PySem.W.keepIn G.K (.ref f) = true) (r : PySem.W.isFn G.K (.ref f) = true) (q : Cls G.K (G.cl c))
    (b : ∀ (kV doc pm : Value) (an : Option Addr) (cdv ct : Value) (us : List Value), us.length = ps.length → bindArgs (PySem.W.fnOf m qual (defArgs st) (defBody st) (defScope st) .none kV doc pm an cdv ct) ⟨us, []⟩ = pure (ps.zip us)) : MDef G c m qual st ps :=
  ⟨f, _, fun_mk l cd k, ⟨a, r, k⟩, q, (fun_mk l cd k).binds b⟩
theorem ndef_in (KX : G.K.In h) (NS : h.Ns mainGlobals mg) (g : PySem.W.nsIn G.K mainGlobals name = some (some (.ref (G.cl c)))) (mk : PySem.W.makesIn G.K (G.cl c) = true) (kc : PySem.W.keepIn G.K (.ref (G.cl c)) = true) (a : PySem.W.findIn G.K (.ref (G.cl c)) "__init__" = some (some (.ref f)))
    (l : G.K.lookup f = some ⟨oc, od, .func (PySem.W.fnOf "__init__" qual (defArgs st) (defBody st) (defScope st) .none kV doc pm an cdv ct), osl⟩) (cd : PySem.W.codeIn G.K cdv qual = true) (k : PySem.W.keepIn G.K (.ref f) = true) (r : PySem.W.isFn G.K (.ref f) = true)
    (b : ∀ (kV doc pm : Value) (an : Option Addr) (cdv ct : Value) (us : List Value), us.length = ps.length → bindArgs (PySem.W.fnOf "__init__" qual (defArgs st) (defBody st) (defScope st) .none kV doc pm an cdv ct) ⟨us, []⟩ = pure (ps.zip us)) : NDef G mg name c qual st ps :=
  ⟨f, _, fun_mk l cd k, ⟨mk, a, r, kc⟩, PySem.W.mg_of KX NS g, (fun_mk l cd k).binds b⟩
end
end Mi
end
section
set_option Elab.async false
set_option linter.all false
set_option maxRecDepth 100000
set_option maxHeartbeats 1000000
/-! Ev50: an expression that reads a slot's own list as data, and gives it back -/
namespace Mi
open PySem PySem.Spec PyProof.Rows L2
def hideV : Option Vl → Option Vl
  | some (.dat d) => some (.dat d)
  | _ => none
/-- the other own things are out of sight, the list of slot i is data -/
def hide (ρ : Rho) (i : Nat) (ds : List PyData) : Rho := (ρ.map hideV).set i (some (.dat (.list ds)))
def frzO (ρ : Rho) : Out Opd → Out Opd
  | .ok (.val w) _ => if clean w = true then .ok (.val w) ρ else .stk
  | _ => .stk
def fFrz (i : Nat) (f : FE) : FE := fun ρ => match look ρ (.brw i) with
  | some (.ml ds) => frzO ρ (f (hide ρ i ds))
  | _ => .stk
section
variable {X : Cx} {G : Glb} {W : WX} {i : Nat} {e : Expr} {f : FE}
theorem frz_rd {σ : L2.St} {H : Hp} {Q : VK} (h : tE G W (fFrz i f) σ H Q) : tE G W f σ H Q := by
  obtain ⟨ρ, P, F, nw, h⟩ := h
  unfold fFrz at h
  split at h
  rotate_left
  · exact h.elim
  rename_i ds el
  obtain ⟨a, xs, hs, hFa, hHa, hd⟩ := now_ml nw el
  have n2 : Now G (froz P H (F i)) H σ (hide ρ i ds) (fun _ => nobody) := by
    refine ⟨froz_sub nw.ex, fun _ _ _ z => z.elim, fun _ _ z => z.elim, fun _ _ z => z.elim, fun j w hw => ?_, fun _ _ _ z => z.elim⟩
    unfold hide at hw
    by_cases q : i = j
    · subst q
      by_cases hl : i < (ρ.map hideV).length
      · rw [List.getElem?_set_self hl] at hw
        cases hw
        refine ⟨.ref a, hs, ?_⟩
        exact Dp.lst (.inl (.inl (by rw [froz_in hFa]; exact hHa))) (dpa_mono (froz_mono (nw.np i)) _ _ hd)
      · rw [List.getElem?_eq_none (by rw [List.length_set]; omega)] at hw
        cases hw
    · rw [List.getElem?_set_ne q, List.getElem?_map] at hw
      cases er : ρ[j]? with
      | none => rw [er] at hw; cases hw
      | some o =>
        rw [er] at hw
        cases o with
        | none => cases hw
        | some w0 =>
          cases w0 with
          | dat d =>
            have hw : some (some (Vl.dat d)) = some (some w) := hw
            cases hw
            obtain ⟨v, h1, h2⟩ := nw.rd j _ er
            exact ⟨v, h1, dp_mono (froz_mono (nw.np i)) _ _ h2⟩
          | ml _ => cases hw
          | mml _ => cases hw
          | ob _ _ => cases hw
          | st _ => cases hw
  refine ⟨hide ρ i ds, _, _, n2, ?_⟩
  cases ef : f (hide ρ i ds) with
  | stk => rw [ef] at h; exact h.elim
  | exc c ρ2 => rw [ef] at h; exact h.elim
  | ok o ρ2 =>
    rw [ef] at h
    cases o with
    | brw _ => exact h.elim
    | val w =>
      unfold frzO at h
      simp only at h
      by_cases cl : clean w = true
      case neg => rw [if_neg cl] at h; exact h.elim
      rw [if_pos cl] at h
      intro v P2 H2 F2 S n3 s3 t src
      have t : Tmp G P2 H2 F2 S v w := t
      classical
      have fr : ∀ {b : Addr} {o : HO}, H b = some o → H2 b = some o := fun {b o} q => s3.fr b o q fun _ z => z.elim
      obtain ⟨Pa, pa1, pa2⟩ : ∃ Pa : Hp, (∀ b, (∃ j, F j b) → Pa b = none) ∧ ∀ b, ¬ (∃ j, F j b) → Pa b = P2 b := ⟨fun b => if (∃ j, F j b) then none else P2 b, fun b h => if_pos h, fun b h => if_neg h⟩
      have ext : Same P Pa := fun b o hb => by
        have hn : ¬ ∃ j, F j b := fun ⟨j, hj⟩ => by rw [nw.np j b hj] at hb; cases hb
        rw [pa2 b hn]
        exact s3.ex b o (froz_mono (nw.np i) b o hb)
      have nF : ∀ {b : Addr}, Pa b ≠ none → ¬ ∃ j, F j b := fun {b} q z => q (pa1 b z)
      have hkeep : ∀ {b : Addr} {j : Nat} {o : HO}, F j b → H2 b = some o → H b = some o := fun {b j o} hj ho => by
        cases q : H b with
        | none => exact (nw.al j b hj q).elim
        | some o' => rw [fr q] at ho; exact ho
      refine h v Pa H2 F S ⟨fun b o hb => ?_, nw.dj, fun j b hj => pa1 b ⟨j, hj⟩, fun j b hj => s3.al b (nw.al j b hj), fun j w' hw' => ?_, fun j b o hj ho => nw.kd j b o hj (hkeep hj ho)⟩ ⟨ext, fun b o hb _ => fr hb, fun j b hj => .inl ⟨j, hj⟩, fun b hb => ?_, fun b hb => s3.al b hb⟩ ⟨?_, fun b hb => ?_, t.al, fun b hb j hj => ?_, t.kd⟩ fun b hb => ?_
      · rw [pa2 b (nF (by rw [hb]; exact fun z => nomatch z))] at hb
        exact n3.ex b o hb
      · obtain ⟨v', h1, h2⟩ := nw.rd j w' hw'
        exact ⟨v', h1, h2.mono ext (fun b o _ q => fr q) fun b hb => hb⟩
      · have hn := nF hb
        rw [pa2 b hn] at hb
        rcases s3.pn b hb with z | ⟨_, z⟩ | z
        · rcases froz_new z with y | y
          · exact .inl y
          · exact (hn ⟨i, y⟩).elim
        · exact z.elim
        · exact .inr (.inr z)
      · refine ow_clean (fun b u hb hu => ?_) cl t.ow
        by_cases hn : ∃ j, F j b
        · obtain ⟨j, hj⟩ := hn
          have := nw.kd j b u hj (hkeep hj (n3.ex b u hb))
          rw [hu] at this; cases this
        · rw [pa2 b hn]; exact hb
      · by_cases hn : ∃ j, F j b
        · exact pa1 b hn
        · rw [pa2 b hn]; exact t.np b hb
      · rcases src b hb with ⟨_, z⟩ | z
        · exact z.elim
        · exact nw.al j b hj z
      · rcases src b hb with ⟨_, z⟩ | z
        · exact z.elim
        · exact .inr z
theorem e_frz (he : PE X e (tE G W f)) : PE X e (tE G W (fFrz i f)) := PE.imp he fun σ H Q h => frz_rd h
end
end Mi
end
section
set_option Elab.async false
set_option linter.all false
set_option maxRecDepth 100000
/-! Tw5: more of the plain twin: steps with a value, loops with ways out, draws, stars, unrolled comprehensions -/
namespace Mi
open PySem
abbrev idD (d : PyData) : PyData := d
def flK {β γ δ : Type} (tk : β → R δ) (hr : γ → δ) : Fl β γ → R δ
  | .nx b => tk b
  | .ct b => tk b
  | .bk b => tk b
  | .ret g => .ok (hr g)
theorem flK_nx {β γ δ : Type} (tk : β → R δ) (hr : γ → δ) (b : β) : flK tk hr (.nx b) = tk b := rfl
theorem flK_ret {β γ δ : Type} (tk : β → R δ) (hr : γ → δ) (g : γ) : flK tk hr (.ret g) = .ok (hr g) := rfl
section
variable {Xc : Nat → Rho → Prop}
variable {δ β γ α : Type} {Φ : δ → SO → Prop} {f a s : FS} {fe : FE} {ρ ρ1 ρ2 : Rho} {v : α} {t : α → R δ} {i : Nat} {w : Vl}
theorem g_stepL {ρ2 : α → Rho} (e : s ρ = .nx (ρ2 v)) (g : ∀ x, Gn Xc (f (ρ2 x)) (t x) Φ) : Gn Xc (sSeq s f ρ) (letR v t) Φ := g_step e (g v)
theorem g_stepC {ρ2 : α → Int → Rho} {c : Int} {t : α → Int → R δ} (e : s ρ = .nx (ρ2 v c)) (g : ∀ x c, Gn Xc (f (ρ2 x c)) (t x c) Φ) : Gn Xc (sSeq s f ρ) (letR v fun x => letR c fun c => t x c) Φ := g_step e (g v c)
theorem g_stepC0 {ρ2 : Int → Rho} {c : Int} {t : Int → R δ} (e : s ρ = .nx (ρ2 c)) (g : ∀ c, Gn Xc (f (ρ2 c)) (t c) Φ) : Gn Xc (sSeq s f ρ) (letR c t) Φ := g_step e (g c)
theorem fRt_ret {γ : Type} {wr : γ → Vl} {E : γ → Rho → Prop} : ∀ g s, fRt wr E g s → ∃ w ρ', s = .ret w ρ' := fun _ _ ⟨ρ', e, _⟩ => ⟨_, ρ', e⟩
theorem g_seqK {E : β → Rho → Prop} {Er : γ → SO → Prop} {tj : R (Fl β γ)} {tk : β → R δ} {hr : γ → δ} (hj : Gn Xc (a ρ) tj (fFl E Er)) (hEr : ∀ g s, Er g s → ∃ w ρ', s = .ret w ρ') (hnb : (∀ b, tj ≠ .ok (.bk b)) ∧ ∀ b, tj ≠ .ok (.ct b)) (hret : ∀ g w ρ', Er g (.ret w ρ') → Φ (hr g) (.ret w ρ')) (h : ∀ b ρ', E b ρ' → Gn Xc (f ρ') (tk b) Φ) :
    Gn Xc (sSeq a f ρ) (tj.bind (flK tk hr)) Φ := by
  cases tj with
  | stk => trivial
  | exc c0 =>
    obtain ⟨ρ', e, hX⟩ := hj
    exact ⟨ρ', by unfold sSeq; rw [e], hX⟩
  | ok r =>
    cases r with
    | nx b0 =>
      obtain ⟨ρ', e, hE⟩ := hj
      have := h b0 ρ' hE
      show Gn Xc _ (tk b0) Φ
      rw [seq_nx' e]; exact this
    | ct b0 => exact (hnb.2 b0 rfl).elim
    | bk b0 => exact (hnb.1 b0 rfl).elim
    | ret g =>
      obtain ⟨w, ρ', e⟩ := hEr g _ hj
      have hj' : Er g (a ρ) := hj
      rw [e] at hj'
      show Φ (hr g) _
      have : sSeq a f ρ = .ret w ρ' := by unfold sSeq; rw [e]
      rw [this]
      exact hret g w ρ' hj'
theorem g_fret {E : β → Rho → Prop} {wr : γ → Vl} {Eg : γ → Rho → Prop} {g : γ} (h : Gn Xc (sSeq s f ρ) (.ok g) (fRt wr Eg)) : Gn Xc (sSeq s f ρ) (.ok (Fl.ret g)) (fFl E (fRt wr Eg)) := h
end
/-! ### typed steps -/
section
variable {Xc : Nat → Rho → Prop}
variable {α β : Type} {e : α → PyData} {f g : FE} {F : FA} {ρ ρ1 ρ2 ρ3 : Rho} {w : Vl} {xs ys : List α} {x : α} {ds es : List PyData} {d : PyData} {i j : Nat} {k : Int}
theorem ev_app {fe : FE} (h : Pv fe ρ w ρ1) (hl : xs.length ≤ 100000) (hm : (ρ[i]?).join = some (.ml (xs.map e)) := by rfl) (hd : viewD w = some (e x) := by rfl) (hm1 : (ρ1[i]?).join = some (.ml (xs.map e)) := by rfl) (hr : ρ1.set i (some (.ml ((xs ++ [x]).map e))) = ρ2) : sDrop (fApp i fe) ρ = .nx ρ2 :=
  ev_drop (pv_app hm h hd hm1 (by rw [List.length_map]; exact hl) (by rw [← hr, List.map_append]; rfl)).lk
theorem ev_ext {fe : FE} (h : Pv fe ρ (.ml (ys.map e)) ρ1) (hl : xs.length + ys.length ≤ 100000) (hm : (ρ[i]?).join = some (.ml (xs.map e)) := by rfl) (hm1 : (ρ1[i]?).join = some (.ml (xs.map e)) := by rfl) (hr : ρ1.set i (some (.ml ((xs ++ ys).map e))) = ρ2) : sDrop (fExt i fe) ρ = .nx ρ2 :=
  ev_drop (pv_ext hm h hm1 (by rw [List.length_map, List.length_map]; exact hl) (by rw [← hr, List.map_append])).lk
def setI (xs : List α) (k : Int) (x : α) : List α := xs.set (if 0 ≤ k then k.toNat else (k + xs.length).toNat) x
theorem ixN_in {n : Nat} (h : inR n k) : L2.ixN n k = some (if 0 ≤ k then k.toNat else (k + n).toNat) := by
  obtain ⟨h1, h2⟩ := h
  unfold L2.ixN
  by_cases h0 : 0 ≤ k
  · rw [if_pos h0, if_pos h2, if_pos h0]
  · rw [if_neg h0, if_pos h1, if_neg h0]
theorem ev_seti {fi fe : FE} (h : Pv fe ρ w ρ1) (hi : Pv fi ρ1 (vI k) ρ2) (hk : inR xs.length k) (hd : viewD w = some (e x) := by rfl) (hm : (ρ1[i]?).join = some (.ml (xs.map e)) := by rfl) (hm2 : (ρ2[i]?).join = some (.ml (xs.map e)) := by rfl) (hr : ρ2.set i (some (.ml ((setI xs k x).map e))) = ρ3) : sSetItem i fi fe ρ = .nx ρ3 := by
  refine ev_setItem h hd hm hi hm2 (by rw [List.length_map]; exact ixN_in hk) ?_
  rw [← hr]
  unfold setI
  rw [List.map_set]
/-- stars -/
theorem av_star (h1 : Pv f ρ w ρ1) (h2 : Av F ρ1 es ρ2) (hd : (viewD w).bind seqOf = some ds := by rfl) : Av (aStar f F) ρ (ds ++ es) ρ2 := by
  obtain ⟨os, e, l⟩ := h2
  unfold Pv at h1
  obtain ⟨d, hv, hs⟩ := Option.bind_eq_some_iff.mp hd
  refine ⟨ds.map Vl.dat ++ os, ?_, ?_⟩
  · unfold aStar
    rw [h1, bind_ok]
    have hf : frz1 ρ1 (.val w) = some (d, ρ1) := by show (viewD w).map _ = _; rw [hv]; rfl
    rw [hf]
    simp only [hs, e, bind_ok, List.map_append, List.map_map]
    rfl
  · rw [List.map_append, List.map_append, l, List.map_map]
    rfl
theorem av_starO {ρ0 : Rho} (h2 : Av F ρ0 es ρ2) (hm : (ρ[i]?).join = some (.ml ds) := by rfl) (hr : ρ.set i (some (.dat (.list ds))) = ρ0 := by rfl) : Av (aStar (fV i) F) ρ (ds ++ es) ρ2 := by
  obtain ⟨os, e, l⟩ := h2
  refine ⟨ds.map Vl.dat ++ os, ?_, ?_⟩
  · have ev : fV i ρ = .ok (.brw i) ρ := by unfold fV; rw [hm]
    unfold aStar
    rw [ev, bind_ok]
    have hf : frz1 ρ (.brw i) = some (.list ds, ρ0) := by
      show ((look ρ (.brw i)).bind viewD).map _ = _
      rw [look_brw, hm, ← hr]; rfl
    rw [hf]
    simp only [seqOf, e, bind_ok, List.map_append, List.map_map]
    rfl
  · rw [List.map_append, List.map_append, l, List.map_map]
    rfl
theorem pv_tupS (h : Av F ρ ds ρ1) (hl : xs.length ≤ 100000) (he : ds = xs.map e := by simp) : Pv (fTup F) ρ (.dat (.tuple (xs.map e))) ρ1 := by
  subst he
  exact pv_tup h (by rw [List.length_map]; exact hl)
theorem pv_lstS (h : Av F ρ ds ρ1) (hl : xs.length ≤ 100000) (he : ds = xs.map e := by simp) : Pv (fLst F) ρ (.ml (xs.map e)) ρ1 := by
  subst he
  exact pv_lst h (by rw [List.length_map]; exact hl)
/-- freezing as it is read -/
theorem pv_Z (h : Pv f ρ w ρ1) (hd : viewD w = some d := by rfl) : Pv (fZ f) ρ (.dat d) ρ1 := by
  unfold Pv at h ⊢
  unfold fZ
  rw [h, bind_ok]
  have hf : frz1 ρ1 (.val w) = some (d, ρ1) := by show (viewD w).map _ = _; rw [hd]; rfl
  rw [hf]
theorem pv_ZO (hm : (ρ[i]?).join = some (.ml ds) := by rfl) (hr : ρ.set i (some (.dat (.list ds))) = ρ1 := by rfl) : Pv (fZ (fV i)) ρ (.dat (.list ds)) ρ1 := by
  have ev : fV i ρ = .ok (.brw i) ρ := by unfold fV; rw [hm]
  unfold Pv fZ
  rw [ev, bind_ok]
  have hf : frz1 ρ (.brw i) = some (.list ds, ρ1) := by
    show ((look ρ (.brw i)).bind viewD).map _ = _
    rw [look_brw, hm, ← hr]; rfl
  rw [hf]
/-- an own list read as data, given back -/
theorem pv_frz {ρh : Rho} (h : Pv f ρh w ρ2) (hc : clean w = true) (hm : (ρ[i]?).join = some (.ml ds) := by rfl) (hh : hide ρ i ds = ρh := by rfl) : Pv (fFrz i f) ρ w ρ := by
  subst hh
  unfold Pv at h
  unfold Pv fFrz
  rw [show look ρ (.brw i) = some (.ml ds) from hm]
  simp only
  rw [h]
  unfold frzO
  simp only
  rw [if_pos hc]
/-! ### enumerate, zip, range downwards -/
def enL (xs : List α) : List (Int × α) := (List.range xs.length).zipWith (fun (i : Nat) x => ((i : Int), x)) xs
theorem enD_map : enD (xs.map e) = (enL xs).map (eP PyData.int e) := by
  unfold enD enL
  rw [List.length_map, List.zipWith_map_right, List.map_zipWith]
theorem z2D_map {e' : β → PyData} {zs : List β} : z2D (xs.map e) (zs.map e') = (xs.zip zs).map (eP e e') := by
  unfold z2D
  rw [List.zipWith_map, List.zip, List.map_zipWith]
theorem seqOf_view {w : Vl} (h : viewD w = some (.list ds) ∨ viewD w = some (.tuple ds)) : ∃ d, viewD w = some d ∧ seqOf d = some ds := by
  rcases h with h | h
  · exact ⟨_, h, rfl⟩
  · exact ⟨_, h, rfl⟩
theorem iv_enu (h : Pv f ρ w ρ1) (hd : viewD w = some (.list (xs.map e)) ∨ viewD w = some (.tuple (xs.map e)) := by first | exact .inl rfl | exact .inr rfl) : Iv (iEnu (aCons f aNil)) ρ ((enL xs).map (eP PyData.int e)) ρ1 := by
  obtain ⟨d, h1, h2⟩ := seqOf_view hd
  unfold Pv at h
  unfold Iv iEnu aCons
  rw [h, bind_ok, aNil_ev, bind_ok, bind_ok]
  unfold en1
  have : frzL ρ1 [.val w] = some ([d], ρ1) := frzL_val (ws := [w]) (ds := [d]) (by simp [h1])
  rw [this]
  simp only [h2]
  rw [enD_map]
theorem iv_zip2 {e' : β → PyData} {zs : List β} {w' : Vl} (h : Pv f ρ w ρ1) (h' : Pv g ρ1 w' ρ2) (hd : viewD w = some (.list (xs.map e)) ∨ viewD w = some (.tuple (xs.map e)) := by first | exact .inl rfl | exact .inr rfl) (hd' : viewD w' = some (.list (zs.map e')) ∨ viewD w' = some (.tuple (zs.map e')) := by first | exact .inl rfl | exact .inr rfl) : Iv (iZip2 (aCons f (aCons g aNil))) ρ ((xs.zip zs).map (eP e e')) ρ2 := by
  obtain ⟨d, h1, h2⟩ := seqOf_view hd
  obtain ⟨d', h3, h4⟩ := seqOf_view hd'
  unfold Pv at h h'
  unfold Iv iZip2 aCons
  rw [h, bind_ok]
  simp only [aNil_ev, h', bind_ok]
  unfold zp2
  have : frzL ρ2 [.val w, .val w'] = some ([d, d'], ρ2) := frzL_val (ws := [w, w']) (ds := [d, d']) (by simp [h1, h3])
  rw [this]
  simp only [h2, h4]
  rw [z2D_map]
def irangeDn (lo hi : Int) : List Int := (List.range (lo - hi).toNat).map fun k : Nat => lo - (k : Int)
theorem iv_r3 {m n c : Int} (h : Al F ρ [vI m, vI n, vI c] ρ1) (hm : rOk m) (hn : rOk n) (hc : c = -1) : Iv (iR3 F) ρ ((irangeDn m n).map .int) ρ1 := by
  obtain ⟨os, e, l⟩ := h
  unfold Iv iR3
  rw [e, bind_ok]
  unfold rg3
  rw [l]
  show (if _ then _ else _) = _
  rw [if_pos ⟨hm.1, hm.2, hn.1, hn.2, hc⟩]
  unfold rangeDn irangeDn
  rw [List.map_map]; rfl
end
/-! ### a list of the slot walked while it is held -/
theorem ev_forB {β α : Type} {bnd : FB} {body : FS} {ρ : Rho} {ι : α → PyData} {i : Nat} {xs : List α} {Inv : β → Rho → Prop} {b0 : β} {tb : α → β → R β} (h0 : Inv b0 ρ) (hi : ∀ b ρ', Inv b ρ' → look ρ' (.brw i) = some (.ml (xs.map ι))) (hb : ∀ x ∈ xs, ∀ b ρ', Inv b ρ' → ∃ ρ2, bnd (ι x) ρ' = some ρ2 ∧ Gn Xc (body ρ2) (tb x b) (fLp Inv)) :
    Gn Xc (sForB i bnd body ρ) (forR tb xs b0) (fNx Inv) := by
  have go : ∀ (ys : List α) (b0 : β) (ρ : Rho), (∀ y ∈ ys, y ∈ xs) → Inv b0 ρ → Gn Xc (forLB i (xs.map ι) bnd body (ys.map ι) ρ) (forR tb ys b0) (fNx Inv) := by
    intro ys
    induction ys with
    | nil => intro b0 ρ _ h; exact ⟨ρ, rfl, h⟩
    | cons y ys ih =>
      intro b0 ρ hm h
      obtain ⟨ρ2, e1, g1⟩ := hb y (hm y (by simp)) b0 ρ h
      rw [List.map_cons]
      unfold forLB
      simp only [e1]
      show Gn Xc _ ((tb y b0).bind (forR tb ys)) _
      cases ht : tb y b0 with
      | stk => trivial
      | exc c0 =>
        rw [ht] at g1
        obtain ⟨ρ', e, hX⟩ := g1
        exact ⟨ρ', by rw [e], hX⟩
      | ok b1 =>
        rw [ht] at g1
        obtain ⟨ρ', e, hI⟩ := g1
        have q := ih b1 ρ' (fun z hz => hm z (List.mem_cons_of_mem _ hz)) hI
        have l := hi b1 ρ' hI
        rcases e with e | e
        · rw [e]; simp only [l, if_true]; exact q
        · rw [e]; simp only [l, if_true]; exact q
  unfold sForB
  rw [hi b0 ρ h0]
  exact go xs b0 ρ (fun _ h => h) h0
/-! ### pairs -/
section
variable {Xc : Nat → Rho → Prop}
variable {fa : FA} {fe : FE} {ρ ρ1 ρ2 : Rho} {i j : Nat} {d d' : PyData} {b : FB} {w : Vl}
theorem ev_par (h : Av fa ρ [d, d'] ρ1) (hr : (ρ1.set i (some (.dat d))).set j (some (.dat d')) = ρ2) : sPar i j fa ρ = .nx ρ2 := by
  obtain ⟨ws, e, l⟩ := h
  unfold sPar
  rw [e, bindS_ok]
  unfold setO2
  rw [frzL_val l]
  show SO.nx _ = _
  rw [hr]
theorem ev_asg (h : Pv fe ρ w ρ1) (hd : viewD w = some d := by rfl) (hb : b d ρ1 = some ρ2 := by rfl) : sAsg b fe ρ = .nx ρ2 := by
  unfold Pv at h
  unfold sAsg
  rw [h, bindS_ok]
  unfold asgO
  have hf : frz1 ρ1 (.val w) = some (d, ρ1) := by show (viewD w).map _ = _; rw [hd]; rfl
  rw [hf]
  simp only [hb]
end
/-! ### unrolled comprehensions -/
inductive CompU (vs : List Nat) (b : FB) (e : FE) (ρw : Rho) : List PyData → List PyData → Prop
  | nil : CompU vs b e ρw [] []
  | cons {d d' : PyData} {ds ds' : List PyData} {ρ2 ρ3 : Rho} {w : Vl} (h1 : b d ρw = some ρ2) (h2 : Pv e ρ2 w ρ3) (h3 : wipeR ρ3 vs = ρw) (h4 : viewD w = some d') (t : CompU vs b e ρw ds ds') : CompU vs b e ρw (d :: ds) (d' :: ds')
theorem pv_compU {fi : FI} {ρ ρ1 : Rho} {vs : List Nat} {b : FB} {e : FE} {ds ds' : List PyData} (hi : Iv fi ρ ds ρ1) (h : CompU vs b e (wipeR ρ1 vs) ds ds') (hl : ds.length ≤ 100000 := by decide) : Pv (fComp vs fi b cT e) ρ (.ml ds') ρ1 := by
  have go : ∀ {ds ds' : List PyData}, CompU vs b e (wipeR ρ1 vs) ds ds' → ∀ ρ0, wipeR ρ0 vs = wipeR ρ1 vs → ∃ ρ', compL vs b cT e ds ρ0 = .ok ds' ρ' ∧ wipeR ρ' vs = wipeR ρ1 vs := by
    intro ds ds' h
    induction h with
    | nil => intro ρ0 h0; exact ⟨ρ0, rfl, h0⟩
    | @cons d d' ds ds' ρ2 ρ3 w h1 h2 h3 h4 t ih =>
      intro ρ0 h0
      obtain ⟨ρ', e1, e2⟩ := ih ρ3 h3
      refine ⟨ρ', ?_, e2⟩
      unfold Pv at h2
      have unf : compL vs b cT e (d :: ds) ρ0 = (match b d (wipeR ρ0 vs) with
        | none => .stk
        | some ρ1 => match e ρ1 with
            | .ok o ρ3 => match frz1 ρ3 o with
              | some (d', ρ4) => match compL vs b cT e ds ρ4 with
                | .ok ds' ρ5 => .ok (d' :: ds') ρ5
                | .exc _ _ => .stk
                | .stk => .stk
              | none => .stk
            | .exc _ _ => .stk
            | .stk => .stk) := rfl
      have hf : frz1 ρ3 (.val w) = some (d', ρ3) := by show (viewD w).map _ = _; rw [h4]; rfl
      rw [unf, h0, h1]
      simp only [h2, hf, e1]
  obtain ⟨ρ', e1, e2⟩ := go h ρ1 rfl
  unfold Iv at hi
  unfold Pv fComp
  rw [hi, bind_ok, e1]
  show (if ds.length ≤ 100000 then _ else _) = _
  rw [if_pos hl, restR_same e2]
/-! ### draws -/
abbrev StV (nums : List Int) (c : Int) : Vl := .ml [.list (nums.map .int), .int c]
def nxG (nums : List Int) (c m : Int) : Prop := 0 < nums.length ∧ nums.length < 10000 ∧ 0 ≤ c ∧ c < 1000000 ∧ 0 < m
noncomputable def nxt (nums : List Int) (c m : Int) : Int := by classical exact if h : nxG nums c m then (next_ev nums c m h.1 h.2.1 h.2.2.1 h.2.2.2.1 h.2.2.2.2).choose else 0
theorem nxt_ev {nums : List Int} {c m : Int} (h : nxG nums c m) : S__law_next [StV nums c, .dat (.int m)] = .ok (vI (nxt nums c m)) [some (StV nums (c + 1)), none] := by
  unfold nxt
  rw [dif_pos h]
  exact (next_ev nums c m h.1 h.2.1 h.2.2.1 h.2.2.2.1 h.2.2.2.2).choose_spec.1
theorem nxt_lo {nums : List Int} {c m : Int} (h : nxG nums c m) : 0 ≤ nxt nums c m := by
  unfold nxt
  rw [dif_pos h]
  exact (next_ev nums c m h.1 h.2.1 h.2.2.1 h.2.2.2.1 h.2.2.2.2).choose_spec.2.1
theorem nxt_hi {nums : List Int} {c m : Int} (h : nxG nums c m) : nxt nums c m < m := by
  unfold nxt
  rw [dif_pos h]
  exact (next_ev nums c m h.1 h.2.1 h.2.2.1 h.2.2.2.1 h.2.2.2.2).choose_spec.2.2
/-! ### a def that is lent the stream -/
def SpS {γ : Type} (S : CSpec) (nums : List Int) (c : Int) (ds : List PyData) (r : R (γ × Int)) (wr : γ → Vl) : Prop := match r with
  | .ok g => S (StV nums c :: ds.map .dat) = .ok (wr g.1) (some (StV nums g.2) :: List.replicate ds.length none)
  | .exc _ => True
  | .stk => True
theorem outs_st (nums : List Int) (c : Int) {ρ' : Rho} (n : Nat) (h : ρ'[0]? = some (some (StV nums c))) : outs (true :: List.replicate n false) ρ' = some (StV nums c) :: List.replicate n none := by
  cases ρ' with
  | nil => simp at h
  | cons r ρ' =>
    simp at h
    subst h
    show _ :: outs (List.replicate n false) ρ' = _
    rw [outs_fal]; rfl
theorem sp_st {γ : Type} {n m : Nat} {fs : FS} {nums : List Int} {c : Int} {ds : List PyData} {r : R (γ × Int)} {wr : γ → Vl} (hn : ds.length = n := by rfl) (h : Gn anyX (fs (some (StV nums c) :: ((ds.map .dat).map some ++ List.replicate (m - (n + 1)) none))) r (fRt (fun g => wr g.1) fun g ρ' => ρ'[0]? = some (some (StV nums g.2)))) : SpS (specOf (true :: List.replicate n false) m fs) nums c ds r wr := by
  subst hn
  cases r with
  | stk => trivial
  | exc c0 => trivial
  | ok x =>
    obtain ⟨ρ', e, hE⟩ := h
    show specOf _ _ _ _ = _
    unfold specOf
    have hl : (StV nums c :: ds.map Vl.dat).length = ds.length + 1 := by simp
    rw [hl]
    show (match fs (some (StV nums c) :: ((ds.map Vl.dat).map some ++ List.replicate (m - (ds.length + 1)) none)) with
      | .nx ρ => COut.ok (.dat .none) (outs _ ρ)
      | .ret w ρ => .ok w (outs _ ρ)
      | .exc c ρ => .exc c (outs _ ρ)
      | _ => .stk) = _
    rw [e]
    show COut.ok _ (outs _ ρ') = _
    rw [outs_st nums x.2 _ hE]
/-! ### what is told -/
def okT {γ : Type} (r : R γ) : Prop := match r with
  | .ok _ => True
  | .exc c => (errR c).isSome
  | .stk => False
def toldR {γ : Type} (r : R γ) (e : γ → PyData) : PyData := match r with
  | .ok g => .tuple [.str "told", e g]
  | .exc c => match errR c with
    | some t => .str t
    | none => .none
  | .stk => .none
end Mi
end
section
set_option Elab.async false
set_option linter.all false
set_option maxRecDepth 100000
/-! Tw6: smaller facts for the printed twins -/
namespace Mi
open PySem
theorem noLs_map {α : Type} {e : α → PyData} (h : ∀ x, noL (e x) = true) : ∀ {l : List α}, noLs (l.map e) = true
  | [] => rfl
  | x :: xs => by
    show (noL (e x) && noLs (xs.map e)) = true
    rw [h x, noLs_map h]; rfl
theorem joins_set {ρ0 ρ : Rho} {j : Nat} {vs : List Nat} (e : vs.map (fun v => (ρ0[v]?).join) = vs.map (fun v => (ρ[v]?).join)) (ρ' : Rho) : restR ρ0 ρ' vs = restR ρ ρ' vs := by
  induction vs with
  | nil => rfl
  | cons v vs ih =>
    simp only [List.map_cons, List.cons.injEq] at e
    unfold restR
    rw [e.1, ih e.2]
theorem restC {ρ0 ρ ρ' : Rho} {vs : List Nat} (h : wipeR ρ' vs = wipeR ρ vs) (e : vs.map (fun v => (ρ0[v]?).join) = vs.map (fun v => (ρ[v]?).join)) : restR ρ0 ρ' vs = ρ := by
  rw [joins_set (j := 0) e, restR_same h]
section
variable {Xc : Nat → Rho → Prop}
variable {f e : FE} {t c : FT} {ρ ρ1 ρ2 ρ3 : Rho} {w w' : Vl} {vs : List Nat} {fi : FI} {bnd : FB} {α β : Type}
theorem pv_cast (h : Pv f ρ w ρ1) (q : w = w') : Pv f ρ w' ρ1 := q ▸ h
theorem pv_fil {ι : α → PyData} {en : α → PyData} {p : α → Bool} {xs : List α} (hi : Iv fi ρ (xs.map ι) ρ1) (hl : xs.length ≤ 100000)
    (st : ∀ x ∈ xs, ∃ ρ2 ρ3, bnd (ι x) (wipeR ρ1 vs) = some ρ2 ∧ wipeR ρ2 vs = wipeR ρ1 vs ∧ Tv c ρ2 (p x) ρ2 ∧ (p x = true → ∃ w, Pv e ρ2 w ρ3 ∧ wipeR ρ3 vs = wipeR ρ1 vs ∧ viewD w = some (en x))) :
    Pv (fComp vs fi bnd c e) ρ (.ml ((xs.filter p).map en)) ρ1 := by
  have := pv_comp (v := fun x => x) hi hl st
  rwa [List.map_id'] at this
theorem gx_any {γ : Type} {o : Out Opd} {r : R γ} {wr : γ → Vl} {E : γ → Rho → Prop} (h : Gx Xc o r wr E) : Gx Xc o r wr anyE := by
  cases r with
  | stk => trivial
  | exc c => exact h
  | ok g => obtain ⟨ρ', e, _⟩ := h; exact ⟨ρ', e, trivial⟩
end
/-! ### sorted downwards -/
noncomputable def sortRI (ns : List Int) : List Int := ns.mergeSort fun a b => decide (b ≤ a)
theorem dataLe_intR : PySem.W.dataLe true (fun x : Int => PyData.int x) = fun a b => decide (b ≤ a) := by
  rw [PySem.W.dataLe_eq]
  funext a b
  show (!PySem.W.dataLt (.int a) (.int b)) = _
  rw [PySem.W.dataLt_int]
  by_cases h : a < b
  · have : ¬ b ≤ a := by omega
    simp [h, this]
  · have : b ≤ a := by omega
    simp [h, this]
theorem sortD_map {α : Type} (e : α → PyData) (b : Bool) (xs : List α) : sortD b (xs.map e) = (xs.mergeSort (PySem.W.dataLe b e)).map e := by
  unfold sortD
  rw [List.map_mergeSort (s := PySem.W.dataLe b id)]
  intro a ha b' hb
  rfl
theorem y_sortRI {w : Vl} {ns : List Int} (ha : asL w = some (ns.map .int) := by rfl) : gSortR w = some (.ml ((sortRI ns).map .int)) := by
  unfold gSortR
  rw [ha, Option.bind_some, gd_pos (srt_ints ns), sortD_map]
  show some (Vl.ml ((ns.mergeSort (PySem.W.dataLe true fun x => .int x)).map .int)) = _
  rw [dataLe_intR]; rfl
theorem perm_sortRI (ns : List Int) : (sortRI ns).Perm ns := List.mergeSort_perm _ _
theorem pw_sortRI (ns : List Int) : (sortRI ns).Pairwise (· ≥ ·) := by
  have := List.pairwise_mergeSort (le := fun a b : Int => decide (b ≤ a)) (fun a b c h1 h2 => by simp at *; omega) (fun a b => by simp; omega) ns
  exact this.imp fun h => by simpa using h
/-- pairs of ints, downwards -/
def geP (p q : Int × Int) : Bool := decide (q.1 < p.1 ∨ (q.1 = p.1 ∧ q.2 ≤ p.2))
noncomputable def sortRP (ps : List (Int × Int)) : List (Int × Int) := ps.mergeSort geP
theorem dataLe_pairR : PySem.W.dataLe true (eP PyData.int PyData.int) = geP := by
  rw [PySem.W.dataLe_eq]
  funext a b
  show (!PySem.W.dataLt (.tuple [.int a.1, .int a.2]) (.tuple [.int b.1, .int b.2])) = _
  rw [PySem.W.dataLt_ii]
  unfold geP
  by_cases h : a.1 < b.1 ∨ (a.1 = b.1 ∧ a.2 < b.2)
  · have : ¬ (b.1 < a.1 ∨ (b.1 = a.1 ∧ b.2 ≤ a.2)) := by omega
    simp [h, this]
  · have : b.1 < a.1 ∨ (b.1 = a.1 ∧ b.2 ≤ a.2) := by omega
    simp [h, this]
theorem srt_pairs (ps : List (Int × Int)) : Srt (ps.map (eP PyData.int PyData.int)) := by
  refine ⟨fun d hd d' hd' => ?_, .inl fun d hd => ?_, fun d hd => ?_⟩
  · obtain ⟨x, _, rfl⟩ := List.mem_map.mp hd
    obtain ⟨y, _, rfl⟩ := List.mem_map.mp hd'
    simp [PySem.W.alike, PySem.W.alikeAll]
  · obtain ⟨x, _, rfl⟩ := List.mem_map.mp hd
    exact ⟨_, _, rfl⟩
  · obtain ⟨x, _, rfl⟩ := List.mem_map.mp hd
    show max (PyData.depth (.int x.1)) (max (PyData.depth (.int x.2)) 0) + 1 ≤ 64
    show max 0 (max 0 0) + 1 ≤ 64
    decide
theorem y_sortRP {w : Vl} {ps : List (Int × Int)} (ha : asL w = some (ps.map (eP .int .int)) := by rfl) : gSortR w = some (.ml ((sortRP ps).map (eP .int .int))) := by
  unfold gSortR
  rw [ha, Option.bind_some, gd_pos (srt_pairs ps), sortD_map, dataLe_pairR]; rfl
theorem perm_sortRP (ps : List (Int × Int)) : (sortRP ps).Perm ps := List.mergeSort_perm _ _
theorem pw_sortRP (ps : List (Int × Int)) : (sortRP ps).Pairwise (fun p q => q.1 < p.1 ∨ (q.1 = p.1 ∧ q.2 ≤ p.2)) := by
  have := List.pairwise_mergeSort (le := geP) (fun a b c h1 h2 => by unfold geP at *; simp at *; omega) (fun a b => by unfold geP; simp; omega) ps
  exact this.imp fun h => by unfold geP at h; simpa using h
/-! ### more facts -/
section
variable {Xc : Nat → Rho → Prop}
variable {α : Type} {e : α → PyData} {a : Vl} {xs : List α} {d : PyData} {i : Int}
def notDict : PyData → Prop
  | .dict _ => False
  | _ => True
theorem y_isT (h : notDict d) (ha : viewD a = some d := by rfl) : gIsT a = some (vB (isTup d)) := by
  unfold gIsT
  rw [ha]
  cases d <;> first | rfl | exact h.elim
theorem y_revL (ha : asL a = some (xs.map e) := by rfl) : gRevA a = some (.ml (xs.reverse.map e)) := by
  unfold gRevA
  rw [ha, List.map_reverse]
theorem y_revT (ha : asT a = some (xs.map e) := by rfl) : gRevA a = some (.dat (.tuple (xs.reverse.map e))) := by
  unfold gRevA
  rw [asT_eq ha, List.map_reverse]; rfl
theorem y_sortIf {ns : List Int} (ha : a = .dat (.list (ns.map .int)) := by rfl) : orC (g1 gSortS) (g1 gSorted) [a] = some (.ml ((sortI ns).map .int)) := by
  subst ha
  show (match g1 gSortS [Vl.dat (.list (ns.map .int))] with | some w => some w | none => gSorted (.dat (.list (ns.map .int)))) = _
  show gSorted (.dat (.list (ns.map .int))) = _
  unfold gSorted
  show gd (Srt (ns.map .int)) _ = _
  rw [gd_pos (srt_ints ns), sortD_ints]
def repOk (n : Nat) (k : Int) : Prop := -(2 ^ 63) ≤ k ∧ k < 2 ^ 63 ∧ szOk (n * k.toNat)
def repTOk (n : Nat) (k : Int) : Prop := n ≠ 0 ∧ 2 ≤ k ∧ k ≤ 1000 ∧ n ≤ 1000
theorem rep_map (n : Nat) : (List.replicate n (xs.map e)).flatten = ((List.replicate n xs).flatten).map e := by
  rw [List.map_flatten, List.map_replicate]
theorem y_repL (h : repOk xs.length i) (ha : a = .ml (xs.map e) := by rfl) : gMul a (vI i) = some (.ml (((List.replicate i.toNat xs).flatten).map e)) := by
  subst ha
  have : gRepL (.ml (xs.map e)) (vI i) = some (.ml (List.replicate i.toNat (xs.map e)).flatten) := gd_pos ⟨h.1, h.2.1, by rw [List.length_map]; exact szl h.2.2⟩
  unfold gMul orG
  rw [show gMulI (.ml (xs.map e)) (vI i) = none from rfl, this, rep_map]
theorem y_repT (h : repTOk xs.length i) (ha : a = .dat (.tuple (xs.map e)) := by rfl) : gMul a (vI i) = some (.dat (.tuple (((List.replicate i.toNat xs).flatten).map e))) := by
  subst ha
  have hne : xs.map e ≠ [] := by
    intro q
    exact h.1 (by rw [← List.length_map (f := e), q]; rfl)
  have : gRepT (.dat (.tuple (xs.map e))) (vI i) = some (.dat (.tuple (List.replicate i.toNat (xs.map e)).flatten)) := gd_pos ⟨hne, h.2.1, h.2.2.1, by rw [List.length_map]; exact h.2.2.2⟩
  have h2 : gRepL (.dat (.tuple (xs.map e))) (vI i) = none := rfl
  unfold gMul orG
  rw [show gMulI (.dat (.tuple (xs.map e))) (vI i) = none from rfl, h2]
  show gRepT _ _ = _
  rw [this, rep_map]
def isNon : PyData → Bool
  | .none => true
  | _ => false
def isNont (d : PyData) : Bool := !isNon d
theorem y_isND : gIsN false (.dat d) (.dat .none) = some (vB (isNon d)) := by cases d <;> rfl
theorem y_isNtD : gIsN true (.dat d) (.dat .none) = some (vB (isNont d)) := by cases d <;> rfl
def sameG (d d' : PyData) : Prop := d = d' ∧ Rok (.list [d])
theorem same_call {d d' : PyData} (h : sameG d d') : S__law_same ([d, d'].map .dat) = .ok (vB true) (List.replicate 2 none) := by
  obtain ⟨rfl, h⟩ := h
  exact same_ev h
end
theorem nxt_call {nums : List Int} {c m : Int} (h : nxG nums c m) : S__law_next (StV nums c :: [PyData.int m].map .dat) = .ok (vI (nxt nums c m)) (some (StV nums (c + 1)) :: List.replicate 1 none) := nxt_ev h
theorem g_setX2 {δ γ : Type} {Φ : δ → SO → Prop} {f : FS} {fe : FE} {ρ ρ1 : Rho} {i : Nat} {wr : γ → Vl} {r : R γ} {tk : γ → R δ} {ρ2 : γ → Rho} (h : Gx Xc (fe ρ) r wr (fun _ ρ' => ρ' = ρ1)) (hr : ∀ x, ρ1.set i (some (wr x)) = ρ2 x) (g : ∀ x, Gn Xc (f (ρ2 x)) (tk x) Φ) : Gn Xc (sSeq (sSet i fe) f ρ) (r.bind tk) Φ :=
  g_setX h fun x ρ' e => by subst e; rw [hr x]; exact g x
/-! ### options -/
def eO {α : Type} (e : α → PyData) : Option α → PyData
  | none => .none
  | some x => e x
def optR {α β : Type} (o : Option α) (a : R β) (k : α → R β) : R β := match o with
  | none => a
  | some x => k x
section
variable {Xc : Nat → Rho → Prop}
variable {α δ γ : Type} {Φ : δ → SO → Prop} {s : SO} {t : R δ} {k : α → R δ} {x : α} {c : FT} {A B f : FS} {ρ ρ1 : Rho} {fe : FE} {d : PyData}
theorem g_optN (h : Gn Xc s t Φ) : Gn Xc s (optR none t k) Φ := h
theorem g_optS (h : Gn Xc s (k x) Φ) : Gn Xc s (optR (some x) t k) Φ := h
theorem g_ifT (hc : Tv c ρ true ρ1) (h : Gn Xc (sSeq A f ρ1) t Φ) : Gn Xc (sSeq (sIf c A B) f ρ) t Φ := by
  have := g_if (B := B) (t2 := t) hc (fun _ => h) (fun z => nomatch z)
  simpa using this
theorem g_ifF (hc : Tv c ρ false ρ1) (h : Gn Xc (sSeq B f ρ1) t Φ) : Gn Xc (sSeq (sIf c A B) f ρ) t Φ := by
  have := g_if (A := A) (t1 := t) hc (fun z => nomatch z) (fun _ => h)
  simpa using this
theorem gx_Z {wr : γ → Vl} {wd : γ → PyData} {r : R γ} (h : Gx Xc (fe ρ) r wr (fun _ ρ' => ρ' = ρ1)) (hd : ∀ g, viewD (wr g) = some (wd g)) : Gx Xc (fZ fe ρ) r (fun g => .dat (wd g)) (fun _ ρ' => ρ' = ρ1) := by
  cases r with
  | stk => trivial
  | exc c0 =>
    obtain ⟨ρ', e, hX⟩ := h
    exact ⟨ρ', by unfold fZ; rw [e]; rfl, hX⟩
  | ok x =>
    obtain ⟨ρ', e, q⟩ := h
    subst q
    exact ⟨ρ', pv_Z (show Pv fe ρ (wr x) ρ' from e) (hd x), rfl⟩
end
end Mi
end
section
set_option Elab.async false
set_option linter.all false
set_option maxRecDepth 100000
/-! Tw7: what is told; arguments that may raise; R's value -/
namespace Mi
open PySem
def R.good {α : Type} (r : R α) : Prop := ∃ g, r = .ok g
noncomputable def R.get {α : Type} [Inhabited α] (r : R α) : α := match r with
  | .ok g => g
  | _ => default
theorem R.get_ok {α : Type} [Inhabited α] {r : R α} (h : r.good) : r = .ok r.get := by
  obtain ⟨g, rfl⟩ := h; rfl
theorem sp_good {γ : Type} [Inhabited γ] {S : CSpec} {ds : List PyData} {r : R γ} {wr : γ → Vl} (h : SpR S ds r wr) (g : r.good) : S (ds.map .dat) = .ok (wr r.get) (List.replicate ds.length none) := by
  rw [R.get_ok g] at h
  exact h
theorem sp_okR {γ : Type} {S : CSpec} {ds : List PyData} {r : R γ} {wr : γ → Vl} {g : γ} (h : SpR S ds r wr) (e : r = .ok g) : S (ds.map .dat) = .ok (wr g) (List.replicate ds.length none) := by
  rw [e] at h
  exact h
section
variable {Xc : Nat → Rho → Prop}
variable {γ δ β : Type} {f g : FE} {F : FA} {fb rest : FS} {ρ ρ1 ρ2 : Rho} {r : R γ} {wr : γ → Vl} {wd : γ → PyData} {E : γ → Rho → Prop} {e : γ → PyData}
/-- arguments that may raise -/
def Ga (Xc : Nat → Rho → Prop) (o : Out (List Opd)) (r : R γ) (ds : γ → List PyData) (ρ1 : Rho) : Prop := match r with
  | .ok g => ∃ ws : List Vl, o = .ok (ws.map .val) ρ1 ∧ ws.map viewD = (ds g).map some
  | .exc c => ∃ ρ', o = .exc c ρ' ∧ Xc c ρ'
  | .stk => True
theorem ga_av {ds : List PyData} {x : γ} (h : Av F ρ ds ρ1) : Ga Xc (F ρ) (.ok x) (fun _ => ds) ρ1 := h
theorem ga_star {ds : γ → List PyData} {r2 : R δ} {ds2 : δ → List PyData} (h : Gx Xc (f ρ) r wr (fun _ ρ' => ρ' = ρ1)) (hd : ∀ g, (viewD (wr g)).bind seqOf = some (ds g)) (h2 : Ga Xc (F ρ1) r2 ds2 ρ2) : Ga Xc (aStar f F ρ) (r.bind fun a => r2.bind fun b => .ok (a, b)) (fun (p : γ × δ) => ds p.1 ++ ds2 p.2) ρ2 := by
  unfold aStar
  cases r with
  | stk => trivial
  | exc c => obtain ⟨ρ', e, hX⟩ := h; exact ⟨ρ', by rw [e]; rfl, hX⟩
  | ok x =>
    obtain ⟨ρ', e, q⟩ := h
    subst q
    obtain ⟨d, hv, hs⟩ := Option.bind_eq_some_iff.mp (hd x)
    have hf : frz1 ρ' (.val (wr x)) = some (d, ρ') := by show (viewD (wr x)).map _ = _; rw [hv]; rfl
    rw [e, bind_ok, hf]
    simp only [hs]
    cases r2 with
    | stk => trivial
    | exc c => obtain ⟨ρ'', e2, hX⟩ := h2; exact ⟨ρ'', by rw [e2]; rfl, hX⟩
    | ok y =>
      obtain ⟨ws, e2, l⟩ := h2
      refine ⟨(ds x).map Vl.dat ++ ws, ?_, ?_⟩
      · rw [e2, bind_ok, List.map_append, List.map_map]; rfl
      · rw [List.map_append, List.map_append, l, List.map_map]; rfl
theorem ga_consX {r2 : R δ} {ds2 : δ → List PyData} (h : Gx Xc (f ρ) r wr (fun _ ρ' => ρ' = ρ1)) (hd : ∀ g, viewD (wr g) = some (wd g)) (h2 : Ga Xc (F ρ1) r2 ds2 ρ2) : Ga Xc (aCons f F ρ) (r.bind fun a => r2.bind fun b => .ok (a, b)) (fun (p : γ × δ) => wd p.1 :: ds2 p.2) ρ2 := by
  unfold aCons
  cases r with
  | stk => trivial
  | exc c => obtain ⟨ρ', e, hX⟩ := h; exact ⟨ρ', by rw [e]; rfl, hX⟩
  | ok x =>
    obtain ⟨ρ', e, q⟩ := h
    subst q
    rw [e, bind_ok]
    cases r2 with
    | stk => trivial
    | exc c => obtain ⟨ρ'', e2, hX⟩ := h2; exact ⟨ρ'', by rw [e2]; rfl, hX⟩
    | ok y =>
      obtain ⟨ws, e2, l⟩ := h2
      refine ⟨wr x :: ws, ?_, ?_⟩
      · rw [e2, bind_ok]; rfl
      · rw [List.map_cons, List.map_cons, l, hd]
theorem gx_pv {x : γ} (h : Pv f ρ (wr x) ρ1) : Gx Xc (f ρ) (.ok x) wr (fun _ ρ' => ρ' = ρ1) := ⟨ρ1, h, rfl⟩
theorem gx_tupG {ds : γ → List PyData} (h : Ga Xc (F ρ) r ds ρ1) : Gx Xc (fTup F ρ) (r.bind fun g => gdR ((ds g).length ≤ 100000) (.ok g)) (fun g => .dat (.tuple (ds g))) (fun _ ρ' => ρ' = ρ1) := by
  cases r with
  | stk => trivial
  | exc c => obtain ⟨ρ', e, hX⟩ := h; exact ⟨ρ', by unfold fTup; rw [e]; rfl, hX⟩
  | ok x =>
    show Gx Xc _ (gdR _ _) _ _
    unfold gdR
    split
    · rename_i q
      exact ⟨ρ1, pv_tup (show Av F ρ (ds x) ρ1 from h) q, rfl⟩
    · trivial
theorem gx_callG {S : CSpec} {n : Nat} {ds : γ → List PyData} {r2 : γ → R δ} {wr2 : δ → Vl} (h : Ga Xc (F ρ) r ds ρ1) (hs : ∀ x, SpR S (ds x) (r2 x) wr2) (hn : ∀ x, (ds x).length = n) (hX : ∀ c, Xc c ρ1 := by intro _; first | trivial | rfl) : Gx Xc (fCall (List.replicate n false) S F ρ) (r.bind r2) wr2 (fun _ ρ' => ρ' = ρ1) := by
  cases r with
  | stk => trivial
  | exc c => obtain ⟨ρ', e, hX⟩ := h; exact ⟨ρ', by unfold fCall; rw [e]; rfl, hX⟩
  | ok x =>
    exact gx_call (show Av F ρ (ds x) ρ1 from h) (hs x) (hn x) hX
theorem gx_pick {io : List Bool} {ss : List CSpec} {S : CSpec} {i : Int} (h : Pl f ρ (vI i) ρ1) (hs : L2.atI ss i = some S) (g : Gx Xc (fCall io S F ρ1) r wr E) : Gx Xc (fPick io ss f F ρ) r wr E := by
  obtain ⟨o, e, l⟩ := h
  have : fPick io ss f F ρ = fCall io S F ρ1 := by
    unfold fPick
    rw [e, bind_ok]
    unfold pickO
    rw [l]
    simp only [hs]
  rw [this]; exact g
/-! ### any, all -/
theorem orC_l {G1 G2 : List Vl → Option Vl} {ws : List Vl} {w : Vl} (h : G1 ws = some w) : orC G1 G2 ws = some w := by unfold orC; rw [h]
theorem orC_r {G1 G2 : List Vl → Option Vl} {ws : List Vl} {w : Vl} (h : G2 ws = some w) (h1 : G1 ws = some w ∨ G1 ws = none) : orC G1 G2 ws = some w := by
  unfold orC
  rcases h1 with e | e <;> rw [e]
  exact h
theorem y_any {a : Vl} {bs : List Bool} (ha : asL a = some (bs.map .bool) := by rfl) : orC (g1 gAny) (g1 gAnyI) [a] = some (vB (bs.any id)) := orC_l (y_any1 ha)
theorem y_all {a : Vl} {bs : List Bool} (ha : asL a = some (bs.map .bool) := by rfl) : orC (g1 gAll) (g1 gAllI) [a] = some (vB (bs.all id)) := orC_l (y_all1 ha)
theorem y_anyI {a : Vl} {ns : List Int} (ha : asL a = some (ns.map .int) := by rfl) : orC (g1 gAny) (g1 gAnyI) [a] = some (vB ((ns.map (· != 0)).any id)) := by
  refine orC_r ?_ ?_
  · show gAnyI a = _
    unfold gAnyI
    rw [ha, Option.bind_some, asInts_map]; rfl
  · show gAny a = _ ∨ gAny a = _
    unfold gAny
    rw [ha, Option.bind_some]
    cases ns with
    | nil => exact .inl rfl
    | cons n ns => exact .inr rfl
theorem y_allI {a : Vl} {ns : List Int} (ha : asL a = some (ns.map .int) := by rfl) : orC (g1 gAll) (g1 gAllI) [a] = some (vB ((ns.map (· != 0)).all id)) := by
  refine orC_r ?_ ?_
  · show gAllI a = _
    unfold gAllI
    rw [ha, Option.bind_some, asInts_map]; rfl
  · show gAll a = _ ∨ gAll a = _
    unfold gAll
    rw [ha, Option.bind_some]
    cases ns with
    | nil => exact .inl rfl
    | cons n ns => exact .inr rfl
/-! ### tuples that are data -/
def tupOf : PyData → List PyData
  | .tuple ds => ds
  | _ => []
def revDT (d : PyData) : PyData := .tuple (tupOf d).reverse
def cutDT (d : PyData) (lo hi : Option Int) : PyData := .tuple (cutD (tupOf d) lo hi)
theorem isTup_eq {d : PyData} (h : isTup d = true) : d = .tuple (tupOf d) := by
  cases d <;> first | rfl | exact (Bool.noConfusion h)
theorem y_revD {a : Vl} {d : PyData} (h : isTup d = true) (ha : a = .dat d := by rfl) : gRevA a = some (.dat (revDT d)) := by
  subst ha
  have := y_revT (e := fun d : PyData => d) (xs := tupOf d) (a := .dat d) (by rw [List.map_id']; rw [isTup_eq h]; rfl)
  rw [this, List.map_id']; rfl
theorem y_slD {a : Vl} {d : PyData} {lo hi : Option Int} (h : isTup d = true) (ha : a = .dat d := by rfl) : gSl a lo hi = some (.dat (cutDT d lo hi)) := by
  subst ha
  have := y_slT (e := fun d : PyData => d) (xs := tupOf d) (a := .dat d) (lo := lo) (hi := hi) (by rw [List.map_id']; rw [isTup_eq h]; rfl)
  rw [this, List.map_id']; rfl
/-! ### told -/
theorem g_retTold (h : Gx Xc (f ρ) r wr (fun _ ρ' => ρ' = ρ1)) (hd : ∀ g, viewD (wr g) = some (e g)) : Gn Xc (sSeq (sRet (fTup (aCons (fC (.str "told")) (aCons f aNil)))) rest ρ) r (fRt (fun g => .dat (.tuple [.str "told", e g])) anyE) := by
  refine g_retX ?_
  cases r with
  | stk => trivial
  | exc c =>
    obtain ⟨ρ', q, hX⟩ := h
    refine ⟨ρ', ?_, hX⟩
    unfold fTup aCons fC
    simp only [bind_ok, q]
    rfl
  | ok x =>
    obtain ⟨ρ', q, z⟩ := h
    subst z
    exact ⟨ρ', pv_tup (av_cons pv_c (h2 := av_cons (show Pv f ρ (wr x) ρ' from q) (hd x) av_nil)) (by simp), trivial⟩
theorem g_try (h : Gn Xc (fb ρ) r (fRt (fun g => .dat (.tuple [.str "told", e g])) anyE)) (ok : okT r) : Gn Xc (sSeq (sTry errR fb) rest ρ) (.ok (toldR r e)) (fRt (fun d => .dat d) anyE) := by
  cases r with
  | stk => exact ok.elim
  | exc c =>
    obtain ⟨ρ', q, hX⟩ := h
    obtain ⟨t, ht⟩ := Option.isSome_iff_exists.mp (show (errR c).isSome from ok)
    have e1 : sTry errR fb ρ = .ret (.dat (.str t)) ρ' := by
      unfold sTry
      rw [q]; simp only [ht]
    have e2 : toldR (.exc c : R γ) e = .str t := by
      unfold toldR; simp only [ht]
    rw [e2]
    refine ⟨ρ', ?_, trivial⟩
    unfold sSeq; rw [e1]
  | ok x =>
    obtain ⟨ρ', q, _⟩ := h
    have e1 : sTry errR fb ρ = .ret (.dat (.tuple [.str "told", e x])) ρ' := by
      unfold sTry
      rw [q]
    refine ⟨ρ', ?_, trivial⟩
    unfold sSeq; rw [e1]; rfl
end
end Mi
end
section
set_option Elab.async false
set_option linter.all false
set_option maxRecDepth 100000
/-! Tw8: own instances in the plain twin -/
namespace Mi
open PySem
/-! ### fields looked up, none, put -/
inductive Lk : List (Str × PyData) → Str → PyData → Prop
  | here {f : Str} {d : PyData} {r : List (Str × PyData)} : Lk ((f, d) :: r) f d
  | there {f g : Str} {d x : PyData} {r : List (Str × PyData)} (h : (f == g) = false) (t : Lk r f d) : Lk ((g, x) :: r) f d
theorem Lk.eq {fs : List (Str × PyData)} {f : Str} {d : PyData} (h : Lk fs f d) : fs.lookup f = some d := by
  induction h with
  | here => rw [List.lookup_cons, beq_self_eq_true]
  | there h _ ih => rw [List.lookup_cons, h]; exact ih
inductive Ln : List (Str × PyData) → Str → Prop
  | nil {f : Str} : Ln [] f
  | cons {f g : Str} {x : PyData} {r : List (Str × PyData)} (h : (f == g) = false) (t : Ln r f) : Ln ((g, x) :: r) f
theorem Ln.eq {fs : List (Str × PyData)} {f : Str} (h : Ln fs f) : fs.lookup f = none := by
  induction h with
  | nil => rfl
  | cons h _ ih => rw [List.lookup_cons, h]; exact ih
inductive Pd : List (Str × PyData) → Str → PyData → List (Str × PyData) → Prop
  | nil {f : Str} {d : PyData} : Pd [] f d [(f, d)]
  | here {f : Str} {d x : PyData} {r : List (Str × PyData)} : Pd ((f, x) :: r) f d ((f, d) :: r)
  | there {f g : Str} {d x : PyData} {r r' : List (Str × PyData)} (h : (f == g) = false) (t : Pd r f d r') : Pd ((g, x) :: r) f d ((g, x) :: r')
theorem Pd.eq {fs fs' : List (Str × PyData)} {f : Str} {d : PyData} (h : Pd fs f d fs') : putD f d fs = fs' := by
  induction h with
  | nil => rfl
  | here => unfold putD; rw [if_pos rfl]
  | there h _ ih =>
    unfold putD
    rw [if_neg (fun e => by rw [e, beq_self_eq_true] at h; cases h), ih]
section
variable {Xc : Nat → Rho → Prop} {f fe : FE} {F : FA} {ρ ρ1 ρ2 : Rho} {w : Vl} {i c n : Nat} {fs fs' : List (Str × PyData)} {d : PyData} {ds : List PyData} {fn m : Str} {S : CSpec} {γ : Type}
theorem pv_at (h : (ρ[i]?).join = some (.ob c fs) := by rfl) (l : Lk fs fn d) : Pv (una (gAt c fn) (fV i)) ρ (.dat d) ρ :=
  pv_una (pl_v h) (by
    show (if c = c then (fs.lookup fn).map Vl.dat else none) = _
    rw [if_pos rfl, l.eq]; rfl)
theorem ev_put (h : Pv fe ρ w ρ1) (l : Pd fs fn d fs') (hz : fs.length < 900 := by decide) (hd : viewD w = some d := by rfl) (hm : (ρ1[i]?).join = some (.ob c fs) := by rfl) (hr : ρ1.set i (some (.ob c fs')) = ρ2 := by rfl) : sPut i c fn fe ρ = .nx ρ2 := by
  unfold Pv at h
  unfold sPut
  rw [h, bindS_ok]
  have hf : frz1 ρ1 (.val w) = some (d, ρ1) := by show (viewD w).map _ = _; rw [hd]; rfl
  rw [hf]
  simp only
  unfold putO
  rw [show look ρ1 (.brw i) = some (.ob c fs) from hm]
  simp only
  rw [if_pos ⟨trivial, hz⟩, l.eq, hr]
theorem ev_inc {a b : Int} (h : Pl fe ρ (vI b) ρ) (l : Lk fs fn (.int a)) (p : Pd fs fn (.int (a + b)) fs') (hz : fs.length < 900 := by decide) (hm : (ρ[i]?).join = some (.ob c fs) := by rfl) (hr : ρ.set i (some (.ob c fs')) = ρ2 := by rfl) : sInc i c fn fe ρ = .nx ρ2 := by
  obtain ⟨o, e, lo⟩ := h
  unfold sInc
  rw [show look ρ (.brw i) = some (.ob c fs) from hm]
  simp only
  rw [if_pos trivial, l.eq]
  simp only
  rw [e, bindS_ok]
  unfold incO
  rw [lo]
  simp only
  unfold putO
  rw [show look ρ (.brw i) = some (.ob c fs) from hm]
  simp only
  rw [if_pos ⟨trivial, hz⟩, p.eq, hr]
/-- what a method's call comes to; fl: the fields behind it -/
def SpO (S : CSpec) (c : Nat) (fs : List (Str × PyData)) (ds : List PyData) (r : R γ) (wr : γ → Vl) (fl : γ → List (Str × PyData)) : Prop := match r with
  | .ok g => S (.ob c fs :: ds.map .dat) = .ok (wr g) (some (.ob c (fl g)) :: List.replicate ds.length none)
  | .exc k => S (.ob c fs :: ds.map .dat) = .exc k (some (.ob c fs) :: List.replicate ds.length none)
  | .stk => True
theorem meth_ev (hm : (ρ[i]?).join = some (.ob c fs)) (l : Ln fs m) {io : List Bool} : fMeth i c m io S F ρ = fCall (true :: io) S (aCons (fV i) F) ρ := by
  unfold fMeth
  rw [show look ρ (.brw i) = some (.ob c fs) from hm]
  simp only
  rw [if_pos ⟨trivial, l.eq⟩]
theorem pv_meth (h1 : Av F ρ ds ρ) (l : Ln fs m) (hs : S (.ob c fs :: ds.map .dat) = .ok w (some (.ob c fs') :: List.replicate n none)) (hm : (ρ[i]?).join = some (.ob c fs) := by rfl) (hr : ρ.set i (some (.ob c fs')) = ρ2 := by rfl) (hn : ds.length = n := by rfl) : Pv (fMeth i c m (List.replicate n false) S F) ρ w ρ2 := by
  unfold Pv
  rw [meth_ev hm l]
  exact pv_callS (w9 := .ob c fs) ⟨hm, fun _ z => nomatch z⟩ h1 hm hs hr hn
/-- .. that raises: the instance is as it was -/
theorem px_callS {S : CSpec} {k : Nat} {w0 w1 : Vl} (hnd : ∀ d, w0 ≠ .dat d) (h1 : Av F ρ ds ρ) (hj : (ρ[i]?).join = some w0) (hs : S (w0 :: ds.map .dat) = .exc k (some w1 :: List.replicate n none)) (hr : ρ.set i (some w1) = ρ2) (hn : ds.length = n) :
    fCall (true :: List.replicate n false) S (aCons (fV i) F) ρ = .exc k ρ2 := by
  obtain ⟨ws, e, l⟩ := id h1
  obtain ⟨os, e', l'⟩ := av_ab h1
  rw [e] at e'
  cases e'
  have ev : fV i ρ = .ok (.brw i) ρ := by
    unfold fV
    rw [hj]
    cases w0 with
    | dat d => exact (hnd d rfl).elim
    | ml _ => rfl
    | mml _ => rfl
    | ob _ _ => rfl
    | st _ => rfl
  have ei : ioC (true :: List.replicate n false) (.brw i :: ws.map .val) = true := by
    unfold ioC
    rw [List.all_eq_true]
    intro p hp
    rw [List.zip_cons_cons] at hp
    rcases List.mem_cons.mp hp with rfl | hp
    · simp [List.countP_cons, countP_val, isB]
    · rw [zip_fal hp]; rfl
  have en : noBor (true :: List.replicate n false) (.brw i :: ws.map .val) = true := by
    have := noBor_val (io := List.replicate n false) (ws := ws)
    unfold noBor at this ⊢
    simp only [List.zip_cons_cons, List.all_cons, this, Bool.and_true, Bool.true_or]
  unfold fCall aCons
  rw [ev, bind_ok, e, bind_ok, bind_ok, if_pos ei, argW_lend hj l' hn]
  simp only [hs, en, Bool.true_or, if_true]
  show Out.exc _ (setIO (ρ.set i (some w1)) (List.replicate n false) _ (List.replicate n none)) = _
  rw [setIO_fal, hr]
theorem set_same {w0 : Vl} (h : (ρ[i]?).join = some w0) : ρ.set i (some w0) = ρ := by
  have h2 : ρ[i]? = some (some w0) := by
    cases q : ρ[i]? with
    | none => rw [q] at h; cases h
    | some o => rw [q] at h; have h : o = some w0 := h; rw [h]
  obtain ⟨hl, e⟩ := List.getElem?_eq_some_iff.mp h2
  rw [← e]
  exact List.set_getElem_self hl
/-- a method that may raise -/
theorem gx_meth {r : R γ} {wr : γ → Vl} {fl : γ → List (Str × PyData)} (h1 : Av F ρ ds ρ) (l : Ln fs m) (hs : SpO S c fs ds r wr fl) (hm : (ρ[i]?).join = some (.ob c fs) := by rfl) (hn : ds.length = n := by rfl) (hX : ∀ k, Xc k ρ := by intro _; first | trivial | rfl) :
    Gx Xc (fMeth i c m (List.replicate n false) S F ρ) r wr (fun g ρ' => ρ' = ρ.set i (some (.ob c (fl g)))) := by
  rw [meth_ev hm l]
  cases r with
  | stk => trivial
  | exc k =>
    subst hn
    exact ⟨ρ, px_callS (w0 := .ob c fs) (fun _ z => nomatch z) h1 hm hs (set_same hm) rfl, hX k⟩
  | ok g =>
    subst hn
    exact ⟨_, pv_callS (w9 := .ob c fs) ⟨hm, fun _ z => nomatch z⟩ h1 hm hs rfl rfl, rfl⟩
theorem g_retNo {γ' : Type} {E : γ' → Rho → Prop} {g : γ'} {fb : FS} (h : E g ρ) : Gn Xc (sSeq sRetN fb ρ) (.ok g) (fun g s => ∃ ρ', (s = .nx ρ' ∨ s = .ret (.dat .none) ρ') ∧ E g ρ') := ⟨ρ, .inr rfl, h⟩
/-- a def that is lent an instance as its second argument -/
theorem pv_call2 {d0 : PyData} {w0 w1 : Vl} {f0 : FE} (hnd : ∀ d, w0 ≠ .dat d) (h0 : Pv f0 ρ (.dat d0) ρ) (h1 : Av F ρ ds ρ) (hs : S (.dat d0 :: w0 :: ds.map .dat) = .ok w (none :: some w1 :: List.replicate n none)) (hj : (ρ[i]?).join = some w0 := by rfl) (hr : ρ.set i (some w1) = ρ2 := by rfl) (hn : ds.length = n := by rfl) :
    Pv (fCall (false :: true :: List.replicate n false) S (aCons f0 (aCons (fV i) F))) ρ w ρ2 := by
  obtain ⟨ws, e, l⟩ := id h1
  obtain ⟨os, e', l'⟩ := av_ab h1
  rw [e] at e'
  cases e'
  have ev : fV i ρ = .ok (.brw i) ρ := by
    unfold fV
    rw [hj]
    cases w0 with
    | dat d => exact (hnd d rfl).elim
    | ml _ => rfl
    | mml _ => rfl
    | ob _ _ => rfl
    | st _ => rfl
  have ei : ioC (false :: true :: List.replicate n false) (.val (.dat d0) :: .brw i :: ws.map .val) = true := by
    unfold ioC
    rw [List.all_eq_true]
    intro p hp
    rw [List.zip_cons_cons, List.zip_cons_cons] at hp
    rcases List.mem_cons.mp hp with rfl | hp
    · rfl
    rcases List.mem_cons.mp hp with rfl | hp
    · simp [List.countP_cons, countP_val, isB]
    · rw [zip_fal hp]; rfl
  have en : noBor (false :: true :: List.replicate n false) (.val (.dat d0) :: .brw i :: ws.map .val) = true := by
    have := noBor_val (io := List.replicate n false) (ws := ws)
    unfold noBor at this ⊢
    simp only [List.zip_cons_cons, List.all_cons, this, Bool.and_true, Bool.true_or, Bool.or_true]
  have ea : argW ρ (false :: true :: List.replicate n false) (.val (.dat d0) :: .brw i :: ws.map .val) = some (.dat d0 :: w0 :: ds.map .dat) := by
    have := argW_lend hj l' hn
    show ((look ρ (.val (.dat d0))).bind viewD).bind (fun d => (argW ρ (true :: List.replicate n false) (.brw i :: ws.map .val)).map fun ws => Vl.dat d :: ws) = _
    rw [look_val, this]; rfl
  unfold Pv at h0
  unfold Pv fCall aCons
  rw [h0, bind_ok, ev, bind_ok, e, bind_ok, bind_ok, bind_ok, if_pos ei, ea]
  simp only [hs, en, Bool.true_or, if_true]
  show Out.ok _ (setIO (ρ.set i (some w1)) (List.replicate n false) _ (List.replicate n none)) = _
  rw [setIO_fal, hr]
/-! ### the defs of a class -/
/-- a method's end without a value -/
def fMo (E : γ → Rho → Prop) : γ → SO → Prop := fun g s => ∃ ρ', (s = .nx ρ' ∨ s = .ret (.dat .none) ρ') ∧ E g ρ'
theorem g_retMo {E : γ → Rho → Prop} {g : γ} (h : E g ρ) : Gn Xc (sNext ρ) (.ok g) (fMo E) := ⟨ρ, .inl rfl, h⟩
abbrev obX (c : Nat) (fs : List (Str × PyData)) : Nat → Rho → Prop := fun _ ρ' => ρ'[0]? = some (some (.ob c fs))
theorem outs_ob {w : Vl} {ρ' : Rho} (n : Nat) (h : ρ'[0]? = some (some w)) : outs (true :: List.replicate n false) ρ' = some w :: List.replicate n none := by
  cases ρ' with
  | nil => simp at h
  | cons r ρ' =>
    simp at h
    subst h
    show _ :: outs (List.replicate n false) ρ' = _
    rw [outs_fal]; rfl
theorem sp_obF {n k : Nat} {fb : FS} {r : R γ} {wr : γ → Vl} {fl : γ → List (Str × PyData)} (hn : ds.length = n := by rfl) (h : Gn (obX c fs) (fb (some (.ob c fs) :: ((ds.map .dat).map some ++ List.replicate (k - (n + 1)) none))) r (fRt wr fun g ρ' => ρ'[0]? = some (some (.ob c (fl g))))) : SpO (specOf (true :: List.replicate n false) k fb) c fs ds r wr fl := by
  subst hn
  have hl : (Vl.ob c fs :: ds.map Vl.dat).length = ds.length + 1 := by simp
  cases r with
  | stk => trivial
  | exc j =>
    obtain ⟨ρ', e, hE⟩ := h
    show specOf _ _ _ _ = _
    unfold specOf
    rw [hl]
    show (match fb (some (.ob c fs) :: ((ds.map Vl.dat).map some ++ List.replicate (k - (ds.length + 1)) none)) with
      | .nx ρ => COut.ok (.dat .none) (outs _ ρ)
      | .ret w ρ => .ok w (outs _ ρ)
      | .exc c ρ => .exc c (outs _ ρ)
      | _ => .stk) = _
    rw [e]
    show COut.exc _ (outs _ ρ') = _
    rw [outs_ob _ hE]
  | ok g =>
    obtain ⟨ρ', e, hE⟩ := h
    show specOf _ _ _ _ = _
    unfold specOf
    rw [hl]
    show (match fb (some (.ob c fs) :: ((ds.map Vl.dat).map some ++ List.replicate (k - (ds.length + 1)) none)) with
      | .nx ρ => COut.ok (.dat .none) (outs _ ρ)
      | .ret w ρ => .ok w (outs _ ρ)
      | .exc c ρ => .exc c (outs _ ρ)
      | _ => .stk) = _
    rw [e]
    show COut.ok _ (outs _ ρ') = _
    rw [outs_ob _ hE]
theorem sp_obM {n k : Nat} {fb : FS} {r : R γ} {fl : γ → List (Str × PyData)} (hn : ds.length = n := by rfl) (h : Gn (obX c fs) (fb (some (.ob c fs) :: ((ds.map .dat).map some ++ List.replicate (k - (n + 1)) none))) r (fMo fun g ρ' => ρ'[0]? = some (some (.ob c (fl g))))) : SpO (specOf (true :: List.replicate n false) k fb) c fs ds r (fun _ => .dat .none) fl := by
  subst hn
  have hl : (Vl.ob c fs :: ds.map Vl.dat).length = ds.length + 1 := by simp
  cases r with
  | stk => trivial
  | exc j =>
    obtain ⟨ρ', e, hE⟩ := h
    show specOf _ _ _ _ = _
    unfold specOf
    rw [hl]
    show (match fb (some (.ob c fs) :: ((ds.map Vl.dat).map some ++ List.replicate (k - (ds.length + 1)) none)) with
      | .nx ρ => COut.ok (.dat .none) (outs _ ρ)
      | .ret w ρ => .ok w (outs _ ρ)
      | .exc c ρ => .exc c (outs _ ρ)
      | _ => .stk) = _
    rw [e]
    show COut.exc _ (outs _ ρ') = _
    rw [outs_ob _ hE]
  | ok g =>
    obtain ⟨ρ', e, hE⟩ := h
    show specOf _ _ _ _ = _
    unfold specOf
    rw [hl]
    show (match fb (some (.ob c fs) :: ((ds.map Vl.dat).map some ++ List.replicate (k - (ds.length + 1)) none)) with
      | .nx ρ => COut.ok (.dat .none) (outs _ ρ)
      | .ret w ρ => .ok w (outs _ ρ)
      | .exc c ρ => .exc c (outs _ ρ)
      | _ => .stk) = _
    rcases e with e | e
    all_goals
      rw [e]
      show COut.ok _ (outs _ ρ') = _
      rw [outs_ob _ hE]
theorem spo_good [Inhabited γ] {r : R γ} {wr : γ → Vl} {fl : γ → List (Str × PyData)} (h : SpO S c fs ds r wr fl) (g : r.good) : S (.ob c fs :: ds.map .dat) = .ok (wr r.get) (some (.ob c (fl r.get)) :: List.replicate ds.length none) := by
  rw [R.get_ok g] at h
  exact h
/-! ### made -/
theorem argD_of : ∀ {ws : List Vl} {ds : List PyData}, ws.map viewD = ds.map some → argD (ws.map .val) = some ds
  | [], [], _ => rfl
  | w :: ws, d :: ds, h => by
    simp only [List.map_cons, List.cons.injEq] at h
    show ((viewD w).bind fun d => (argD (ws.map .val)).map fun ds => d :: ds) = _
    rw [h.1, argD_of h.2]; rfl
  | [], _ :: _, h => by simp at h
  | _ :: _, [], h => by simp at h
theorem pv_make {outs : List (Option Vl)} (h1 : Av F ρ ds ρ1) (hs : S (.ob c [] :: ds.map .dat) = .ok (.dat .none) (some (.ob c fs) :: outs)) (hn : ds.length = n := by rfl) : Pv (fMake c n S F) ρ (.ob c fs) ρ1 := by
  obtain ⟨ws, e, l⟩ := h1
  unfold Pv fMake
  rw [e, bind_ok, argD_of l]
  simp only
  rw [if_pos hn, hs]
  show (if c = c then _ else _) = _
  rw [if_pos rfl]
theorem gx_make {r : R γ} {wr : γ → Vl} {fl : γ → List (Str × PyData)} (h1 : Av F ρ ds ρ1) (hs : SpO S c [] ds r (fun _ => .dat .none) fl) (hn : ds.length = n := by rfl) (hX : ∀ k, Xc k ρ1 := by intro _; first | trivial | rfl) : Gx Xc (fMake c n S F ρ) r (fun g => .ob c (fl g)) (fun _ ρ' => ρ' = ρ1) := by
  cases r with
  | stk => trivial
  | ok g => exact ⟨ρ1, pv_make h1 hs hn, rfl⟩
  | exc k =>
    obtain ⟨ws, e, l⟩ := h1
    refine ⟨ρ1, ?_, hX k⟩
    unfold fMake
    rw [e, bind_ok, argD_of l]
    simp only
    have hs : S (.ob c [] :: ds.map .dat) = _ := hs
    rw [if_pos hn, hs]; rfl
theorem gx_tmp {o : Out Opd} {r : R γ} {wr : γ → List (Str × PyData)} {γ' : Type} {r2 : γ → R γ'} {wr2 : γ' → Vl} {fl2 : γ → γ' → List (Str × PyData)} (h : Gx Xc (f ρ) r (fun g => .ob c (wr g)) (fun _ ρ' => ρ' = ρ1)) (l : ∀ g, Ln (wr g) m) (hs : ∀ g, SpO S c (wr g) [] (r2 g) wr2 (fl2 g)) (hX : ∀ k, Xc k ρ1 := by intro _; first | trivial | rfl) :
    Gx Xc (fTmp c m S f ρ) (r.bind r2) wr2 (fun _ ρ' => ρ' = ρ1) := by
  cases r with
  | stk => trivial
  | exc k =>
    obtain ⟨ρ', e, hX'⟩ := h
    exact ⟨ρ', by unfold fTmp; rw [e]; rfl, hX'⟩
  | ok g =>
    obtain ⟨ρ', e, q⟩ := h
    subst q
    have ev : fTmp c m S f ρ = tmpO S c (wr g) ρ' := by
      unfold fTmp
      rw [e, bind_ok]
      simp only
      rw [if_pos ⟨trivial, (l g).eq⟩]
    rw [ev]
    have h2 := hs g
    show Gx Xc _ (r2 g) _ _
    unfold tmpO
    cases hr : r2 g with
    | stk => trivial
    | exc k =>
      rw [hr] at h2
      have h2 : S [.ob c (wr g)] = _ := h2
      rw [h2]
      exact ⟨ρ', rfl, hX k⟩
    | ok g2 =>
      rw [hr] at h2
      have h2 : S [.ob c (wr g)] = _ := h2
      rw [h2]
      exact ⟨ρ', rfl, rfl⟩
end
end Mi
end
section
set_option Elab.async false
set_option linter.all false
set_option maxRecDepth 100000
/-! Tw9: a def that is lent an instance second and tells what it does -/
namespace Mi
open PySem
section
variable {Xc : Nat → Rho → Prop} {γ φ : Type} {f : FE} {fb rest : FS} {ρ ρ1 : Rho} {r : R γ} {wr : γ → Vl} {E : γ → Rho → Prop} {e : γ → PyData} {c n : Nat} {fl : φ → List (Str × PyData)} {ff : γ → φ} {f0 : φ}
def fldR (r : R γ) (f : γ → φ) (f0 : φ) : φ := match r with
  | .ok g => f g
  | _ => f0
abbrev at1 (c : Nat) (fs : List (Str × PyData)) (ρ : Rho) : Prop := ρ[1]? = some (some (.ob c fs))
theorem g_retToldO (h : Gx Xc (f ρ) r wr E) (hd : ∀ g, viewD (wr g) = some (e g)) : Gn Xc (sSeq (sRet (fTup (aCons (fC (.str "told")) (aCons f aNil)))) rest ρ) r (fRt (fun g => .dat (.tuple [.str "told", e g])) E) := by
  refine g_retX ?_
  cases r with
  | stk => trivial
  | exc c =>
    obtain ⟨ρ', q, hX⟩ := h
    refine ⟨ρ', ?_, hX⟩
    unfold fTup aCons fC
    simp only [bind_ok, q]
    rfl
  | ok x =>
    obtain ⟨ρ', q, z⟩ := h
    exact ⟨ρ', pv_tup (av_cons pv_c (h2 := av_cons (show Pv f ρ (wr x) ρ' from q) (hd x) av_nil)) (by simp), z⟩
theorem gx_weak {o : Out Opd} {E' : γ → Rho → Prop} (h : Gx Xc o r wr E) (hE : ∀ g ρ', E g ρ' → E' g ρ') : Gx Xc o r wr E' := by
  cases r with
  | stk => trivial
  | exc k => exact h
  | ok g => obtain ⟨ρ', q, z⟩ := h; exact ⟨ρ', q, hE g ρ' z⟩
theorem g_tryO (h : Gn (fun _ ρ' => at1 c (fl f0) ρ') (fb ρ) r (fRt (fun g => .dat (.tuple [.str "told", e g])) fun g ρ' => at1 c (fl (ff g)) ρ')) (ok : okT r) : Gn Xc (sSeq (sTry errR fb) rest ρ) (.ok (toldR r e, fldR r ff f0)) (fRt (fun (d : PyData × φ) => .dat d.1) fun d ρ' => at1 c (fl d.2) ρ') := by
  cases r with
  | stk => exact ok.elim
  | exc k =>
    obtain ⟨ρ', q, hX⟩ := h
    obtain ⟨t, ht⟩ := Option.isSome_iff_exists.mp (show (errR k).isSome from ok)
    have e1 : sTry errR fb ρ = .ret (.dat (.str t)) ρ' := by
      unfold sTry
      rw [q]; simp only [ht]
    have e2 : toldR (.exc k : R γ) e = .str t := by
      unfold toldR; simp only [ht]
    rw [e2]
    refine ⟨ρ', ?_, hX⟩
    unfold sSeq; rw [e1]
  | ok x =>
    obtain ⟨ρ', q, hE⟩ := h
    have e1 : sTry errR fb ρ = .ret (.dat (.tuple [.str "told", e x])) ρ' := by
      unfold sTry
      rw [q]
    refine ⟨ρ', ?_, hE⟩
    unfold sSeq; rw [e1]; rfl
theorem sp_ob2 {d0 : PyData} {fs : List (Str × PyData)} {ds : List PyData} {k : Nat} {x : PyData × φ} (hn : ds.length = n := by rfl) (h : Gn anyX (fb (some (.dat d0) :: some (.ob c fs) :: ((ds.map .dat).map some ++ List.replicate (k - (n + 2)) none))) (.ok x) (fRt (fun (d : PyData × φ) => .dat d.1) fun d ρ' => at1 c (fl d.2) ρ')) :
    specOf (false :: true :: List.replicate n false) k fb (.dat d0 :: .ob c fs :: ds.map .dat) = .ok (.dat x.1) (none :: some (.ob c (fl x.2)) :: List.replicate n none) := by
  subst hn
  obtain ⟨ρ', e, hE⟩ := h
  unfold specOf
  have hl : (Vl.dat d0 :: Vl.ob c fs :: ds.map Vl.dat).length = ds.length + 2 := by simp
  rw [hl]
  show (match fb (some (.dat d0) :: some (.ob c fs) :: ((ds.map Vl.dat).map some ++ List.replicate (k - (ds.length + 2)) none)) with
    | .nx ρ => COut.ok (.dat .none) (outs _ ρ)
    | .ret w ρ => .ok w (outs _ ρ)
    | .exc c ρ => .exc c (outs _ ρ)
    | _ => .stk) = _
  rw [e]
  show COut.ok _ (outs _ ρ') = _
  have ho : outs (false :: true :: List.replicate ds.length false) ρ' = none :: some (.ob c (fl x.2)) :: List.replicate ds.length none := by
    cases ρ' with
    | nil => simp [at1] at hE
    | cons r0 ρ' =>
      have hE' : ρ'[0]? = some (some (.ob c (fl x.2))) := by simpa [at1] using hE
      show none :: outs (true :: List.replicate ds.length false) ρ' = _
      rw [outs_ob _ hE']
  rw [ho]
end
end Mi
end
section
set_option Elab.async false
set_option linter.all false
set_option maxRecDepth 100000
set_option maxHeartbeats 1000000
/-! Tw10: a def lent an instance as its second argument, that leaves it as it was -/
namespace Mi
open PySem PySem.Spec PyProof.Rows L2
section
variable {f fe : FE} {F : FA} {ρ ρ1 ρ2 : Rho} {w : Vl} {i c n : Nat} {fs fs' : List (Str × PyData)} {d : PyData} {ds : List PyData} {fn m : Str} {S : CSpec} {γ : Type}
theorem pv_call2S {d0 : PyData} {w0 : Vl} {f0 : FE} (hnd : ∀ d, w0 ≠ .dat d) (h0 : Pv f0 ρ (.dat d0) ρ) (h1 : Av F ρ ds ρ1) (hs : S (.dat d0 :: w0 :: ds.map .dat) = .ok w (none :: some w0 :: List.replicate n none)) (hj0 : (ρ[i]?).join = some w0 := by rfl) (hj : (ρ1[i]?).join = some w0 := by rfl) (hn : ds.length = n := by rfl) :
    Pv (fCall (false :: true :: List.replicate n false) S (aCons f0 (aCons (fV i) F))) ρ w ρ1 := by
  obtain ⟨ws, e, l⟩ := id h1
  obtain ⟨os, e', l'⟩ := av_ab h1
  rw [e] at e'
  cases e'
  have ev : fV i ρ = .ok (.brw i) ρ := by
    unfold fV
    rw [hj0]
    cases w0 with
    | dat d => exact (hnd d rfl).elim
    | ml _ => rfl
    | mml _ => rfl
    | ob _ _ => rfl
    | st _ => rfl
  have ei : ioC (false :: true :: List.replicate n false) (.val (.dat d0) :: .brw i :: ws.map .val) = true := by
    unfold ioC
    rw [List.all_eq_true]
    intro p hp
    rw [List.zip_cons_cons, List.zip_cons_cons] at hp
    rcases List.mem_cons.mp hp with rfl | hp
    · rfl
    rcases List.mem_cons.mp hp with rfl | hp
    · simp [List.countP_cons, countP_val, isB]
    · rw [zip_fal hp]; rfl
  have en : noBor (false :: true :: List.replicate n false) (.val (.dat d0) :: .brw i :: ws.map .val) = true := by
    have := noBor_val (io := List.replicate n false) (ws := ws)
    unfold noBor at this ⊢
    simp only [List.zip_cons_cons, List.all_cons, this, Bool.and_true, Bool.true_or, Bool.or_true]
  have ea : argW ρ1 (false :: true :: List.replicate n false) (.val (.dat d0) :: .brw i :: ws.map .val) = some (.dat d0 :: w0 :: ds.map .dat) := by
    have := argW_lend hj l' hn
    show ((look ρ1 (.val (.dat d0))).bind viewD).bind (fun d => (argW ρ1 (true :: List.replicate n false) (.brw i :: ws.map .val)).map fun ws => Vl.dat d :: ws) = _
    rw [look_val, this]; rfl
  unfold Pv at h0
  unfold Pv fCall aCons
  rw [h0, bind_ok, ev, bind_ok, e, bind_ok, bind_ok, bind_ok, if_pos ei, ea]
  simp only [hs, en, Bool.true_or, if_true]
  show Out.ok _ (setIO (ρ1.set i (some w0)) (List.replicate n false) _ (List.replicate n none)) = _
  rw [setIO_fal, set_same hj]
end
end Mi
end
section
set_option Elab.async false
set_option linter.all false
set_option maxRecDepth 100000
set_option maxHeartbeats 1000000
/-! Tw11: tuple(range(n)), list(range(n)) as values -/
namespace Mi
open PySem PySem.Spec PyProof.Rows L2
theorem y_tupR1 {n : Int} (h : RgOk 0 n) : gTupR1 (vI n) = some (.dat (.tuple ((irange 0 n).map .int))) := by
  show gd (RgOk 0 n) (.dat (.tuple (rangeD 0 n))) = _
  rw [gd_pos h, rangeD_eq]
theorem y_lstR1 {n : Int} (h : RgOk 0 n) : gLstR1 (vI n) = some (.ml ((irange 0 n).map .int)) := by
  show gd (RgOk 0 n) (.ml (rangeD 0 n)) = _
  rw [gd_pos h, rangeD_eq]
end Mi
end
section
set_option Elab.async false
set_option linter.all false
set_option maxRecDepth 100000
/-! Tw12: an if with ways out in it, joined -/
namespace Mi
open PySem
/-- falls through with b, or is finished with d -/
def smK {β δ : Type} (tk : β → R δ) : β ⊕ δ → R δ
  | .inl b => tk b
  | .inr d => .ok d
def fSm {β δ : Type} (E : β → Rho → Prop) (Φ : δ → SO → Prop) : β ⊕ δ → SO → Prop
  | .inl b, s => ∃ ρ', s = .nx ρ' ∧ E b ρ'
  | .inr d, s => Φ d s ∧ ∀ ρ', s ≠ .nx ρ'
def smR {β δ : Type} (r : R δ) : R (β ⊕ δ) := r.bind fun d => .ok (.inr d)
section
variable {Xc : Nat → Rho → Prop}
variable {δ β γ α : Type} {Φ : δ → SO → Prop} {f a b A B body : FS} {fe : FE} {c : FT} {ρ ρ1 ρ2 : Rho} {t : R δ} {s : SO}
theorem g_ifS {E : β → Rho → Prop} {tj : R (β ⊕ δ)} {tk : β → R δ} (hj : Gn Xc (a ρ) tj (fSm E Φ)) (h : ∀ b ρ', E b ρ' → Gn Xc (f ρ') (tk b) Φ) : Gn Xc (sSeq a f ρ) (tj.bind (smK tk)) Φ := by
  cases tj with
  | stk => trivial
  | exc c0 =>
    obtain ⟨ρ', e, hX⟩ := hj
    exact ⟨ρ', by unfold sSeq; rw [e], hX⟩
  | ok r =>
    cases r with
    | inl b0 =>
      obtain ⟨ρ', e, hE⟩ := hj
      have := h b0 ρ' hE
      show Gn Xc _ (tk b0) Φ
      rw [seq_nx' e]; exact this
    | inr d =>
      obtain ⟨h1, h2⟩ := hj
      have : sSeq a f ρ = a ρ := by
        unfold sSeq
        cases e : a ρ with
        | nx ρ' => exact (h2 ρ' e).elim
        | _ => rfl
      show Φ d _
      rw [this]; exact h1
theorem g_sl {E : β → Rho → Prop} {b : β} (h : E b ρ) : Gn Xc (sNext ρ) (.ok (.inl b)) (fSm E Φ) := ⟨ρ, rfl, h⟩
theorem nn_ret : ∀ ρ', sSeq (sRet fe) f ρ ≠ .nx ρ' := by
  intro ρ' h
  unfold sSeq sRet at h
  cases e : fe ρ with
  | ok o ρ1 =>
    rw [e, bindS_ok] at h
    unfold retO at h
    cases e2 : own ρ1 o with
    | none => rw [e2] at h; cases h
    | some p => rw [e2] at h; cases h
  | exc c ρ1 => rw [e] at h; cases h
  | stk => rw [e] at h; cases h
theorem nn_retN : ∀ ρ', sSeq sRetN f ρ ≠ .nx ρ' := fun ρ' h => nomatch h
theorem nn_brk : ∀ ρ', sSeq sBrk f ρ ≠ .nx ρ' := fun ρ' h => nomatch h
theorem nn_cnt : ∀ ρ', sSeq sCnt f ρ ≠ .nx ρ' := fun ρ' h => nomatch h
theorem g_sm {E : β → Rho → Prop} {d : δ} (h : Gn Xc s (.ok d) Φ) (n : ∀ ρ', s ≠ .nx ρ') : Gn Xc s (.ok (.inr d)) (fSm E Φ) := ⟨h, n⟩
theorem g_smX {E : β → Rho → Prop} {r : R δ} (h : Gn Xc s r Φ) (n : ∀ ρ', s ≠ .nx ρ') : Gn Xc s (smR r) (fSm E Φ) := by
  cases r with
  | stk => trivial
  | exc c0 => exact h
  | ok d => exact ⟨h, n⟩
theorem h_sm {E : β → Rho → Prop} {Er : γ → SO → Prop} {hr : γ → δ} (h : ∀ g w ρ', Er g (.ret w ρ') → Φ (hr g) (.ret w ρ')) : ∀ g w ρ', Er g (.ret w ρ') → fSm E Φ (.inr (hr g)) (.ret w ρ') := fun g w ρ' q => ⟨h g w ρ' q, fun _ z => nomatch z⟩
end
end Mi
end
section
set_option Elab.async false
set_option linter.all false
set_option maxRecDepth 100000
set_option maxHeartbeats 1000000
/-! Cb1: itertools.combinations -/
namespace Mi
open PySem PySem.Spec PyProof.Rows L2
open Sem (wp)
namespace CF
theorem mro_comb : mroOf (.type "itertools.combinations") = pure [.type "itertools.combinations", .type "object"] := by rw [mroOf_type]; kernel_rfl
theorem lookup_comb_new : typeLookup (.type "itertools.combinations") "__new__" = pure (some (.builtin "itertools.combinations.__new__")) := by rw [typeLookup_type, builtinLookup_eq_fast]; kernel_rfl
theorem slot_comb_init : Slot "itertools.combinations" "__init__" "object.__init__" :=
  .of (owner := "object") (n := "__init__") (by rw [typeLookup_type, builtinLookup_eq_fast]; kernel_rfl) (by decide +kernel) (by decide +kernel) (by decide +kernel)
    (by first | exact .inl (by decide +kernel) | exact .inr (by decide +kernel)) (by rw [isSubtype_type]; kernel_rfl)
theorem called_comb : TypeCalled "itertools.combinations" "itertools.combinations.__new__" "object.__init__" :=
  ⟨by decide +kernel, by decide +kernel, ⟨_, _, mro_comb⟩, madeBy_type mro_comb lookup_comb_new (by decide +kernel), by decide +kernel, by rw [isSubtype_type]; kernel_rfl, slot_comb_init⟩
theorem typeCall_comb_2 (a b : Value) : checkTypeCall "itertools.combinations" ⟨[a, b], []⟩ = pure () := by kernel_rfl
theorem newCall_comb_2 (a b : Value) : checkBuiltinCall "itertools.combinations.__new__" ⟨[.type "itertools.combinations", a, b], []⟩ = pure () := by kernel_rfl
theorem entry_comb_new : entryFor table "itertools.combinations.__new__" = some Builtin.«itertools.combinations.__new__» := entryFor_of_tree (by kernel_rfl)
theorem slot_comb_next : Slot "itertools.combinations" "__next__" "itertools.combinations.__next__" :=
  .of (owner := "itertools.combinations") (n := "__next__") (by rw [typeLookup_type, builtinLookup_eq_fast]; kernel_rfl) (by decide +kernel) (by decide +kernel) (by decide +kernel)
    (by first | exact .inl (by decide +kernel) | exact .inr (by decide +kernel)) (by rw [isSubtype_type]; kernel_rfl)
theorem entry_comb_next : entryFor table "itertools.combinations.__next__" = some Builtin.«itertools.combinations.__next__» := entryFor_of_tree (by kernel_rfl)
theorem args_comb_next_1 (a : Value) : argsOk "itertools.combinations.__next__" ⟨[a], []⟩ := by
  unfold argsOk
  kernel_rfl
theorem slot_comb_iter : Slot "itertools.combinations" "__iter__" "itertools.combinations.__iter__" :=
  .of (owner := "itertools.combinations") (n := "__iter__") (by rw [typeLookup_type, builtinLookup_eq_fast]; kernel_rfl) (by decide +kernel) (by decide +kernel) (by decide +kernel)
    (by first | exact .inl (by decide +kernel) | exact .inr (by decide +kernel)) (by rw [isSubtype_type]; kernel_rfl)
theorem entry_comb_iter : entryFor table "itertools.combinations.__iter__" = some Builtin.«dict_keyiterator.__iter__» :=
  entryFor_alias (id' := "dict_keyiterator.__iter__") (by kernel_rfl) (by first | rfl | decide +kernel | (unfold String.splitOn; simp +decide [String.splitOnAux])) (by decide +kernel) (by kernel_rfl)
theorem args_comb_iter_1 (a : Value) : argsOk "itertools.combinations.__iter__" ⟨[a], []⟩ := by
  unfold argsOk
  kernel_rfl
theorem sub_comb : isSubtype (.type "itertools.combinations") (.type "itertools.combinations") = pure true := by rw [isSubtype_type]; kernel_rfl
theorem dict_comb : typeHasDict (.type "itertools.combinations") = false := by decide +kernel
end CF
end Mi
end
section
set_option Elab.async false
set_option linter.all false
set_option maxRecDepth 100000
set_option maxHeartbeats 1000000
/-! Cb2: combinations: made, gone on -/
namespace Mi
open PySem PySem.Spec PyProof.Rows L2
open Sem (wp)
/-- what collect draws of v -/
def Coll (v : Value) (H : Heap → Prop) (P : Array Value → Prop) : Prop := ∀ (prog : Program) (w : World) (A : Around) (E : Value → Shared → Prop) (Q : List Value → Shared → Prop) (s : Shared), A.handled = none → H s.heap →
  (∀ (h' : Heap) (tk : Nat) (acc : Array Value), (∀ b o, s.heap.get? b = some o → h'.get? b = some o) → P acc → Q acc.toList { s with heap := h', toks := tk }) → wpAny (model prog w) A (collect v) Q E s
theorem sub_comb2 : isSubtype (.type "itertools.combinations") (.type ("itertools." ++ "combinations")) = pure true := by
  have e : ("itertools." ++ "combinations" : String) = "itertools.combinations" := by decide +kernel
  rw [e]; exact CF.sub_comb
theorem bind_comb (v x : Value) : Builtin.Itertools.itBindNamed "combinations" ["iterable", "r"] 2 2 [v, x] [] = pure [some v, some x] := by kernel_rfl
section
variable {prog : Program} {w : World} {A : Around} {E : Value → Shared → Prop} {s : Shared}
theorem wpAny_ssize {r : Nat} {t : Tok} {Q : Int → Shared → Prop} (hr : r < 1000) (h : Q (r : Int) s) : wpAny (model prog w) A (Builtin.Itertools.itSsizeArg (.int (r : Int) t)) Q E s := by
  unfold Builtin.Itertools.itSsizeArg
  obtain ⟨hp, g, d, tk, os⟩ := s
  wp_walk
  rw [if_neg (by simp; omega)]
  exact wpAny_pure h
end
theorem meets_comb_new {v : Value} {H : Heap → Prop} {P : Array Value → Prop} (C : Coll v H P) (hP : ∀ acc, P acc → acc.size ≤ 1000) (r : Nat) (t : Tok) (hr : r < 1000) :
    Meets (Builtin.«itertools.combinations.__new__» ⟨[.type "itertools.combinations", v, .int (r : Int) t], []⟩) (fun A R s => A.handled = none ∧ H s.heap ∧
      ∀ (h' : Heap) (tk : Nat) (acc : Array Value), (∀ b o, s.heap.get? b = some o → h'.get? b = some o) → P acc →
        R (.ok (.ret (.ref ((h'.push { cls := .type "tuple", data := .seq acc }).objs.size)))) { s with heap := (h'.push { cls := .type "tuple", data := .seq acc }).push { cls := .type "itertools.combinations", data := .fields (([.ref h'.objs.size, rawInt (if r > acc.size then 2 else 0), .none] ++ (List.range r).map fun (i : Nat) => rawInt i).toArray) }, toks := tk }) :=
  .of_wp fun prog w A R s h => by
    obtain ⟨hp, g, d, tk, os⟩ := s; obtain ⟨hA, h1, h⟩ := h
    have hsub := CF.sub_comb
    have hd := CF.dict_comb
    have hb := bind_comb v (.int (r : Int) t)
    have hs2 := sub_comb2
    have qc : ∀ {E : Value → Shared → Prop} {Q : List Value → Shared → Prop}, (∀ (h' : Heap) (tk' : Nat) (acc : Array Value), (∀ b o, hp.get? b = some o → h'.get? b = some o) → P acc → Q acc.toList ⟨h', g, d, tk', os⟩) → wpAny (model prog w) A.in1 (collect v) Q E ⟨hp, g, d, tk, os⟩ := fun q => C prog w _ _ _ ⟨hp, g, d, tk, os⟩ hA h1 q
    wp_walk using wpAny_ssize hr, qc
    intro h' tk' acc hk hPa
    have hsz : acc.toList.length ≤ sizeLine := by rw [Array.length_toList]; exact Nat.le_trans (hP acc hPa) (by decide +kernel)
    have hm : Builtin.Itertools.itTooMany (r : Int) = false := by
      unfold Builtin.Itertools.itTooMany
      simp; omega
    rw [if_neg (by omega)]
    show wpAny _ _ (if Builtin.Itertools.itTooMany (r : Int) = true then _ else _) _ _ _
    rw [if_neg (by rw [hm]; decide)]
    refine wpAny_bind (wpAny_newTuple ?_ hsz)
    refine wpAny_pure ?_
    show wpAny _ _ (Builtin.Itertools.itNewRecord (.type "itertools.combinations") _ >>= _) _ _ _
    refine wpAny_bind ?_
    unfold Builtin.Itertools.itNewRecord
    rw [hd, if_pos (show (!false) = true from rfl)]
    refine wpAny_newObj_type ?_ ?_
    · refine wpAny_pure ⟨_, rfl, ?_⟩
      have := h h' tk' acc hk hPa
      simpa using this
    · simp [sizeOk]
      exact Nat.le_trans (by omega : r + 1 ≤ 2000) (by decide +kernel)
/-- the object, its pool, its state, what it gave out, its numbers -/
def IsCb (h : Heap) (e : Addr) (pool : Addr) (st : Nat) (res : Value) (idx : List Nat) : Prop :=
  h.get? e = some { cls := .type "itertools.combinations", data := .fields (([.ref pool, rawInt (st : Int), res] ++ idx.map fun (i : Nat) => rawInt (i : Int)).toArray) }
section
variable {prog : Program} {w : World} {A : Around} {E : Value → Shared → Prop} {s : Shared}
theorem wpAny_numbers {e pool : Addr} {st : Nat} {res : Value} {idx : List Nat} {Q : List Nat → Shared → Prop} (he : IsCb s.heap e pool st res idx) (h : Q idx s) : wpAny (model prog w) A (Builtin.Itertools.itNumbersFrom (.ref e) 3) Q E s := by
  unfold Builtin.Itertools.itNumbersFrom
  refine wpAny_bind (wpAny_load he ?_)
  refine wpAny_pure ?_
  have e1 : ((([Value.ref pool, rawInt (st : Int), res] ++ idx.map fun (i : Nat) => rawInt (i : Int)).toArray).toList.drop 3).map (fun | .int n _ => n.toNat | _ => 0) = idx := by
    rw [List.toList_toArray]
    show ((idx.map fun (i : Nat) => rawInt (i : Int))).map _ = _
    rw [List.map_map]
    exact List.map_id' _
  exact (congrArg (fun z => Q z s) e1).mpr h
theorem wpAny_pickT {pool : Addr} {its : Array Value} {ks : List Nat} {Q : Value → Shared → Prop} (hp : s.heap.IsTuple pool its) (hk : ks.length ≤ 1000)
    (h : Q (.ref s.heap.objs.size) { s with heap := s.heap.push { cls := .type "tuple", data := .seq ((ks.map fun i => its.getD i .none).toArray) } }) :
    wpAny (model prog w) A (Builtin.Itertools.itPoolItems (.ref pool) >>= fun items => newTuple (ks.map fun i => items.getD i .none)) Q E s := by
  obtain ⟨o, ho, hc, n, hd⟩ := hp
  refine wpAny_bind ?_
  unfold Builtin.Itertools.itPoolItems
  refine wpAny_bind (wpAny_seqItems ho hd ?_)
  refine wpAny_pure ?_
  exact wpAny_newTuple h (by rw [List.length_map]; exact Nat.le_trans hk (by decide +kernel))
theorem cb_set {h h' : Heap} {e pool : Addr} {st : Nat} {res : Value} {idx : List Nat} {k : Nat} {x : Value} {vs : Array Value} (e1 : h'.get? e = some { cls := .type "itertools.combinations", dict := none, data := .fields vs, slots := #[] }) (e2 : vs = (([.ref pool, rawInt (st : Int), res] ++ idx.map fun (i : Nat) => rawInt (i : Int)).toArray)) : IsCb h' e pool st res idx := by
  subst e2; exact e1
/-- the first one -/
theorem comb_next_first {e pool : Addr} {its : Array Value} {res : Value} {idx : List Nat} {Q : Value → Shared → Prop}
    (he : IsCb s.heap e pool 0 res idx) (hp : s.heap.IsTuple pool its) (hne : e ≠ pool) (hk : idx.length ≤ 1000)
    (hQ : ∀ h' : Heap, IsCb h' e pool 1 (.ref s.heap.objs.size) idx → h'.get? s.heap.objs.size = some { cls := .type "tuple", data := .seq ((idx.map fun i => its.getD i .none).toArray) } → h'.objs.size = s.heap.objs.size + 1 →
      (∀ b o, b ≠ e → s.heap.get? b = some o → h'.get? b = some o) → Q (.ref s.heap.objs.size) { s with heap := h' }) :
    wpAny (model prog w) A (Builtin.«itertools.combinations.__next__» ⟨[.ref e], []⟩) (fun fin s' => ∃ v, fin = .done (.ret v) ∧ Q v s') E s := by
  obtain ⟨hp0, g, d, tk₀, os⟩ := s
  have hel : e < hp0.objs.size := Heap.lt_size he
  show wpAny _ _ (field (.ref e) 0 >>= _) _ _ _
  refine wpAny_bind (wpAny_field he rfl (x := .ref pool) rfl ?_)
  refine wpAny_bind (wpAny_numbers he ?_)
  unfold Builtin.Itertools.itIntField
  refine wpAny_bind (wpAny_bind (wpAny_field he rfl (x := rawInt ((0 : Nat) : Int)) rfl ?_))
  refine wpAny_pure ?_
  show wpAny _ _ (setField (.ref e) 1 (rawInt 1) >>= _) _ _ _
  refine wpAny_bind (wpAny_setField_rec he (by simp) fun h₁ he₁ hs₁ => ?_)
  replace he₁ : IsCb h₁ e pool 1 res idx := cb_set (h := h₁) (k := 0) (x := .none) he₁ (by simp)
  replace hs₁ : Heap.SameBut e hp0 h₁ := hs₁
  have hp1 : h₁.IsTuple pool its := hp.at fun o q => (hs₁.2 pool (Ne.symm hne)).trans q
  refine wpAny_bind ?_
  show wpAny _ _ (Builtin.Itertools.itPoolItems (.ref pool) >>= fun items => newTuple (idx.map fun i => items.getD i .none)) _ _ _
  refine wpAny_pickT hp1 hk ?_
  have he₂ : IsCb (h₁.push { cls := .type "tuple", data := .seq ((idx.map fun i => its.getD i .none).toArray) }) e pool 1 res idx := Heap.get?_push_of_some _ he₁
  have hT := Heap.get?_push_size h₁ (o := { cls := .type "tuple", data := .seq ((idx.map fun i => its.getD i .none).toArray) }) rfl
  have hz := Heap.size_push h₁ { cls := .type "tuple", data := .seq ((idx.map fun i => its.getD i .none).toArray) }
  have hk2 : ∀ b o, h₁.get? b = some o → (h₁.push { cls := .type "tuple", data := .seq ((idx.map fun i => its.getD i .none).toArray) }).get? b = some o := fun b o q => Heap.get?_push_of_some _ q
  revert he₂ hT hz hk2
  show _ → _ → _ → _ → wpAny _ _ _ _ _ ⟨h₁.push { cls := .type "tuple", data := .seq ((idx.map fun i => its.getD i .none).toArray) }, g, d, tk₀, os⟩
  generalize h₁.push { cls := .type "tuple", data := .seq ((idx.map fun i => its.getD i .none).toArray) } = h₂
  intro he₂ hT hz hk2
  have sz : h₁.objs.size = hp0.objs.size := hs₁.1
  show wpAny _ _ (field (.ref e) 2 >>= _) _ _ _
  refine wpAny_bind (wpAny_field he₂ rfl (x := res) rfl ?_)
  show wpAny _ _ (setField (.ref e) 2 (.ref h₁.objs.size) >>= _) _ _ _
  refine wpAny_bind (wpAny_setField_rec he₂ (by simp) fun h₃ he₃ hs₃ => ?_)
  replace he₃ : IsCb h₃ e pool 1 (.ref h₁.objs.size) idx := cb_set (h := h₃) (k := 0) (x := .none) he₃ (by simp)
  replace hs₃ : Heap.SameBut e h₂ h₃ := hs₃
  refine wpAny_bind (wpAny_letGo ?_)
  refine wpAny_pure ⟨_, rfl, ?_⟩
  rw [sz] at he₃ hT hz ⊢
  refine hQ h₃ he₃ ((hs₃.2 _ (Nat.ne_of_gt hel)).trans hT) (by rw [hs₃.1, hz]) fun b o hb q => (hs₃.2 b hb).trans (hk2 b o ((hs₁.2 b hb).trans q))
end
end Mi
end
section
set_option Elab.async false
set_option linter.all false
set_option maxRecDepth 100000
set_option maxHeartbeats 1000000
/-! Cb3: the rows of numbers that combinations goes through -/
namespace Mi
open PySem PySem.Spec PyProof.Rows L2
open Sem (wp)
/-- the next row of numbers below n -/
def nxtC (n : Nat) : List Nat → Option (List Nat)
  | [] => none
  | a :: t => match nxtC n t with
    | some t' => some (a :: t')
    | none => if a = n - (t.length + 1) then none else some ((List.range (t.length + 1)).map (a + 1 + ·))
theorem find_nxt (n : Nat) : ∀ l : List Nat, (match (List.range l.length).reverse.find? (fun j => l.getD j 0 != j + n - l.length) with
    | none => none
    | some j => some (l.take j ++ (List.range (l.length - j)).map (l.getD j 0 + 1 + ·))) = nxtC n l
  | [] => rfl
  | a :: t => by
    have ih := find_nxt n t
    have e1 : (List.range (a :: t).length).reverse = ((List.range t.length).reverse.map (· + 1)) ++ [0] := by
      rw [List.length_cons, List.range_succ_eq_map, List.reverse_cons, ← List.map_reverse]
    rw [e1, List.find?_append, List.find?_map]
    have e2 : ((fun j => (a :: t).getD j 0 != j + n - (a :: t).length) ∘ (· + 1)) = fun j => t.getD j 0 != j + n - t.length := by
      funext j
      show ((a :: t).getD (j + 1) 0 != j + 1 + n - (a :: t).length) = _
      rw [List.getD_cons_succ, List.length_cons]
      congr 1
      omega
    rw [e2]
    unfold nxtC
    cases q : (List.range t.length).reverse.find? (fun j => t.getD j 0 != j + n - t.length) with
    | some j =>
      rw [q] at ih
      rw [← ih]
      show some _ = some _
      congr 1
      show (a :: t).take (j + 1) ++ (List.range ((a :: t).length - (j + 1))).map ((a :: t).getD (j + 1) 0 + 1 + ·) = a :: (t.take j ++ _)
      rw [List.take_succ_cons, List.getD_cons_succ, List.length_cons, List.cons_append]
      congr 4
      omega
    | none =>
      rw [q] at ih
      rw [← ih]
      show (match (([0].find? (fun j => (a :: t).getD j 0 != j + n - (a :: t).length)) : Option Nat) with
        | none => none
        | some j => some ((a :: t).take j ++ (List.range ((a :: t).length - j)).map ((a :: t).getD j 0 + 1 + ·))) = if a = n - (t.length + 1) then none else _
      have e3 : ((a :: t).getD 0 0 != 0 + n - (a :: t).length) = decide (a ≠ n - (t.length + 1)) := by
        rw [List.getD_cons_zero, List.length_cons, Nat.zero_add]
        by_cases z : a = n - (t.length + 1)
        · rw [decide_eq_false (fun y => y z), z]; simp
        · rw [decide_eq_true z]; exact bne_iff_ne.mpr z
      rw [List.find?_cons, e3]
      by_cases z : a = n - (t.length + 1)
      · simp [z]
      · simp [z]
/-- all ascending rows of r numbers from lo on, below lo + m, in order -/
def cmbs : Nat → Nat → Nat → List (List Nat)
  | _, _, 0 => [[]]
  | _, 0, _ + 1 => []
  | lo, m + 1, r + 1 => (cmbs (lo + 1) m r).map (lo :: ·) ++ cmbs (lo + 1) m (r + 1)
theorem cmbs_nil : ∀ (m lo r : Nat), m < r → cmbs lo m r = []
  | 0, lo, r + 1, _ => rfl
  | m + 1, lo, r + 1, h => by
    unfold cmbs
    rw [cmbs_nil m (lo + 1) r (by omega), cmbs_nil m (lo + 1) (r + 1) (by omega)]; rfl
theorem cmbs_mem : ∀ (m lo r : Nat) (l : List Nat), l ∈ cmbs lo m r ↔ l.Pairwise (· < ·) ∧ l.length = r ∧ ∀ x ∈ l, lo ≤ x ∧ x < lo + m
  | m, lo, 0, l => by
    unfold cmbs
    constructor
    · intro h; obtain rfl := List.mem_singleton.mp h; simp
    · rintro ⟨_, h, _⟩; rw [List.length_eq_zero_iff.mp h]; simp
  | 0, lo, r + 1, l => by
    unfold cmbs
    constructor
    · intro h; cases h
    · rintro ⟨_, h, h2⟩
      cases l with
      | nil => simp at h
      | cons a l => have := h2 a (by simp); omega
  | m + 1, lo, r + 1, l => by
    unfold cmbs
    rw [List.mem_append, cmbs_mem m (lo + 1) (r + 1) l]
    constructor
    · rintro (h | ⟨h1, h2, h3⟩)
      · obtain ⟨t, ht, rfl⟩ := List.mem_map.mp h
        obtain ⟨h1, h2, h3⟩ := (cmbs_mem m (lo + 1) r t).mp ht
        refine ⟨List.pairwise_cons.mpr ⟨fun x hx => by have := h3 x hx; omega, h1⟩, by simp [h2], fun x hx => ?_⟩
        rcases List.mem_cons.mp hx with rfl | hx
        · omega
        · have := h3 x hx; omega
      · exact ⟨h1, h2, fun x hx => by have := h3 x hx; omega⟩
    · rintro ⟨h1, h2, h3⟩
      cases l with
      | nil => simp at h2
      | cons a t =>
        obtain ⟨p1, p2⟩ := List.pairwise_cons.mp h1
        have ha := h3 a (by simp)
        by_cases q : a = lo
        · left
          subst q
          refine List.mem_map.mpr ⟨t, (cmbs_mem m (a + 1) r t).mpr ⟨p2, by simpa using h2, fun x hx => ?_⟩, rfl⟩
          have := p1 x hx; have := h3 x (by simp [hx]); omega
        · right
          refine ⟨h1, h2, fun x hx => ?_⟩
          rcases List.mem_cons.mp hx with rfl | hx'
          · omega
          · have := p1 x hx'; have := h3 x hx; omega
theorem cmbs_head : ∀ (m lo r : Nat), r ≤ m → (cmbs lo m r)[0]? = some ((List.range r).map (lo + ·))
  | m, lo, 0, _ => by unfold cmbs; rfl
  | m + 1, lo, r + 1, h => by
    unfold cmbs
    have ih := cmbs_head m (lo + 1) r (by omega)
    have hl : 0 < (cmbs (lo + 1) m r).length := (List.getElem?_eq_some_iff.mp ih).1
    rw [List.getElem?_append_left (by rw [List.length_map]; exact hl), List.getElem?_map, ih, List.range_succ_eq_map, List.map_cons, List.map_map]
    show some (lo :: _) = some ((lo + 0) :: _)
    congr 2
    refine List.map_congr_left fun k _ => ?_
    show lo + 1 + k = lo + (k + 1)
    omega
theorem cmbs_next : ∀ (m lo r : Nat) (i : Nat) (x : List Nat), (cmbs lo m r)[i]? = some x → nxtC (lo + m) x = (cmbs lo m r)[i + 1]?
  | m, lo, 0, i, x, h => by
    unfold cmbs at h ⊢
    cases i with
    | zero => simp at h; subst h; rfl
    | succ i => simp at h
  | 0, lo, r + 1, i, x, h => by unfold cmbs at h; simp at h
  | m + 1, lo, r + 1, i, x, h => by
    unfold cmbs at h ⊢
    have em : lo + (m + 1) = lo + 1 + m := by omega
    by_cases hi : i < (cmbs (lo + 1) m r).length
    · rw [List.getElem?_append_left (by rw [List.length_map]; exact hi), List.getElem?_map] at h
      obtain ⟨t, ht, rfl⟩ := Option.map_eq_some_iff.mp h
      have ih := cmbs_next m (lo + 1) r i t ht
      have tl := ((cmbs_mem m (lo + 1) r t).mp (List.mem_of_getElem? ht)).2.1
      rw [em]
      unfold nxtC
      rw [ih]
      by_cases hi2 : i + 1 < (cmbs (lo + 1) m r).length
      · rw [List.getElem?_append_left (by rw [List.length_map]; exact hi2), List.getElem?_map, List.getElem?_eq_getElem hi2]; rfl
      · have hi3 : (cmbs (lo + 1) m r).length = i + 1 := by omega
        rw [List.getElem?_eq_none (by omega), List.getElem?_append_right (by rw [List.length_map]; omega), List.length_map, hi3, Nat.sub_self]
        have hmr : r ≤ m := by
          rcases Nat.lt_or_ge m r with z | z
          · rw [cmbs_nil m (lo + 1) r z] at hi; simp at hi
          · exact z
        show (if lo = lo + 1 + m - (t.length + 1) then none else some ((List.range (t.length + 1)).map (lo + 1 + ·))) = _
        by_cases z : r + 1 ≤ m
        · rw [cmbs_head m (lo + 1) (r + 1) z, if_neg (by omega), tl]
        · rw [cmbs_nil m (lo + 1) (r + 1) (by omega), if_pos (by omega)]; rfl
    · rw [List.getElem?_append_right (by rw [List.length_map]; omega), List.length_map] at h
      have ih := cmbs_next m (lo + 1) (r + 1) _ x h
      rw [em, ih, List.getElem?_append_right (by rw [List.length_map]; omega), List.length_map]
      congr 1
      omega
end Mi
end
section
set_option Elab.async false
set_option linter.all false
set_option maxRecDepth 100000
set_option maxHeartbeats 1000000
/-! Cb4: combinations: gone on, ended -/
namespace Mi
open PySem PySem.Spec PyProof.Rows L2
open Sem (wp)
section
variable {prog : Program} {w : World} {A : Around} {E : Value → Shared → Prop} {s : Shared}
theorem wpAny_poolSize {α : Type} {pool : Addr} {its : Array Value} {k : Array Value → Sem α} {Q : α → Shared → Prop} (hp : s.heap.IsTuple pool its) (h : wpAny (model prog w) A (k its) Q E s) :
    wpAny (model prog w) A (Builtin.Itertools.itPoolItems (.ref pool) >>= k) Q E s := by
  obtain ⟨o, ho, hc, n, hd⟩ := hp
  refine wpAny_bind ?_
  unfold Builtin.Itertools.itPoolItems
  refine wpAny_bind (wpAny_seqItems ho hd ?_)
  exact wpAny_pure h
theorem wpAny_setNumbers {e pool : Addr} {st : Nat} {res : Value} {idx nx : List Nat} {Q : Unit → Shared → Prop} (he : IsCb s.heap e pool st res idx) (hk : nx.length ≤ 1000)
    (h : ∀ h', IsCb h' e pool st res nx → Heap.SameBut e s.heap h' → Q () { s with heap := h' }) : wpAny (model prog w) A (Builtin.Itertools.itSetNumbersFrom (.ref e) 3 nx) Q E s := by
  unfold Builtin.Itertools.itSetNumbersFrom
  refine wpAny_updateFields he rfl (h _ ?_ (Heap.SameBut.update ..)) ?_
  · have := Heap.get?_update_self (Obj.mapFields fun fs => fs.extract 0 3 ++ (nx.map fun (n : Nat) => rawInt n).toArray) he rfl
    unfold IsCb
    refine this.trans ?_
    congr 2
    simp [Obj.mapFields]
  · simp
    exact Nat.le_trans (by omega : _ ≤ 1010) (by decide +kernel)
/-- the next one -/
theorem comb_next_more {e pool : Addr} {its : Array Value} {res : Value} {idx nx : List Nat} {Q : Value → Shared → Prop}
    (he : IsCb s.heap e pool 1 res idx) (hp : s.heap.IsTuple pool its) (hne : e ≠ pool) (hn : nxtC its.size idx = some nx) (hk : nx.length ≤ 1000)
    (hQ : ∀ h' : Heap, IsCb h' e pool 1 (.ref s.heap.objs.size) nx → h'.get? s.heap.objs.size = some { cls := .type "tuple", data := .seq ((nx.map fun i => its.getD i .none).toArray) } → h'.objs.size = s.heap.objs.size + 1 →
      (∀ b o, b ≠ e → s.heap.get? b = some o → h'.get? b = some o) → Q (.ref s.heap.objs.size) { s with heap := h' }) :
    wpAny (model prog w) A (Builtin.«itertools.combinations.__next__» ⟨[.ref e], []⟩) (fun fin s' => ∃ v, fin = .done (.ret v) ∧ Q v s') E s := by
  obtain ⟨hp0, g, d, tk₀, os⟩ := s
  have hel : e < hp0.objs.size := Heap.lt_size he
  show wpAny _ _ (field (.ref e) 0 >>= _) _ _ _
  refine wpAny_bind (wpAny_field he rfl (x := .ref pool) rfl ?_)
  refine wpAny_bind (wpAny_numbers he ?_)
  unfold Builtin.Itertools.itIntField
  refine wpAny_bind (wpAny_bind (wpAny_field he rfl (x := rawInt ((1 : Nat) : Int)) rfl ?_))
  refine wpAny_pure ?_
  show wpAny _ _ (Builtin.Itertools.itPoolItems (.ref pool) >>= _) _ _ _
  refine wpAny_poolSize hp ?_
  have fn := (find_nxt its.size idx).trans hn
  split
  case h_2 heq => exact nomatch heq.symm.trans fn
  rename_i next heq
  have e2 : nx = next := (Option.some.inj (heq.symm.trans fn)).symm
  subst e2
  show wpAny _ _ (Builtin.Itertools.itSetNumbersFrom (.ref e) 3 nx >>= _) _ _ _
  refine wpAny_bind (wpAny_setNumbers he hk fun h₁ he₁ hs₁ => ?_)
  replace hs₁ : Heap.SameBut e hp0 h₁ := hs₁
  have hp1 : h₁.IsTuple pool its := hp.at fun o q => (hs₁.2 pool (Ne.symm hne)).trans q
  refine wpAny_bind ?_
  show wpAny _ _ (Builtin.Itertools.itPoolItems (.ref pool) >>= fun items => newTuple (nx.map fun i => items.getD i .none)) _ _ _
  refine wpAny_pickT hp1 hk ?_
  have he₂ : IsCb (h₁.push { cls := .type "tuple", data := .seq ((nx.map fun i => its.getD i .none).toArray) }) e pool 1 res nx := Heap.get?_push_of_some _ he₁
  have hT := Heap.get?_push_size h₁ (o := { cls := .type "tuple", data := .seq ((nx.map fun i => its.getD i .none).toArray) }) rfl
  have hz := Heap.size_push h₁ { cls := .type "tuple", data := .seq ((nx.map fun i => its.getD i .none).toArray) }
  have hk2 : ∀ b o, h₁.get? b = some o → (h₁.push { cls := .type "tuple", data := .seq ((nx.map fun i => its.getD i .none).toArray) }).get? b = some o := fun b o q => Heap.get?_push_of_some _ q
  revert he₂ hT hz hk2
  show _ → _ → _ → _ → wpAny _ _ _ _ _ ⟨h₁.push { cls := .type "tuple", data := .seq ((nx.map fun i => its.getD i .none).toArray) }, g, d, tk₀, os⟩
  generalize h₁.push { cls := .type "tuple", data := .seq ((nx.map fun i => its.getD i .none).toArray) } = h₂
  intro he₂ hT hz hk2
  have sz : h₁.objs.size = hp0.objs.size := hs₁.1
  show wpAny _ _ (field (.ref e) 2 >>= _) _ _ _
  refine wpAny_bind (wpAny_field he₂ rfl (x := res) rfl ?_)
  show wpAny _ _ (setField (.ref e) 2 (.ref h₁.objs.size) >>= _) _ _ _
  refine wpAny_bind (wpAny_setField_rec he₂ (by simp) fun h₃ he₃ hs₃ => ?_)
  replace he₃ : IsCb h₃ e pool 1 (.ref h₁.objs.size) nx := cb_set (h := h₃) (k := 0) (x := .none) he₃ (by simp)
  replace hs₃ : Heap.SameBut e h₂ h₃ := hs₃
  refine wpAny_bind (wpAny_letGo ?_)
  refine wpAny_pure ⟨_, rfl, ?_⟩
  rw [sz] at he₃ hT hz ⊢
  refine hQ h₃ he₃ ((hs₃.2 _ (Nat.ne_of_gt hel)).trans hT) (by rw [hs₃.1, hz]) fun b o hb q => (hs₃.2 b hb).trans (hk2 b o ((hs₁.2 b hb).trans q))
theorem wpAny_stop {α : Type} {Q : α → Shared → Prop} (hh : A.handled = none) (hE : ∀ (h' : Heap) (x : Addr), (∀ b o, s.heap.get? b = some o → h'.get? b = some o) → (∃ o, h'.get? x = some o ∧ o.cls = .type "StopIteration") → E (.ref x) { s with heap := h' }) :
    wpAny (model prog w) A (Builtin.Itertools.itStop : Sem α) Q E s := by
  unfold Builtin.Itertools.itStop
  refine wpAny_bind ?_
  simp only [newExc, newTuple]
  refine wpAny_bind (wpAny_newObj_type ?_ (by size_fits))
  refine wpAny_bind (m := firstArgMember _ _) (wpAny_of_eq (a := Value.none) (by first | rfl | (simp only [firstArgMember]; rfl)) ?_)
  refine wpAny_newObj_type ?_ (by size_fits)
  simp only [raiseNew]
  refine wpAny_bind (wpAny_handled ?_)
  rw [hh]
  refine wpAny_bind (wpAny_pure (wpAny_throw ?_))
  exact hE _ _ (fun b o q => Heap.get?_push_of_some _ (Heap.get?_push_of_some _ q)) ⟨_, Heap.get?_push_size _ rfl, rfl⟩
/-- no more -/
theorem comb_next_end {e pool : Addr} {its : Array Value} {res : Value} {idx : List Nat} {st : Nat} {Q : Value → Shared → Prop} (hh : A.handled = none)
    (he : IsCb s.heap e pool st res idx) (hp : s.heap.IsTuple pool its) (hn : (st = 1 ∧ nxtC its.size idx = none) ∨ st = 2)
    (hE : ∀ (h' : Heap) (x : Addr), (∀ b o, b ≠ e → s.heap.get? b = some o → h'.get? b = some o) → (∃ o, h'.get? x = some o ∧ o.cls = .type "StopIteration") → E (.ref x) { s with heap := h' }) :
    wpAny (model prog w) A (Builtin.«itertools.combinations.__next__» ⟨[.ref e], []⟩) (fun fin s' => ∃ v, fin = .done (.ret v) ∧ Q v s') E s := by
  obtain ⟨hp0, g, d, tk₀, os⟩ := s
  show wpAny _ _ (field (.ref e) 0 >>= _) _ _ _
  refine wpAny_bind (wpAny_field he rfl (x := .ref pool) rfl ?_)
  refine wpAny_bind (wpAny_numbers he ?_)
  unfold Builtin.Itertools.itIntField
  refine wpAny_bind (wpAny_bind (wpAny_field he rfl (x := rawInt (st : Int)) rfl ?_))
  refine wpAny_pure ?_
  rcases hn with ⟨rfl, hn⟩ | rfl
  · show wpAny _ _ (Builtin.Itertools.itPoolItems (.ref pool) >>= _) _ _ _
    refine wpAny_poolSize hp ?_
    have fn := (find_nxt its.size idx).trans hn
    split
    · rename_i next heq
      exact nomatch heq.symm.trans fn
    show wpAny _ _ (setField (.ref e) 1 (rawInt 2) >>= _) _ _ _
    refine wpAny_bind (wpAny_setField_rec he (by simp) fun h₁ he₁ hs₁ => ?_)
    replace hs₁ : Heap.SameBut e hp0 h₁ := hs₁
    exact wpAny_stop hh fun h' x hk ho => hE h' x (fun b o hb q => hk b o ((hs₁.2 b hb).trans q)) ho
  · show wpAny _ _ (rule _ >>= _) _ _ _
    refine wpAny_bind (wpAny_rule ?_)
    exact wpAny_stop hh fun h' x hk ho => hE h' x (fun b o hb q => hk b o q) ho
theorem pyNext_comb_item {e pool : Addr} {its : Array Value} {res : Value} {st : Nat} {idx nx : List Nat} {Q : Option Value → Shared → Prop}
    (he : IsCb s.heap e pool st res idx) (hp : s.heap.IsTuple pool its) (hne : e ≠ pool) (hn : (st = 0 ∧ nx = idx) ∨ (st = 1 ∧ nxtC its.size idx = some nx)) (hk : nx.length ≤ 1000)
    (hQ : ∀ h' : Heap, IsCb h' e pool 1 (.ref s.heap.objs.size) nx → h'.get? s.heap.objs.size = some { cls := .type "tuple", data := .seq ((nx.map fun i => its.getD i .none).toArray) } → h'.objs.size = s.heap.objs.size + 1 →
      (∀ b o, b ≠ e → s.heap.get? b = some o → h'.get? b = some o) → Q (some (.ref s.heap.objs.size)) { s with heap := h' }) :
    wpAny (model prog w) A (pyNext (.ref e)) Q E s := by
  have hT : s.TypeIs (.ref e) "itertools.combinations" := ⟨_, he, rfl⟩
  unfold pyNext
  refine wpAny_bind (wpAny_attempt (wpAny_callSpecial?_slot (name := Str.ofString "__next__") hT CF.slot_comb_next
    (wpAny_call_entry CF.slot_comb_next hT CF.entry_comb_next ?_ (CF.args_comb_next_1 _))))
  rcases hn with ⟨rfl, rfl⟩ | ⟨rfl, hn⟩
  · exact comb_next_first he hp hne hk fun h' a b c q => wpAny_pure (hQ h' a b c q)
  · exact comb_next_more he hp hne hn hk fun h' a b c q => wpAny_pure (hQ h' a b c q)
theorem pyNext_comb_end {e pool : Addr} {its : Array Value} {res : Value} {st : Nat} {idx : List Nat} {Q : Option Value → Shared → Prop} (hh : A.handled = none)
    (he : IsCb s.heap e pool st res idx) (hp : s.heap.IsTuple pool its) (hn : (st = 1 ∧ nxtC its.size idx = none) ∨ st = 2)
    (hQ : ∀ h' : Heap, (∀ b o, b ≠ e → s.heap.get? b = some o → h'.get? b = some o) → Q none { s with heap := h' }) :
    wpAny (model prog w) A (pyNext (.ref e)) Q E s := by
  have hT : s.TypeIs (.ref e) "itertools.combinations" := ⟨_, he, rfl⟩
  unfold pyNext
  refine wpAny_bind (wpAny_attempt (wpAny_callSpecial?_slot (name := Str.ofString "__next__") hT CF.slot_comb_next
    (wpAny_call_entry CF.slot_comb_next hT CF.entry_comb_next (comb_next_end hh he hp hn fun h' x hk ho => ?_) (CF.args_comb_next_1 _))))
  obtain ⟨o, ho, hc⟩ := ho
  refine wpAny_bind (wpAny_isInstance (T := "StopIteration") (b := true) ⟨o, ho, hc⟩ isSubtype_stop ?_)
  exact wpAny_pure (hQ h' hk)
theorem pyIter_comb {e pool : Addr} {res : Value} {st : Nat} {idx : List Nat} {Q : Value → Shared → Prop} (he : IsCb s.heap e pool st res idx) (h : Q (.ref e) s) : wpAny (model prog w) A (pyIter (.ref e)) Q E s := by
  have hT : s.TypeIs (.ref e) "itertools.combinations" := ⟨_, he, rfl⟩
  refine wpAny_pyIter_slot hT CF.slot_comb_iter (wpAny_call_entry CF.slot_comb_iter hT CF.entry_comb_iter ?_ (CF.args_comb_iter_1 _))
  show wpAny _ _ (PySem.ret (.ref e)) _ _ s
  exact wpAny_pure ⟨_, rfl, "itertools.combinations", _, hT, CF.slot_comb_next.lookup, h⟩
end
end Mi
end
section
set_option Elab.async false
set_option linter.all false
set_option maxRecDepth 100000
set_option maxHeartbeats 1000000
/-! Cb5: combinations walked -/
namespace Mi
open PySem PySem.Spec PyProof.Rows L2
open Sem (wp)
section
variable {prog : Program} {w : World} {A : Around} {E : Value → Shared → Prop} {s : Shared}
theorem comb_call {v : Value} {H : Heap → Prop} {P : Array Value → Prop} {r : Nat} {t : Tok} {Q : Value → Shared → Prop} (C : Coll v H P) (hP : ∀ acc, P acc → acc.size ≤ 1000) (hr : r < 1000) (hh : A.handled = none) (h1 : H s.heap)
    (h : ∀ (h₁ h' : Heap) (tk : Nat) (acc : Array Value) (e pool : Addr), P acc → IsCb h' e pool (if r > acc.size then 2 else 0) .none (List.range r) → h'.IsTuple pool acc → e ≠ pool → (∀ b o, s.heap.get? b = some o → h₁.get? b = some o) → h₁.objs.size ≤ pool → h₁.objs.size ≤ e →
      (∀ b o, h₁.get? b = some o → h'.get? b = some o) → Q (.ref e) { s with heap := h', toks := tk }) :
    wpAny (model prog w) A (call (.type "itertools.combinations") [v, .int (r : Int) t]) Q E s := by
  refine callType_new CF.called_comb (by decide) (CF.typeCall_comb_2 _ _) (CF.newCall_comb_2 _ _) (fun obj => F.args_object_init_3 obj _ _) CF.entry_comb_new
    (meets_comb_new C hP r t hr) ⟨hh, h1, fun h' tk acc hk hPa => ?_⟩
  have hz : (h'.push { cls := .type "tuple", data := .seq acc }).objs.size = h'.objs.size + 1 := Heap.size_push ..
  have he := Heap.get?_push_size (h'.push { cls := .type "tuple", data := .seq acc }) (o := { cls := .type "itertools.combinations", data := .fields (([.ref h'.objs.size, rawInt (if r > acc.size then 2 else 0), .none] ++ (List.range r).map fun (i : Nat) => rawInt i).toArray) }) rfl
  have ht : ((h'.push { cls := .type "tuple", data := .seq acc }).push { cls := .type "itertools.combinations", data := .fields (([.ref h'.objs.size, rawInt (if r > acc.size then 2 else 0), .none] ++ (List.range r).map fun (i : Nat) => rawInt i).toArray) }).IsTuple h'.objs.size acc :=
    ⟨_, Heap.get?_push_of_some _ (Heap.get?_push_size _ rfl), rfl, _, rfl⟩
  rw [hz] at he
  show wants _ _ (.ok (.ret (.ref _))) _
  rw [hz]
  have he2 : IsCb ((h'.push { cls := .type "tuple", data := .seq acc }).push { cls := .type "itertools.combinations", data := .fields (([.ref h'.objs.size, rawInt (if r > acc.size then 2 else 0), .none] ++ (List.range r).map fun (i : Nat) => rawInt i).toArray) }) (h'.objs.size + 1) h'.objs.size (if r > acc.size then 2 else 0) .none (List.range r) := by
    unfold IsCb
    rw [he]
    by_cases q : r > acc.size
    · rw [if_pos q, if_pos q]; rfl
    · rw [if_neg q, if_neg q]; rfl
  exact ⟨⟨_, he, rfl⟩, h h' _ tk acc _ _ hPa he2 ht (Nat.succ_ne_self _) hk (Nat.le_refl _) (Nat.le_succ _) fun b o q => Heap.get?_push_of_some _ (Heap.get?_push_of_some _ q)⟩
end
/-! ### walked -/
def JCb (xs : List V) (L : List (List Nat)) : It :=
  ⟨fun i _ => i < L.length, fun i H v H' => ∃ T l, L[i]? = some l ∧ v = .ref T ∧ H T = none ∧ H' = upd H T (.tup (l.map fun k => xs.getD k .non)), fun i _ => L.length ≤ i⟩
def cbAt (e pool : Addr) (its : Array Value) (r i : Nat) (h : Heap) : Prop :=
  h.IsTuple pool its ∧ ∃ st res idx, IsCb h e pool st res idx ∧ ((i = 0 ∧ ((st = 0 ∧ (cmbs 0 its.size r)[0]? = some idx) ∨ (st = 2 ∧ cmbs 0 its.size r = []))) ∨ (0 < i ∧ st = 1 ∧ (cmbs 0 its.size r)[i - 1]? = some idx))
theorem vals_pick {xs : List V} {its : Array Value} (h : Vals xs its.toList) {l : List Nat} (hl : ∀ k ∈ l, k < its.size) : Vals (l.map fun k => xs.getD k .non) (l.map fun k => its.getD k .none) := by
  induction l with
  | nil => exact .nil
  | cons k l ih =>
    refine .cons ?_ (ih fun j hj => hl j (List.mem_cons_of_mem _ hj))
    have hk := hl k (by simp)
    have hlen := h.length
    have hx : xs[k]? = some (xs.getD k .non) := by
      rw [List.getD_eq_getElem?_getD, List.getElem?_eq_getElem (by rw [hlen]; simpa using hk)]; rfl
    obtain ⟨u, hu, ru⟩ := h.get hx
    have : its.getD k .none = u := by
      rw [Array.getElem?_toList] at hu
      rw [Array.getD_eq_getD_getElem?, hu]; rfl
    show RelV (xs.getD k .non) (its.getD k .none)
    rw [this]; exact ru
theorem cmbs_lt {n r : Nat} {l : List Nat} {i : Nat} (h : (cmbs 0 n r)[i]? = some l) : l.length = r ∧ ∀ k ∈ l, k < n := by
  obtain ⟨_, h2, h3⟩ := (cmbs_mem n 0 r l).mp (List.mem_of_getElem? h)
  exact ⟨h2, fun k hk => by have := h3 k hk; omega⟩
theorem turn_cb {P : Program} {w : World} {K : PySem.W.Frag} {tg : Expr} {e pool : Addr} {its : Array Value} {xs : List V} {r : Nat} (hne : e ≠ pool) (hv : Vals xs its.toList) (hr : r ≤ 1000) :
    Turn P w K tg (JCb xs (cmbs 0 its.size r)) [e, pool] e (cbAt e pool its r) where
  mem := by simp
  obj := fun i h st b hb => by
    obtain ⟨⟨o, ho, hc, n, hd⟩, st, res, idx, he, _⟩ := st
    have e' : b = e ∨ b = pool := by simpa using hb
    rcases e' with q | q
    · rw [q]; exact ⟨_, he, fun v q => nomatch q⟩
    · rw [q]; exact ⟨o, ho, fun v q => by rw [hd] at q; cases q⟩
  keep := fun i h h' st k => by
    obtain ⟨hp, st, res, idx, he, hi⟩ := st
    exact ⟨hp.at fun o q => k pool (by simp) o q, st, res, idx, k e (by simp) _ he, hi⟩
  item := by
    intro X hP hw hK hc i pins s σ H E I hf st hg
    subst hP hw hK
    obtain ⟨hp, st, res, idx, he, hi⟩ := st
    have hx : (cmbs 0 its.size r)[i]? = some (cmbs 0 its.size r)[i] := List.getElem?_eq_getElem hg
    revert hx
    generalize (cmbs 0 its.size r)[i] = nx
    intro hx
    obtain ⟨hl, hlt⟩ := cmbs_lt hx
    have hn : (st = 0 ∧ nx = idx) ∨ (st = 1 ∧ nxtC its.size idx = some nx) := by
      rcases hi with ⟨rfl, ⟨h1, h2⟩ | ⟨_, h2⟩⟩ | ⟨h0, h1, h2⟩
      · left; rw [h2] at hx; exact ⟨h1, (Option.some.inj hx).symm⟩
      · rw [h2] at hx; cases hx
      · right
        have := cmbs_next its.size 0 r _ _ h2
        rw [Nat.zero_add, Nat.sub_add_cancel h0, hx] at this
        exact ⟨h1, this⟩
    refine pyNext_comb_item he hp hne hn (by rw [hl]; exact hr) fun h' he' hT hsz hk => ⟨.ref s.heap.objs.size, rfl, ?_⟩
    refine go_of (o := { cls := .type "itertools.combinations", data := _ }) he' rfl rfl (by decide) ?_
    have hel : e < s.heap.objs.size := Heap.lt_size he
    have hpl : pool < s.heap.objs.size := by obtain ⟨o, ho, _⟩ := hp; exact Heap.lt_size ho
    have new : ObjOk X.prog X.w (upd H s.heap.objs.size (.tup (nx.map fun k => xs.getD k .non))) h' s.heap.objs.size (.tup (nx.map fun k => xs.getD k .non)) :=
      ⟨by rw [List.length_map, hl]; exact Nat.le_trans hr (by decide +kernel), _, vals_pick hv hlt, ⟨_, hT, rfl, _, rfl⟩⟩
    have I1 : Inv X pins σ (upd H s.heap.objs.size (.tup (nx.map fun k => xs.getD k .non))) { s with heap := h' } :=
      I.turnedNew (t' := s.toks) (ch := [e, pool]) (fun c o hb q => hk c o (fun q' => hb (by simp [q'])) q) hf (Nat.le_refl _) new
    refine ⟨.ref s.heap.objs.size, _, I1, rfl, ⟨_, nx, hx, rfl, I.hok.fresh (Nat.le_refl _), rfl⟩, ⟨hp.at fun o q => hk pool o (Ne.symm hne) q, 1, _, nx, he', .inr ⟨Nat.succ_pos _, rfl, hx⟩⟩, fun c hcm => ?_⟩
    have hlt' : c < s.heap.objs.size := by
      have e' : c = e ∨ c = pool := by simpa using hcm
      rcases e' with q | q
      · rw [q]; exact hel
      · rw [q]; exact hpl
    rw [upd_ne (Nat.ne_of_lt hlt')]
    exact (hf c hcm).1
  done := by
    intro X hP hw hK hc i pins s σ H E I hf st hg
    subst hP hw hK
    obtain ⟨hp, st, res, idx, he, hi⟩ := st
    have hg : (cmbs 0 its.size r).length ≤ i := hg
    have hn : (st = 1 ∧ nxtC its.size idx = none) ∨ st = 2 := by
      rcases hi with ⟨rfl, ⟨h1, h2⟩ | ⟨h1, h2⟩⟩ | ⟨h0, h1, h2⟩
      · have := (List.getElem?_eq_some_iff.mp h2).1; omega
      · exact .inr h1
      · left
        have := cmbs_next its.size 0 r _ _ h2
        rw [Nat.zero_add, Nat.sub_add_cancel h0, List.getElem?_eq_none hg] at this
        exact ⟨h1, this⟩
    refine pyNext_comb_end (I.ok.hd hc) he hp hn fun h' hk => ⟨rfl, ?_⟩
    exact I.turnedL (t' := s.toks) (ch := [e, pool]) (fun c o hb q => hk c o (fun q' => hb (by simp [q'])) q) hf
  self := fun A i s Q E st h => by
    obtain ⟨_, _, _, _, he, _⟩ := st
    exact pyIter_comb he h
theorem cbAt_0 {h : Heap} {e pool : Addr} {its : Array Value} {r : Nat} (he : IsCb h e pool (if r > its.size then 2 else 0) .none (List.range r)) (hp : h.IsTuple pool its) : cbAt e pool its r 0 h := by
  refine ⟨hp, _, _, _, he, .inl ⟨rfl, ?_⟩⟩
  by_cases q : r > its.size
  · right; rw [if_pos q]; exact ⟨rfl, cmbs_nil _ _ _ q⟩
  · left
    rw [if_neg q, cmbs_head its.size 0 r (by omega)]
    refine ⟨rfl, ?_⟩
    congr 1
    conv => rhs; rw [← List.map_id (List.range r)]
    exact List.map_congr_left fun k _ => Nat.zero_add k
end Mi
end
section
set_option Elab.async false
set_option linter.all false
set_option maxRecDepth 100000
set_option maxHeartbeats 1000000
/-! Cb6: combinations(sequence, int), combinations(range(n), int), as what is walked -/
namespace Mi
open PySem PySem.Spec PyProof.Rows L2
/-- the rows picked of some items -/
def cmbD (ds : List PyData) (r : Nat) : List PyData := (cmbs 0 ds.length r).map fun l => .tuple (l.map fun k => ds.getD k .none)
noncomputable def cb1 (ρ : Rho) (os : List Opd) : Out (List PyData) := match frzL ρ os with
  | some ([d, .int i], ρ2) => match seqOf d with
    | some ds => if 0 ≤ i ∧ i < 1000 ∧ ds.length ≤ 1000 then .ok (cmbD ds i.toNat) ρ2 else .stk
    | none => .stk
  | _ => .stk
noncomputable def iCmb (fa : FA) : FI := fun ρ => (fa ρ).bind fun os ρ1 => cb1 ρ1 os
section
variable {X : Cx} {tg e e2 : Expr} {G : Glb} {W : WX} {fa : FA} {p p2 pos : Pos}
theorem coll_src (z : Src) (its : Array Value) (hz : its.size ≤ 1000) : Coll (.ref z.a) (fun h => z.sq h its) (fun acc => acc = its) := by
  intro prog w A E Q s hh h hQ
  have hsz : its.size ≤ sizeLine := Nat.le_trans hz (by decide +kernel)
  obtain ⟨t, a⟩ := z
  cases t
  · obtain ⟨o, ho, hc, n, hd⟩ := h
    exact wpAny_collect_seq (hsz := hsz) a (.inl rfl) ho hc hd fun h' hk => hQ h' s.toks its hk rfl
  · obtain ⟨o, ho, hc, n, hd⟩ := h
    exact wpAny_collect_seq (hsz := hsz) a (.inr rfl) ho hc hd fun h' hk => hQ h' s.toks its hk rfl
theorem dpa_pick {K : PySem.W.Frag} {P : Hp} {ds : List PyData} {xs : List V} (h : DpAll K P xs ds) {l : List Nat} (hl : ∀ k ∈ l, k < ds.length) : DpAll K P (l.map fun k => xs.getD k .non) (l.map fun k => ds.getD k .none) := by
  induction l with
  | nil => exact .nil
  | cons k l ih =>
    have hk := hl k (by simp)
    obtain ⟨v, hv, hd⟩ := dpa_get _ _ h k ds[k] (List.getElem?_eq_getElem hk)
    have e1 : xs.getD k .non = v := by rw [List.getD_eq_getElem?_getD, hv]; rfl
    have e2 : ds.getD k .none = ds[k] := by rw [List.getD_eq_getElem?_getD, List.getElem?_eq_getElem hk]; rfl
    refine .cons ?_ (ih fun j hj => hl j (List.mem_cons_of_mem _ hj))
    show Dp K P (xs.getD k .non) (ds.getD k .none)
    rw [e1, e2]; exact hd
theorem yl_cb {P : Hp} {xs : List V} {ds : List PyData} {r : Nat} (hd : DpAll G.K P xs ds) : Yl G (JCb xs (cmbs 0 ds.length r)) P (cmbD ds r) := fun i P1 H e1 e2 => by
  have hl := dpa_len _ _ hd
  have e := e1.trans e2
  have el : (cmbD ds r).length = (cmbs 0 ds.length r).length := by unfold cmbD; simp
  rw [el]
  refine ⟨fun hi => hi, fun hi => ⟨hi, ?_⟩⟩
  rintro x H' ⟨T, l, hx, rfl, hT, rfl⟩
  have hP : P1 T = none := same_none e2 hT
  refine ⟨upd P1 T (.tup (l.map fun k => xs.getD k .non)), .tuple (l.map fun k => ds.getD k .none), Alc.tup e2 hT, ?_, .tup (.inl (.inl upd_same)) (dpa_mono (e1.trans (same_upd hP)) _ _ (dpa_pick hd (cmbs_lt hx).2))⟩
  unfold cmbD
  rw [List.getElem?_map, hx]; rfl
theorem i_Cmb (hK : X.K = G.K) (hm : X.mg "combinations" = some (.type "itertools.combinations")) (ha : PA X [e, e2] (tA G W fa)) (hc : X.calm = true) (hg : Gl X "combinations" := by rfl) (hs : starEach [e, e2] X.env = (false, eval e X.env) :: starEach [e2] X.env := by rfl) (hpl : (backTo pos (starEach [e2] X.env)).any (·.1) = false := by rfl) :
    PI X tg (.Call (.Name "combinations" p) [e, e2] [] pos) (tI G W (iCmb fa)) := by
  refine ⟨fun pins s σ H R I h => ?_⟩
  obtain ⟨ρ, P, F, nw, h⟩ := h
  have h' : tA G W fa σ H (fun vs H1 => ∃ (z : Src) (xs : List V) (n : Nat) (r : Nat), vs = [.ref z.a, .int (r : Int)] ∧ z.at X.K H1 xs ∧ xs.length = n ∧ n ≤ 1000 ∧ r < 1000 ∧ R (JCb xs (cmbs 0 n r)) H1) := by
    rw [hK]
    refine tA_bind (End := fun P H F => EndI G W P H F σ R) nw h (fun _ _ z => z) (fun z => z) fun os ρ1 vs P1 H1 F1 S e1 h1 n1 s1 hx q1 => ?_
    unfold cb1 at h1
    split at h1
    · rename_i d i ρ2 ef
      obtain ⟨P2, F2, n2, d2, z2⟩ := frzL_ok n1 hx ef
      cases d2 with
      | cons hd hn =>
        cases hn with
        | cons hi hn =>
          cases hn
          cases hi
          split at h1
          · rename_i ds es
            split at h1
            · rename_i hb
              obtain ⟨z, xs, rfl, hz, hxs⟩ := src_of hd (seqOf_eq es)
              have hl := dpa_len _ _ hxs
              refine ⟨z, xs, ds.length, i.toNat, by rw [Int.toNat_of_nonneg hb.1], z.mono hz n2.ex, hl, hb.2.2, by omega, h1 _ P2 H1 F2 n2 (z2.stp s1 fun b hb => (q1 b hb).2) (yl_cb hxs)⟩
            · exact h1.elim
          · exact h1.elim
    · exact h1.elim
  refine Call_ (ld_glob I hg hm (PyProof.Rows.callWith_type1 (thn (ha.run pos pins s σ H _ I h') fun us s1 ⟨vs, H1, I1, r1, q1⟩ => ?_) hs hpl))
  obtain ⟨z, xs, n, r, ex, hq, hn, hn2, hr, q⟩ := q1
  subst ex
  cases r1 with
  | cons r0 rr =>
    cases rr with
    | cons r0' rr =>
      cases rr
      cases r0
      obtain ⟨t, rfl⟩ := r0'
      obtain ⟨its, rv, sq, hz⟩ := z.inv I1 hq
      have hlen := rv.length
      have hsz : its.toArray.size = n := by simp; omega
      refine comb_call (coll_src z its.toArray (by omega)) (fun acc ha => by rw [ha]; omega) hr (I1.ok.hd hc) sq fun h₁ h' tk acc e0 pool ha he hp hne hk1 hb1 hb2 hk2 => ?_
      subst ha
      refine pyIter_comb he ?_
      have I2 : Inv X pins σ H1 { s1 with heap := h₁ } := I1.kept (t' := s1.toks) hk1
      have I3 : Inv X pins σ H1 { s1 with heap := h', toks := tk } := I1.kept (t' := tk) fun b o q => hk2 b o (hk1 b o q)
      refine ⟨e0, [e0, pool], cbAt e0 pool its.toArray r, JCb xs (cmbs 0 its.toArray.size r), H1, rfl, I3, turn_cb hne (by simpa using rv) (by omega), cbAt_0 he hp, fun b hb => ?_, by rw [hsz]; exact q⟩
      have e' : b = e0 ∨ b = pool := by simpa using hb
      rcases e' with q | q
      · rw [q]; exact (show FpOk X pins H1 e0 from I2.fpOk hb2 (I2.hok.fresh hb2))
      · rw [q]; exact (show FpOk X pins H1 pool from I2.fpOk hb1 (I2.hok.fresh hb1))
end
end Mi
end
section
set_option Elab.async false
set_option linter.all false
set_option maxRecDepth 100000
set_option maxHeartbeats 1000000
/-! Cb7: combinations(range(n), int), as what is walked -/
namespace Mi
open PySem PySem.Spec PyProof.Rows L2
noncomputable def iCmbR (f f2 : FE) : FI := fun ρ => (f ρ).bind fun o ρ1 => match frz1 ρ1 o with
  | some (.int n, ρ2) => (f2 ρ2).bind fun o2 ρ3 => match frz1 ρ3 o2 with
    | some (.int i, ρ4) => if 0 ≤ i ∧ i < 1000 ∧ 0 ≤ n ∧ n ≤ 1000 then .ok (cmbD (rangeD 0 n) i.toNat) ρ4 else .stk
    | _ => .stk
  | _ => .stk
section
variable {X : Cx} {tg e e2 : Expr} {G : Glb} {W : WX} {f f2 : FE} {g : FA} {p p2 p3 pos : Pos}
theorem coll_range {r : Addr} {n : Nat} {t u v : Tok} (hn : n ≤ 1000) : Coll (.ref r) (fun h => IsRange h r 0 (n : Int) 1 t u v) (fun acc => ItemsOf (fun i x => ∃ t, x = .int ((i : Nat) : Int) t) acc n) := by
  intro prog w A E Q s hh h hQ
  refine collect_range (n := n) hh h (small_one (by omega) (by omega) (by omega) (by omega)) (by have := rangeSize_nat 0 (n : Int); rw [this]; omega) (by omega) fun h' tk acc hk hi => hQ h' tk acc hk ⟨hi.1, fun i x hx => ?_⟩
  obtain ⟨t, ht⟩ := hi.2 i x hx
  exact ⟨t, by rw [ht]; congr 1; omega⟩
theorem rangeD_len (n : Nat) : (rangeD 0 (n : Int)).length = n := by unfold rangeD; simp
theorem rgV_len (n : Nat) : (rgV 0 (n : Int)).length = n := by rw [rgV_length]; omega
theorem cmbR_run {σ : L2.St} {H : Hp} {R : It → Hp → Prop} (h : tI G W (iCmbR f f2) σ H R) : tE G W f σ H (fun x H1 => ∃ n : Int, x = .int n ∧ tE G W f2 σ H1 (fun y H2 => ∃ m r : Nat, n = (m : Int) ∧ y = .int (r : Int) ∧ m ≤ 1000 ∧ r < 1000 ∧ R (JCb (rgV 0 (m : Int)) (cmbs 0 m r)) H2)) := by
  obtain ⟨ρ, P, F, nw, h⟩ := h
  refine tE_bind (End := fun P H F => EndI G W P H F σ R) nw h (fun _ _ z => z) (fun z => z) fun x ρ1 vx P1 H1 F1 S1 e1 h1 n1 s1 hx q1 => ?_
  split at h1
  · rename_i n ρ2 ef
    obtain ⟨P2, F2, n2, d2, z2⟩ := frz1_ok n1 hx ef
    have s2 := z2.stp s1 q1
    cases d2
    refine ⟨n, rfl, ρ2, P2, F2, n2, ?_⟩
    have h2 := EndI.trans s2 h1
    cases e2 : f2 ρ2 with
    | stk => rw [e2] at h2; exact h2.elim
    | exc c ρ3 =>
      rw [e2] at h2
      exact h2
    | ok o2 ρ3 =>
      rw [e2] at h2
      intro v3 P3 H3 F3 S3 n3 s3 hx3 q3
      simp only [bind_ok] at h2
      split at h2
      · rename_i i ρ4 ef3
        obtain ⟨P4, F4, n4, d4, z4⟩ := frz1_ok n3 hx3 ef3
        have s4 := z4.stp s3 fun b hb => (q3 b hb)
        cases d4
        split at h2
        · rename_i hb
          have en : ((n.toNat : Nat) : Int) = n := Int.toNat_of_nonneg hb.2.2.1
          refine ⟨n.toNat, i.toNat, en.symm, by rw [Int.toNat_of_nonneg hb.1], by omega, by omega, ?_⟩
          have := yl_cb (G := G) (r := i.toNat) (dpa_rg (K := G.K) (P := P4) 0 ((n.toNat : Nat) : Int))
          rw [rangeD_len, en] at this
          rw [en]
          exact h2 _ P4 H3 F4 n4 s4 this
        · exact h2.elim
      · exact h2.elim
  · exact h1.elim
theorem i_CmbR (hK : X.K = G.K) (hm : X.mg "combinations" = some (.type "itertools.combinations")) (hr0 : X.mg "range" = none) (he : PE X e (tE G W f)) (he2 : PE X e2 (tE G W f2)) (hc : X.calm = true) (hg : Gl X "combinations" := by rfl) (hg2 : Gl X "range" := by rfl)
    (na : starEach [e] X.env = (false, eval e X.env) :: starEach [] X.env := by rfl) (hs2 : starEach [e2] X.env = (false, eval e2 X.env) :: starEach [] X.env := by rfl)
    (hs : starEach [.Call (.Name "range" p2) [e] [] p3, e2] X.env = (false, eval (.Call (.Name "range" p2) [e] [] p3) X.env) :: starEach [e2] X.env := by rfl) (hpl : (backTo pos (starEach [e2] X.env)).any (·.1) = false := by rfl) :
    PI X tg (.Call (.Name "combinations" p) [.Call (.Name "range" p2) [e] [] p3, e2] [] pos) (tI G W (iCmbR f f2)) := by
  refine ⟨fun pins s σ H R I h => ?_⟩
  have h2 := cmbR_run h
  refine Call_ (ld_glob I hg hm (PyProof.Rows.callWith_type1 (PyProof.Rows.args_cons ?_ hs) hs hpl))
  refine Call_ (ld_blt I hg2 hr0 boot_range (PyProof.Rows.callWith_type1 (one_arg he I h2 (fun v s1 x H1 I1 r1 q1 => ?_) na) na))
  obtain ⟨n, rfl, q1⟩ := q1
  obtain ⟨t, rfl⟩ := r1
  refine call_range_1 ?_
  have hfr : FpOk X pins H1 s1.heap.objs.size := I1.fpOk (Nat.le_refl _) (I1.hok.fresh (Nat.le_refl _))
  have I2 : Inv X pins σ H1 { s1 with heap := s1.heap.push { cls := .type "range", data := .fields #[.int 0 s1.toks, .int n t, .int 1 (s1.toks + 1)] }, toks := s1.toks + 1 + 1 } := I1.kept (t' := s1.toks + 1 + 1) fun b o q => Heap.get?_push_of_some _ q
  have I3 := I2.pins_of (pins' := (s1.heap.objs.size, { cls := .type "range", data := .fields #[.int 0 s1.toks, .int n t, .int 1 (s1.toks + 1)] }) :: pins) fun p hp => by
    rcases List.mem_cons.mp hp with rfl | hp
    · exact ⟨Heap.get?_push_size _ rfl, hfr.1, hfr.2.1, hfr.2.2.1, fun v z => nomatch z⟩
    · exact I2.pin p (List.mem_append_right _ hp)
  refine one_arg he2 I3 q1 (fun v2 s2 y H2 I4 r2 q2 => ?_) hs2
  obtain ⟨m, r, rfl, rfl, hm1, hr1, q⟩ := q2
  obtain ⟨t2, rfl⟩ := r2
  have hrg : IsRange s2.heap s1.heap.objs.size 0 (m : Int) 1 s1.toks t (s1.toks + 1) := (I4.pin _ (List.mem_append_right _ (List.mem_cons_self ..))).1
  have I5 : Inv X pins σ H2 s2 := I4.pins_of (pins' := pins) fun p hp => I4.pin p (List.mem_append_right _ (List.mem_cons_of_mem _ hp))
  refine comb_call (coll_range hm1) (fun acc ha => by rw [ha.1]; exact hm1) hr1 (I5.ok.hd hc) hrg fun h₁ h' tk acc e0 pool ha he hp hne hk1 hb1 hb2 hk2 => ?_
  refine pyIter_comb he ?_
  have I6 : Inv X pins σ H2 { s2 with heap := h₁ } := I5.kept (t' := s2.toks) hk1
  have I7 : Inv X pins σ H2 { s2 with heap := h', toks := tk } := I5.kept (t' := tk) fun b o q => hk2 b o (hk1 b o q)
  have hv : Vals (rgV 0 (m : Int)) acc.toList := by
    refine vals_of_at (by rw [rgV_len]; simp [ha.1]) fun j x u h1 h2 => ?_
    obtain ⟨t3, ht⟩ := ha.2 j u (by rw [← Array.getElem?_toList]; exact h2)
    unfold rgV at h1
    rw [List.getElem?_map] at h1
    obtain ⟨j', hj, rfl⟩ := Option.map_eq_some_iff.mp h1
    have ej : j' = j := by
      obtain ⟨hl, hj⟩ := List.getElem?_eq_some_iff.mp hj
      rw [List.getElem_range] at hj; exact hj.symm
    subst ej
    rw [ht]
    exact ⟨t3, by congr 1; omega⟩
  have em : acc.size = m := ha.1
  refine ⟨e0, [e0, pool], cbAt e0 pool acc r, JCb (rgV 0 (m : Int)) (cmbs 0 acc.size r), H2, rfl, I7, turn_cb hne hv (by omega), cbAt_0 he hp, fun b hb => ?_, by rw [em]; exact q⟩
  have e' : b = e0 ∨ b = pool := by simpa using hb
  rcases e' with q | q
  · rw [q]; exact (show FpOk X pins H2 e0 from I6.fpOk hb2 (I6.hok.fresh hb2))
  · rw [q]; exact (show FpOk X pins H2 pool from I6.fpOk hb1 (I6.hok.fresh hb1))
end
end Mi
end
section
set_option Elab.async false
set_option linter.all false
set_option maxRecDepth 100000
set_option maxHeartbeats 1000000
/-! Ev51: x.pop(i); a tuple as the module's constant -/
namespace Mi
open PySem PySem.Spec PyProof.Rows L2
/-- x.pop(j) -/
noncomputable def popAO (i : Nat) (o : Opd) (ρ : Rho) : Out Opd := match frz1 ρ o with
  | some (.int j, ρ1) => match look ρ1 (.brw i) with
    | some (.ml ds) => match ixN ds.length j with
      | some k => if -(2 ^ 63) ≤ j ∧ j < 2 ^ 63 then .ok (.val (.dat (ds.getD k .none))) (ρ1.set i (some (.ml (ds.eraseIdx k)))) else .stk
      | none => .stk
    | _ => .stk
  | _ => .stk
noncomputable def fPopA (i : Nat) (f : FE) : FE := fun ρ => if isMl ρ i = true then (f ρ).bind fun o ρ1 => popAO i o ρ1 else .stk
section
variable {X : Cx} {W : WX} {G : Glb} {i : Nat} {e : Expr} {x : Str} {fe : FE} {apos cpos p3 : Pos}
theorem dpa_erase {K : PySem.W.Frag} {H : Hp} : ∀ {ds : List PyData} {vs : List V} (k : Nat), DpAll K H vs ds → DpAll K H (vs.eraseIdx k) (ds.eraseIdx k)
  | [], _, _, h => by cases h; exact .nil
  | x :: ds, _, 0, h => by
    cases h with
    | cons h1 h2 => exact h2
  | x :: ds, _, k + 1, h => by
    cases h with
    | cons h1 h2 => exact .cons h1 (dpa_erase k h2)
theorem e_popA (hK : X.K = G.K) (ho : PE X (.Name x p3) (tVar i)) (he : PE X e (tE G W fe))
    (hbase : attributeBase (.Name x p3) "pop" X.env (eval (.Name x p3) X.env) = eval (.Name x p3) X.env := by rfl)
    (hfew : ((backTo cpos (starEach [e] X.env)).all (fun x => !x.1) && (backToKw cpos (keywordEach [] X.env)).all (fun x => x.1.isSome)
      && decide (([e] : List Expr).length + ([] : List Keyword).length + (if ([] : List Keyword).isEmpty then 0 else 1) < 30)) = true := by rfl)
    (hline : (apos.endLine == cpos.line) = true := by rfl) (hs : starEach [e] X.env = (false, eval e X.env) :: starEach [] X.env := by rfl) (hplain : (backTo cpos (starEach [] X.env)).any (·.1) = false := by rfl) :
    PE X (.Call (.Attribute (.Name x p3) "pop" apos) [e] [] cpos) (tE G W (fPopA i fe)) :=
  PE.imp (pe_bm PySem.F.plainAttrs_list PySem.F.slot_list_pop PySem.F.type_list_pop mt_popAt ho (pa_cons he pa_nil hs) hbase hfew hline hs hplain) fun σ H Q ⟨ρ, P, F, nw, h⟩ => by
    unfold fPopA at h
    by_cases q : isMl ρ i = true
    · rw [if_pos q] at h
      obtain ⟨ds0, hw0⟩ := isMl_look q
      obtain ⟨a, xs0, hs0, hF0, hH0, _⟩ := now_ml nw hw0
      refine ⟨.ref a, hs0, .inl ⟨rfl, xs0, SqL.of hH0⟩, ?_⟩
      refine tE_bind (End := fun P H F => EndO G W P H F σ Q) nw h (fun _ _ z => z) (fun z => z) fun o ρ1 v P1 H1 F1 S e1 h1 n1 s1 hx q1 => ?_
      unfold popAO at h1
      split at h1
      · rename_i j ρ2 ef
        obtain ⟨P2, F2, n2, d2, z2⟩ := frz1_ok n1 hx ef
        have s2 := z2.stp s1 q1
        cases d2
        split at h1
        · rename_i ds el
          split at h1
          · rename_i k ek
            split at h1
            · rename_i hb
              obtain ⟨a2, xs, hs2, hF2, hH2, hd2⟩ := now_ml n2 el
              have ea : a2 = a := by rw [hs0] at hs2; simpa using hs2.symm
              subst ea
              have hlen := dpa_len _ _ hd2
              obtain ⟨k1, k2, _, _⟩ := ixN_seq ek
              obtain ⟨y, hy, hdy⟩ := dpa_get _ _ hd2 k ds[k] (List.getElem?_eq_getElem k2)
              have eg : ds.getD k .none = ds[k] := by rw [List.getD_eq_getElem?_getD, List.getElem?_eq_getElem k2]; rfl
              refine ⟨a2, xs, j, k, y, rfl, rfl, hH2, hb.1, hb.2, by rw [hlen]; exact k1, hy, ?_⟩
              rw [eg] at h1
              exact h1 y P2 _ F2 nobody (now_upd n2 hs2 hF2 (dpa_erase k hd2)) (stp_upd n2 s2 hF2) ⟨hdy, fun _ z => z.elim, fun _ z => z.elim, fun _ z => z.elim, fun _ _ z => z.elim⟩ fun _ z => z.elim
            · exact h1.elim
          · exact h1.elim
        · exact h1.elim
      · exact h1.elim
    · rw [if_neg q] at h; exact h.elim
end
/-! ### a constant that is a tuple of ints or texts -/
def cV : Value → PyData → Bool
  | .int i _, .int j => i == j
  | .str a _, .str b => decide (a = b)
  | _, _ => false
def cVs : List Value → List PyData → Bool
  | [], [] => true
  | v :: vs, d :: ds => cV v d && cVs vs ds
  | _, _ => false
structure TupK (K : PySem.W.Frag) (mg : Str → Option Value) (x : Str) (ds : List PyData) : Prop where
  ex : ∃ a od its n sl, mg x = some (.ref a) ∧ K.lookup a = some ⟨.type "tuple", od, .seq its n, sl⟩ ∧ cVs its.toList ds = true ∧ its.size ≤ 1000
theorem cV_dp {K : PySem.W.Frag} {P : Hp} : ∀ {v : Value} {d : PyData}, cV v d = true → ∃ x : V, RelV x v ∧ Dp K P x d
  | .int i t, .int j, h => by
    have : i = j := by simpa [cV] using h
    subst this
    exact ⟨.int i, ⟨t, rfl⟩, .int i⟩
  | .str a t, .str b, h => by
    have : a = b := by simpa [cV] using h
    subst this
    exact ⟨.str a, ⟨t, rfl⟩, .str a⟩
theorem cVs_dp {K : PySem.W.Frag} {P : Hp} : ∀ {vs : List Value} {ds : List PyData}, cVs vs ds = true → ∃ xs : List V, Vals xs vs ∧ DpAll K P xs ds
  | [], [], _ => ⟨[], .nil, .nil⟩
  | v :: vs, d :: ds, h => by
    unfold cVs at h
    rw [Bool.and_eq_true] at h
    obtain ⟨x, h1, h2⟩ := cV_dp (K := K) (P := P) h.1
    obtain ⟨xs, h3, h4⟩ := cVs_dp (K := K) (P := P) h.2
    exact ⟨x :: xs, .cons h1 h3, .cons h2 h4⟩
theorem pc_globT {X : Cx} {G : Glb} {W : WX} {x : Str} {ds : List PyData} {pos : Pos} (hK : X.K = G.K) (hg : Gl X x) (h : TupK G.K X.mg x ds) (hd : (x == ("__debug__" : Str)) = false := by decide) : PE X (.Name x pos) (tE G W (fC (.tuple ds))) := by
  obtain ⟨a, od, its, n, sl, h1, h2, h3, h4⟩ := h.ex
  refine pc_glob (v := .ref a) hg h1 rfl (fun P => ?_) hd
  obtain ⟨xs, hv, hds⟩ := cVs_dp (K := G.K) (P := P) h3
  exact .tup (.inr ⟨_, its, n, h2, rfl, rfl, Nat.le_trans h4 (by decide +kernel), hv⟩) hds
end Mi
end
section
set_option Elab.async false
set_option linter.all false
set_option maxRecDepth 100000
set_option maxHeartbeats 4000000
namespace K49
open PySem PySem.Spec PyProof.Rows L2 Mi
def top (i : Nat) : Stmt := PySem.Challenge.pw_askcraft_k49_sums_behind_wrong_values.main.body.getD i (.Pass ⟨0, 0, 0, 0⟩)
def blts : List Str := ["list", "sorted", "set", "all", "any", "tuple", "len", "abs", "int", "range", "repr", "sum", "isinstance", "max", "min", "zip", "enumerate"]
abbrev s__law_error : Stmt := top 25
theorem sc__law_error : FnScope ["e", "names", "one"] ["e"] (defScope s__law_error) := ⟨rfl, rfl, rfl, by decide +kernel, rfl, by decide +kernel, by decide +kernel⟩
theorem errR_lt {c : Nat} {t : Str} (h : errR c = some t) : 0 < c ∧ c < 6 := by
  unfold errR at h
  split at h <;> first | exact ⟨by decide, by decide⟩ | cases h
theorem k__law_error {P : Program} {G : Glb} {mg : Str → Option Value} {base : Heap} (d : Def G mg "_law_error" s__law_error ["e"]) (B : NoG mg blts) (x_NotAllowed : Exc1 G.K mg "NotAllowed" (G.ea 1)) (x_BadForm : Exc1 G.K mg "BadForm" (G.ea 2)) (x_Missing : Exc1 G.K mg "Missing" (G.ea 3)) (x_Alike : Exc1 G.K mg "Alike" (G.ea 4)) (x_Wrong : Exc1 G.K mg "Wrong" (G.ea 5))
    (XC : ∀ c, 0 < c → c < 6 → ExcC G.K (G.ea c)) (kit : ∀ i j, i < 6 → j < 6 → 0 < i → 0 < j → PySem.W.kitOne G.K (.ref (G.ea i)) (.ref (G.ea j)) = some (decide (i = j))) : ErrF P G mg base 3 "_law_error" errR :=
  err_def (k := 2) d sc__law_error fun f cdv A outer s H E Q p c t room hot hz hr hq => by
    have hc := errR_lt hr
    have hv := hotC_of (X := L2H.cxH (L2N.CX P G.w) P G.w G.K mg base ["e", "names", "one"] "_law_error" (defScope s__law_error) f cdv A outer s H E p) hot rfl (by exact List.mem_cons_self)
    have is := cr_isH (X := L2H.cxH (L2N.CX P G.w) P G.w G.K mg base ["e", "names", "one"] "_law_error" (defScope s__law_error) f cdv A outer s H E p) (p := p) (by exact List.mem_cons_self) (XC c hc.1 hc.2) hz ⟨hot.2.choose, hot.2.choose_spec.1⟩
    have hi := B.n "isinstance" (by decide +kernel)
    exact ⟨_, pss_cons (ps_set (i := 1) sc__law_error.nd rfl (Or.inl rfl) (pe_lst (pa_cons (pe_callB is (by rfl) hi boot_isinstance (pa_cons (pe_var (i := 0) rfl (Or.inl rfl)) (pa_cons (pe_glob (v := .ref (G.ea 1)) (by rfl) x_NotAllowed.g rfl) pa_nil)))
      (pa_cons (pe_callB is (by rfl) hi boot_isinstance (pa_cons (pe_var (i := 0) rfl (Or.inl rfl)) (pa_cons (pe_glob (v := .ref (G.ea 3)) (by rfl) x_Missing.g rfl) pa_nil)))
      (pa_cons (pe_callB is (by rfl) hi boot_isinstance (pa_cons (pe_var (i := 0) rfl (Or.inl rfl)) (pa_cons (pe_glob (v := .ref (G.ea 5)) (by rfl) x_Wrong.g rfl) pa_nil)))
      (pa_cons (pe_callB is (by rfl) hi boot_isinstance (pa_cons (pe_var (i := 0) rfl (Or.inl rfl)) (pa_cons (pe_glob (v := .ref (G.ea 2)) (by rfl) x_BadForm.g rfl) pa_nil)))
      (pa_cons (pe_callB is (by rfl) hi boot_isinstance (pa_cons (pe_var (i := 0) rfl (Or.inl rfl)) (pa_cons (pe_glob (v := .ref (G.ea 4)) (by rfl) x_Alike.g rfl) pa_nil))) pa_nil)))))))
      (pss_cons (ps_if (pt_cmpR op_ne (pe_callB (cr_sumH hv) (by rfl) (B.n "sum" (by decide +kernel)) boot_sum (pa_cons (pe_lcHot (k := 2) (own := [("one", 2)]) hv sc__law_error.nd (blkOk_by (by rfl)) (by simp) (by show 2 < 3; decide) (pe_var (i := 1) rfl (Or.inl rfl))
          (fun _ _ _ _ _ => pg_name sc__law_error.nd rfl (Or.inl rfl)) (fun _ _ _ _ _ => pe_callTy call_int1 (by rfl) (B.n "int" (by decide +kernel)) (by decide +kernel) (pa_cons (pe_var (i := 2) rfl (Or.inl rfl)) pa_nil))) pa_nil)) pe_int (nomark _))
        (pss_one (ps_ret pe_str)) pss_nil)
      (pss_one (ps_ret (pe_ix ix_list (pe_lst (pa_cons pe_str (pa_cons pe_str (pa_cons pe_str (pa_cons pe_str (pa_cons pe_str pa_nil))))))
        (pe_bm PySem.F.plainAttrs_list PySem.F.slot_list_index PySem.F.type_list_index mt_index (pe_var (i := 1) rfl (Or.inl rfl)) (pa_cons pe_bl pa_nil)) (fun _ _ => rfl))))), err_rd hr kit hq⟩


abbrev s_check_prime : Stmt := top 11
noncomputable def F_check_prime : FS := (sIf (tBo (bin gNotIn (fV 0) (fC (.tuple [.int 2, .int 3, .int 5, .int 7, .int 11, .int 13, .int 17, .int 19, .int 23, .int 29, .int 31])))) (sRaise 1) sNext)
theorem sc_check_prime : FnScope ["prime"] ["prime"] (defScope s_check_prime) := ⟨rfl, rfl, rfl, by decide +kernel, rfl, by decide +kernel, by decide +kernel⟩
theorem k_check_prime {P : Program} {G : Glb} {mg : Str → Option Value} {base : Heap} (d : Def G mg "check_prime" s_check_prime ["prime"]) (x_NotAllowed : Exc1 G.K mg "NotAllowed" (G.ea 1)) (T_PRIMES : TupK G.K mg "PRIMES" [.int 2, .int 3, .int 5, .int 7, .int 11, .int 13, .int 17, .int 19, .int 23, .int 29, .int 31]) : Cal P G mg base 1 "check_prime" [false] (specOf [false] 1 F_check_prime) :=
  Def.cal (k := 0) d sc_check_prime rfl rfl fun f cdv A outer s H E cx =>
  (s_one (s_if (t_notIn cx pv_V (pc_globT cx.K (by exact rfl) T_PRIMES)) (s_one (s_raiseX cx x_NotAllowed)) s_nil))
noncomputable def S_check_prime : CSpec := specOf [false] 1 F_check_prime
theorem e_check_prime : ∀ ws, S_check_prime ws ≠ .stk → specOf [false] 1 F_check_prime ws = S_check_prime ws := fun _ _ => rfl
abbrev s_check_points : Stmt := top 12
noncomputable def F_check_points : FS := (sSeq (sDrop (fCall [false] S_check_prime (aCons (fV 0) aNil)))
  (sSeq (sSet 2 (fZ (fComp [3, 4] (iE (fV 1)) (bT [3, 4]) cT (fV 3))))
  (sIf (tOrV (tBo (bin gNe (fV 2) (callB (orC (g1 gSortS) (g1 gSorted)) (aCons (callB (g1 gSet) (aCons (fV 2) aNil)) aNil)))) (tNotV (tTr (callB (orC (g1 gAll) (g1 gAllI)) (aCons (fComp [3, 5] (iE (fV 1)) (bT [3, 5]) cT (fAnd (chain gLe gLt (fC (.int 0)) (fV 3) (fV 0)) (chain gLe gLt (fC (.int 0)) (fV 5) (fV 0)))) aNil))))) (sRaise 1) sNext)))
theorem sc_check_points : FnScope ["prime", "points", "firsts", "first", "_", "value"] ["prime", "points"] (defScope s_check_points) := ⟨rfl, rfl, rfl, by decide +kernel, rfl, by decide +kernel, by decide +kernel⟩
theorem k_check_points {P : Program} {G : Glb} {mg : Str → Option Value} {base : Heap} (d : Def G mg "check_points" s_check_points ["prime", "points"]) (B : NoG mg blts) (c_check_prime : Cal P G mg base 1 "check_prime" [false] S_check_prime) (x_NotAllowed : Exc1 G.K mg "NotAllowed" (G.ea 1)) : Cal P G mg base 2 "check_points" [false, false] (specOf [false, false] 6 F_check_points) :=
  Def.cal (k := 1) d sc_check_points rfl rfl fun f cdv A outer s H E cx =>
  (s_cons (s_expr (e_callC cx c_check_prime rfl (by decide) (pa_consV pv_V pa_nilV)))
  (s_cons (s_setCompZ cx rfl rfl rfl (by decide) rfl (n := 6) (i_E cx.K pv_V) (own := [("first", 3), ("_", 4)]) rfl rfl rfl (fun _ _ _ _ _ => (g_tup (Cxt.blk cx _ _ _ _ _).K (Cxt.blk cx _ _ _ _ _).calm (gs_cons (Cxt.blk cx _ _ _ _ _).nd rfl (by first | exact Or.inl rfl | exact Or.inr rfl) (by decide) rfl (gs_cons (Cxt.blk cx _ _ _ _ _).nd rfl (by first | exact Or.inl rfl | exact Or.inr rfl) (by decide) rfl gs_nil)) rfl)) (fun _ _ _ _ _ => pts_nil) (fun σ H Q ⟨ρ, P, F, nw, h⟩ => h P H F nw Stp.refl) (fun _ _ _ _ _ => pv_V) (by intro _; rfl) (sw_true rfl rfl rfl rfl))
  (s_one (s_if (PW.pt (w_or (t_cmp (c_ne cx) pv_V (e_blt (b_sorted2 cx rfl) (B.n "sorted" (by decide +kernel)) (pa_consV (e_ty (b_set cx rfl) (B.n "set" (by decide +kernel)) (pa_consV pv_V pa_nilV)) pa_nilV))) (w_or1 (t_not (t_tru cx.K (e_blt (b_all2 cx) (B.n "all" (by decide +kernel)) (pa_consV (e_comp cx rfl (n := 6) (i_E cx.K pv_V) (own := [("first", 3), ("value", 5)]) rfl rfl rfl (fun _ _ _ _ _ => (g_tup (Cxt.blk cx _ _ _ _ _).K (Cxt.blk cx _ _ _ _ _).calm (gs_cons (Cxt.blk cx _ _ _ _ _).nd rfl (by first | exact Or.inl rfl | exact Or.inr rfl) (by decide) rfl (gs_cons (Cxt.blk cx _ _ _ _ _).nd rfl (by first | exact Or.inl rfl | exact Or.inr rfl) (by decide) rfl gs_nil)) rfl)) (fun _ _ _ _ _ => pts_nil) (fun σ H Q ⟨ρ, P, F, nw, h⟩ => h P H F nw Stp.refl) (fun _ _ _ _ _ => (e_andV (Cxt.blk cx _ _ _ _ _).K (e_chain c_le c_lt pc_int pv_V pv_V) (e_one (e_chain c_le c_lt pc_int pv_V pv_V))))) pa_nilV))))))) (s_one (s_raiseX cx x_NotAllowed)) s_nil))))
noncomputable def S_check_points : CSpec := specOf [false, false] 6 F_check_points
theorem e_check_points : ∀ ws, S_check_points ws ≠ .stk → specOf [false, false] 6 F_check_points ws = S_check_points ws := fun _ _ => rfl
abbrev s_value_at : Stmt := top 13
noncomputable def F_value_at : FS := (sSeq (sSet 3 (fC (.int 0)))
  (sSeq (sFor (iE (una gRevA (fV 1))) (bN 4) (sSet 3 (bin gMod (bin gAdd (bin gMul (fV 3) (fV 2)) (fV 4)) (fV 0))))
  (sRet (fV 3))))
theorem sc_value_at : FnScope ["prime", "numbers", "first", "found", "number"] ["prime", "numbers", "first"] (defScope s_value_at) := ⟨rfl, rfl, rfl, by decide +kernel, rfl, by decide +kernel, by decide +kernel⟩
theorem k_value_at {P : Program} {G : Glb} {mg : Str → Option Value} {base : Heap} (d : Def G mg "value_at" s_value_at ["prime", "numbers", "first"]) : Cal P G mg base 1 "value_at" [false, false, false] (specOf [false, false, false] 5 F_value_at) :=
  Def.cal (k := 0) d sc_value_at rfl rfl fun f cdv A outer s H E cx =>
  (s_cons (s_set cx.nd rfl (by first | exact Or.inl rfl | exact Or.inr rfl) (by decide) rfl pc_int)
  (s_cons (s_for (passes_of rfl) cx.calm (i_E cx.K (e_rev cx.K pv_V)) (g_name cx.nd rfl (by first | exact Or.inl rfl | exact Or.inr rfl) (by decide) rfl) (s_one (s_set cx.nd rfl (by first | exact Or.inl rfl | exact Or.inr rfl) (by decide) rfl (e_mod (e_add cx (e_mul cx pv_V pv_V) pv_V) pv_V))))
  (s_one (s_ret pv_V))))
noncomputable def S_value_at : CSpec := specOf [false, false, false] 5 F_value_at
theorem e_value_at : ∀ ws, S_value_at ws ≠ .stk → specOf [false, false, false] 5 F_value_at ws = S_value_at ws := fun _ _ => rfl
abbrev s_cut : Stmt := top 14
noncomputable def F_cut : FS := (sSeq (sSet 1 (callB (g1 gLen) (aCons (fV 0) aNil)))
  (sSeq (sWh (tAndV (tBo (bin gGt (fV 1) (fC (.int 0)))) (tBo (bin gEq (bin gIx (fV 0) (bin gSub (fV 1) (fC (.int 1)))) (fC (.int 0))))) (sAug 1 gSub (fC (.int 1))))
  (sRet (callB (g1 gTuple) (aCons (fSl (fV 0) pNo (pSo (fV 1))) aNil)))))
theorem sc_cut : FnScope ["numbers", "last"] ["numbers"] (defScope s_cut) := ⟨rfl, rfl, rfl, by decide +kernel, rfl, by decide +kernel, by decide +kernel⟩
theorem k_cut {P : Program} {G : Glb} {mg : Str → Option Value} {base : Heap} (d : Def G mg "cut" s_cut ["numbers"]) (B : NoG mg blts) : Cal P G mg base 1 "cut" [false] (specOf [false] 2 F_cut) :=
  Def.cal (k := 0) d sc_cut rfl rfl fun f cdv A outer s H E cx =>
  (s_cons (s_set cx.nd rfl (by first | exact Or.inl rfl | exact Or.inr rfl) (by decide) rfl (e_blt (b_len cx) (B.n "len" (by decide +kernel)) (pa_consV pv_V pa_nilV)))
  (s_cons (s_while (passes_of rfl) (PW.pt (w_and (t_cmp c_gt pv_V pc_int) (w_and1 (t_cmp (c_eq cx) (e_ix cx pv_V (e_sub pv_V pc_int)) pc_int)))) (s_one (s_aug q_sub cx.nd rfl (by first | exact Or.inl rfl | exact Or.inr rfl) (by decide) rfl pc_int)))
  (s_one (s_ret (e_ty (b_tuple cx) (B.n "tuple" (by decide +kernel)) (pa_consV (e_sl cx.K pv_V o_no (o_so pv_V)) pa_nilV))))))
noncomputable def S_cut : CSpec := specOf [false] 2 F_cut
theorem e_cut : ∀ ws, S_cut ws ≠ .stk → specOf [false] 2 F_cut ws = S_cut ws := fun _ _ => rfl
abbrev s_product : Stmt := top 15
noncomputable def F_product : FS := (sSeq (sSet 3 (fComp [8] (iR1 (aCons (bin gAdd (callB (g1 gLen) (aCons (fV 1) aNil)) (callB (g1 gLen) (aCons (fV 2) aNil))) aNil)) (bN 8) cT (fC (.int 0))))
  (sSeq (sFor (iEnu (aCons (fZ (fV 1)) aNil)) (bT [4, 5]) (sFor (iEnu (aCons (fZ (fV 2)) aNil)) (bT [6, 7]) (sSetItem 3 (bin gAdd (fV 4) (fV 6)) (bin gMod (bin gAdd (bin gIx (fV 3) (bin gAdd (fV 4) (fV 6))) (bin gMul (fV 5) (fV 7))) (fV 0)))))
  (sRet (fCall [false] S_cut (aCons (fV 3) aNil)))))
theorem sc_product : FnScope ["prime", "first", "second", "found", "k", "one", "j", "other", "_"] ["prime", "first", "second"] (defScope s_product) := ⟨rfl, rfl, rfl, by decide +kernel, rfl, by decide +kernel, by decide +kernel⟩
theorem k_product {P : Program} {G : Glb} {mg : Str → Option Value} {base : Heap} (d : Def G mg "product" s_product ["prime", "first", "second"]) (B : NoG mg blts) (c_cut : Cal P G mg base 1 "cut" [false] S_cut) : Cal P G mg base 2 "product" [false, false, false] (specOf [false, false, false] 9 F_product) :=
  Def.cal (k := 1) d sc_product rfl rfl fun f cdv A outer s H E cx =>
  (s_cons (s_setComp cx rfl rfl rfl (by decide) rfl (n := 9) (i_R1 (B.n "range" (by decide +kernel)) (pa_consV (e_add cx (e_blt (b_len cx) (B.n "len" (by decide +kernel)) (pa_consV pv_V pa_nilV)) (e_blt (b_len cx) (B.n "len" (by decide +kernel)) (pa_consV pv_V pa_nilV))) pa_nilV)) (own := [("_", 8)]) rfl rfl rfl (fun _ _ _ _ _ => (g_name (Cxt.blk cx _ _ _ _ _).nd rfl (by first | exact Or.inl rfl | exact Or.inr rfl) (by decide) rfl)) (fun _ _ _ _ _ => pts_nil) (fun σ H Q ⟨ρ, P, F, nw, h⟩ => h P H F nw Stp.refl) (fun _ _ _ _ _ => pc_int) (by intro _; rfl) (sw_true rfl rfl rfl rfl))
  (s_cons (s_for (passes_of rfl) cx.calm (i_Enu cx.K (B.n "enumerate" (by decide +kernel)) (pa_consV (e_Z pv_V) pa_nilV)) (g_tup cx.K cx.calm (gs_cons cx.nd rfl (by first | exact Or.inl rfl | exact Or.inr rfl) (by decide) rfl (gs_cons cx.nd rfl (by first | exact Or.inl rfl | exact Or.inr rfl) (by decide) rfl gs_nil)) rfl) (s_one (s_for (passes_of rfl) cx.calm (i_Enu cx.K (B.n "enumerate" (by decide +kernel)) (pa_consV (e_Z pv_V) pa_nilV)) (g_tup cx.K cx.calm (gs_cons cx.nd rfl (by first | exact Or.inl rfl | exact Or.inr rfl) (by decide) rfl (gs_cons cx.nd rfl (by first | exact Or.inl rfl | exact Or.inr rfl) (by decide) rfl gs_nil)) rfl) (s_one (s_setItem v_var (e_add cx pv_V pv_V) (e_mod (e_add cx (e_ix cx pv_V (e_add cx pv_V pv_V)) (e_mul cx pv_V pv_V)) pv_V))))))
  (s_one (s_ret (e_callC cx c_cut rfl (by decide) (pa_consV pv_V pa_nilV))))))
noncomputable def S_product : CSpec := specOf [false, false, false] 9 F_product
theorem e_product : ∀ ws, S_product ws ≠ .stk → specOf [false, false, false] 9 F_product ws = S_product ws := fun _ _ => rfl
abbrev s_total : Stmt := top 16
noncomputable def F_total : FS := (sSeq (sSet 3 (callB (g2I fun i j => if j > i then j else i) (aCons (callB (g1 gLen) (aCons (fV 1) aNil)) (aCons (callB (g1 gLen) (aCons (fV 2) aNil)) aNil))))
  (sSeq (sSet 4 (fZ (fComp [5] (iE (fTup (aCons (fV 1) (aCons (fV 2) aNil)))) (bN 5) cT (fTup (aStar (fZ (fV 5)) (aStar (fComp [6] (iR1 (aCons (bin gSub (fV 3) (callB (g1 gLen) (aCons (fV 5) aNil))) aNil)) (bN 6) cT (fC (.int 0))) aNil))))))
  (sRet (fCall [false] S_cut (aCons (fComp [7, 8] (iZip2 (aCons (bin gIx (fV 4) (fC (.int 0))) (aCons (bin gIx (fV 4) (fC (.int 1))) aNil))) (bT [7, 8]) cT (bin gMod (bin gAdd (fV 7) (fV 8)) (fV 0))) aNil)))))
theorem sc_total : FnScope ["prime", "first", "second", "many", "rows", "row", "_", "one", "other"] ["prime", "first", "second"] (defScope s_total) := ⟨rfl, rfl, rfl, by decide +kernel, rfl, by decide +kernel, by decide +kernel⟩
theorem k_total {P : Program} {G : Glb} {mg : Str → Option Value} {base : Heap} (d : Def G mg "total" s_total ["prime", "first", "second"]) (B : NoG mg blts) (c_cut : Cal P G mg base 1 "cut" [false] S_cut) : Cal P G mg base 2 "total" [false, false, false] (specOf [false, false, false] 9 F_total) :=
  Def.cal (k := 1) d sc_total rfl rfl fun f cdv A outer s H E cx =>
  (s_cons (s_set cx.nd rfl (by first | exact Or.inl rfl | exact Or.inr rfl) (by decide) rfl (e_blt (b_max2 cx) (B.n "max" (by decide +kernel)) (pa_consV (e_blt (b_len cx) (B.n "len" (by decide +kernel)) (pa_consV pv_V pa_nilV)) (pa_consV (e_blt (b_len cx) (B.n "len" (by decide +kernel)) (pa_consV pv_V pa_nilV)) pa_nilV))))
  (s_cons (s_setCompZ cx rfl rfl rfl (by decide) rfl (n := 9) (i_E cx.K (e_tup (pa_consV pv_V (pa_consV pv_V pa_nilV)))) (own := [("row", 5)]) rfl rfl rfl (fun _ _ _ _ _ => (g_name (Cxt.blk cx _ _ _ _ _).nd rfl (by first | exact Or.inl rfl | exact Or.inr rfl) (by decide) rfl)) (fun _ _ _ _ _ => pts_nil) (fun σ H Q ⟨ρ, P, F, nw, h⟩ => h P H F nw Stp.refl) (fun _ _ _ _ _ => (e_tup (pa_starV (Cxt.blk cx _ _ _ _ _).K (e_Z pv_V) (pa_starV (Cxt.blk cx _ _ _ _ _).K (e_comp (Cxt.blk cx _ _ _ _ _) rfl (n := 9) (i_R1 (B.n "range" (by decide +kernel)) (pa_consV (e_sub pv_V (e_blt (b_len (Cxt.blk cx _ _ _ _ _)) (B.n "len" (by decide +kernel)) (pa_consV pv_V pa_nilV))) pa_nilV)) (own := [("_", 6)]) rfl rfl rfl (fun _ _ _ _ _ => (g_name (Cxt.blk (Cxt.blk cx _ _ _ _ _) _ _ _ _ _).nd rfl (by first | exact Or.inl rfl | exact Or.inr rfl) (by decide) rfl)) (fun _ _ _ _ _ => pts_nil) (fun σ H Q ⟨ρ, P, F, nw, h⟩ => h P H F nw Stp.refl) (fun _ _ _ _ _ => pc_int)) pa_nilV)))) (by intro _; rfl) (sw_true rfl rfl rfl rfl))
  (s_one (s_ret (e_callC cx c_cut rfl (by decide) (pa_consV (e_comp cx rfl (n := 9) (i_Zip2 cx.K (B.n "zip" (by decide +kernel)) (pa_consV (e_ix cx pv_V pc_int) (pa_consV (e_ix cx pv_V pc_int) pa_nilV))) (own := [("one", 7), ("other", 8)]) rfl rfl rfl (fun _ _ _ _ _ => (g_tup (Cxt.blk cx _ _ _ _ _).K (Cxt.blk cx _ _ _ _ _).calm (gs_cons (Cxt.blk cx _ _ _ _ _).nd rfl (by first | exact Or.inl rfl | exact Or.inr rfl) (by decide) rfl (gs_cons (Cxt.blk cx _ _ _ _ _).nd rfl (by first | exact Or.inl rfl | exact Or.inr rfl) (by decide) rfl gs_nil)) rfl)) (fun _ _ _ _ _ => pts_nil) (fun σ H Q ⟨ρ, P, F, nw, h⟩ => h P H F nw Stp.refl) (fun _ _ _ _ _ => (e_mod (e_add (Cxt.blk cx _ _ _ _ _) pv_V pv_V) pv_V))) pa_nilV))))))
noncomputable def S_total : CSpec := specOf [false, false, false] 9 F_total
theorem e_total : ∀ ws, S_total ws ≠ .stk → specOf [false, false, false] 9 F_total ws = S_total ws := fun _ _ => rfl
abbrev s_inverse : Stmt := top 17
noncomputable def F_inverse : FS := (sRet (bin gIx (fComp [2] (iR1 (aCons (fV 0) aNil)) (bN 2) (tBo (bin gEq (bin gMod (bin gMul (fV 2) (fV 1)) (fV 0)) (fC (.int 1)))) (fV 2)) (fC (.int 0))))
theorem sc_inverse : FnScope ["prime", "number", "other"] ["prime", "number"] (defScope s_inverse) := ⟨rfl, rfl, rfl, by decide +kernel, rfl, by decide +kernel, by decide +kernel⟩
theorem k_inverse {P : Program} {G : Glb} {mg : Str → Option Value} {base : Heap} (d : Def G mg "inverse" s_inverse ["prime", "number"]) (B : NoG mg blts) : Cal P G mg base 1 "inverse" [false, false] (specOf [false, false] 3 F_inverse) :=
  Def.cal (k := 0) d sc_inverse rfl rfl fun f cdv A outer s H E cx =>
  (s_one (s_ret (e_ix cx (e_comp cx rfl (n := 3) (i_R1 (B.n "range" (by decide +kernel)) (pa_consV pv_V pa_nilV)) (own := [("other", 2)]) rfl rfl rfl (fun _ _ _ _ _ => (g_name (Cxt.blk cx _ _ _ _ _).nd rfl (by first | exact Or.inl rfl | exact Or.inr rfl) (by decide) rfl)) (fun _ _ _ _ _ => pts_one (t_cmp (c_eq (Cxt.blk cx _ _ _ _ _)) (e_mod (e_mul (Cxt.blk cx _ _ _ _ _) pv_V pv_V) pv_V) pc_int)) (fun _ _ _ h => h) (fun _ _ _ _ _ => pv_V)) pc_int)))
noncomputable def S_inverse : CSpec := specOf [false, false] 3 F_inverse
theorem e_inverse : ∀ ws, S_inverse ws ≠ .stk → specOf [false, false] 3 F_inverse ws = S_inverse ws := fun _ _ => rfl
abbrev s_through : Stmt := top 18
noncomputable def F_through : FS := (sSeq (sSet 2 (fTup aNil))
  (sSeq (sSet 3 (fTup (aCons (fC (.int 1)) aNil)))
  (sSeq (sFor (iE (fV 1)) (bT [4, 5]) (sSeq (sSet 6 (bin gMod (bin gSub (fV 5) (fCall [false, false, false] S_value_at (aCons (fV 0) (aCons (fV 2) (aCons (fV 4) aNil))))) (fV 0)))
  (sSeq (sSet 7 (bin gMod (bin gMul (fV 6) (fCall [false, false] S_inverse (aCons (fV 0) (aCons (fCall [false, false, false] S_value_at (aCons (fV 0) (aCons (fV 3) (aCons (fV 4) aNil)))) aNil)))) (fV 0)))
  (sSeq (sSet 2 (fZ (fCall [false, false, false] S_total (aCons (fV 0) (aCons (fV 2) (aCons (fCall [false, false, false] S_product (aCons (fV 0) (aCons (fV 3) (aCons (fTup (aCons (fV 7) aNil)) aNil)))) aNil))))))
  (sSet 3 (fZ (fCall [false, false, false] S_product (aCons (fV 0) (aCons (fV 3) (aCons (fTup (aCons (bin gMod (una (gU fun i => -i) (fV 4)) (fV 0)) (aCons (fC (.int 1)) aNil))) aNil))))))))))
  (sRet (fV 2)))))
theorem sc_through : FnScope ["prime", "points", "found", "base", "first", "goal", "gap", "scale"] ["prime", "points"] (defScope s_through) := ⟨rfl, rfl, rfl, by decide +kernel, rfl, by decide +kernel, by decide +kernel⟩
theorem k_through {P : Program} {G : Glb} {mg : Str → Option Value} {base : Heap} (d : Def G mg "through" s_through ["prime", "points"]) (c_product : Cal P G mg base 2 "product" [false, false, false] S_product) (c_total : Cal P G mg base 2 "total" [false, false, false] S_total) (c_inverse : Cal P G mg base 1 "inverse" [false, false] S_inverse) (c_value_at : Cal P G mg base 1 "value_at" [false, false, false] S_value_at) : Cal P G mg base 3 "through" [false, false] (specOf [false, false] 8 F_through) :=
  Def.cal (k := 2) d sc_through rfl rfl fun f cdv A outer s H E cx =>
  (s_cons (s_set cx.nd rfl (by first | exact Or.inl rfl | exact Or.inr rfl) (by decide) rfl (e_tup pa_nilV))
  (s_cons (s_set cx.nd rfl (by first | exact Or.inl rfl | exact Or.inr rfl) (by decide) rfl (e_tup (pa_consV pc_int pa_nilV)))
  (s_cons (s_for (passes_of rfl) cx.calm (i_E cx.K pv_V) (g_tup cx.K cx.calm (gs_cons cx.nd rfl (by first | exact Or.inl rfl | exact Or.inr rfl) (by decide) rfl (gs_cons cx.nd rfl (by first | exact Or.inl rfl | exact Or.inr rfl) (by decide) rfl gs_nil)) rfl) (s_cons (s_set cx.nd rfl (by first | exact Or.inl rfl | exact Or.inr rfl) (by decide) rfl (e_mod (e_sub pv_V (e_callC cx c_value_at rfl (by decide) (pa_consV pv_V (pa_consV pv_V (pa_consV pv_V pa_nilV))))) pv_V))
  (s_cons (s_set cx.nd rfl (by first | exact Or.inl rfl | exact Or.inr rfl) (by decide) rfl (e_mod (e_mul cx pv_V (e_callC cx c_inverse rfl (by decide) (pa_consV pv_V (pa_consV (e_callC cx c_value_at rfl (by decide) (pa_consV pv_V (pa_consV pv_V (pa_consV pv_V pa_nilV)))) pa_nilV)))) pv_V))
  (s_cons (s_set cx.nd rfl (by first | exact Or.inl rfl | exact Or.inr rfl) (by decide) rfl (e_Z (e_callC cx c_total rfl (by decide) (pa_consV pv_V (pa_consV pv_V (pa_consV (e_callC cx c_product rfl (by decide) (pa_consV pv_V (pa_consV pv_V (pa_consV (e_tup (pa_consV pv_V pa_nilV)) pa_nilV)))) pa_nilV))))))
  (s_one (s_set cx.nd rfl (by first | exact Or.inl rfl | exact Or.inr rfl) (by decide) rfl (e_Z (e_callC cx c_product rfl (by decide) (pa_consV pv_V (pa_consV pv_V (pa_consV (e_tup (pa_consV (e_mod (e_neg pv_V) pv_V) (pa_consV pc_int pa_nilV))) pa_nilV)))))))))))
  (s_one (s_ret pv_V)))))
noncomputable def S_through : CSpec := specOf [false, false] 8 F_through
theorem e_through : ∀ ws, S_through ws ≠ .stk → specOf [false, false] 8 F_through ws = S_through ws := fun _ _ => rfl
abbrev s_check_wrong : Stmt := top 19
noncomputable def F_check_wrong : FS := (sSeq (sDrop (fCall [false, false] S_check_points (aCons (fV 0) (aCons (fV 3) aNil))))
  (sSeq (sIf (tOrV (tNotV (tBo (chain gLe gLe (fC (.int 0)) (fV 1) (fV 0)))) (tNotV (tBo (chain gLe gLe (fC (.int 0)) (fV 2) (fC (.int 2)))))) (sRaise 1) sNext)
  (sIf (tBo (bin gLt (callB (g1 gLen) (aCons (fV 3) aNil)) (bin gAdd (fV 1) (bin gMul (fC (.int 2)) (fV 2))))) (sRaise 1) sNext)))
theorem sc_check_wrong : FnScope ["prime", "most", "wrong", "points"] ["prime", "most", "wrong", "points"] (defScope s_check_wrong) := ⟨rfl, rfl, rfl, by decide +kernel, rfl, by decide +kernel, by decide +kernel⟩
theorem k_check_wrong {P : Program} {G : Glb} {mg : Str → Option Value} {base : Heap} (d : Def G mg "check_wrong" s_check_wrong ["prime", "most", "wrong", "points"]) (B : NoG mg blts) (c_check_points : Cal P G mg base 2 "check_points" [false, false] S_check_points) (x_NotAllowed : Exc1 G.K mg "NotAllowed" (G.ea 1)) (T_MAX_WRONG : ∃ t, mg "MAX_WRONG" = some (Value.int 2 t)) : Cal P G mg base 3 "check_wrong" [false, false, false, false] (specOf [false, false, false, false] 4 F_check_wrong) :=
  Def.cal (k := 2) d sc_check_wrong rfl rfl fun f cdv A outer s H E cx =>
  (s_cons (s_expr (e_callC cx c_check_points rfl (by decide) (pa_consV pv_V (pa_consV pv_V pa_nilV))))
  (s_cons (s_if (PW.pt (w_or (t_not (t_chain c_le c_le pc_int pv_V pv_V)) (w_or1 (t_not (t_chain c_le c_le pc_int pv_V (pc_glob (v := .int 2) (by exact rfl) T_MAX_WRONG.choose_spec ⟨_, rfl⟩ fun _ => .int _)))))) (s_one (s_raiseX cx x_NotAllowed)) s_nil)
  (s_one (s_if (t_cmp c_lt (e_blt (b_len cx) (B.n "len" (by decide +kernel)) (pa_consV pv_V pa_nilV)) (e_add cx pv_V (e_mul cx pc_int pv_V))) (s_one (s_raiseX cx x_NotAllowed)) s_nil))))
noncomputable def S_check_wrong : CSpec := specOf [false, false, false, false] 4 F_check_wrong
theorem e_check_wrong : ∀ ws, S_check_wrong ws ≠ .stk → specOf [false, false, false, false] 4 F_check_wrong ws = S_check_wrong ws := fun _ _ => rfl
abbrev s_behind_wrong : Stmt := top 20
noncomputable def F_behind_wrong : FS := (sSeq (sDrop (fCall [false, false, false, false] S_check_wrong (aCons (fV 0) (aCons (fV 1) (aCons (fV 2) (aCons (fV 3) aNil))))))
  (sSeq (sFor (iR1 (aCons (bin gAdd (fV 2) (fC (.int 1))) aNil)) (bN 4) (sFor (iCmbR (callB (g1 gLen) (aCons (fV 3) aNil)) (fV 4)) (bN 5) (sSeq (sSet 6 (callB (g1 gTuple) (aCons (fComp [8, 9] (iEnu (aCons (fZ (fV 3)) aNil)) (bT [8, 9]) (tBo (bin gNotIn (fV 8) (fV 5))) (fV 9)) aNil)))
  (sSeq (sSet 7 (fZ (fCall [false, false] S_through (aCons (fV 0) (aCons (fV 6) aNil)))))
  (sIf (tBo (bin gLe (callB (g1 gLen) (aCons (fV 7) aNil)) (fV 1))) (sRet (fV 7)) sNext)))))
  (sRaise 3)))
theorem sc_behind_wrong : FnScope ["prime", "most", "wrong", "points", "size", "gone", "row", "found", "at", "point"] ["prime", "most", "wrong", "points"] (defScope s_behind_wrong) := ⟨rfl, rfl, rfl, by decide +kernel, rfl, by decide +kernel, by decide +kernel⟩
theorem k_behind_wrong {P : Program} {G : Glb} {mg : Str → Option Value} {base : Heap} (d : Def G mg "behind_wrong" s_behind_wrong ["prime", "most", "wrong", "points"]) (B : NoG mg blts) (c_through : Cal P G mg base 3 "through" [false, false] S_through) (c_check_wrong : Cal P G mg base 3 "check_wrong" [false, false, false, false] S_check_wrong) (x_Missing : Exc1 G.K mg "Missing" (G.ea 3)) (CB : mg "combinations" = some (.type "itertools.combinations")) : Cal P G mg base 4 "behind_wrong" [false, false, false, false] (specOf [false, false, false, false] 10 F_behind_wrong) :=
  Def.cal (k := 3) d sc_behind_wrong rfl rfl fun f cdv A outer s H E cx =>
  (s_cons (s_expr (e_callC cx c_check_wrong rfl (by decide) (pa_consV pv_V (pa_consV pv_V (pa_consV pv_V (pa_consV pv_V pa_nilV))))))
  (s_cons (s_for (passes_of rfl) cx.calm (i_R1 (B.n "range" (by decide +kernel)) (pa_consV (e_add cx pv_V pc_int) pa_nilV)) (g_name cx.nd rfl (by first | exact Or.inl rfl | exact Or.inr rfl) (by decide) rfl) (s_one (s_for (passes_of rfl) cx.calm (i_CmbR cx.K CB (B.n "range" (by decide +kernel)) (e_blt (b_len cx) (B.n "len" (by decide +kernel)) (pa_consV pv_V pa_nilV)) pv_V cx.calm) (g_name cx.nd rfl (by first | exact Or.inl rfl | exact Or.inr rfl) (by decide) rfl) (s_cons (s_set cx.nd rfl (by first | exact Or.inl rfl | exact Or.inr rfl) (by decide) rfl (e_ty (b_tuple cx) (B.n "tuple" (by decide +kernel)) (pa_consV (e_comp cx rfl (n := 10) (i_Enu cx.K (B.n "enumerate" (by decide +kernel)) (pa_consV (e_Z pv_V) pa_nilV)) (own := [("at", 8), ("point", 9)]) rfl rfl rfl (fun _ _ _ _ _ => (g_tup (Cxt.blk cx _ _ _ _ _).K (Cxt.blk cx _ _ _ _ _).calm (gs_cons (Cxt.blk cx _ _ _ _ _).nd rfl (by first | exact Or.inl rfl | exact Or.inr rfl) (by decide) rfl (gs_cons (Cxt.blk cx _ _ _ _ _).nd rfl (by first | exact Or.inl rfl | exact Or.inr rfl) (by decide) rfl gs_nil)) rfl)) (fun _ _ _ _ _ => pts_one (t_notIn (Cxt.blk cx _ _ _ _ _) pv_V pv_V)) (fun _ _ _ h => h) (fun _ _ _ _ _ => pv_V)) pa_nilV)))
  (s_cons (s_set cx.nd rfl (by first | exact Or.inl rfl | exact Or.inr rfl) (by decide) rfl (e_Z (e_callC cx c_through rfl (by decide) (pa_consV pv_V (pa_consV pv_V pa_nilV)))))
  (s_one (s_if (t_cmp c_le (e_blt (b_len cx) (B.n "len" (by decide +kernel)) (pa_consV pv_V pa_nilV)) pv_V) (s_one (s_ret pv_V)) s_nil)))))))
  (s_one (s_raiseX cx x_Missing))))
noncomputable def S_behind_wrong : CSpec := specOf [false, false, false, false] 10 F_behind_wrong
theorem e_behind_wrong : ∀ ws, S_behind_wrong ws ≠ .stk → specOf [false, false, false, false] 10 F_behind_wrong ws = S_behind_wrong ws := fun _ _ => rfl
abbrev s__law_same : Stmt := top 22
theorem sc__law_same : FnScope ["told", "due"] ["told", "due"] (defScope s__law_same) := ⟨rfl, rfl, rfl, by decide +kernel, rfl, by decide +kernel, by decide +kernel⟩
theorem k__law_same {P : Program} {G : Glb} {mg : Str → Option Value} {base : Heap} (d : Def G mg "_law_same" s__law_same ["told", "due"]) (B : NoG mg blts) : Cal P G mg base 1 "_law_same" [false, false] (specOf [false, false] 2 F__law_same) :=
  Def.cal (k := 0) d sc__law_same rfl rfl fun f cdv A outer s H E cx =>
  (s_one (s_ret (e_cmp (c_eq cx) (e_blt (b_repr cx) (B.n "repr" (by decide +kernel)) (pa_consV (e_lst (pa_consV pv_V pa_nilV)) pa_nilV)) (e_blt (b_repr cx) (B.n "repr" (by decide +kernel)) (pa_consV (e_lst (pa_consV pv_V pa_nilV)) pa_nilV)))))
abbrev s__law_stream : Stmt := top 23
theorem sc__law_stream : FnScope ["script", "numbers", "cell", "rest", "k", "mixed"] ["script"] (defScope s__law_stream) := ⟨rfl, rfl, rfl, by decide +kernel, rfl, by decide +kernel, by decide +kernel⟩
theorem k__law_stream {P : Program} {G : Glb} {mg : Str → Option Value} {base : Heap} (d : Def G mg "_law_stream" s__law_stream ["script"]) (B : NoG mg blts) : Cal P G mg base 1 "_law_stream" [false] (specOf [false] 6 F__law_stream) :=
  Def.cal (k := 0) d sc__law_stream rfl rfl fun f cdv A outer s H E cx =>
  (s_cons (s_set cx.nd rfl (by first | exact Or.inl rfl | exact Or.inr rfl) (by decide) rfl (e_lst pa_nilV))
  (s_cons (s_for (passes_of rfl) cx.calm (i_E cx.K (e_sl cx.K pv_V o_no (o_so pc_int))) (g_name cx.nd rfl (by first | exact Or.inl rfl | exact Or.inr rfl) (by decide) rfl) (s_cons (s_set cx.nd rfl (by first | exact Or.inl rfl | exact Or.inr rfl) (by decide) rfl (e_blt b_abs (B.n "abs" (by decide +kernel)) (pa_consV (e_ty b_int (B.n "int" (by decide +kernel)) (pa_consV pv_V pa_nilV)) pa_nilV)))
  (s_one (s_if (t_cmp c_ge pv_V (e_pow pc_int pc_int)) (s_one (s_for (passes_of rfl) cx.calm (i_R1 (B.n "range" (by decide +kernel)) (pa_consV pc_int pa_nilV)) (g_name cx.nd rfl (by first | exact Or.inl rfl | exact Or.inr rfl) (by decide) rfl) (s_cons (s_expr (e_append cx.K v_var (e_mod (e_ty b_int (B.n "int" (by decide +kernel)) (pa_consV pv_V pa_nilV)) pc_int)))
  (s_cons (s_set cx.nd rfl (by first | exact Or.inl rfl | exact Or.inr rfl) (by decide) rfl (e_fdiv pv_V pc_int))
  (s_one (s_if (t_cmp (c_eq cx) pv_V pc_int) (s_one s_break) s_nil)))))) (s_cons (s_set cx.nd rfl (by first | exact Or.inl rfl | exact Or.inr rfl) (by decide) rfl (e_mod (e_ty b_int (B.n "int" (by decide +kernel)) (pa_consV pv_V pa_nilV)) pc_int))
  (s_one (s_for (passes_of rfl) cx.calm (i_R1 (B.n "range" (by decide +kernel)) (pa_consV pc_int pa_nilV)) (g_name cx.nd rfl (by first | exact Or.inl rfl | exact Or.inr rfl) (by decide) rfl) (s_cons (s_set cx.nd rfl (by first | exact Or.inl rfl | exact Or.inr rfl) (by decide) rfl (e_mod (e_ty b_int (B.n "int" (by decide +kernel)) (pa_consV (e_add cx (e_add cx (e_mul cx pv_V pc_int) (e_mul cx pc_int pv_V)) pc_int) pa_nilV)) pc_int))
  (s_one (s_expr (e_append cx.K v_var (e_mod (e_mod (e_ty b_int (B.n "int" (by decide +kernel)) (pa_consV (e_add cx (e_mul cx pv_V pc_int) pv_V) pa_nilV)) pc_int) pc_int))))))))))))
  (s_cons (s_if (t_cmp (c_eq cx) (e_blt (b_len cx) (B.n "len" (by decide +kernel)) (pa_consV pv_V pa_nilV)) pc_int) (s_one (s_expr (e_append cx.K v_var pc_int))) s_nil)
  (s_one (s_ret pv_V)))))
abbrev s__law_next : Stmt := top 24
theorem sc__law_next : FnScope ["state", "many", "turn"] ["state", "many"] (defScope s__law_next) := ⟨rfl, rfl, rfl, by decide +kernel, rfl, by decide +kernel, by decide +kernel⟩
theorem k__law_next {P : Program} {G : Glb} {mg : Str → Option Value} {base : Heap} (d : Def G mg "_law_next" s__law_next ["state", "many"]) (B : NoG mg blts) : Cal P G mg base 1 "_law_next" [true, false] (specOf [true, false] 3 F__law_next) :=
  Def.cal (k := 0) d sc__law_next rfl rfl fun f cdv A outer s H E cx =>
  (s_cons (s_setItem v_var pc_int (e_add cx (e_ix cx pv_V pc_int) pc_int))
  (s_cons (s_set cx.nd rfl (by first | exact Or.inl rfl | exact Or.inr rfl) (by decide) rfl (e_fdiv (e_ix cx pv_V pc_int) (e_blt (b_len cx) (B.n "len" (by decide +kernel)) (pa_consV (e_ix cx pv_V pc_int) pa_nilV))))
  (s_one (s_ret (e_mod (e_ty b_int (B.n "int" (by decide +kernel)) (pa_consV (e_add cx (e_add cx (e_ix cx (e_ix cx pv_V pc_int) (e_mod (e_ix cx pv_V pc_int) (e_blt (b_len cx) (B.n "len" (by decide +kernel)) (pa_consV (e_ix cx pv_V pc_int) pa_nilV)))) (e_mul cx pv_V pc_int)) (e_mul cx (e_mul cx (e_ix cx pv_V pc_int) pv_V) pc_int)) pa_nilV)) pv_V)))))
abbrev s__law_told : Stmt := top 26
noncomputable def F__law_told : FS := (sTry errR (sRet (fTup (aCons (fC (.str "told")) (aCons (fCall [false, false, false, false] S_behind_wrong (aCons (fV 0) (aCons (fV 1) (aCons (fV 2) (aCons (fV 3) aNil))))) aNil)))))
theorem sc__law_told : FnScope ["prime", "most", "wrong", "points", "e"] ["prime", "most", "wrong", "points"] (defScope s__law_told) := ⟨rfl, rfl, rfl, by decide +kernel, rfl, by decide +kernel, by decide +kernel⟩
theorem k__law_told {P : Program} {G : Glb} {mg : Str → Option Value} {base : Heap} (d : Def G mg "_law_told" s__law_told ["prime", "most", "wrong", "points"]) (c_behind_wrong : Cal P G mg base 4 "behind_wrong" [false, false, false, false] S_behind_wrong) (x_MaieuticError : Exc1 G.K mg "MaieuticError" (G.ea 0)) (er__law_error : ErrF P G mg base 3 "_law_error" errR) (er_sub : ∀ c t, errR c = some t → PySem.W.exmOne G.K (.ref (G.ea c)) (.ref (G.ea 0)) = some true) : Cal P G mg base 5 "_law_told" [false, false, false, false] (specOf [false, false, false, false] 5 F__law_told) :=
  Def.cal (k := 4) d sc__law_told rfl rfl fun f cdv A outer s H E cx =>
  (s_one (s_try (n := 5) (i := 4) cx rfl rfl rfl rfl (by decide) rfl ⟨rfl, by decide, .inl x_MaieuticError.g⟩ er_sub rfl er__law_error (by decide) fun W' pn xe cy po => (s_one (s_ret (e_tup (pa_consV pc_str (pa_consV (e_callC cy c_behind_wrong rfl (by decide) (pa_consV pv_V (pa_consV pv_V (pa_consV pv_V (pa_consV pv_V pa_nilV))))) pa_nilV)))))))
noncomputable def S__law_told : CSpec := specOf [false, false, false, false] 5 F__law_told
theorem e__law_told : ∀ ws, S__law_told ws ≠ .stk → specOf [false, false, false, false] 5 F__law_told ws = S__law_told ws := fun _ _ => rfl
abbrev s__law_value : Stmt := top 27
noncomputable def F__law_value : FS := (sSeq (sSet 3 (fC (.int 0)))
  (sSeq (sSet 4 (fC (.int 1)))
  (sSeq (sFor (iE (fV 1)) (bN 5) (sSeq (sSet 3 (bin gMod (callB (g1 gInt) (aCons (bin gAdd (fV 3) (bin gMul (fV 5) (fV 4))) aNil)) (fV 0)))
  (sSet 4 (bin gMod (callB (g1 gInt) (aCons (bin gMul (fV 4) (fV 2)) aNil)) (fV 0)))))
  (sRet (fV 3)))))
theorem sc__law_value : FnScope ["prime", "numbers", "first", "found", "power", "number"] ["prime", "numbers", "first"] (defScope s__law_value) := ⟨rfl, rfl, rfl, by decide +kernel, rfl, by decide +kernel, by decide +kernel⟩
theorem k__law_value {P : Program} {G : Glb} {mg : Str → Option Value} {base : Heap} (d : Def G mg "_law_value" s__law_value ["prime", "numbers", "first"]) (B : NoG mg blts) : Cal P G mg base 1 "_law_value" [false, false, false] (specOf [false, false, false] 6 F__law_value) :=
  Def.cal (k := 0) d sc__law_value rfl rfl fun f cdv A outer s H E cx =>
  (s_cons (s_set cx.nd rfl (by first | exact Or.inl rfl | exact Or.inr rfl) (by decide) rfl pc_int)
  (s_cons (s_set cx.nd rfl (by first | exact Or.inl rfl | exact Or.inr rfl) (by decide) rfl pc_int)
  (s_cons (s_for (passes_of rfl) cx.calm (i_E cx.K pv_V) (g_name cx.nd rfl (by first | exact Or.inl rfl | exact Or.inr rfl) (by decide) rfl) (s_cons (s_set cx.nd rfl (by first | exact Or.inl rfl | exact Or.inr rfl) (by decide) rfl (e_mod (e_ty b_int (B.n "int" (by decide +kernel)) (pa_consV (e_add cx pv_V (e_mul cx pv_V pv_V)) pa_nilV)) pv_V))
  (s_one (s_set cx.nd rfl (by first | exact Or.inl rfl | exact Or.inr rfl) (by decide) rfl (e_mod (e_ty b_int (B.n "int" (by decide +kernel)) (pa_consV (e_mul cx pv_V pv_V) pa_nilV)) pv_V)))))
  (s_one (s_ret pv_V)))))
noncomputable def S__law_value : CSpec := specOf [false, false, false] 6 F__law_value
theorem e__law_value : ∀ ws, S__law_value ws ≠ .stk → specOf [false, false, false] 6 F__law_value ws = S__law_value ws := fun _ _ => rfl
abbrev s__law_cut : Stmt := top 28
noncomputable def F__law_cut : FS := (sSeq (sSet 1 (callB (g1 gMax1) (aCons (bin gAdd (fLst (aCons (fC (.int 0)) aNil)) (fComp [2] (iR1 (aCons (callB (g1 gLen) (aCons (fV 0) aNil)) aNil)) (bN 2) (tBo (bin gNe (bin gIx (fV 0) (fV 2)) (fC (.int 0)))) (bin gAdd (fV 2) (fC (.int 1))))) aNil)))
  (sRet (callB (g1 gTuple) (aCons (fSl (fV 0) pNo (pSo (fV 1))) aNil))))
theorem sc__law_cut : FnScope ["numbers", "last", "k"] ["numbers"] (defScope s__law_cut) := ⟨rfl, rfl, rfl, by decide +kernel, rfl, by decide +kernel, by decide +kernel⟩
theorem k__law_cut {P : Program} {G : Glb} {mg : Str → Option Value} {base : Heap} (d : Def G mg "_law_cut" s__law_cut ["numbers"]) (B : NoG mg blts) : Cal P G mg base 1 "_law_cut" [false] (specOf [false] 3 F__law_cut) :=
  Def.cal (k := 0) d sc__law_cut rfl rfl fun f cdv A outer s H E cx =>
  (s_cons (s_set cx.nd rfl (by first | exact Or.inl rfl | exact Or.inr rfl) (by decide) rfl (e_blt (b_max1 cx) (B.n "max" (by decide +kernel)) (pa_consV (e_add cx (e_lst (pa_consV pc_int pa_nilV)) (e_comp cx rfl (n := 3) (i_R1 (B.n "range" (by decide +kernel)) (pa_consV (e_blt (b_len cx) (B.n "len" (by decide +kernel)) (pa_consV pv_V pa_nilV)) pa_nilV)) (own := [("k", 2)]) rfl rfl rfl (fun _ _ _ _ _ => (g_name (Cxt.blk cx _ _ _ _ _).nd rfl (by first | exact Or.inl rfl | exact Or.inr rfl) (by decide) rfl)) (fun _ _ _ _ _ => pts_one (t_cmp (c_ne (Cxt.blk cx _ _ _ _ _)) (e_ix (Cxt.blk cx _ _ _ _ _) pv_V pv_V) pc_int)) (fun _ _ _ h => h) (fun _ _ _ _ _ => (e_add (Cxt.blk cx _ _ _ _ _) pv_V pc_int)))) pa_nilV)))
  (s_one (s_ret (e_ty (b_tuple cx) (B.n "tuple" (by decide +kernel)) (pa_consV (e_sl cx.K pv_V o_no (o_so pv_V)) pa_nilV)))))
noncomputable def S__law_cut : CSpec := specOf [false] 3 F__law_cut
theorem e__law_cut : ∀ ws, S__law_cut ws ≠ .stk → specOf [false] 3 F__law_cut ws = S__law_cut ws := fun _ _ => rfl
abbrev s__law_all_sums : Stmt := top 29
noncomputable def F__law_all_sums : FS := (sSeq (sSet 2 (fLst (aCons (fTup aNil) aNil)))
  (sSeq (sFor (iR1 (aCons (fV 1) aNil)) (bN 3) (sSeq (sSet 4 (fLst aNil))
  (sSeq (sFor (iE (fV 2)) (bN 5) (sDrop (fExt 4 (fComp [6] (iR1 (aCons (fV 0) aNil)) (bN 6) cT (bin gAdd (fV 5) (fTup (aCons (fV 6) aNil)))))))
  (sSet 2 (fV 4)))))
  (sRet (fV 2))))
theorem sc__law_all_sums : FnScope ["prime", "many", "rows", "k", "longer", "row", "number"] ["prime", "many"] (defScope s__law_all_sums) := ⟨rfl, rfl, rfl, by decide +kernel, rfl, by decide +kernel, by decide +kernel⟩
theorem k__law_all_sums {P : Program} {G : Glb} {mg : Str → Option Value} {base : Heap} (d : Def G mg "_law_all_sums" s__law_all_sums ["prime", "many"]) (B : NoG mg blts) : Cal P G mg base 1 "_law_all_sums" [false, false] (specOf [false, false] 7 F__law_all_sums) :=
  Def.cal (k := 0) d sc__law_all_sums rfl rfl fun f cdv A outer s H E cx =>
  (s_cons (s_set cx.nd rfl (by first | exact Or.inl rfl | exact Or.inr rfl) (by decide) rfl (e_lst (pa_consV (e_tup pa_nilV) pa_nilV)))
  (s_cons (s_for (passes_of rfl) cx.calm (i_R1 (B.n "range" (by decide +kernel)) (pa_consV pv_V pa_nilV)) (g_name cx.nd rfl (by first | exact Or.inl rfl | exact Or.inr rfl) (by decide) rfl) (s_cons (s_set cx.nd rfl (by first | exact Or.inl rfl | exact Or.inr rfl) (by decide) rfl (e_lst pa_nilV))
  (s_cons (s_for (passes_of rfl) cx.calm (i_E cx.K pv_V) (g_name cx.nd rfl (by first | exact Or.inl rfl | exact Or.inr rfl) (by decide) rfl) (s_one (s_expr (e_extend cx.K v_var (e_comp cx rfl (n := 7) (i_R1 (B.n "range" (by decide +kernel)) (pa_consV pv_V pa_nilV)) (own := [("number", 6)]) rfl rfl rfl (fun _ _ _ _ _ => (g_name (Cxt.blk cx _ _ _ _ _).nd rfl (by first | exact Or.inl rfl | exact Or.inr rfl) (by decide) rfl)) (fun _ _ _ _ _ => pts_nil) (fun σ H Q ⟨ρ, P, F, nw, h⟩ => h P H F nw Stp.refl) (fun _ _ _ _ _ => (e_add (Cxt.blk cx _ _ _ _ _) pv_V (e_tup (pa_consV pv_V pa_nilV)))))))))
  (s_one (s_set cx.nd rfl (by first | exact Or.inl rfl | exact Or.inr rfl) (by decide) rfl pv_V)))))
  (s_one (s_ret pv_V))))
noncomputable def S__law_all_sums : CSpec := specOf [false, false] 7 F__law_all_sums
theorem e__law_all_sums : ∀ ws, S__law_all_sums ws ≠ .stk → specOf [false, false] 7 F__law_all_sums ws = S__law_all_sums ws := fun _ _ => rfl
abbrev s_law : Stmt := top 30
noncomputable def F_law : FS := (sSeq (sSet 1 (fLst (aCons (fCall [false] S__law_stream (aCons (fV 0) aNil)) (aCons (fC (.int 0)) aNil))))
  (sSeq (sFor (iR1 (aCons (fC (.int 4)) aNil)) (bN 2) (sSeq (sSet 3 (bin gIx (fLst (aCons (fC (.int 5)) (aCons (fC (.int 7)) (aCons (fC (.int 11)) (aCons (fC (.int 13)) aNil))))) (fCall [true, false] S__law_next (aCons (fV 1) (aCons (fC (.int 4)) aNil)))))
  (sSeq (sSet 4 (fZ (fCall [true, false] S__law_next (aCons (fV 1) (aCons (bin gAdd (fC (.int 3)) (callB (g1 gInt) (aCons (bin gLt (fV 3) (fC (.int 8))) aNil))) aNil)))))
  (sSeq (sSet 5 (fZ (fCall [true, false] S__law_next (aCons (fV 1) (aCons (fC (.int 3)) aNil)))))
  (sSeq (sSet 6 (callB (g2I fun i j => if j < i then j else i) (aCons (fV 3) (aCons (bin gAdd (bin gAdd (fV 4) (bin gMul (fC (.int 2)) (fV 5))) (fCall [true, false] S__law_next (aCons (fV 1) (aCons (fC (.int 3)) aNil)))) aNil))))
  (sSeq (sIf (tBo (bin gLt (fV 6) (bin gAdd (fV 4) (bin gMul (fC (.int 2)) (fV 5))))) (sSet 5 (fC (.int 0))) sNext)
  (sSeq (sSet 7 (fZ (fComp [9] (iR1 (aCons (fV 4) aNil)) (bN 9) cT (fCall [true, false] S__law_next (aCons (fV 1) (aCons (fV 3) aNil))))))
  (sSeq (sSet 8 (una gLstR1 (fV 3)))
  (sSeq (sFor (iR1 (aCons (bin gSub (fV 3) (fV 6)) aNil)) (bN 9) (sDrop (fPopA 8 (fCall [true, false] S__law_next (aCons (fV 1) (aCons (callB (g1 gLen) (aCons (fV 8) aNil)) aNil))))))
  (sSeq (sSet 10 (fFrz 8 (fComp [17] (iE (fV 8)) (bN 17) cT (fCall [false, false, false] S__law_value (aCons (fV 3) (aCons (fV 7) (aCons (fV 17) aNil)))))))
  (sSeq (sFor (iR1 (aCons (bin gMul (fCall [true, false] S__law_next (aCons (fV 1) (aCons (bin gAdd (fV 5) (fC (.int 2))) aNil))) (callB (g1 gInt) (aCons (bin gGt (fV 6) (fC (.int 0))) aNil))) aNil)) (bN 9) (sSetItem 10 (fCall [true, false] S__law_next (aCons (fV 1) (aCons (fV 6) aNil))) (fCall [true, false] S__law_next (aCons (fV 1) (aCons (fV 3) aNil)))))
  (sSeq (sSet 11 (callB (g1 gTuple) (aCons (fComp [9] (iR1 (aCons (fV 6) aNil)) (bN 9) cT (fTup (aCons (bin gIx (fV 8) (fV 9)) (aCons (bin gIx (fV 10) (fV 9)) aNil)))) aNil)))
  (sSeq (sSet 12 (callB (g1 gRepr) (aCons (fV 11) aNil)))
  (sSeq (sSet 13 (fLst aNil))
  (sSeq (sFor (iE (fCall [false, false] S__law_all_sums (aCons (fV 3) (aCons (fV 4) aNil)))) (bN 14) (sIf (tBo (bin gLe (callB (g1 gLen) (aCons (fComp [18] (iE (fV 11)) (bN 18) (tBo (bin gNe (fCall [false, false, false] S__law_value (aCons (fV 3) (aCons (fV 14) (aCons (bin gIx (fV 18) (fC (.int 0))) aNil)))) (bin gIx (fV 18) (fC (.int 1))))) (fV 18)) aNil)) (fV 5))) (sDrop (fApp 13 (fCall [false] S__law_cut (aCons (fV 14) aNil)))) sNext))
  (sSeq (sIf (tBo (bin gGt (callB (g1 gLen) (aCons (fV 13) aNil)) (fC (.int 1)))) (sRet (fC (.bool false))) sNext)
  (sSeq (sSet 15 (fC (.str "missing")))
  (sSeq (sIf (tBo (bin gEq (callB (g1 gLen) (aCons (fV 13) aNil)) (fC (.int 1)))) (sSet 15 (fTup (aCons (fC (.str "told")) (aCons (bin gIx (fV 13) (fC (.int 0))) aNil)))) sNext)
  (sSeq (sIf (tNotV (tTr (fCall [false, false] S__law_same (aCons (fCall [false, false, false, false] S__law_told (aCons (fV 3) (aCons (fV 4) (aCons (fV 5) (aCons (fV 11) aNil))))) (aCons (fV 15) aNil))))) (sRet (fC (.bool false))) sNext)
  (sSeq (sSet 16 (fZ (fLst (aCons (fCall [false, false, false, false] S__law_told (aCons (fV 3) (aCons (fV 4) (aCons (fC (.int 3)) (aCons (fV 11) aNil))))) (aCons (fCall [false, false, false, false] S__law_told (aCons (fV 3) (aCons (una (gU fun i => -i) (fC (.int 1))) (aCons (fV 5) (aCons (fV 11) aNil))))) (aCons (fCall [false, false, false, false] S__law_told (aCons (fV 3) (aCons (bin gAdd (fV 3) (fC (.int 1))) (aCons (fC (.int 0)) (aCons (fV 11) aNil))))) (aCons (fCall [false, false, false, false] S__law_told (aCons (fV 3) (aCons (fV 4) (aCons (fV 5) (aCons (bin gAdd (una gRevA (fV 11)) (fTup (aCons (fTup (aCons (fV 3) (aCons (fC (.int 0)) aNil))) aNil))) aNil))))) (aCons (fCall [false, false, false, false] S__law_told (aCons (fV 3) (aCons (bin gAdd (fV 4) (fC (.int 1))) (aCons (fV 5) (aCons (fSl (fV 11) pNo (pSo (bin gAdd (fV 4) (bin gMul (fC (.int 2)) (fV 5))))) aNil))))) (aCons (fCall [false, false, false, false] S__law_told (aCons (bin gAdd (fV 3) (fC (.int 1))) (aCons (fV 4) (aCons (fV 5) (aCons (fV 11) aNil))))) (aCons (fCall [false, false, false, false] S__law_told (aCons (fV 3) (aCons (fV 4) (aCons (una (gU fun i => -i) (fC (.int 1))) (aCons (fV 11) aNil))))) aNil))))))))))
  (sIf (tOrV (tBo (bin gNe (fV 16) (bin gMul (fLst (aCons (fC (.str "refused")) aNil)) (fC (.int 7))))) (tBo (bin gNe (callB (g1 gRepr) (aCons (fV 11) aNil)) (fV 12)))) (sRet (fC (.bool false))) sNext)))))))))))))))))))))
  (sRet (bin gEq (fC (.int 2)) (fC (.int 2))))))
theorem sc_law : FnScope ["script", "state", "turn", "prime", "most", "wrong", "many", "numbers", "firsts", "k", "values", "points", "kept", "good", "row", "due", "bad", "first", "point"] ["script"] (defScope s_law) := ⟨rfl, rfl, rfl, by decide +kernel, rfl, by decide +kernel, by decide +kernel⟩
theorem k_law {P : Program} {G : Glb} {mg : Str → Option Value} {base : Heap} {f : Addr} {fd : FuncData} (d : Fun G.K "law" "law" s_law f fd) (B : NoG mg blts) (c__law_told : Cal P G mg base 5 "_law_told" [false, false, false, false] S__law_told) (c__law_same : Cal P G mg base 1 "_law_same" [false, false] S__law_same) (c__law_all_sums : Cal P G mg base 1 "_law_all_sums" [false, false] S__law_all_sums) (c__law_value : Cal P G mg base 1 "_law_value" [false, false, false] S__law_value) (c__law_cut : Cal P G mg base 1 "_law_cut" [false] S__law_cut) (c__law_next : Cal P G mg base 1 "_law_next" [true, false] S__law_next) (c__law_stream : Cal P G mg base 1 "_law_stream" [false] S__law_stream) (T_MAX_WRONG : ∃ t, mg "MAX_WRONG" = some (Value.int 2 t)) : FnG P G.w G.K mg base 6 f fd ["script"] (spV G [false] (specOf [false] 19 F_law)) :=
  fn_def (k := 5) d sc_law rfl rfl fun cdv A outer s H E cx =>
  (s_cons (s_set cx.nd rfl (by first | exact Or.inl rfl | exact Or.inr rfl) (by decide) rfl (e_lst (pa_consV (e_callC cx c__law_stream rfl (by decide) (pa_consV pv_V pa_nilV)) (pa_consV pc_int pa_nilV))))
  (s_cons (s_for (passes_of rfl) cx.calm (i_R1 (B.n "range" (by decide +kernel)) (pa_consV pc_int pa_nilV)) (g_name cx.nd rfl (by first | exact Or.inl rfl | exact Or.inr rfl) (by decide) rfl) (s_cons (s_set cx.nd rfl (by first | exact Or.inl rfl | exact Or.inr rfl) (by decide) rfl (e_ix cx (e_lst (pa_consV pc_int (pa_consV pc_int (pa_consV pc_int (pa_consV pc_int pa_nilV))))) (e_callC cx c__law_next rfl (by decide) (pa_consV pv_V (pa_consV pc_int pa_nilV)))))
  (s_cons (s_set cx.nd rfl (by first | exact Or.inl rfl | exact Or.inr rfl) (by decide) rfl (e_Z (e_callC cx c__law_next rfl (by decide) (pa_consV pv_V (pa_consV (e_add cx pc_int (e_ty b_int (B.n "int" (by decide +kernel)) (pa_consV (e_cmp c_lt pv_V pc_int) pa_nilV))) pa_nilV)))))
  (s_cons (s_set cx.nd rfl (by first | exact Or.inl rfl | exact Or.inr rfl) (by decide) rfl (e_Z (e_callC cx c__law_next rfl (by decide) (pa_consV pv_V (pa_consV pc_int pa_nilV)))))
  (s_cons (s_set cx.nd rfl (by first | exact Or.inl rfl | exact Or.inr rfl) (by decide) rfl (e_blt (b_min2 cx) (B.n "min" (by decide +kernel)) (pa_consV pv_V (pa_consV (e_add cx (e_add cx pv_V (e_mul cx pc_int pv_V)) (e_callC cx c__law_next rfl (by decide) (pa_consV pv_V (pa_consV pc_int pa_nilV)))) pa_nilV))))
  (s_cons (s_if (t_cmp c_lt pv_V (e_add cx pv_V (e_mul cx pc_int pv_V))) (s_one (s_set cx.nd rfl (by first | exact Or.inl rfl | exact Or.inr rfl) (by decide) rfl pc_int)) s_nil)
  (s_cons (s_set cx.nd rfl (by first | exact Or.inl rfl | exact Or.inr rfl) (by decide) rfl (e_Z (e_comp cx rfl (n := 19) (i_R1 (B.n "range" (by decide +kernel)) (pa_consV pv_V pa_nilV)) (own := [("k", 9)]) rfl rfl rfl (fun _ _ _ _ _ => (g_name (Cxt.blk cx _ _ _ _ _).nd rfl (by first | exact Or.inl rfl | exact Or.inr rfl) (by decide) rfl)) (fun _ _ _ _ _ => pts_nil) (fun σ H Q ⟨ρ, P, F, nw, h⟩ => h P H F nw Stp.refl) (fun _ _ _ _ _ => (e_callC (Cxt.blk cx _ _ _ _ _) c__law_next rfl (by decide) (pa_consV pv_V (pa_consV pv_V pa_nilV)))))))
  (s_cons (s_set cx.nd rfl (by first | exact Or.inl rfl | exact Or.inr rfl) (by decide) rfl (e_lstR1 cx (B.n "list" (by decide +kernel)) (B.n "range" (by decide +kernel)) pv_V))
  (s_cons (s_for (passes_of rfl) cx.calm (i_R1 (B.n "range" (by decide +kernel)) (pa_consV (e_sub pv_V pv_V) pa_nilV)) (g_name cx.nd rfl (by first | exact Or.inl rfl | exact Or.inr rfl) (by decide) rfl) (s_one (s_expr (e_popA cx.K v_var (e_callC cx c__law_next rfl (by decide) (pa_consV pv_V (pa_consV (e_blt (b_len cx) (B.n "len" (by decide +kernel)) (pa_consV pv_V pa_nilV)) pa_nilV)))))))
  (s_cons (s_set cx.nd rfl (by first | exact Or.inl rfl | exact Or.inr rfl) (by decide) rfl (e_frz (e_comp cx rfl (n := 19) (i_E cx.K pv_V) (own := [("first", 17)]) rfl rfl rfl (fun _ _ _ _ _ => (g_name (Cxt.blk cx _ _ _ _ _).nd rfl (by first | exact Or.inl rfl | exact Or.inr rfl) (by decide) rfl)) (fun _ _ _ _ _ => pts_nil) (fun σ H Q ⟨ρ, P, F, nw, h⟩ => h P H F nw Stp.refl) (fun _ _ _ _ _ => (e_callC (Cxt.blk cx _ _ _ _ _) c__law_value rfl (by decide) (pa_consV pv_V (pa_consV pv_V (pa_consV pv_V pa_nilV))))))))
  (s_cons (s_for (passes_of rfl) cx.calm (i_R1 (B.n "range" (by decide +kernel)) (pa_consV (e_mul cx (e_callC cx c__law_next rfl (by decide) (pa_consV pv_V (pa_consV (e_add cx pv_V pc_int) pa_nilV))) (e_ty b_int (B.n "int" (by decide +kernel)) (pa_consV (e_cmp c_gt pv_V pc_int) pa_nilV))) pa_nilV)) (g_name cx.nd rfl (by first | exact Or.inl rfl | exact Or.inr rfl) (by decide) rfl) (s_one (s_setItem v_var (e_callC cx c__law_next rfl (by decide) (pa_consV pv_V (pa_consV pv_V pa_nilV))) (e_callC cx c__law_next rfl (by decide) (pa_consV pv_V (pa_consV pv_V pa_nilV))))))
  (s_cons (s_set cx.nd rfl (by first | exact Or.inl rfl | exact Or.inr rfl) (by decide) rfl (e_ty (b_tuple cx) (B.n "tuple" (by decide +kernel)) (pa_consV (e_comp cx rfl (n := 19) (i_R1 (B.n "range" (by decide +kernel)) (pa_consV pv_V pa_nilV)) (own := [("k", 9)]) rfl rfl rfl (fun _ _ _ _ _ => (g_name (Cxt.blk cx _ _ _ _ _).nd rfl (by first | exact Or.inl rfl | exact Or.inr rfl) (by decide) rfl)) (fun _ _ _ _ _ => pts_nil) (fun σ H Q ⟨ρ, P, F, nw, h⟩ => h P H F nw Stp.refl) (fun _ _ _ _ _ => (e_tup (pa_consV (e_ix (Cxt.blk cx _ _ _ _ _) pv_V pv_V) (pa_consV (e_ix (Cxt.blk cx _ _ _ _ _) pv_V pv_V) pa_nilV))))) pa_nilV)))
  (s_cons (s_set cx.nd rfl (by first | exact Or.inl rfl | exact Or.inr rfl) (by decide) rfl (e_blt (b_repr cx) (B.n "repr" (by decide +kernel)) (pa_consV pv_V pa_nilV)))
  (s_cons (s_set cx.nd rfl (by first | exact Or.inl rfl | exact Or.inr rfl) (by decide) rfl (e_lst pa_nilV))
  (s_cons (s_for (passes_of rfl) cx.calm (i_E cx.K (e_callC cx c__law_all_sums rfl (by decide) (pa_consV pv_V (pa_consV pv_V pa_nilV)))) (g_name cx.nd rfl (by first | exact Or.inl rfl | exact Or.inr rfl) (by decide) rfl) (s_one (s_if (t_cmp c_le (e_blt (b_len cx) (B.n "len" (by decide +kernel)) (pa_consV (e_comp cx rfl (n := 19) (i_E cx.K pv_V) (own := [("point", 18)]) rfl rfl rfl (fun _ _ _ _ _ => (g_name (Cxt.blk cx _ _ _ _ _).nd rfl (by first | exact Or.inl rfl | exact Or.inr rfl) (by decide) rfl)) (fun _ _ _ _ _ => pts_one (t_cmp (c_ne (Cxt.blk cx _ _ _ _ _)) (e_callC (Cxt.blk cx _ _ _ _ _) c__law_value rfl (by decide) (pa_consV pv_V (pa_consV pv_V (pa_consV (e_ix (Cxt.blk cx _ _ _ _ _) pv_V pc_int) pa_nilV)))) (e_ix (Cxt.blk cx _ _ _ _ _) pv_V pc_int))) (fun _ _ _ h => h) (fun _ _ _ _ _ => pv_V)) pa_nilV)) pv_V) (s_one (s_expr (e_append cx.K v_var (e_callC cx c__law_cut rfl (by decide) (pa_consV pv_V pa_nilV))))) s_nil)))
  (s_cons (s_if (t_cmp c_gt (e_blt (b_len cx) (B.n "len" (by decide +kernel)) (pa_consV pv_V pa_nilV)) pc_int) (s_one (s_ret pc_bl)) s_nil)
  (s_cons (s_set cx.nd rfl (by first | exact Or.inl rfl | exact Or.inr rfl) (by decide) rfl pc_str)
  (s_cons (s_if (t_cmp (c_eq cx) (e_blt (b_len cx) (B.n "len" (by decide +kernel)) (pa_consV pv_V pa_nilV)) pc_int) (s_one (s_set cx.nd rfl (by first | exact Or.inl rfl | exact Or.inr rfl) (by decide) rfl (e_tup (pa_consV pc_str (pa_consV (e_ix cx pv_V pc_int) pa_nilV))))) s_nil)
  (s_cons (s_if (t_not (t_tru cx.K (e_callC cx c__law_same rfl (by decide) (pa_consV (e_callC cx c__law_told rfl (by decide) (pa_consV pv_V (pa_consV pv_V (pa_consV pv_V (pa_consV pv_V pa_nilV))))) (pa_consV pv_V pa_nilV))))) (s_one (s_ret pc_bl)) s_nil)
  (s_cons (s_set cx.nd rfl (by first | exact Or.inl rfl | exact Or.inr rfl) (by decide) rfl (e_Z (e_lst (pa_consV (e_callC cx c__law_told rfl (by decide) (pa_consV pv_V (pa_consV pv_V (pa_consV pc_int (pa_consV pv_V pa_nilV))))) (pa_consV (e_callC cx c__law_told rfl (by decide) (pa_consV pv_V (pa_consV (e_neg pc_int) (pa_consV pv_V (pa_consV pv_V pa_nilV))))) (pa_consV (e_callC cx c__law_told rfl (by decide) (pa_consV pv_V (pa_consV (e_add cx pv_V pc_int) (pa_consV pc_int (pa_consV pv_V pa_nilV))))) (pa_consV (e_callC cx c__law_told rfl (by decide) (pa_consV pv_V (pa_consV pv_V (pa_consV pv_V (pa_consV (e_add cx (e_rev cx.K pv_V) (e_tup (pa_consV (e_tup (pa_consV pv_V (pa_consV pc_int pa_nilV))) pa_nilV))) pa_nilV))))) (pa_consV (e_callC cx c__law_told rfl (by decide) (pa_consV pv_V (pa_consV (e_add cx pv_V pc_int) (pa_consV pv_V (pa_consV (e_sl cx.K pv_V o_no (o_so (e_add cx pv_V (e_mul cx pc_int pv_V)))) pa_nilV))))) (pa_consV (e_callC cx c__law_told rfl (by decide) (pa_consV (e_add cx pv_V pc_int) (pa_consV pv_V (pa_consV pv_V (pa_consV pv_V pa_nilV))))) (pa_consV (e_callC cx c__law_told rfl (by decide) (pa_consV pv_V (pa_consV pv_V (pa_consV (e_neg pc_int) (pa_consV pv_V pa_nilV))))) pa_nilV))))))))))
  (s_one (s_if (PW.pt (w_or (t_cmp (c_ne cx) pv_V (e_mul cx (e_lst (pa_consV pc_str pa_nilV)) pc_int)) (w_or1 (t_cmp (c_ne cx) (e_blt (b_repr cx) (B.n "repr" (by decide +kernel)) (pa_consV pv_V pa_nilV)) pv_V)))) (s_one (s_ret pc_bl)) s_nil))))))))))))))))))))))
  (s_one (s_ret (e_cmp (c_eq cx) (pc_glob (v := .int 2) (by exact rfl) T_MAX_WRONG.choose_spec ⟨_, rfl⟩ fun _ => .int _) pc_int)))))
noncomputable def S_law : CSpec := specOf [false] 19 F_law
theorem e_law : ∀ ws, S_law ws ≠ .stk → specOf [false] 19 F_law ws = S_law ws := fun _ _ => rfl
end K49
end
section
set_option Elab.async false
set_option linter.all false
set_option maxRecDepth 100000
/-! Tw13: combinations, pop(i) in the twin -/
namespace Mi
open PySem
def pickL {α : Type} [Inhabited α] (xs : List α) (l : List Nat) : List α := l.map fun k => xs.getD k default
def cmbL {α : Type} [Inhabited α] (xs : List α) (r : Nat) : List (List α) := (cmbs 0 xs.length r).map (pickL xs)
def eraseI {α : Type} (xs : List α) (j : Int) : List α := xs.eraseIdx (if 0 ≤ j then j.toNat else (j + xs.length).toNat)
abbrev cmbG (n : Nat) (r : Int) : Prop := (0 ≤ r ∧ r < 1000) ∧ n ≤ 1000
section
variable {α : Type} [Inhabited α] {f f2 : FE} {F : FA} {ρ ρ1 ρ2 : Rho} {w : Vl} {e : α → PyData} {xs : List α} {r n j : Int} {i : Nat}
theorem cmbD_map (xs : List α) (r : Nat) : cmbD (xs.map e) r = (cmbL xs r).map (eT e) := by
  unfold cmbD cmbL
  rw [List.map_map, List.length_map]
  refine List.map_congr_left fun l hl => ?_
  obtain ⟨_, _, h3⟩ := (cmbs_mem _ _ _ l).mp hl
  show PyData.tuple _ = PyData.tuple ((pickL xs l).map e)
  unfold pickL
  rw [List.map_map]
  congr 1
  refine List.map_congr_left fun k hk => ?_
  have hk2 : k < xs.length := by have := h3 k hk; omega
  show (xs.map e).getD k .none = e (xs.getD k default)
  rw [List.getD_eq_getElem?_getD, List.getD_eq_getElem?_getD, List.getElem?_map, List.getElem?_eq_getElem hk2]; rfl
theorem iv_cmb (h : Pv f ρ w ρ1) (h2 : Pv f2 ρ1 (vI r) ρ2) (g : cmbG xs.length r) (hd : viewD w = some (.list (xs.map e)) ∨ viewD w = some (.tuple (xs.map e)) := by first | exact .inl rfl | exact .inr rfl) : Iv (iCmb (aCons f (aCons f2 aNil))) ρ ((cmbL xs r.toNat).map (eT e)) ρ2 := by
  obtain ⟨d, h1, h3⟩ := seqOf_view hd
  unfold Pv at h h2
  unfold Iv iCmb aCons
  rw [h, bind_ok]
  simp only [aNil_ev, h2, bind_ok]
  unfold cb1
  have : frzL ρ2 [.val w, .val (vI r)] = some ([d, .int r], ρ2) := frzL_val (ws := [w, vI r]) (ds := [d, .int r]) (by simp [h1]; rfl)
  rw [this]
  simp only [h3]
  rw [if_pos ⟨g.1.1, g.1.2, by rw [List.length_map]; exact g.2⟩, cmbD_map]
theorem iv_cmbR (h : Pv f ρ (vI n) ρ1) (h2 : Pv f2 ρ1 (vI r) ρ2) (g : cmbG n.toNat r ∧ 0 ≤ n) : Iv (iCmbR f f2) ρ ((cmbL (irange 0 n) r.toNat).map (eT PyData.int)) ρ2 := by
  unfold Pv at h h2
  unfold Iv iCmbR
  have e1 : ∀ (ρ : Rho) (i : Int), frz1 ρ (.val (vI i)) = some (.int i, ρ) := fun _ _ => rfl
  rw [h, bind_ok]
  simp only [e1, h2, bind_ok]
  rw [if_pos ⟨g.1.1.1, g.1.1.2, g.2, by have := g.1.2; omega⟩, rangeD_eq, cmbD_map]
theorem erase_map {α β} (e : α → β) : ∀ (xs : List α) (k : Nat), (xs.eraseIdx k).map e = (xs.map e).eraseIdx k
  | [], _ => rfl
  | _ :: _, 0 => rfl
  | x :: xs, k + 1 => by simp [List.eraseIdx, erase_map e xs k]
theorem ev_popA (h : Pv f ρ (vI j) ρ1) (g : inR xs.length j ∧ xs.length ≤ 100000) (hm : isMl ρ i = true := by rfl) (hw : (ρ1[i]?).join = some (.ml (xs.map e)) := by rfl) (hr : ρ1.set i (some (.ml ((eraseI xs j).map e))) = ρ2 := by rfl) : sDrop (fPopA i f) ρ = .nx ρ2 := by
  unfold Pv at h
  have e1 : frz1 ρ1 (.val (vI j)) = some (.int j, ρ1) := rfl
  obtain ⟨⟨g1, g2⟩, g3⟩ := g
  have ei : L2.ixN (xs.map e).length j = some (if 0 ≤ j then j.toNat else (j + xs.length).toNat) := by
    unfold L2.ixN
    rw [List.length_map]
    by_cases q : 0 ≤ j
    · rw [if_pos q, if_pos q, if_pos g2]
    · rw [if_neg q, if_neg q, if_pos (by omega)]
  have ev : fPopA i f ρ = .ok (.val (.dat ((xs.map e).getD (if 0 ≤ j then j.toNat else (j + xs.length).toNat) .none))) ρ2 := by
    unfold fPopA
    rw [if_pos hm, h, bind_ok]
    unfold popAO
    rw [e1]
    simp only
    rw [look_brw, hw]
    simp only
    rw [ei]
    simp only
    rw [if_pos ⟨by omega, by omega⟩]
    unfold eraseI at hr
    rw [← hr, ← erase_map]
  unfold sDrop
  rw [ev]; rfl
end
end Mi
end
section
set_option Elab.async false
set_option linter.all false
set_option maxRecDepth 100000
set_option maxHeartbeats 4000000
namespace K49
open Mi
open PySem (PyData)
open PySem
noncomputable def T_check_prime (prime : Int) : R Unit :=
  (if (!decide (prime ∈ ([2, 3, 5, 7, 11, 13, 17, 19, 23, 29, 31] : List Int))) = true then (.exc 1) else (.ok ()))
theorem t_check_prime (prime : Int) : SpR S_check_prime [(PyData.int prime)] (T_check_prime prime) (fun _ => .dat .none) := by
  refine sp_proc (n := 1) (m := 1) (E := fun _ => True) rfl ?_
  show Gn _ (F_check_prime [some (vI prime)]) (T_check_prime prime) _
  unfold F_check_prime T_check_prime
  refine g_one ?_
  refine g_if (tv_bo (Pv.lk (pv_bin pv_v (Pv.lk (pv_cast (w' := (.dat (.tuple (([2, 3, 5, 7, 11, 13, 17, 19, 23, 29, 31] : List Int).map PyData.int)))) pv_c (by rfl))) (y_notIn (e := PyData.int) (x := prime) (xs := ([2, 3, 5, 7, 11, 13, 17, 19, 23, 29, 31] : List Int)) cod_int)))) (fun hk => ?_) (fun hk => ?_)
  · skip
    exact g_raise
  · skip
    refine g_skip ?_
    exact g_retP trivial

noncomputable def T_check_points (prime : Int) (points : List (Int × Int)) : R Unit :=
  ((T_check_prime prime).bind fun u1 => (gdR ((points.length ≤ 100000)) (letR (points.map fun (p2 : Int × Int) => p2.1) fun firsts5 => (gdR ((firsts5.length < 4000) ∧ ((!decide (firsts5 = (sortSet firsts5))) = false → (points.length ≤ 100000))) (if ((!decide (firsts5 = (sortSet firsts5))) || (!((points.map fun (p6 : Int × Int) => (((decide ((0 : Int) ≤ p6.1)) && (decide (p6.1 < prime))) && ((decide ((0 : Int) ≤ p6.2)) && (decide (p6.2 < prime))))).all id))) = true then (.exc 1) else (.ok ()))))))
theorem t_check_points (prime : Int) (points : List (Int × Int)) : SpR S_check_points [(PyData.int prime), ((eT (eP PyData.int PyData.int)) points)] (T_check_points prime points) (fun _ => .dat .none) := by
  refine sp_proc (n := 2) (m := 6) (E := fun _ => True) rfl ?_
  show Gn _ (F_check_points [some (vI prime), some (.dat (.tuple (points.map (eP PyData.int PyData.int)))), none, none, none, none]) (T_check_points prime points) _
  unfold F_check_points T_check_points
  refine g_dropX (gx_call (n := 1) (av_cons pv_v (h2 := av_nil)) (t_check_prime prime)) fun u1 ρ' hρ => ?_
  subst hρ
  refine g_gd fun hg4 => ?_
  refine g_stepL (ρ2 := fun firsts5 => [some (vI prime), some (.dat (.tuple (points.map (eP PyData.int PyData.int)))), some (.dat (.list (firsts5.map PyData.int))), none, none, none]) (ev_set (pv_Z (pv_map (v := fun (p2 : Int × Int) => p2.1) (en := PyData.int) (xs := points) (iv_tup pv_v) hg4 (fun p2 hk3 => ⟨[some (vI prime), some (.dat (.tuple (points.map (eP PyData.int PyData.int)))), none, some (vI p2.1), some (vI p2.2), none], [some (vI prime), some (.dat (.tuple (points.map (eP PyData.int PyData.int)))), none, some (vI p2.1), some (vI p2.2), none], _, rfl, pv_v, rfl, (by rfl)⟩))) rfl) fun firsts5 => ?_
  refine g_one ?_
  refine g_gd fun hg12 => ?_
  refine g_if (tv_or (tv_bo (Pv.lk (pv_bin pv_v (Pv.lk (pv_callB (al_cons (pv_callB (al_cons pv_v al_nil) (y_set (hg12.1))) al_nil) y_sortS)) (y_ne (e := (eL PyData.int)) (x := firsts5) (y := (sortSet firsts5)) (cod_lst cod_int))))) (fun hk11 => (tv_not (tv_tr (Pv.lk (pv_callB (al_cons (pv_map (v := fun (p6 : Int × Int) => (((decide ((0 : Int) ≤ p6.1)) && (decide (p6.1 < prime))) && ((decide ((0 : Int) ≤ p6.2)) && (decide (p6.2 < prime))))) (en := PyData.bool) (xs := points) (iv_tup pv_v) ((hg12.2) hk11) (fun p6 hk10 => ⟨[some (vI prime), some (.dat (.tuple (points.map (eP PyData.int PyData.int)))), some (.dat (.list (firsts5.map PyData.int))), some (vI p6.1), none, some (vI p6.2)], [some (vI prime), some (.dat (.tuple (points.map (eP PyData.int PyData.int)))), some (.dat (.list (firsts5.map PyData.int))), some (vI p6.1), none, some (vI p6.2)], _, rfl, (pv_andB (pv_chain (Pv.lk pv_c) (Pv.lk pv_v) y_le (fun hk7 => ⟨(Pv.lk pv_v), y_lt⟩)) (fun hk9 => (pv_chain (Pv.lk pv_c) (Pv.lk pv_v) y_le (fun hk8 => ⟨(Pv.lk pv_v), y_lt⟩)))), rfl, (by rfl)⟩)) al_nil) (y_all (ha := by rfl)))) rfl)))) (fun hk => ?_) (fun hk => ?_)
  · skip
    exact g_raise
  · skip
    refine g_skip ?_
    exact g_retP trivial

noncomputable def T_value_at (prime : Int) (numbers : List Int) (first_ : Int) : R Int :=
  (letR (0 : Int) fun found1 => ((forR (fun (number2 : Int) (b3 : Int) => (gdR ((L2.CMul b3 first_) ∧ (0 < prime)) (letR (((b3 * first_) + number2) % prime) fun found5 => (.ok found5)))) numbers.reverse found1).bind fun (b6 : Int) => (.ok b6)))
theorem t_value_at (prime : Int) (numbers : List Int) (first_ : Int) : SpR S_value_at [(PyData.int prime), ((eT PyData.int) numbers), (PyData.int first_)] (T_value_at prime numbers first_) (fun (g : Int) => (vI g)) := by
  refine sp_fun (n := 3) (m := 5) (E := anyE) rfl ?_
  show Gn _ (F_value_at [some (vI prime), some (.dat (.tuple (numbers.map PyData.int))), some (vI first_), none, none]) (T_value_at prime numbers first_) _
  unfold F_value_at T_value_at
  refine g_stepL (ρ2 := fun found1 => [some (vI prime), some (.dat (.tuple (numbers.map PyData.int))), some (vI first_), some (vI found1), none]) (ev_set pv_c rfl) fun found1 => ?_
  refine g_seqJ (E := (fun (b : Int) ρ' => ∃ z4 : Option Vl, ρ' = [some (vI prime), some (.dat (.tuple (numbers.map PyData.int))), some (vI first_), some (vI b), z4])) (ev_for (xs := numbers.reverse) (ι := PyData.int) (Inv := (fun (b : Int) ρ' => ∃ z4 : Option Vl, ρ' = [some (vI prime), some (.dat (.tuple (numbers.map PyData.int))), some (vI first_), some (vI b), z4])) (iv_tup (pv_una (Pv.lk pv_v) (y_revT (xs := numbers) (e := PyData.int)))) ⟨_, rfl⟩ ?_) ?_
  · rintro number2 hx b3 ρ' ⟨z4, rfl⟩
    refine ⟨[some (vI prime), some (.dat (.tuple (numbers.map PyData.int))), some (vI first_), some (vI b3), some (vI number2)], rfl, ?_⟩
    refine g_one ?_
    refine g_gd fun hg4 => ?_
    refine g_stepL (ρ2 := fun found5 => [some (vI prime), some (.dat (.tuple (numbers.map PyData.int))), some (vI first_), some (vI found5), some (vI number2)]) (ev_set (pv_bin (pv_bin (pv_bin pv_v (Pv.lk pv_v) (y_mul (hg4.1))) (Pv.lk pv_v) y_add) (Pv.lk pv_v) (y_mod (hg4.2))) rfl) fun found5 => ?_
    exact g_lp ⟨_, rfl⟩
  · rintro b6 ρ' ⟨z4, rfl⟩
    refine g_one ?_
    exact (g_ret (wr := (fun (g : Int) => (vI g))) pv_v trivial)

noncomputable def valueAt (x0 : Int) (x1 : List Int) (x2 : Int) : Int := (T_value_at x0 x1 x2).get
def valueAtG (x0 : Int) (x1 : List Int) (x2 : Int) : Prop := (T_value_at x0 x1 x2).good
theorem sp_value_at (x0 : Int) (x1 : List Int) (x2 : Int) (h : valueAtG x0 x1 x2) : S_value_at ([(PyData.int x0), ((eT PyData.int) x1), (PyData.int x2)].map .dat) = .ok (vI (valueAt x0 x1 x2)) (List.replicate 3 none) := sp_good (t_value_at x0 x1 x2) h

noncomputable def T_cut (numbers : List Int) : R (List Int) :=
  (letR (numbers.length : Int) fun last1 => ((whF (γ := List Int) (fun (b2 : Int) => (gdR (((decide ((0 : Int) < b2)) = true → (inR numbers.length (b2 - (1 : Int))))) (.ok ((decide ((0 : Int) < b2)) && (decide ((ix numbers (b2 - (1 : Int))) = (0 : Int))))))) (fun (b4 : Int) => (letR (b4 - (1 : Int)) fun last5 => (.ok (Fl.nx last5)))) last1).bind (flK (fun (b6 : Int) => (.ok (cutD numbers none (some b6)))) (fun g => g))))
theorem t_cut (numbers : List Int) : SpR S_cut [((eL PyData.int) numbers)] (T_cut numbers) (fun (g : List Int) => (.dat (.tuple (g.map PyData.int)))) := by
  refine sp_fun (n := 1) (m := 2) (E := anyE) rfl ?_
  show Gn _ (F_cut [some (.dat (.list (numbers.map PyData.int))), none]) (T_cut numbers) _
  unfold F_cut T_cut
  refine g_stepL (ρ2 := fun last1 => [some (.dat (.list (numbers.map PyData.int))), some (vI last1)]) (ev_set (pv_callB (al_cons pv_v al_nil) (y_len (xs := numbers) (e := PyData.int))) rfl) fun last1 => ?_
  refine g_seqK (E := (fun (b : Int) ρ' => ρ' = [some (.dat (.list (numbers.map PyData.int))), some (vI b)])) (Er := (fRt (fun (g : List Int) => (.dat (.tuple (g.map PyData.int)))) anyE)) (ev_whF (Inv := (fun (b : Int) ρ' => ρ' = [some (.dat (.list (numbers.map PyData.int))), some (vI b)])) fRt_ret rfl ?_ ?_) fRt_ret (whF_noB _) (fun _ _ _ h => h) ?_
  · rintro b2 ρ' rfl
    refine gt_gd fun hg => ?_
    exact gt_ok (tv_and (tv_bo (Pv.lk (pv_bin pv_v (Pv.lk pv_c) y_gt))) (fun hk3 => (tv_bo (Pv.lk (pv_bin (pv_bin pv_v (Pv.lk (pv_bin pv_v (Pv.lk pv_c) y_sub)) (y_ix (xs := numbers) (e := PyData.int) (hg hk3))) (Pv.lk pv_c) (y_eq (e := PyData.int) (x := (ix numbers (b2 - (1 : Int)))) (y := (0 : Int)) cod_int)))))) rfl
  · rintro b4 ρ' rfl
    refine g_one ?_
    refine g_stepL (ρ2 := fun last5 => [some (.dat (.list (numbers.map PyData.int))), some (vI last5)]) (ev_aug (h := (Pv.lk pv_c)) (hg := y_sub) (hr := by rfl)) fun last5 => ?_
    exact g_fn rfl
  · rintro b6 ρ' rfl
    refine g_one ?_
    exact (g_ret (wr := (fun (g : List Int) => (.dat (.tuple (g.map PyData.int))))) (pv_callB (al_cons (pv_sl (Pv.lk pv_v) sv_no (sv_so (Pv.lk pv_v)) (y_slL (xs := numbers) (e := PyData.int))) al_nil) (y_tuple (xs := (cutD numbers none (some b6))) (e := PyData.int))) trivial)

noncomputable def cutV (x0 : List Int) : List Int := (T_cut x0).get
def cutVG (x0 : List Int) : Prop := (T_cut x0).good
theorem sp_cut (x0 : List Int) (h : cutVG x0) : S_cut ([((eL PyData.int) x0)].map .dat) = .ok (.dat (.tuple ((cutV x0).map PyData.int))) (List.replicate 1 none) := sp_good (t_cut x0) h

noncomputable def T_product (prime : Int) (first_ : List Int) (second : List Int) : R (List Int) :=
  (gdR ((rOk ((first_.length : Int) + (second.length : Int))) ∧ ((irange 0 ((first_.length : Int) + (second.length : Int))).length ≤ 100000)) (letR ((irange 0 ((first_.length : Int) + (second.length : Int))).map fun (_1 : Int) => (0 : Int)) fun found4 => ((forR (fun (p5 : Int × Int) (b6 : (List Int)) => ((forR (fun (p7 : Int × Int) (b8 : (List Int)) => (gdR ((inR b8.length (p5.1 + p7.1)) ∧ (L2.CMul p5.2 p7.2) ∧ (0 < prime) ∧ (inR b8.length (p5.1 + p7.1))) (letR (setI b8 (p5.1 + p7.1) (((ix b8 (p5.1 + p7.1)) + (p5.2 * p7.2)) % prime)) fun found10 => (.ok found10)))) (enL second) b6).bind fun (b11 : (List Int)) => (.ok b11))) (enL first_) found4).bind fun (b12 : (List Int)) => (gdR ((cutVG b12)) (.ok (cutV b12))))))
theorem t_product (prime : Int) (first_ : List Int) (second : List Int) : SpR S_product [(PyData.int prime), ((eT PyData.int) first_), ((eT PyData.int) second)] (T_product prime first_ second) (fun (g : List Int) => (.dat (.tuple (g.map PyData.int)))) := by
  refine sp_fun (n := 3) (m := 9) (E := anyE) rfl ?_
  show Gn _ (F_product [some (vI prime), some (.dat (.tuple (first_.map PyData.int))), some (.dat (.tuple (second.map PyData.int))), none, none, none, none, none, none]) (T_product prime first_ second) _
  unfold F_product T_product
  refine g_gd fun hg3 => ?_
  refine g_stepL (ρ2 := fun found4 => [some (vI prime), some (.dat (.tuple (first_.map PyData.int))), some (.dat (.tuple (second.map PyData.int))), some (.ml (found4.map PyData.int)), none, none, none, none, none]) (ev_set (pv_map (v := fun (_1 : Int) => (0 : Int)) (en := PyData.int) (xs := (irange 0 ((first_.length : Int) + (second.length : Int)))) (iv_r1 (al_cons (pv_bin (pv_callB (al_cons pv_v al_nil) (y_len (xs := first_) (e := PyData.int))) (Pv.lk (pv_callB (al_cons pv_v al_nil) (y_len (xs := second) (e := PyData.int)))) y_add) al_nil) (hg3.1)) (hg3.2) (fun _1 hk2 => ⟨[some (vI prime), some (.dat (.tuple (first_.map PyData.int))), some (.dat (.tuple (second.map PyData.int))), none, none, none, none, none, some (vI _1)], [some (vI prime), some (.dat (.tuple (first_.map PyData.int))), some (.dat (.tuple (second.map PyData.int))), none, none, none, none, none, some (vI _1)], _, rfl, pv_c, rfl, (by rfl)⟩)) rfl) fun found4 => ?_
  refine g_seqJ (E := (fun (b : (List Int)) ρ' => ∃ z6 z7 z4 z5 : Option Vl, ρ' = [some (vI prime), some (.dat (.tuple (first_.map PyData.int))), some (.dat (.tuple (second.map PyData.int))), some (.ml (b.map PyData.int)), z4, z5, z6, z7, none])) (ev_for (xs := (enL first_)) (ι := (eP PyData.int PyData.int)) (Inv := (fun (b : (List Int)) ρ' => ∃ z6 z7 z4 z5 : Option Vl, ρ' = [some (vI prime), some (.dat (.tuple (first_.map PyData.int))), some (.dat (.tuple (second.map PyData.int))), some (.ml (b.map PyData.int)), z4, z5, z6, z7, none])) (iv_enu (xs := first_) (e := PyData.int) (pv_Z pv_v)) ⟨_, _, _, _, rfl⟩ ?_) ?_
  · rintro p5 hx b6 ρ' ⟨z6, z7, z4, z5, rfl⟩
    refine ⟨[some (vI prime), some (.dat (.tuple (first_.map PyData.int))), some (.dat (.tuple (second.map PyData.int))), some (.ml (b6.map PyData.int)), some (vI p5.1), some (vI p5.2), z6, z7, none], rfl, ?_⟩
    refine g_one ?_
    refine g_seqJ (E := (fun (b : (List Int)) ρ' => ∃ z6 z7 : Option Vl, ρ' = [some (vI prime), some (.dat (.tuple (first_.map PyData.int))), some (.dat (.tuple (second.map PyData.int))), some (.ml (b.map PyData.int)), some (vI p5.1), some (vI p5.2), z6, z7, none])) (ev_for (xs := (enL second)) (ι := (eP PyData.int PyData.int)) (Inv := (fun (b : (List Int)) ρ' => ∃ z6 z7 : Option Vl, ρ' = [some (vI prime), some (.dat (.tuple (first_.map PyData.int))), some (.dat (.tuple (second.map PyData.int))), some (.ml (b.map PyData.int)), some (vI p5.1), some (vI p5.2), z6, z7, none])) (iv_enu (xs := second) (e := PyData.int) (pv_Z pv_v)) ⟨_, _, rfl⟩ ?_) ?_
    · rintro p7 hx b8 ρ' ⟨z6, z7, rfl⟩
      refine ⟨[some (vI prime), some (.dat (.tuple (first_.map PyData.int))), some (.dat (.tuple (second.map PyData.int))), some (.ml (b8.map PyData.int)), some (vI p5.1), some (vI p5.2), some (vI p7.1), some (vI p7.2), none], rfl, ?_⟩
      refine g_one ?_
      refine g_gd fun hg9 => ?_
      refine g_stepL (ρ2 := fun found10 => [some (vI prime), some (.dat (.tuple (first_.map PyData.int))), some (.dat (.tuple (second.map PyData.int))), some (.ml (found10.map PyData.int)), some (vI p5.1), some (vI p5.2), some (vI p7.1), some (vI p7.2), none]) (ev_seti (xs := b8) (x := (((ix b8 (p5.1 + p7.1)) + (p5.2 * p7.2)) % prime)) (e := PyData.int) (pv_bin (pv_bin (pl_bin pl_v (Pv.lk (pv_bin pv_v (Pv.lk pv_v) y_add)) (y_ix (xs := b8) (e := PyData.int) (hg9.1))) (Pv.lk (pv_bin pv_v (Pv.lk pv_v) (y_mul (hg9.2.1)))) y_add) (Pv.lk pv_v) (y_mod (hg9.2.2.1))) (pv_bin pv_v (Pv.lk pv_v) y_add) (hg9.2.2.2) (hr := by rfl)) fun found10 => ?_
      exact g_lp ⟨_, _, rfl⟩
    · rintro b11 ρ' ⟨z6, z7, rfl⟩
      exact g_lp ⟨_, _, _, _, rfl⟩
  · rintro b12 ρ' ⟨z6, z7, z4, z5, rfl⟩
    refine g_one ?_
    refine g_gd fun hg13 => ?_
    exact (g_ret (wr := (fun (g : List Int) => (.dat (.tuple (g.map PyData.int))))) (pv_callL (n := 1) (ab_cons pl_v (h2 := ab_nil)) (sp_cut b12 hg13) (noLs_map fun _ => rfl)) trivial)

noncomputable def productV (x0 : Int) (x1 : List Int) (x2 : List Int) : List Int := (T_product x0 x1 x2).get
def productVG (x0 : Int) (x1 : List Int) (x2 : List Int) : Prop := (T_product x0 x1 x2).good
theorem sp_product (x0 : Int) (x1 : List Int) (x2 : List Int) (h : productVG x0 x1 x2) : S_product ([(PyData.int x0), ((eT PyData.int) x1), ((eT PyData.int) x2)].map .dat) = .ok (.dat (.tuple ((productV x0 x1 x2).map PyData.int))) (List.replicate 3 none) := sp_good (t_product x0 x1 x2) h

noncomputable def T_total (prime : Int) (first_ : List Int) (second : List Int) : R (List Int) :=
  (letR (if (second.length : Int) > (first_.length : Int) then (second.length : Int) else (first_.length : Int)) fun many1 => (gdR ((([first_, second] : List (List Int)).length ≤ 100000) ∧ (∀ row2 ∈ ([first_, second] : List (List Int)), (rOk (many1 - (row2.length : Int))) ∧ ((irange 0 (many1 - (row2.length : Int))).length ≤ 100000) ∧ ((row2 ++ ((irange 0 (many1 - (row2.length : Int))).map fun (_3 : Int) => (0 : Int))).length ≤ 100000))) (letR (([first_, second] : List (List Int)).map fun (row2 : List Int) => (row2 ++ ((irange 0 (many1 - (row2.length : Int))).map fun (_3 : Int) => (0 : Int)))) fun rows7 => (gdR ((inR rows7.length (0 : Int)) ∧ (inR rows7.length (1 : Int)) ∧ (((ix rows7 (0 : Int)).zip (ix rows7 (1 : Int))).length ≤ 100000) ∧ (∀ p8 ∈ ((ix rows7 (0 : Int)).zip (ix rows7 (1 : Int))), (0 < prime)) ∧ (cutVG (((ix rows7 (0 : Int)).zip (ix rows7 (1 : Int))).map fun (p8 : Int × Int) => ((p8.1 + p8.2) % prime)))) (.ok (cutV (((ix rows7 (0 : Int)).zip (ix rows7 (1 : Int))).map fun (p8 : Int × Int) => ((p8.1 + p8.2) % prime))))))))
theorem t_total (prime : Int) (first_ : List Int) (second : List Int) : SpR S_total [(PyData.int prime), ((eT PyData.int) first_), ((eT PyData.int) second)] (T_total prime first_ second) (fun (g : List Int) => (.dat (.tuple (g.map PyData.int)))) := by
  refine sp_fun (n := 3) (m := 9) (E := anyE) rfl ?_
  show Gn _ (F_total [some (vI prime), some (.dat (.tuple (first_.map PyData.int))), some (.dat (.tuple (second.map PyData.int))), none, none, none, none, none, none]) (T_total prime first_ second) _
  unfold F_total T_total
  refine g_stepL (ρ2 := fun many1 => [some (vI prime), some (.dat (.tuple (first_.map PyData.int))), some (.dat (.tuple (second.map PyData.int))), some (vI many1), none, none, none, none, none]) (ev_set (pv_callB (al_cons (pv_callB (al_cons pv_v al_nil) (y_len (xs := first_) (e := PyData.int))) (al_cons (pv_callB (al_cons pv_v al_nil) (y_len (xs := second) (e := PyData.int))) al_nil)) y_2I) rfl) fun many1 => ?_
  refine g_gd fun hg6 => ?_
  refine g_stepL (ρ2 := fun rows7 => [some (vI prime), some (.dat (.tuple (first_.map PyData.int))), some (.dat (.tuple (second.map PyData.int))), some (vI many1), some (.dat (.list (rows7.map (eT PyData.int)))), none, none, none, none]) (ev_set (pv_Z (pv_map (v := fun (row2 : List Int) => (row2 ++ ((irange 0 (many1 - (row2.length : Int))).map fun (_3 : Int) => (0 : Int)))) (en := (eT PyData.int)) (xs := ([first_, second] : List (List Int))) (iv_tup (pv_tupS (xs := ([first_, second] : List (List Int))) (e := (eT PyData.int)) (av_cons pv_v (h2 := (av_cons pv_v (h2 := av_nil)))) (Nat.le_of_ble_eq_true rfl) rfl)) (hg6.1) (fun row2 hk5 => ⟨[some (vI prime), some (.dat (.tuple (first_.map PyData.int))), some (.dat (.tuple (second.map PyData.int))), some (vI many1), none, some (.dat (.tuple (row2.map PyData.int))), none, none, none], [some (vI prime), some (.dat (.tuple (first_.map PyData.int))), some (.dat (.tuple (second.map PyData.int))), some (vI many1), none, some (.dat (.tuple (row2.map PyData.int))), none, none, none], _, rfl, (pv_tupS (xs := (row2 ++ ((irange 0 (many1 - (row2.length : Int))).map fun (_3 : Int) => (0 : Int)))) (e := PyData.int) (av_star (pv_Z pv_v) (av_star (pv_map (v := fun (_3 : Int) => (0 : Int)) (en := PyData.int) (xs := (irange 0 (many1 - (row2.length : Int)))) (iv_r1 (al_cons (pv_bin pv_v (Pv.lk (pv_callB (al_cons pv_v al_nil) (y_len (xs := row2) (e := PyData.int)))) y_sub) al_nil) (((hg6.2) row2 hk5).1)) (((hg6.2) row2 hk5).2.1) (fun _3 hk4 => ⟨[some (vI prime), some (.dat (.tuple (first_.map PyData.int))), some (.dat (.tuple (second.map PyData.int))), some (vI many1), none, some (.dat (.tuple (row2.map PyData.int))), some (vI _3), none, none], [some (vI prime), some (.dat (.tuple (first_.map PyData.int))), some (.dat (.tuple (second.map PyData.int))), some (vI many1), none, some (.dat (.tuple (row2.map PyData.int))), some (vI _3), none, none], _, rfl, pv_c, rfl, (by rfl)⟩)) av_nil)) (((hg6.2) row2 hk5).2.2)), rfl, (by rfl)⟩))) rfl) fun rows7 => ?_
  refine g_one ?_
  refine g_gd fun hg10 => ?_
  exact (g_ret (wr := (fun (g : List Int) => (.dat (.tuple (g.map PyData.int))))) (pv_call (n := 1) (av_cons (pv_map (v := fun (p8 : Int × Int) => ((p8.1 + p8.2) % prime)) (en := PyData.int) (xs := ((ix rows7 (0 : Int)).zip (ix rows7 (1 : Int)))) (iv_zip2 (xs := (ix rows7 (0 : Int))) (e := PyData.int) (zs := (ix rows7 (1 : Int))) (e' := PyData.int) (pv_bin pv_v (Pv.lk pv_c) (y_ix (xs := rows7) (e := (eT PyData.int)) (hg10.1))) (pv_bin pv_v (Pv.lk pv_c) (y_ix (xs := rows7) (e := (eT PyData.int)) (hg10.2.1)))) (hg10.2.2.1) (fun p8 hk9 => ⟨[some (vI prime), some (.dat (.tuple (first_.map PyData.int))), some (.dat (.tuple (second.map PyData.int))), some (vI many1), some (.dat (.list (rows7.map (eT PyData.int)))), none, none, some (vI p8.1), some (vI p8.2)], [some (vI prime), some (.dat (.tuple (first_.map PyData.int))), some (.dat (.tuple (second.map PyData.int))), some (vI many1), some (.dat (.list (rows7.map (eT PyData.int)))), none, none, some (vI p8.1), some (vI p8.2)], _, rfl, (pv_bin (pv_bin pv_v (Pv.lk pv_v) y_add) (Pv.lk pv_v) (y_mod ((hg10.2.2.2.1) p8 hk9))), rfl, (by rfl)⟩)) (h2 := av_nil)) (sp_cut (((ix rows7 (0 : Int)).zip (ix rows7 (1 : Int))).map fun (p8 : Int × Int) => ((p8.1 + p8.2) % prime)) (hg10.2.2.2.2))) trivial)

noncomputable def totalV (x0 : Int) (x1 : List Int) (x2 : List Int) : List Int := (T_total x0 x1 x2).get
def totalVG (x0 : Int) (x1 : List Int) (x2 : List Int) : Prop := (T_total x0 x1 x2).good
theorem sp_total (x0 : Int) (x1 : List Int) (x2 : List Int) (h : totalVG x0 x1 x2) : S_total ([(PyData.int x0), ((eT PyData.int) x1), ((eT PyData.int) x2)].map .dat) = .ok (.dat (.tuple ((totalV x0 x1 x2).map PyData.int))) (List.replicate 3 none) := sp_good (t_total x0 x1 x2) h

noncomputable def T_inverse (prime : Int) (number : Int) : R Int :=
  (gdR ((rOk prime) ∧ ((irange 0 prime).length ≤ 100000) ∧ (∀ other_1 ∈ (irange 0 prime), (L2.CMul other_1 number) ∧ (0 < prime)) ∧ (inR ((irange 0 prime).filter fun (other_1 : Int) => (decide (((other_1 * number) % prime) = (1 : Int)))).length (0 : Int))) (.ok (ix ((irange 0 prime).filter fun (other_1 : Int) => (decide (((other_1 * number) % prime) = (1 : Int)))) (0 : Int))))
theorem t_inverse (prime : Int) (number : Int) : SpR S_inverse [(PyData.int prime), (PyData.int number)] (T_inverse prime number) (fun (g : Int) => (vI g)) := by
  refine sp_fun (n := 2) (m := 3) (E := anyE) rfl ?_
  show Gn _ (F_inverse [some (vI prime), some (vI number), none]) (T_inverse prime number) _
  unfold F_inverse T_inverse
  refine g_one ?_
  refine g_gd fun hg4 => ?_
  exact (g_ret (wr := (fun (g : Int) => (vI g))) (pv_bin (pv_fil (p := fun (other_1 : Int) => (decide (((other_1 * number) % prime) = (1 : Int)))) (en := PyData.int) (xs := (irange 0 prime)) (iv_r1 (al_cons pv_v al_nil) (hg4.1)) (hg4.2.1) (fun other_1 hk3 => ⟨[some (vI prime), some (vI number), some (vI other_1)], [some (vI prime), some (vI number), some (vI other_1)], rfl, rfl, (tv_bo (Pv.lk (pv_bin (pv_bin (pv_bin pv_v (Pv.lk pv_v) (y_mul (((hg4.2.2.1) other_1 hk3).1))) (Pv.lk pv_v) (y_mod (((hg4.2.2.1) other_1 hk3).2))) (Pv.lk pv_c) (y_eq (e := PyData.int) (x := ((other_1 * number) % prime)) (y := (1 : Int)) cod_int)))), fun hk2 => ⟨_, pv_v, rfl, (by rfl)⟩⟩)) (Pv.lk pv_c) (y_ix (xs := ((irange 0 prime).filter fun (other_1 : Int) => (decide (((other_1 * number) % prime) = (1 : Int))))) (e := PyData.int) (hg4.2.2.2))) trivial)

noncomputable def inverseV (x0 : Int) (x1 : Int) : Int := (T_inverse x0 x1).get
def inverseVG (x0 : Int) (x1 : Int) : Prop := (T_inverse x0 x1).good
theorem sp_inverse (x0 : Int) (x1 : Int) (h : inverseVG x0 x1) : S_inverse ([(PyData.int x0), (PyData.int x1)].map .dat) = .ok (vI (inverseV x0 x1)) (List.replicate 2 none) := sp_good (t_inverse x0 x1) h

noncomputable def T_through (prime : Int) (points : List (Int × Int)) : R (List Int) :=
  (letR ([] : List Int) fun found1 => (letR ([(1 : Int)] : List Int) fun base2 => ((forR (fun (p3 : Int × Int) (b4 : (List Int) × (List Int)) => (gdR ((valueAtG prime b4.1 p3.1) ∧ (0 < prime)) (letR ((p3.2 - (valueAt prime b4.1 p3.1)) % prime) fun gap6 => (gdR ((valueAtG prime b4.2 p3.1) ∧ (inverseVG prime (valueAt prime b4.2 p3.1)) ∧ (L2.CMul gap6 (inverseV prime (valueAt prime b4.2 p3.1))) ∧ (0 < prime)) (letR ((gap6 * (inverseV prime (valueAt prime b4.2 p3.1))) % prime) fun scale8 => (gdR ((productVG prime b4.2 ([scale8] : List Int)) ∧ (totalVG prime b4.1 (productV prime b4.2 ([scale8] : List Int)))) (letR (totalV prime b4.1 (productV prime b4.2 ([scale8] : List Int))) fun found10 => (gdR ((0 < prime) ∧ (productVG prime b4.2 ([((-p3.1) % prime), (1 : Int)] : List Int))) (letR (productV prime b4.2 ([((-p3.1) % prime), (1 : Int)] : List Int)) fun base12 => (.ok (found10, base12))))))))))) points (found1, base2)).bind fun (b13 : (List Int) × (List Int)) => (.ok b13.1))))
theorem t_through (prime : Int) (points : List (Int × Int)) : SpR S_through [(PyData.int prime), ((eT (eP PyData.int PyData.int)) points)] (T_through prime points) (fun (g : List Int) => (.dat (.tuple (g.map PyData.int)))) := by
  refine sp_fun (n := 2) (m := 8) (E := anyE) rfl ?_
  show Gn _ (F_through [some (vI prime), some (.dat (.tuple (points.map (eP PyData.int PyData.int)))), none, none, none, none, none, none]) (T_through prime points) _
  unfold F_through T_through
  refine g_stepL (ρ2 := fun found1 => [some (vI prime), some (.dat (.tuple (points.map (eP PyData.int PyData.int)))), some (.dat (.tuple (found1.map PyData.int))), none, none, none, none, none]) (ev_set (pv_tupS (xs := ([] : List Int)) (e := PyData.int) av_nil (Nat.le_of_ble_eq_true rfl) rfl) rfl) fun found1 => ?_
  refine g_stepL (ρ2 := fun base2 => [some (vI prime), some (.dat (.tuple (points.map (eP PyData.int PyData.int)))), some (.dat (.tuple (found1.map PyData.int))), some (.dat (.tuple (base2.map PyData.int))), none, none, none, none]) (ev_set (pv_tupS (xs := ([(1 : Int)] : List Int)) (e := PyData.int) (av_cons pv_c (h2 := av_nil)) (Nat.le_of_ble_eq_true rfl) rfl) rfl) fun base2 => ?_
  refine g_seqJ (E := (fun (b : (List Int) × (List Int)) ρ' => ∃ z6 z7 z4 z5 : Option Vl, ρ' = [some (vI prime), some (.dat (.tuple (points.map (eP PyData.int PyData.int)))), some (.dat (.tuple (b.1.map PyData.int))), some (.dat (.tuple (b.2.map PyData.int))), z4, z5, z6, z7])) (ev_for (xs := points) (ι := (eP PyData.int PyData.int)) (Inv := (fun (b : (List Int) × (List Int)) ρ' => ∃ z6 z7 z4 z5 : Option Vl, ρ' = [some (vI prime), some (.dat (.tuple (points.map (eP PyData.int PyData.int)))), some (.dat (.tuple (b.1.map PyData.int))), some (.dat (.tuple (b.2.map PyData.int))), z4, z5, z6, z7])) (iv_tup pv_v) ⟨_, _, _, _, rfl⟩ ?_) ?_
  · rintro p3 hx b4 ρ' ⟨z6, z7, z4, z5, rfl⟩
    refine ⟨[some (vI prime), some (.dat (.tuple (points.map (eP PyData.int PyData.int)))), some (.dat (.tuple (b4.1.map PyData.int))), some (.dat (.tuple (b4.2.map PyData.int))), some (vI p3.1), some (vI p3.2), z6, z7], rfl, ?_⟩
    refine g_gd fun hg5 => ?_
    refine g_stepL (ρ2 := fun gap6 => [some (vI prime), some (.dat (.tuple (points.map (eP PyData.int PyData.int)))), some (.dat (.tuple (b4.1.map PyData.int))), some (.dat (.tuple (b4.2.map PyData.int))), some (vI p3.1), some (vI p3.2), some (vI gap6), z7]) (ev_set (pv_bin (pv_bin pv_v (Pv.lk (pv_call (n := 3) (av_cons pv_v (h2 := (av_cons pv_v (h2 := (av_cons pv_v (h2 := av_nil)))))) (sp_value_at prime b4.1 p3.1 (hg5.1)))) y_sub) (Pv.lk pv_v) (y_mod (hg5.2))) rfl) fun gap6 => ?_
    refine g_gd fun hg7 => ?_
    refine g_stepL (ρ2 := fun scale8 => [some (vI prime), some (.dat (.tuple (points.map (eP PyData.int PyData.int)))), some (.dat (.tuple (b4.1.map PyData.int))), some (.dat (.tuple (b4.2.map PyData.int))), some (vI p3.1), some (vI p3.2), some (vI gap6), some (vI scale8)]) (ev_set (pv_bin (pv_bin pv_v (Pv.lk (pv_call (n := 2) (av_cons pv_v (h2 := (av_cons (pv_call (n := 3) (av_cons pv_v (h2 := (av_cons pv_v (h2 := (av_cons pv_v (h2 := av_nil)))))) (sp_value_at prime b4.2 p3.1 (hg7.1))) (h2 := av_nil)))) (sp_inverse prime (valueAt prime b4.2 p3.1) (hg7.2.1)))) (y_mul (hg7.2.2.1))) (Pv.lk pv_v) (y_mod (hg7.2.2.2))) rfl) fun scale8 => ?_
    refine g_gd fun hg9 => ?_
    refine g_stepL (ρ2 := fun found10 => [some (vI prime), some (.dat (.tuple (points.map (eP PyData.int PyData.int)))), some (.dat (.tuple (found10.map PyData.int))), some (.dat (.tuple (b4.2.map PyData.int))), some (vI p3.1), some (vI p3.2), some (vI gap6), some (vI scale8)]) (ev_set (pv_Z (pv_call (n := 3) (av_cons pv_v (h2 := (av_cons pv_v (h2 := (av_cons (pv_call (n := 3) (av_cons pv_v (h2 := (av_cons pv_v (h2 := (av_cons (pv_tupS (xs := ([scale8] : List Int)) (e := PyData.int) (av_cons pv_v (h2 := av_nil)) (Nat.le_of_ble_eq_true rfl) rfl) (h2 := av_nil)))))) (sp_product prime b4.2 ([scale8] : List Int) (hg9.1))) (h2 := av_nil)))))) (sp_total prime b4.1 (productV prime b4.2 ([scale8] : List Int)) (hg9.2)))) rfl) fun found10 => ?_
    refine g_one ?_
    refine g_gd fun hg11 => ?_
    refine g_stepL (ρ2 := fun base12 => [some (vI prime), some (.dat (.tuple (points.map (eP PyData.int PyData.int)))), some (.dat (.tuple (found10.map PyData.int))), some (.dat (.tuple (base12.map PyData.int))), some (vI p3.1), some (vI p3.2), some (vI gap6), some (vI scale8)]) (ev_set (pv_Z (pv_call (n := 3) (av_cons pv_v (h2 := (av_cons pv_v (h2 := (av_cons (pv_tupS (xs := ([((-p3.1) % prime), (1 : Int)] : List Int)) (e := PyData.int) (av_cons (pv_bin (pv_una (Pv.lk pv_v) y_neg) (Pv.lk pv_v) (y_mod (hg11.1))) (h2 := (av_cons pv_c (h2 := av_nil)))) (Nat.le_of_ble_eq_true rfl) rfl) (h2 := av_nil)))))) (sp_product prime b4.2 ([((-p3.1) % prime), (1 : Int)] : List Int) (hg11.2)))) rfl) fun base12 => ?_
    exact g_lp ⟨_, _, _, _, rfl⟩
  · rintro b13 ρ' ⟨z6, z7, z4, z5, rfl⟩
    refine g_one ?_
    exact (g_ret (wr := (fun (g : List Int) => (.dat (.tuple (g.map PyData.int))))) pv_v trivial)

noncomputable def throughV (x0 : Int) (x1 : List (Int × Int)) : List Int := (T_through x0 x1).get
def throughVG (x0 : Int) (x1 : List (Int × Int)) : Prop := (T_through x0 x1).good
theorem sp_through (x0 : Int) (x1 : List (Int × Int)) (h : throughVG x0 x1) : S_through ([(PyData.int x0), ((eT (eP PyData.int PyData.int)) x1)].map .dat) = .ok (.dat (.tuple ((throughV x0 x1).map PyData.int))) (List.replicate 2 none) := sp_good (t_through x0 x1) h

noncomputable def T_check_wrong (prime : Int) (most : Int) (wrong : Int) (points : List (Int × Int)) : R Unit :=
  ((T_check_points prime points).bind fun u1 => (if ((!((decide ((0 : Int) ≤ most)) && (decide (most ≤ prime)))) || (!((decide ((0 : Int) ≤ wrong)) && (decide (wrong ≤ (2 : Int)))))) = true then (.exc 1) else (gdR ((L2.CMul (2 : Int) wrong)) (if (decide ((points.length : Int) < (most + ((2 : Int) * wrong)))) = true then (.exc 1) else (.ok ())))))
theorem t_check_wrong (prime : Int) (most : Int) (wrong : Int) (points : List (Int × Int)) : SpR S_check_wrong [(PyData.int prime), (PyData.int most), (PyData.int wrong), ((eT (eP PyData.int PyData.int)) points)] (T_check_wrong prime most wrong points) (fun _ => .dat .none) := by
  refine sp_proc (n := 4) (m := 4) (E := fun _ => True) rfl ?_
  show Gn _ (F_check_wrong [some (vI prime), some (vI most), some (vI wrong), some (.dat (.tuple (points.map (eP PyData.int PyData.int))))]) (T_check_wrong prime most wrong points) _
  unfold F_check_wrong T_check_wrong
  refine g_dropX (gx_call (n := 2) (av_cons pv_v (h2 := (av_cons pv_v (h2 := av_nil)))) (t_check_points prime points)) fun u1 ρ' hρ => ?_
  subst hρ
  refine g_if (tv_or (tv_not (tv_bo (Pv.lk (pv_chain (Pv.lk pv_c) (Pv.lk pv_v) y_le (fun hk2 => ⟨(Pv.lk pv_v), y_le⟩))))) (fun hk4 => (tv_not (tv_bo (Pv.lk (pv_chain (Pv.lk pv_c) (Pv.lk pv_v) y_le (fun hk3 => ⟨(Pv.lk pv_c), y_le⟩))))))) (fun hk => ?_) (fun hk => ?_)
  · skip
    exact g_raise
  · skip
    refine g_skip ?_
    refine g_one ?_
    refine g_gd fun hg5 => ?_
    refine g_if (tv_bo (Pv.lk (pv_bin (pv_callB (al_cons pv_v al_nil) (y_len (xs := points) (e := (eP PyData.int PyData.int)))) (Pv.lk (pv_bin pv_v (Pv.lk (pv_bin pv_c (Pv.lk pv_v) (y_mul hg5))) y_add)) y_lt))) (fun hk => ?_) (fun hk => ?_)
    · skip
      exact g_raise
    · skip
      refine g_skip ?_
      exact g_retP trivial

noncomputable def T_behind_wrong (prime : Int) (most : Int) (wrong : Int) (points : List (Int × Int)) : R (List Int) :=
  ((T_check_wrong prime most wrong points).bind fun u1 => (gdR ((rOk (wrong + (1 : Int)))) ((forF (γ := List Int) (fun (size3 : Int) (b4 : Unit) => (gdR ((cmbG (points.length : Int).toNat size3 ∧ 0 ≤ (points.length : Int))) ((forF (γ := List Int) (fun (gone6 : List Int) (b7 : Unit) => (gdR (((enL points).length ≤ 100000)) (letR (((enL points).filter fun (p8 : Int × (Int × Int)) => (!decide (p8.1 ∈ gone6))).map fun (p8 : Int × (Int × Int)) => p8.2) fun row12 => (gdR ((throughVG prime row12)) (letR (throughV prime row12) fun found14 => (if (decide ((found14.length : Int) ≤ most)) = true then (.ok (Fl.ret found14)) else (.ok (Fl.nx ())))))))) (cmbL (irange 0 (points.length : Int)) size3.toNat) ()).bind (flK (fun (b15 : Unit) => (.ok (Fl.nx ()))) (fun g => Fl.ret g))))) (irange 0 (wrong + (1 : Int))) ()).bind (flK (fun (b16 : Unit) => (.exc 3)) (fun g => g)))))
theorem t_behind_wrong (prime : Int) (most : Int) (wrong : Int) (points : List (Int × Int)) : SpR S_behind_wrong [(PyData.int prime), (PyData.int most), (PyData.int wrong), ((eT (eP PyData.int PyData.int)) points)] (T_behind_wrong prime most wrong points) (fun (g : List Int) => (.dat (.tuple (g.map PyData.int)))) := by
  refine sp_fun (n := 4) (m := 10) (E := anyE) rfl ?_
  show Gn _ (F_behind_wrong [some (vI prime), some (vI most), some (vI wrong), some (.dat (.tuple (points.map (eP PyData.int PyData.int)))), none, none, none, none, none, none]) (T_behind_wrong prime most wrong points) _
  unfold F_behind_wrong T_behind_wrong
  refine g_dropX (gx_call (n := 4) (av_cons pv_v (h2 := (av_cons pv_v (h2 := (av_cons pv_v (h2 := (av_cons pv_v (h2 := av_nil)))))))) (t_check_wrong prime most wrong points)) fun u1 ρ' hρ => ?_
  subst hρ
  refine g_gd fun hg2 => ?_
  refine g_seqK (E := (fun (b : Unit) ρ' => ∃ z5 z6 z7 z4 : Option Vl, ρ' = [some (vI prime), some (vI most), some (vI wrong), some (.dat (.tuple (points.map (eP PyData.int PyData.int)))), z4, z5, z6, z7, none, none])) (Er := (fRt (fun (g : List Int) => (.dat (.tuple (g.map PyData.int)))) anyE)) (ev_forF (xs := (irange 0 (wrong + (1 : Int)))) (ι := PyData.int) (Inv := (fun (b : Unit) ρ' => ∃ z5 z6 z7 z4 : Option Vl, ρ' = [some (vI prime), some (vI most), some (vI wrong), some (.dat (.tuple (points.map (eP PyData.int PyData.int)))), z4, z5, z6, z7, none, none])) fRt_ret (iv_r1 (al_cons (pv_bin pv_v (Pv.lk pv_c) y_add) al_nil) hg2) ⟨_, _, _, _, rfl⟩ ?_) fRt_ret (forF_noB _ _) (fun _ _ _ h => h) ?_
  · rintro size3 hx b4 ρ' ⟨z5, z6, z7, z4, rfl⟩
    refine ⟨[some (vI prime), some (vI most), some (vI wrong), some (.dat (.tuple (points.map (eP PyData.int PyData.int)))), some (vI size3), z5, z6, z7, none, none], rfl, ?_⟩
    refine g_one ?_
    refine g_gd fun hg5 => ?_
    refine g_seqK (E := (fun (b : Unit) ρ' => ∃ z6 z7 z5 : Option Vl, ρ' = [some (vI prime), some (vI most), some (vI wrong), some (.dat (.tuple (points.map (eP PyData.int PyData.int)))), some (vI size3), z5, z6, z7, none, none])) (Er := (fRt (fun (g : List Int) => (.dat (.tuple (g.map PyData.int)))) anyE)) (ev_forF (xs := (cmbL (irange 0 (points.length : Int)) size3.toNat)) (ι := (eT PyData.int)) (Inv := (fun (b : Unit) ρ' => ∃ z6 z7 z5 : Option Vl, ρ' = [some (vI prime), some (vI most), some (vI wrong), some (.dat (.tuple (points.map (eP PyData.int PyData.int)))), some (vI size3), z5, z6, z7, none, none])) fRt_ret (iv_cmbR (pv_callB (al_cons pv_v al_nil) (y_len (xs := points) (e := (eP PyData.int PyData.int)))) pv_v hg5) ⟨_, _, _, rfl⟩ ?_) fRt_ret (forF_noB _ _) (fun _ _ _ h => h) ?_
    · rintro gone6 hx b7 ρ' ⟨z6, z7, z5, rfl⟩
      refine ⟨[some (vI prime), some (vI most), some (vI wrong), some (.dat (.tuple (points.map (eP PyData.int PyData.int)))), some (vI size3), some (.dat (.tuple (gone6.map PyData.int))), z6, z7, none, none], rfl, ?_⟩
      refine g_gd fun hg11 => ?_
      refine g_stepL (ρ2 := fun row12 => [some (vI prime), some (vI most), some (vI wrong), some (.dat (.tuple (points.map (eP PyData.int PyData.int)))), some (vI size3), some (.dat (.tuple (gone6.map PyData.int))), some (.dat (.tuple (row12.map (eP PyData.int PyData.int)))), z7, none, none]) (ev_set (pv_callB (al_cons (pv_comp (p := fun (p8 : Int × (Int × Int)) => (!decide (p8.1 ∈ gone6))) (v := (fun (p8 : Int × (Int × Int)) => p8.2)) (en := (eP PyData.int PyData.int)) (xs := (enL points)) (iv_enu (xs := points) (e := (eP PyData.int PyData.int)) (pv_Z pv_v)) hg11 (fun p8 hk10 => ⟨[some (vI prime), some (vI most), some (vI wrong), some (.dat (.tuple (points.map (eP PyData.int PyData.int)))), some (vI size3), some (.dat (.tuple (gone6.map PyData.int))), z6, z7, some (vI p8.1), some (.dat ((eP PyData.int PyData.int) p8.2))], [some (vI prime), some (vI most), some (vI wrong), some (.dat (.tuple (points.map (eP PyData.int PyData.int)))), some (vI size3), some (.dat (.tuple (gone6.map PyData.int))), z6, z7, some (vI p8.1), some (.dat ((eP PyData.int PyData.int) p8.2))], rfl, rfl, (tv_bo (Pv.lk (pv_bin pv_v (Pv.lk pv_v) (y_notIn (e := PyData.int) (x := p8.1) (xs := gone6) cod_int)))), fun hk9 => ⟨_, pv_v, rfl, (by rfl)⟩⟩)) al_nil) (y_tuple (xs := (((enL points).filter fun (p8 : Int × (Int × Int)) => (!decide (p8.1 ∈ gone6))).map fun (p8 : Int × (Int × Int)) => p8.2)) (e := (eP PyData.int PyData.int)))) rfl) fun row12 => ?_
      refine g_gd fun hg13 => ?_
      refine g_stepL (ρ2 := fun found14 => [some (vI prime), some (vI most), some (vI wrong), some (.dat (.tuple (points.map (eP PyData.int PyData.int)))), some (vI size3), some (.dat (.tuple (gone6.map PyData.int))), some (.dat (.tuple (row12.map (eP PyData.int PyData.int)))), some (.dat (.tuple (found14.map PyData.int))), none, none]) (ev_set (pv_Z (pv_call (n := 2) (av_cons pv_v (h2 := (av_cons pv_v (h2 := av_nil)))) (sp_through prime row12 hg13))) rfl) fun found14 => ?_
      refine g_one ?_
      refine g_if (tv_bo (Pv.lk (pv_bin (pv_callB (al_cons pv_v al_nil) (y_len (xs := found14) (e := PyData.int))) (Pv.lk pv_v) y_le))) (fun hk => ?_) (fun hk => ?_)
      · skip
        exact g_fret (g_ret (wr := (fun (g : List Int) => (.dat (.tuple (g.map PyData.int))))) pv_v trivial)
      · skip
        refine g_skip ?_
        exact g_fn ⟨_, _, _, rfl⟩
    · rintro b15 ρ' ⟨z6, z7, z5, rfl⟩
      exact g_fn ⟨_, _, _, _, rfl⟩
  · rintro b16 ρ' ⟨z5, z6, z7, z4, rfl⟩
    refine g_one ?_
    exact g_raise

end K49
end
section
set_option Elab.async false
set_option linter.all false
set_option maxRecDepth 100000
set_option maxHeartbeats 4000000
namespace K49
open Mi
open PySem (PyData)
open PySem
noncomputable def toldV (p m w : Int) (ps : List (Int × Int)) : PyData := toldR (T_behind_wrong p m w ps) (eT PyData.int)
def toldVG (p m w : Int) (ps : List (Int × Int)) : Prop := okT (T_behind_wrong p m w ps)
theorem sp__law_told (p m w : Int) (ps : List (Int × Int)) (h : toldVG p m w ps) : S__law_told ([PyData.int p, .int m, .int w, eT (eP PyData.int PyData.int) ps].map .dat) = .ok (.dat (toldV p m w ps)) (List.replicate 4 none) := by
  have : SpR S__law_told [PyData.int p, .int m, .int w, eT (eP PyData.int PyData.int) ps] (.ok (toldV p m w ps)) (fun d => .dat d) := by
    refine sp_fun (n := 4) (m := 5) (E := anyE) rfl ?_
    show Gn _ (F__law_told [some (vI p), some (vI m), some (vI w), some (.dat (eT (eP PyData.int PyData.int) ps)), none]) _ _
    unfold F__law_told
    refine g_one (g_try (r := T_behind_wrong p m w ps) (e := eT PyData.int) ?_ h)
    exact g_one (g_retTold (gx_call (n := 4) (wr := fun g => .dat (eT PyData.int g)) (av_cons pv_v (h2 := (av_cons pv_v (h2 := (av_cons pv_v (h2 := (av_cons pv_v (h2 := av_nil)))))))) (t_behind_wrong p m w ps)) (fun _ => rfl))
  exact this

noncomputable def T__law_value_T (prime : Int) (numbers : List Int) (first_ : Int) : R Int :=
  (letR (0 : Int) fun found1 => (letR (1 : Int) fun power2 => ((forR (fun (number3 : Int) (b4 : Int × Int) => (gdR ((L2.CMul number3 b4.2) ∧ (0 < prime)) (letR ((b4.1 + (number3 * b4.2)) % prime) fun found6 => (gdR ((L2.CMul b4.2 first_) ∧ (0 < prime)) (letR ((b4.2 * first_) % prime) fun power8 => (.ok (found6, power8))))))) numbers (found1, power2)).bind fun (b9 : Int × Int) => (.ok b9.1))))
theorem t__law_value_T (prime : Int) (numbers : List Int) (first_ : Int) : SpR S__law_value [(PyData.int prime), ((eT PyData.int) numbers), (PyData.int first_)] (T__law_value_T prime numbers first_) (fun (g : Int) => (vI g)) := by
  refine sp_fun (n := 3) (m := 6) (E := anyE) rfl ?_
  show Gn _ (F__law_value [some (vI prime), some (.dat (.tuple (numbers.map PyData.int))), some (vI first_), none, none, none]) (T__law_value_T prime numbers first_) _
  unfold F__law_value T__law_value_T
  refine g_stepL (ρ2 := fun found1 => [some (vI prime), some (.dat (.tuple (numbers.map PyData.int))), some (vI first_), some (vI found1), none, none]) (ev_set pv_c rfl) fun found1 => ?_
  refine g_stepL (ρ2 := fun power2 => [some (vI prime), some (.dat (.tuple (numbers.map PyData.int))), some (vI first_), some (vI found1), some (vI power2), none]) (ev_set pv_c rfl) fun power2 => ?_
  refine g_seqJ (E := (fun (b : Int × Int) ρ' => ∃ z5 : Option Vl, ρ' = [some (vI prime), some (.dat (.tuple (numbers.map PyData.int))), some (vI first_), some (vI b.1), some (vI b.2), z5])) (ev_for (xs := numbers) (ι := PyData.int) (Inv := (fun (b : Int × Int) ρ' => ∃ z5 : Option Vl, ρ' = [some (vI prime), some (.dat (.tuple (numbers.map PyData.int))), some (vI first_), some (vI b.1), some (vI b.2), z5])) (iv_tup pv_v) ⟨_, rfl⟩ ?_) ?_
  · rintro number3 hx b4 ρ' ⟨z5, rfl⟩
    refine ⟨[some (vI prime), some (.dat (.tuple (numbers.map PyData.int))), some (vI first_), some (vI b4.1), some (vI b4.2), some (vI number3)], rfl, ?_⟩
    refine g_gd fun hg5 => ?_
    refine g_stepL (ρ2 := fun found6 => [some (vI prime), some (.dat (.tuple (numbers.map PyData.int))), some (vI first_), some (vI found6), some (vI b4.2), some (vI number3)]) (ev_set (pv_bin (pv_callB (al_cons (pv_bin pv_v (Pv.lk (pv_bin pv_v (Pv.lk pv_v) (y_mul (hg5.1)))) y_add) al_nil) y_intI) (Pv.lk pv_v) (y_mod (hg5.2))) rfl) fun found6 => ?_
    refine g_one ?_
    refine g_gd fun hg7 => ?_
    refine g_stepL (ρ2 := fun power8 => [some (vI prime), some (.dat (.tuple (numbers.map PyData.int))), some (vI first_), some (vI found6), some (vI power8), some (vI number3)]) (ev_set (pv_bin (pv_callB (al_cons (pv_bin pv_v (Pv.lk pv_v) (y_mul (hg7.1))) al_nil) y_intI) (Pv.lk pv_v) (y_mod (hg7.2))) rfl) fun power8 => ?_
    exact g_lp ⟨_, rfl⟩
  · rintro b9 ρ' ⟨z5, rfl⟩
    refine g_one ?_
    exact (g_ret (wr := (fun (g : Int) => (vI g))) pv_v trivial)

noncomputable def lawValueT (x0 : Int) (x1 : List Int) (x2 : Int) : Int := (T__law_value_T x0 x1 x2).get
def lawValueTG (x0 : Int) (x1 : List Int) (x2 : Int) : Prop := (T__law_value_T x0 x1 x2).good
theorem sp__law_value_T (x0 : Int) (x1 : List Int) (x2 : Int) (h : lawValueTG x0 x1 x2) : S__law_value ([(PyData.int x0), ((eT PyData.int) x1), (PyData.int x2)].map .dat) = .ok (vI (lawValueT x0 x1 x2)) (List.replicate 3 none) := sp_good (t__law_value_T x0 x1 x2) h

noncomputable def T__law_value_L (prime : Int) (numbers : List Int) (first_ : Int) : R Int :=
  (letR (0 : Int) fun found1 => (letR (1 : Int) fun power2 => ((forR (fun (number3 : Int) (b4 : Int × Int) => (gdR ((L2.CMul number3 b4.2) ∧ (0 < prime)) (letR ((b4.1 + (number3 * b4.2)) % prime) fun found6 => (gdR ((L2.CMul b4.2 first_) ∧ (0 < prime)) (letR ((b4.2 * first_) % prime) fun power8 => (.ok (found6, power8))))))) numbers (found1, power2)).bind fun (b9 : Int × Int) => (.ok b9.1))))
theorem t__law_value_L (prime : Int) (numbers : List Int) (first_ : Int) : SpR S__law_value [(PyData.int prime), ((eL PyData.int) numbers), (PyData.int first_)] (T__law_value_L prime numbers first_) (fun (g : Int) => (vI g)) := by
  refine sp_fun (n := 3) (m := 6) (E := anyE) rfl ?_
  show Gn _ (F__law_value [some (vI prime), some (.dat (.list (numbers.map PyData.int))), some (vI first_), none, none, none]) (T__law_value_L prime numbers first_) _
  unfold F__law_value T__law_value_L
  refine g_stepL (ρ2 := fun found1 => [some (vI prime), some (.dat (.list (numbers.map PyData.int))), some (vI first_), some (vI found1), none, none]) (ev_set pv_c rfl) fun found1 => ?_
  refine g_stepL (ρ2 := fun power2 => [some (vI prime), some (.dat (.list (numbers.map PyData.int))), some (vI first_), some (vI found1), some (vI power2), none]) (ev_set pv_c rfl) fun power2 => ?_
  refine g_seqJ (E := (fun (b : Int × Int) ρ' => ∃ z5 : Option Vl, ρ' = [some (vI prime), some (.dat (.list (numbers.map PyData.int))), some (vI first_), some (vI b.1), some (vI b.2), z5])) (ev_for (xs := numbers) (ι := PyData.int) (Inv := (fun (b : Int × Int) ρ' => ∃ z5 : Option Vl, ρ' = [some (vI prime), some (.dat (.list (numbers.map PyData.int))), some (vI first_), some (vI b.1), some (vI b.2), z5])) (iv_lst pv_v) ⟨_, rfl⟩ ?_) ?_
  · rintro number3 hx b4 ρ' ⟨z5, rfl⟩
    refine ⟨[some (vI prime), some (.dat (.list (numbers.map PyData.int))), some (vI first_), some (vI b4.1), some (vI b4.2), some (vI number3)], rfl, ?_⟩
    refine g_gd fun hg5 => ?_
    refine g_stepL (ρ2 := fun found6 => [some (vI prime), some (.dat (.list (numbers.map PyData.int))), some (vI first_), some (vI found6), some (vI b4.2), some (vI number3)]) (ev_set (pv_bin (pv_callB (al_cons (pv_bin pv_v (Pv.lk (pv_bin pv_v (Pv.lk pv_v) (y_mul (hg5.1)))) y_add) al_nil) y_intI) (Pv.lk pv_v) (y_mod (hg5.2))) rfl) fun found6 => ?_
    refine g_one ?_
    refine g_gd fun hg7 => ?_
    refine g_stepL (ρ2 := fun power8 => [some (vI prime), some (.dat (.list (numbers.map PyData.int))), some (vI first_), some (vI found6), some (vI power8), some (vI number3)]) (ev_set (pv_bin (pv_callB (al_cons (pv_bin pv_v (Pv.lk pv_v) (y_mul (hg7.1))) al_nil) y_intI) (Pv.lk pv_v) (y_mod (hg7.2))) rfl) fun power8 => ?_
    exact g_lp ⟨_, rfl⟩
  · rintro b9 ρ' ⟨z5, rfl⟩
    refine g_one ?_
    exact (g_ret (wr := (fun (g : Int) => (vI g))) pv_v trivial)

noncomputable def lawValueL (x0 : Int) (x1 : List Int) (x2 : Int) : Int := (T__law_value_L x0 x1 x2).get
def lawValueLG (x0 : Int) (x1 : List Int) (x2 : Int) : Prop := (T__law_value_L x0 x1 x2).good
theorem sp__law_value_L (x0 : Int) (x1 : List Int) (x2 : Int) (h : lawValueLG x0 x1 x2) : S__law_value ([(PyData.int x0), ((eL PyData.int) x1), (PyData.int x2)].map .dat) = .ok (vI (lawValueL x0 x1 x2)) (List.replicate 3 none) := sp_good (t__law_value_L x0 x1 x2) h

noncomputable def T__law_cut (numbers : List Int) : R (List Int) :=
  (gdR ((rOk (numbers.length : Int)) ∧ ((irange 0 (numbers.length : Int)).length ≤ 100000) ∧ (∀ k1 ∈ (irange 0 (numbers.length : Int)), (inR numbers.length k1)) ∧ (szOk (([(0 : Int)] : List Int).length + (((irange 0 (numbers.length : Int)).filter fun (k1 : Int) => (!decide ((ix numbers k1) = (0 : Int)))).map fun (k1 : Int) => (k1 + (1 : Int))).length)) ∧ (0 < (([(0 : Int)] : List Int) ++ (((irange 0 (numbers.length : Int)).filter fun (k1 : Int) => (!decide ((ix numbers k1) = (0 : Int)))).map fun (k1 : Int) => (k1 + (1 : Int)))).length)) (letR (maxI (([(0 : Int)] : List Int) ++ (((irange 0 (numbers.length : Int)).filter fun (k1 : Int) => (!decide ((ix numbers k1) = (0 : Int)))).map fun (k1 : Int) => (k1 + (1 : Int))))) fun last5 => (.ok (cutD numbers none (some last5)))))
theorem t__law_cut (numbers : List Int) : SpR S__law_cut [((eT PyData.int) numbers)] (T__law_cut numbers) (fun (g : List Int) => (.dat (.tuple (g.map PyData.int)))) := by
  refine sp_fun (n := 1) (m := 3) (E := anyE) rfl ?_
  show Gn _ (F__law_cut [some (.dat (.tuple (numbers.map PyData.int))), none, none]) (T__law_cut numbers) _
  unfold F__law_cut T__law_cut
  refine g_gd fun hg4 => ?_
  refine g_stepL (ρ2 := fun last5 => [some (.dat (.tuple (numbers.map PyData.int))), some (vI last5), none]) (ev_set (pv_callB (al_cons (pv_bin (pv_lstS (xs := ([(0 : Int)] : List Int)) (e := PyData.int) (av_cons pv_c (h2 := av_nil)) (Nat.le_of_ble_eq_true rfl) rfl) (Pv.lk (pv_comp (p := fun (k1 : Int) => (!decide ((ix numbers k1) = (0 : Int)))) (v := (fun (k1 : Int) => (k1 + (1 : Int)))) (en := PyData.int) (xs := (irange 0 (numbers.length : Int))) (iv_r1 (al_cons (pv_callB (al_cons pv_v al_nil) (y_len (xs := numbers) (e := PyData.int))) al_nil) (hg4.1)) (hg4.2.1) (fun k1 hk3 => ⟨[some (.dat (.tuple (numbers.map PyData.int))), none, some (vI k1)], [some (.dat (.tuple (numbers.map PyData.int))), none, some (vI k1)], rfl, rfl, (tv_bo (Pv.lk (pv_bin (pv_bin pv_v (Pv.lk pv_v) (y_ix (xs := numbers) (e := PyData.int) ((hg4.2.2.1) k1 hk3))) (Pv.lk pv_c) (y_ne (e := PyData.int) (x := (ix numbers k1)) (y := (0 : Int)) cod_int)))), fun hk2 => ⟨_, (pv_bin pv_v (Pv.lk pv_c) y_add), rfl, (by rfl)⟩⟩))) (y_catL (xs := ([(0 : Int)] : List Int)) (ys := (((irange 0 (numbers.length : Int)).filter fun (k1 : Int) => (!decide ((ix numbers k1) = (0 : Int)))).map fun (k1 : Int) => (k1 + (1 : Int)))) (e := PyData.int) (hg4.2.2.2.1))) al_nil) (y_max1 (hg4.2.2.2.2))) rfl) fun last5 => ?_
  refine g_one ?_
  exact (g_ret (wr := (fun (g : List Int) => (.dat (.tuple (g.map PyData.int))))) (pv_callB (al_cons (pv_sl (Pv.lk pv_v) sv_no (sv_so (Pv.lk pv_v)) (y_slT (xs := numbers) (e := PyData.int))) al_nil) (y_tuple (xs := (cutD numbers none (some last5))) (e := PyData.int))) trivial)

noncomputable def lawCut (x0 : List Int) : List Int := (T__law_cut x0).get
def lawCutG (x0 : List Int) : Prop := (T__law_cut x0).good
theorem sp__law_cut (x0 : List Int) (h : lawCutG x0) : S__law_cut ([((eT PyData.int) x0)].map .dat) = .ok (.dat (.tuple ((lawCut x0).map PyData.int))) (List.replicate 1 none) := sp_good (t__law_cut x0) h

noncomputable def T__law_all_sums (prime : Int) (many : Int) : R (List (List Int)) :=
  (letR ([([] : List Int)] : List (List Int)) fun rows1 => (gdR ((rOk many)) ((forR (fun (k3 : Int) (b4 : (List (List Int))) => (letR ([] : List (List Int)) fun longer5 => ((forR (fun (row6 : List Int) (b7 : (List (List Int))) => (gdR ((rOk prime) ∧ ((irange 0 prime).length ≤ 100000) ∧ (∀ number8 ∈ (irange 0 prime), (szOk (row6.length + ([number8] : List Int).length))) ∧ (b7.length + ((irange 0 prime).map fun (number8 : Int) => (row6 ++ ([number8] : List Int))).length ≤ 100000)) (letR (b7 ++ ((irange 0 prime).map fun (number8 : Int) => (row6 ++ ([number8] : List Int)))) fun longer11 => (.ok longer11)))) b4 longer5).bind fun (b12 : (List (List Int))) => (.ok b12)))) (irange 0 many) rows1).bind fun (b13 : (List (List Int))) => (.ok b13))))
theorem t__law_all_sums (prime : Int) (many : Int) : SpR S__law_all_sums [(PyData.int prime), (PyData.int many)] (T__law_all_sums prime many) (fun (g : List (List Int)) => (.ml (g.map (eT PyData.int)))) := by
  refine sp_fun (n := 2) (m := 7) (E := anyE) rfl ?_
  show Gn _ (F__law_all_sums [some (vI prime), some (vI many), none, none, none, none, none]) (T__law_all_sums prime many) _
  unfold F__law_all_sums T__law_all_sums
  refine g_stepL (ρ2 := fun rows1 => [some (vI prime), some (vI many), some (.ml (rows1.map (eT PyData.int))), none, none, none, none]) (ev_set (pv_lstS (xs := ([([] : List Int)] : List (List Int))) (e := (eT PyData.int)) (av_cons (pv_tupS (xs := ([] : List Int)) (e := PyData.int) av_nil (Nat.le_of_ble_eq_true rfl) rfl) (h2 := av_nil)) (Nat.le_of_ble_eq_true rfl) rfl) rfl) fun rows1 => ?_
  refine g_gd fun hg2 => ?_
  refine g_seqJ (E := (fun (b : (List (List Int))) ρ' => ∃ z4 z5 z3 : Option Vl, ρ' = [some (vI prime), some (vI many), some (.ml (b.map (eT PyData.int))), z3, z4, z5, none])) (ev_for (xs := (irange 0 many)) (ι := PyData.int) (Inv := (fun (b : (List (List Int))) ρ' => ∃ z4 z5 z3 : Option Vl, ρ' = [some (vI prime), some (vI many), some (.ml (b.map (eT PyData.int))), z3, z4, z5, none])) (iv_r1 (al_cons pv_v al_nil) hg2) ⟨_, _, _, rfl⟩ ?_) ?_
  · rintro k3 hx b4 ρ' ⟨z4, z5, z3, rfl⟩
    refine ⟨[some (vI prime), some (vI many), some (.ml (b4.map (eT PyData.int))), some (vI k3), z4, z5, none], rfl, ?_⟩
    refine g_stepL (ρ2 := fun longer5 => [some (vI prime), some (vI many), some (.ml (b4.map (eT PyData.int))), some (vI k3), some (.ml (longer5.map (eT PyData.int))), z5, none]) (ev_set (pv_lstS (xs := ([] : List (List Int))) (e := (eT PyData.int)) av_nil (Nat.le_of_ble_eq_true rfl) rfl) rfl) fun longer5 => ?_
    refine g_seqJ (E := (fun (b : (List (List Int))) ρ' => ∃ z5 : Option Vl, ρ' = [some (vI prime), some (vI many), some (.dat (.list (b4.map (eT PyData.int)))), some (vI k3), some (.ml (b.map (eT PyData.int))), z5, none])) (ev_for (xs := b4) (ι := (eT PyData.int)) (Inv := (fun (b : (List (List Int))) ρ' => ∃ z5 : Option Vl, ρ' = [some (vI prime), some (vI many), some (.dat (.list (b4.map (eT PyData.int)))), some (vI k3), some (.ml (b.map (eT PyData.int))), z5, none])) (iv_own) ⟨_, rfl⟩ ?_) ?_
    · rintro row6 hx b7 ρ' ⟨z5, rfl⟩
      refine ⟨[some (vI prime), some (vI many), some (.dat (.list (b4.map (eT PyData.int)))), some (vI k3), some (.ml (b7.map (eT PyData.int))), some (.dat (.tuple (row6.map PyData.int))), none], rfl, ?_⟩
      refine g_one ?_
      refine g_gd fun hg10 => ?_
      refine g_stepL (ρ2 := fun longer11 => [some (vI prime), some (vI many), some (.dat (.list (b4.map (eT PyData.int)))), some (vI k3), some (.ml (longer11.map (eT PyData.int))), some (.dat (.tuple (row6.map PyData.int))), none]) (ev_ext (xs := b7) (ys := ((irange 0 prime).map fun (number8 : Int) => (row6 ++ ([number8] : List Int)))) (e := (eT PyData.int)) (pv_map (v := fun (number8 : Int) => (row6 ++ ([number8] : List Int))) (en := (eT PyData.int)) (xs := (irange 0 prime)) (iv_r1 (al_cons pv_v al_nil) (hg10.1)) (hg10.2.1) (fun number8 hk9 => ⟨[some (vI prime), some (vI many), some (.dat (.list (b4.map (eT PyData.int)))), some (vI k3), some (.ml (b7.map (eT PyData.int))), some (.dat (.tuple (row6.map PyData.int))), some (vI number8)], [some (vI prime), some (vI many), some (.dat (.list (b4.map (eT PyData.int)))), some (vI k3), some (.ml (b7.map (eT PyData.int))), some (.dat (.tuple (row6.map PyData.int))), some (vI number8)], _, rfl, (pv_bin pv_v (Pv.lk (pv_tupS (xs := ([number8] : List Int)) (e := PyData.int) (av_cons pv_v (h2 := av_nil)) (Nat.le_of_ble_eq_true rfl) rfl)) (y_catT (xs := row6) (ys := ([number8] : List Int)) (e := PyData.int) ((hg10.2.2.1) number8 hk9))), rfl, (by rfl)⟩)) (hg10.2.2.2) (hr := by rfl)) fun longer11 => ?_
      exact g_lp ⟨_, rfl⟩
    · rintro b12 ρ' ⟨z5, rfl⟩
      refine g_one ?_
      refine g_move (ρ2 := [some (vI prime), some (vI many), some (.ml (b12.map (eT PyData.int))), some (vI k3), none, z5, none]) rfl (fun _ z => nomatch z) rfl ?_
      exact g_lp ⟨_, _, _, rfl⟩
  · rintro b13 ρ' ⟨z4, z5, z3, rfl⟩
    refine g_one ?_
    exact (g_retM (wr := (fun (g : List (List Int)) => (.ml (g.map (eT PyData.int))))) rfl (fun _ z => nomatch z) rfl trivial)

noncomputable def allSums (x0 : Int) (x1 : Int) : List (List Int) := (T__law_all_sums x0 x1).get
def allSumsG (x0 : Int) (x1 : Int) : Prop := (T__law_all_sums x0 x1).good
theorem sp__law_all_sums (x0 : Int) (x1 : Int) (h : allSumsG x0 x1) : S__law_all_sums ([(PyData.int x0), (PyData.int x1)].map .dat) = .ok (.ml ((allSums x0 x1).map (eT PyData.int))) (List.replicate 2 none) := sp_good (t__law_all_sums x0 x1) h

noncomputable def T_law (nums : List Int) : R Bool :=
  (letR (0 : Int) fun c_1 => ((forF (γ := Bool) (fun (turn2 : Int) (b3 : Int) => (gdR ((nxG nums b3 (4 : Int)) ∧ (inR ([(5 : Int), (7 : Int), (11 : Int), (13 : Int)] : List Int).length (nxt nums b3 (4 : Int)))) (letR (ix ([(5 : Int), (7 : Int), (11 : Int), (13 : Int)] : List Int) (nxt nums b3 (4 : Int))) fun prime5 => letR (b3 + 1) fun c_6 => (gdR ((nxG nums c_6 ((3 : Int) + (bI (decide (prime5 < (8 : Int))))))) (letR (nxt nums c_6 ((3 : Int) + (bI (decide (prime5 < (8 : Int)))))) fun most8 => letR (c_6 + 1) fun c_9 => (gdR ((nxG nums c_9 (3 : Int))) (letR (nxt nums c_9 (3 : Int)) fun wrong11 => letR (c_9 + 1) fun c_12 => (gdR ((L2.CMul (2 : Int) wrong11) ∧ (nxG nums c_12 (3 : Int))) (letR (if ((most8 + ((2 : Int) * wrong11)) + (nxt nums c_12 (3 : Int))) < prime5 then ((most8 + ((2 : Int) * wrong11)) + (nxt nums c_12 (3 : Int))) else prime5) fun many14 => letR (c_12 + 1) fun c_15 => (gdR ((L2.CMul (2 : Int) wrong11)) (R.bind (β := _) (if (decide (many14 < (most8 + ((2 : Int) * wrong11)))) = true then (letR (0 : Int) fun wrong17 => (.ok wrong17)) else (.ok wrong11)) fun (b18 : Int) => (gdR ((rOk most8) ∧ ((irange 0 most8).length ≤ 100000) ∧ (allC (fun (k19 : Int) (c_20 : Int) => (nxG nums c_20 prime5)) (fun (k19 : Int) (c_20 : Int) => (c_20 + 1)) (irange 0 most8) c_15)) (letR ((mapC (fun (k19 : Int) (c_20 : Int) => ((nxt nums c_20 prime5), (c_20 + 1))) (irange 0 most8) c_15).1) fun numbers23 => letR ((mapC (fun (k19 : Int) (c_20 : Int) => ((nxt nums c_20 prime5), (c_20 + 1))) (irange 0 most8) c_15).2) fun c_24 => (gdR ((L2.RgOk 0 prime5)) (letR (irange 0 prime5) fun firsts26 => (gdR ((rOk (prime5 - many14))) ((forR (fun (k28 : Int) (b29 : (List Int) × Int) => (gdR ((nxG nums b29.2 (b29.1.length : Int)) ∧ (inR b29.1.length (nxt nums b29.2 (b29.1.length : Int)) ∧ b29.1.length ≤ 100000)) (letR (eraseI b29.1 (nxt nums b29.2 (b29.1.length : Int))) fun firsts31 => letR (b29.2 + 1) fun c_32 => (.ok (firsts31, c_32))))) (irange 0 (prime5 - many14)) (firsts26, c_24)).bind fun (b33 : (List Int) × Int) => (gdR ((b33.1.length ≤ 100000) ∧ (∀ first_34 ∈ b33.1, (lawValueLG prime5 numbers23 first_34))) (letR (b33.1.map fun (first_34 : Int) => (lawValueL prime5 numbers23 first_34)) fun values37 => (gdR ((nxG nums b33.2 (b18 + (2 : Int))) ∧ (L2.CMul (nxt nums b33.2 (b18 + (2 : Int))) (bI (decide ((0 : Int) < many14)))) ∧ (rOk ((nxt nums b33.2 (b18 + (2 : Int))) * (bI (decide ((0 : Int) < many14)))))) ((forR (fun (k39 : Int) (b40 : (List Int) × Int) => (gdR ((nxG nums b40.2 prime5) ∧ (nxG nums (b40.2 + 1) many14) ∧ (inR b40.1.length (nxt nums (b40.2 + 1) many14))) (letR (setI b40.1 (nxt nums (b40.2 + 1) many14) (nxt nums b40.2 prime5)) fun values42 => letR ((b40.2 + 1) + 1) fun c_43 => (.ok (values42, c_43))))) (irange 0 ((nxt nums b33.2 (b18 + (2 : Int))) * (bI (decide ((0 : Int) < many14))))) (values37, (b33.2 + 1))).bind fun (b44 : (List Int) × Int) => (gdR ((rOk many14) ∧ ((irange 0 many14).length ≤ 100000) ∧ (∀ k45 ∈ (irange 0 many14), (inR b33.1.length k45) ∧ (inR b44.1.length k45))) (letR ((irange 0 many14).map fun (k45 : Int) => ((ix b33.1 k45), (ix b44.1 k45))) fun points48 => (gdR ((Rok ((eT (eP PyData.int PyData.int)) points48))) (letR ((((eT (eP PyData.int PyData.int)) points48)).shown) fun kept50 => (letR ([] : List (List Int)) fun good51 => (gdR ((allSumsG prime5 most8)) ((forR (fun (row53 : List Int) (b54 : (List (List Int))) => (gdR ((points48.length ≤ 100000) ∧ (∀ point55 ∈ points48, (lawValueTG prime5 row53 point55.1))) (if (decide (((points48.filter fun (point55 : Int × Int) => (!decide ((lawValueT prime5 row53 point55.1) = point55.2))).length : Int) ≤ b18)) = true then (gdR ((lawCutG row53) ∧ (b54.length ≤ 100000)) (letR (b54 ++ [(lawCut row53)]) fun good60 => (.ok good60))) else (.ok b54)))) (allSums prime5 most8) good51).bind fun (b61 : (List (List Int))) => (if (decide ((1 : Int) < (b61.length : Int))) = true then (.ok (Fl.ret false)) else (letR (PyData.str ("missing" : PySem.Str)) fun due62 => (R.bind (β := _) (if (decide ((b61.length : Int) = (1 : Int))) = true then (gdR ((inR b61.length (0 : Int))) (letR (.tuple [(PyData.str ("told" : PySem.Str)), ((eT PyData.int) (ix b61 (0 : Int)))]) fun due64 => (.ok due64))) else (.ok due62)) fun (b65 : PyData) => (gdR ((toldVG prime5 most8 b18 points48) ∧ (sameG (toldV prime5 most8 b18 points48) b65)) (if (!true) = true then (.ok (Fl.ret false)) else (gdR ((toldVG prime5 most8 (3 : Int) points48) ∧ (toldVG prime5 (-(1 : Int)) b18 points48) ∧ (toldVG prime5 (prime5 + (1 : Int)) (0 : Int) points48) ∧ (szOk (points48.reverse.length + ([(prime5, (0 : Int))] : List (Int × Int)).length)) ∧ (toldVG prime5 most8 b18 (points48.reverse ++ ([(prime5, (0 : Int))] : List (Int × Int)))) ∧ (L2.CMul (2 : Int) b18) ∧ (toldVG prime5 (most8 + (1 : Int)) b18 (cutD points48 none (some (most8 + ((2 : Int) * b18))))) ∧ (toldVG (prime5 + (1 : Int)) most8 b18 points48) ∧ (toldVG prime5 most8 (-(1 : Int)) points48)) (letR ([(toldV prime5 most8 (3 : Int) points48), (toldV prime5 (-(1 : Int)) b18 points48), (toldV prime5 (prime5 + (1 : Int)) (0 : Int) points48), (toldV prime5 most8 b18 (points48.reverse ++ ([(prime5, (0 : Int))] : List (Int × Int)))), (toldV prime5 (most8 + (1 : Int)) b18 (cutD points48 none (some (most8 + ((2 : Int) * b18))))), (toldV (prime5 + (1 : Int)) most8 b18 points48), (toldV prime5 most8 (-(1 : Int)) points48)] : List PyData) fun bad68 => (gdR ((repOk ([("refused" : PySem.Str)] : List PySem.Str).length (7 : Int)) ∧ (shp ((eL idD) bad68) ∧ shp ((eL PyData.str) ((List.replicate (7 : Int).toNat ([("refused" : PySem.Str)] : List PySem.Str)).flatten))) ∧ ((!PyData.eqv ((eL idD) bad68) ((eL PyData.str) ((List.replicate (7 : Int).toNat ([("refused" : PySem.Str)] : List PySem.Str)).flatten))) = false → (Rok ((eT (eP PyData.int PyData.int)) points48)))) (if ((!PyData.eqv ((eL idD) bad68) ((eL PyData.str) ((List.replicate (7 : Int).toNat ([("refused" : PySem.Str)] : List PySem.Str)).flatten))) || (!decide ((((eT (eP PyData.int PyData.int)) points48)).shown = kept50))) = true then (.ok (Fl.ret false)) else (.ok (Fl.nx b44.2))))))))))))))))))))))))))))))))))))))) (irange 0 (4 : Int)) c_1).bind (flK (fun (b71 : Int) => (.ok (decide ((2 : Int) = (2 : Int))))) (fun g => g))))
theorem t_law (nums script : List Int) (hs : S__law_stream ([(eL PyData.int) script].map .dat) = .ok (.ml (nums.map .int)) (List.replicate 1 none)) : SpR S_law [(eL PyData.int) script] (T_law nums) (fun (g : Bool) => (vB g)) := by
  refine sp_fun (n := 1) (m := 19) (E := anyE) rfl ?_
  show Gn _ (F_law [some (.dat (.list (script.map PyData.int))), none, none, none, none, none, none, none, none, none, none, none, none, none, none, none, none, none, none]) (T_law nums) _
  unfold F_law T_law
  refine g_stepC0 (ρ2 := fun c_1 => [some (.dat (.list (script.map PyData.int))), some (StV nums c_1), none, none, none, none, none, none, none, none, none, none, none, none, none, none, none, none, none]) (c := 0) (ev_set (pv_cast (w' := StV nums 0) (pv_lst (av_cons (pv_call (n := 1) (av_cons pv_v (h2 := av_nil)) hs) (h2 := av_cons pv_c (h2 := av_nil)))) rfl) rfl) fun c_1 => ?_
  refine g_seqK (E := (fun (b : Int) ρ' => ∃ z3 z4 z5 z6 z7 z8 z9 z10 z11 z12 z13 z14 z15 z16 z2 : Option Vl, ρ' = [some (.dat (.list (script.map PyData.int))), some (StV nums b), z2, z3, z4, z5, z6, z7, z8, z9, z10, z11, z12, z13, z14, z15, z16, none, none])) (Er := (fRt (fun (g : Bool) => (vB g)) anyE)) (ev_forF (xs := (irange 0 (4 : Int))) (ι := PyData.int) (Inv := (fun (b : Int) ρ' => ∃ z3 z4 z5 z6 z7 z8 z9 z10 z11 z12 z13 z14 z15 z16 z2 : Option Vl, ρ' = [some (.dat (.list (script.map PyData.int))), some (StV nums b), z2, z3, z4, z5, z6, z7, z8, z9, z10, z11, z12, z13, z14, z15, z16, none, none])) fRt_ret (iv_r1 (al_cons pv_c al_nil) (by decide)) ⟨_, _, _, _, _, _, _, _, _, _, _, _, _, _, _, rfl⟩ ?_) fRt_ret (forF_noB _ _) (fun _ _ _ h => h) ?_
  · rintro turn2 hx b3 ρ' ⟨z3, z4, z5, z6, z7, z8, z9, z10, z11, z12, z13, z14, z15, z16, z2, rfl⟩
    refine ⟨[some (.dat (.list (script.map PyData.int))), some (StV nums b3), some (vI turn2), z3, z4, z5, z6, z7, z8, z9, z10, z11, z12, z13, z14, z15, z16, none, none], rfl, ?_⟩
    refine g_gd fun hg4 => ?_
    refine g_stepC (ρ2 := fun prime5 c_6 => [some (.dat (.list (script.map PyData.int))), some (StV nums c_6), some (vI turn2), some (vI prime5), z4, z5, z6, z7, z8, z9, z10, z11, z12, z13, z14, z15, z16, none, none]) (ev_set (pv_bin (pv_lstS (xs := ([(5 : Int), (7 : Int), (11 : Int), (13 : Int)] : List Int)) (e := PyData.int) (av_cons pv_c (h2 := (av_cons pv_c (h2 := (av_cons pv_c (h2 := (av_cons pv_c (h2 := av_nil)))))))) (Nat.le_of_ble_eq_true rfl) rfl) (Pv.lk (pv_callS (n := 1) (j := 1) (h1 := (av_cons pv_c (h2 := av_nil))) (hs := nxt_call (hg4.1)))) (y_ix (xs := ([(5 : Int), (7 : Int), (11 : Int), (13 : Int)] : List Int)) (e := PyData.int) (hg4.2))) rfl) fun prime5 c_6 => ?_
    refine g_gd fun hg7 => ?_
    refine g_stepC (ρ2 := fun most8 c_9 => [some (.dat (.list (script.map PyData.int))), some (StV nums c_9), some (vI turn2), some (vI prime5), some (vI most8), z5, z6, z7, z8, z9, z10, z11, z12, z13, z14, z15, z16, none, none]) (ev_set (pv_Z (pv_callS (n := 1) (j := 1) (h1 := (av_cons (pv_bin pv_c (Pv.lk (pv_callB (al_cons (pv_bin pv_v (Pv.lk pv_c) y_lt) al_nil) y_intB)) y_add) (h2 := av_nil))) (hs := nxt_call hg7))) rfl) fun most8 c_9 => ?_
    refine g_gd fun hg10 => ?_
    refine g_stepC (ρ2 := fun wrong11 c_12 => [some (.dat (.list (script.map PyData.int))), some (StV nums c_12), some (vI turn2), some (vI prime5), some (vI most8), some (vI wrong11), z6, z7, z8, z9, z10, z11, z12, z13, z14, z15, z16, none, none]) (ev_set (pv_Z (pv_callS (n := 1) (j := 1) (h1 := (av_cons pv_c (h2 := av_nil))) (hs := nxt_call hg10))) rfl) fun wrong11 c_12 => ?_
    refine g_gd fun hg13 => ?_
    refine g_stepC (ρ2 := fun many14 c_15 => [some (.dat (.list (script.map PyData.int))), some (StV nums c_15), some (vI turn2), some (vI prime5), some (vI most8), some (vI wrong11), some (vI many14), z7, z8, z9, z10, z11, z12, z13, z14, z15, z16, none, none]) (ev_set (pv_callB (al_cons pv_v (al_cons (pv_bin (pv_bin pv_v (Pv.lk (pv_bin pv_c (Pv.lk pv_v) (y_mul (hg13.1)))) y_add) (Pv.lk (pv_callS (n := 1) (j := 1) (h1 := (av_cons pv_c (h2 := av_nil))) (hs := nxt_call (hg13.2)))) y_add) al_nil)) y_2I) rfl) fun many14 c_15 => ?_
    refine g_gd fun hg16 => ?_
    refine g_ifJ (E := (fun (b : Int) ρ' => ρ' = [some (.dat (.list (script.map PyData.int))), some (StV nums c_15), some (vI turn2), some (vI prime5), some (vI most8), some (vI b), some (vI many14), z7, z8, z9, z10, z11, z12, z13, z14, z15, z16, none, none])) ?_ ?_
    · refine g_one ?_
      refine g_if (tv_bo (Pv.lk (pv_bin pv_v (Pv.lk (pv_bin pv_v (Pv.lk (pv_bin pv_c (Pv.lk pv_v) (y_mul hg16))) y_add)) y_lt))) (fun hk => ?_) (fun hk => ?_)
      · skip
        refine g_stepL (ρ2 := fun wrong17 => [some (.dat (.list (script.map PyData.int))), some (StV nums c_15), some (vI turn2), some (vI prime5), some (vI most8), some (vI wrong17), some (vI many14), z7, z8, z9, z10, z11, z12, z13, z14, z15, z16, none, none]) (ev_set pv_c rfl) fun wrong17 => ?_
        exact g_nx rfl
      · skip
        refine g_skip ?_
        exact g_nx rfl
    · rintro b18 ρ' rfl
      refine g_gd fun hg22 => ?_
      refine g_stepC (ρ2 := fun numbers23 c_24 => [some (.dat (.list (script.map PyData.int))), some (StV nums c_24), some (vI turn2), some (vI prime5), some (vI most8), some (vI b18), some (vI many14), some (.dat (.list (numbers23.map PyData.int))), z8, z9, z10, z11, z12, z13, z14, z15, z16, none, none]) (ev_set (pv_Z (pv_mapC (G := fun k19 c_20 => (nxG nums c_20 prime5)) (v := (fun (k19 : Int) (c_20 : Int) => ((nxt nums c_20 prime5), (c_20 + 1)))) (en := PyData.int) (rc := (fun c => [some (.dat (.list (script.map PyData.int))), some (StV nums c), some (vI turn2), some (vI prime5), some (vI most8), some (vI b18), some (vI many14), z7, z8, z9, z10, z11, z12, z13, z14, z15, z16, none, none])) (c0 := c_15) (xs := (irange 0 most8)) (iv_r1 (al_cons pv_v al_nil) (hg22.1)) (hg22.2.1) (hg22.2.2) (fun k19 _ c_20 hk21 => ⟨[some (.dat (.list (script.map PyData.int))), some (StV nums c_20), some (vI turn2), some (vI prime5), some (vI most8), some (vI b18), some (vI many14), z7, z8, some (vI k19), z10, z11, z12, z13, z14, z15, z16, none, none], [some (.dat (.list (script.map PyData.int))), some (StV nums (c_20 + 1)), some (vI turn2), some (vI prime5), some (vI most8), some (vI b18), some (vI many14), z7, z8, some (vI k19), z10, z11, z12, z13, z14, z15, z16, none, none], _, rfl, (pv_callS (n := 1) (j := 1) (h1 := (av_cons pv_v (h2 := av_nil))) (hs := nxt_call hk21)), rfl, (by rfl)⟩) (fun c ρ' hw => restC hw rfl))) rfl) fun numbers23 c_24 => ?_
      refine g_gd fun hg25 => ?_
      refine g_stepL (ρ2 := fun firsts26 => [some (.dat (.list (script.map PyData.int))), some (StV nums c_24), some (vI turn2), some (vI prime5), some (vI most8), some (vI b18), some (vI many14), some (.dat (.list (numbers23.map PyData.int))), some (.ml (firsts26.map PyData.int)), z9, z10, z11, z12, z13, z14, z15, z16, none, none]) (ev_set (pv_una (Pv.lk pv_v) (y_lstR1 hg25)) rfl) fun firsts26 => ?_
      refine g_gd fun hg27 => ?_
      refine g_seqJ (E := (fun (b : (List Int) × Int) ρ' => ∃ z9 : Option Vl, ρ' = [some (.dat (.list (script.map PyData.int))), some (StV nums b.2), some (vI turn2), some (vI prime5), some (vI most8), some (vI b18), some (vI many14), some (.dat (.list (numbers23.map PyData.int))), some (.ml (b.1.map PyData.int)), z9, z10, z11, z12, z13, z14, z15, z16, none, none])) (ev_for (xs := (irange 0 (prime5 - many14))) (ι := PyData.int) (Inv := (fun (b : (List Int) × Int) ρ' => ∃ z9 : Option Vl, ρ' = [some (.dat (.list (script.map PyData.int))), some (StV nums b.2), some (vI turn2), some (vI prime5), some (vI most8), some (vI b18), some (vI many14), some (.dat (.list (numbers23.map PyData.int))), some (.ml (b.1.map PyData.int)), z9, z10, z11, z12, z13, z14, z15, z16, none, none])) (iv_r1 (al_cons (pv_bin pv_v (Pv.lk pv_v) y_sub) al_nil) hg27) ⟨_, rfl⟩ ?_) ?_
      · rintro k28 hx b29 ρ' ⟨z9, rfl⟩
        refine ⟨[some (.dat (.list (script.map PyData.int))), some (StV nums b29.2), some (vI turn2), some (vI prime5), some (vI most8), some (vI b18), some (vI many14), some (.dat (.list (numbers23.map PyData.int))), some (.ml (b29.1.map PyData.int)), some (vI k28), z10, z11, z12, z13, z14, z15, z16, none, none], rfl, ?_⟩
        refine g_one ?_
        refine g_gd fun hg30 => ?_
        refine g_stepC (ρ2 := fun firsts31 c_32 => [some (.dat (.list (script.map PyData.int))), some (StV nums c_32), some (vI turn2), some (vI prime5), some (vI most8), some (vI b18), some (vI many14), some (.dat (.list (numbers23.map PyData.int))), some (.ml (firsts31.map PyData.int)), some (vI k28), z10, z11, z12, z13, z14, z15, z16, none, none]) (ev_popA (xs := b29.1) (e := PyData.int) (pv_callS (n := 1) (j := 1) (h1 := (av_cons (pv_callB (al_consL pl_v al_nil) (y_len (xs := b29.1) (e := PyData.int))) (h2 := av_nil))) (hs := nxt_call (hg30.1))) (hg30.2) (hr := by rfl)) fun firsts31 c_32 => ?_
        exact g_lp ⟨_, rfl⟩
      · rintro b33 ρ' ⟨z9, rfl⟩
        refine g_gd fun hg36 => ?_
        refine g_stepL (ρ2 := fun values37 => [some (.dat (.list (script.map PyData.int))), some (StV nums b33.2), some (vI turn2), some (vI prime5), some (vI most8), some (vI b18), some (vI many14), some (.dat (.list (numbers23.map PyData.int))), some (.ml (b33.1.map PyData.int)), z9, some (.ml (values37.map PyData.int)), z11, z12, z13, z14, z15, z16, none, none]) (ev_set (pv_frz (i := 8) (ρh := [some (.dat (.list (script.map PyData.int))), none, some (vI turn2), some (vI prime5), some (vI most8), some (vI b18), some (vI many14), some (.dat (.list (numbers23.map PyData.int))), some (.dat (.list (b33.1.map PyData.int))), (hideV z9), (hideV z10), (hideV z11), (hideV z12), (hideV z13), (hideV z14), (hideV z15), (hideV z16), none, none]) (pv_map (v := fun (first_34 : Int) => (lawValueL prime5 numbers23 first_34)) (en := PyData.int) (xs := b33.1) (iv_lst pv_v) (hg36.1) (fun first_34 hk35 => ⟨[some (.dat (.list (script.map PyData.int))), none, some (vI turn2), some (vI prime5), some (vI most8), some (vI b18), some (vI many14), some (.dat (.list (numbers23.map PyData.int))), some (.dat (.list (b33.1.map PyData.int))), (hideV z9), (hideV z10), (hideV z11), (hideV z12), (hideV z13), (hideV z14), (hideV z15), (hideV z16), some (vI first_34), none], [some (.dat (.list (script.map PyData.int))), none, some (vI turn2), some (vI prime5), some (vI most8), some (vI b18), some (vI many14), some (.dat (.list (numbers23.map PyData.int))), some (.dat (.list (b33.1.map PyData.int))), (hideV z9), (hideV z10), (hideV z11), (hideV z12), (hideV z13), (hideV z14), (hideV z15), (hideV z16), some (vI first_34), none], _, rfl, (pv_call (n := 3) (av_cons pv_v (h2 := (av_cons pv_v (h2 := (av_cons pv_v (h2 := av_nil)))))) (sp__law_value_L prime5 numbers23 first_34 ((hg36.2) first_34 hk35))), rfl, (by rfl)⟩)) (noLs_map fun _ => rfl)) rfl) fun values37 => ?_
        refine g_gd fun hg38 => ?_
        refine g_seqJ (E := (fun (b : (List Int) × Int) ρ' => ∃ z9 : Option Vl, ρ' = [some (.dat (.list (script.map PyData.int))), some (StV nums b.2), some (vI turn2), some (vI prime5), some (vI most8), some (vI b18), some (vI many14), some (.dat (.list (numbers23.map PyData.int))), some (.ml (b33.1.map PyData.int)), z9, some (.ml (b.1.map PyData.int)), z11, z12, z13, z14, z15, z16, none, none])) (ev_for (xs := (irange 0 ((nxt nums b33.2 (b18 + (2 : Int))) * (bI (decide ((0 : Int) < many14)))))) (ι := PyData.int) (Inv := (fun (b : (List Int) × Int) ρ' => ∃ z9 : Option Vl, ρ' = [some (.dat (.list (script.map PyData.int))), some (StV nums b.2), some (vI turn2), some (vI prime5), some (vI most8), some (vI b18), some (vI many14), some (.dat (.list (numbers23.map PyData.int))), some (.ml (b33.1.map PyData.int)), z9, some (.ml (b.1.map PyData.int)), z11, z12, z13, z14, z15, z16, none, none])) (iv_r1 (al_cons (pv_bin (pv_callS (n := 1) (j := 1) (h1 := (av_cons (pv_bin pv_v (Pv.lk pv_c) y_add) (h2 := av_nil))) (hs := nxt_call (hg38.1))) (Pv.lk (pv_callB (al_cons (pv_bin pv_v (Pv.lk pv_c) y_gt) al_nil) y_intB)) (y_mul (hg38.2.1))) al_nil) (hg38.2.2)) ⟨_, rfl⟩ ?_) ?_
        · rintro k39 hx b40 ρ' ⟨z9, rfl⟩
          refine ⟨[some (.dat (.list (script.map PyData.int))), some (StV nums b40.2), some (vI turn2), some (vI prime5), some (vI most8), some (vI b18), some (vI many14), some (.dat (.list (numbers23.map PyData.int))), some (.ml (b33.1.map PyData.int)), some (vI k39), some (.ml (b40.1.map PyData.int)), z11, z12, z13, z14, z15, z16, none, none], rfl, ?_⟩
          refine g_one ?_
          refine g_gd fun hg41 => ?_
          refine g_stepC (ρ2 := fun values42 c_43 => [some (.dat (.list (script.map PyData.int))), some (StV nums c_43), some (vI turn2), some (vI prime5), some (vI most8), some (vI b18), some (vI many14), some (.dat (.list (numbers23.map PyData.int))), some (.ml (b33.1.map PyData.int)), some (vI k39), some (.ml (values42.map PyData.int)), z11, z12, z13, z14, z15, z16, none, none]) (ev_seti (xs := b40.1) (x := (nxt nums b40.2 prime5)) (e := PyData.int) (pv_callS (n := 1) (j := 1) (h1 := (av_cons pv_v (h2 := av_nil))) (hs := nxt_call (hg41.1))) (pv_callS (n := 1) (j := 1) (h1 := (av_cons pv_v (h2 := av_nil))) (hs := nxt_call (hg41.2.1))) (hg41.2.2) (hr := by rfl)) fun values42 c_43 => ?_
          exact g_lp ⟨_, rfl⟩
        · rintro b44 ρ' ⟨z9, rfl⟩
          refine g_gd fun hg47 => ?_
          refine g_stepL (ρ2 := fun points48 => [some (.dat (.list (script.map PyData.int))), some (StV nums b44.2), some (vI turn2), some (vI prime5), some (vI most8), some (vI b18), some (vI many14), some (.dat (.list (numbers23.map PyData.int))), some (.ml (b33.1.map PyData.int)), z9, some (.ml (b44.1.map PyData.int)), some (.dat (.tuple (points48.map (eP PyData.int PyData.int)))), z12, z13, z14, z15, z16, none, none]) (ev_set (pv_callB (al_cons (pv_map (v := fun (k45 : Int) => ((ix b33.1 k45), (ix b44.1 k45))) (en := (eP PyData.int PyData.int)) (xs := (irange 0 many14)) (iv_r1 (al_cons pv_v al_nil) (hg47.1)) (hg47.2.1) (fun k45 hk46 => ⟨[some (.dat (.list (script.map PyData.int))), some (StV nums b44.2), some (vI turn2), some (vI prime5), some (vI most8), some (vI b18), some (vI many14), some (.dat (.list (numbers23.map PyData.int))), some (.ml (b33.1.map PyData.int)), some (vI k45), some (.ml (b44.1.map PyData.int)), z11, z12, z13, z14, z15, z16, none, none], [some (.dat (.list (script.map PyData.int))), some (StV nums b44.2), some (vI turn2), some (vI prime5), some (vI most8), some (vI b18), some (vI many14), some (.dat (.list (numbers23.map PyData.int))), some (.ml (b33.1.map PyData.int)), some (vI k45), some (.ml (b44.1.map PyData.int)), z11, z12, z13, z14, z15, z16, none, none], _, rfl, (pv_tup (av_cons (pl_bin pl_v (Pv.lk pv_v) (y_ix (xs := b33.1) (e := PyData.int) (((hg47.2.2) k45 hk46).1))) (h2 := (av_cons (pl_bin pl_v (Pv.lk pv_v) (y_ix (xs := b44.1) (e := PyData.int) (((hg47.2.2) k45 hk46).2))) (h2 := av_nil))))), rfl, (by rfl)⟩)) al_nil) (y_tuple (xs := ((irange 0 many14).map fun (k45 : Int) => ((ix b33.1 k45), (ix b44.1 k45)))) (e := (eP PyData.int PyData.int)))) rfl) fun points48 => ?_
          refine g_gd fun hg49 => ?_
          refine g_stepL (ρ2 := fun kept50 => [some (.dat (.list (script.map PyData.int))), some (StV nums b44.2), some (vI turn2), some (vI prime5), some (vI most8), some (vI b18), some (vI many14), some (.dat (.list (numbers23.map PyData.int))), some (.ml (b33.1.map PyData.int)), z9, some (.ml (b44.1.map PyData.int)), some (.dat (.tuple (points48.map (eP PyData.int PyData.int)))), some (.dat (.str kept50)), z13, z14, z15, z16, none, none]) (ev_set (pv_callB (al_cons pv_v al_nil) (y_repr (d := ((eT (eP PyData.int PyData.int)) points48)) ⟨hg49, rfl⟩)) rfl) fun kept50 => ?_
          refine g_stepL (ρ2 := fun good51 => [some (.dat (.list (script.map PyData.int))), some (StV nums b44.2), some (vI turn2), some (vI prime5), some (vI most8), some (vI b18), some (vI many14), some (.dat (.list (numbers23.map PyData.int))), some (.ml (b33.1.map PyData.int)), z9, some (.ml (b44.1.map PyData.int)), some (.dat (.tuple (points48.map (eP PyData.int PyData.int)))), some (.dat (.str kept50)), some (.ml (good51.map (eT PyData.int))), z14, z15, z16, none, none]) (ev_set (pv_lstS (xs := ([] : List (List Int))) (e := (eT PyData.int)) av_nil (Nat.le_of_ble_eq_true rfl) rfl) rfl) fun good51 => ?_
          refine g_gd fun hg52 => ?_
          refine g_seqJ (E := (fun (b : (List (List Int))) ρ' => ∃ z14 : Option Vl, ρ' = [some (.dat (.list (script.map PyData.int))), some (StV nums b44.2), some (vI turn2), some (vI prime5), some (vI most8), some (vI b18), some (vI many14), some (.dat (.list (numbers23.map PyData.int))), some (.ml (b33.1.map PyData.int)), z9, some (.ml (b44.1.map PyData.int)), some (.dat (.tuple (points48.map (eP PyData.int PyData.int)))), some (.dat (.str kept50)), some (.ml (b.map (eT PyData.int))), z14, z15, z16, none, none])) (ev_for (xs := (allSums prime5 most8)) (ι := (eT PyData.int)) (Inv := (fun (b : (List (List Int))) ρ' => ∃ z14 : Option Vl, ρ' = [some (.dat (.list (script.map PyData.int))), some (StV nums b44.2), some (vI turn2), some (vI prime5), some (vI most8), some (vI b18), some (vI many14), some (.dat (.list (numbers23.map PyData.int))), some (.ml (b33.1.map PyData.int)), z9, some (.ml (b44.1.map PyData.int)), some (.dat (.tuple (points48.map (eP PyData.int PyData.int)))), some (.dat (.str kept50)), some (.ml (b.map (eT PyData.int))), z14, z15, z16, none, none])) (iv_ml (pv_call (n := 2) (av_cons pv_v (h2 := (av_cons pv_v (h2 := av_nil)))) (sp__law_all_sums prime5 most8 hg52))) ⟨_, rfl⟩ ?_) ?_
          · rintro row53 hx b54 ρ' ⟨z14, rfl⟩
            refine ⟨[some (.dat (.list (script.map PyData.int))), some (StV nums b44.2), some (vI turn2), some (vI prime5), some (vI most8), some (vI b18), some (vI many14), some (.dat (.list (numbers23.map PyData.int))), some (.ml (b33.1.map PyData.int)), z9, some (.ml (b44.1.map PyData.int)), some (.dat (.tuple (points48.map (eP PyData.int PyData.int)))), some (.dat (.str kept50)), some (.ml (b54.map (eT PyData.int))), some (.dat (.tuple (row53.map PyData.int))), z15, z16, none, none], rfl, ?_⟩
            refine g_one ?_
            refine g_gd fun hg58 => ?_
            refine g_if (tv_bo (Pv.lk (pv_bin (pv_callB (al_cons (pv_fil (p := fun (point55 : Int × Int) => (!decide ((lawValueT prime5 row53 point55.1) = point55.2))) (en := (eP PyData.int PyData.int)) (xs := points48) (iv_tup pv_v) (hg58.1) (fun point55 hk57 => ⟨[some (.dat (.list (script.map PyData.int))), some (StV nums b44.2), some (vI turn2), some (vI prime5), some (vI most8), some (vI b18), some (vI many14), some (.dat (.list (numbers23.map PyData.int))), some (.ml (b33.1.map PyData.int)), z9, some (.ml (b44.1.map PyData.int)), some (.dat (.tuple (points48.map (eP PyData.int PyData.int)))), some (.dat (.str kept50)), some (.ml (b54.map (eT PyData.int))), some (.dat (.tuple (row53.map PyData.int))), z15, z16, none, some (.dat ((eP PyData.int PyData.int) point55))], [some (.dat (.list (script.map PyData.int))), some (StV nums b44.2), some (vI turn2), some (vI prime5), some (vI most8), some (vI b18), some (vI many14), some (.dat (.list (numbers23.map PyData.int))), some (.ml (b33.1.map PyData.int)), z9, some (.ml (b44.1.map PyData.int)), some (.dat (.tuple (points48.map (eP PyData.int PyData.int)))), some (.dat (.str kept50)), some (.ml (b54.map (eT PyData.int))), some (.dat (.tuple (row53.map PyData.int))), z15, z16, none, some (.dat ((eP PyData.int PyData.int) point55))], rfl, rfl, (tv_bo (Pv.lk (pv_bin (pv_call (n := 3) (av_cons pv_v (h2 := (av_cons pv_v (h2 := (av_cons (pv_bin pv_v (Pv.lk pv_c) (y_ixF (ds := [PyData.int point55.1, PyData.int point55.2]))) (h2 := av_nil)))))) (sp__law_value_T prime5 row53 point55.1 ((hg58.2) point55 hk57))) (Pv.lk (pv_bin pv_v (Pv.lk pv_c) (y_ixF (ds := [PyData.int point55.1, PyData.int point55.2])))) (y_ne (e := PyData.int) (x := (lawValueT prime5 row53 point55.1)) (y := point55.2) cod_int)))), fun hk56 => ⟨_, pv_v, rfl, (by rfl)⟩⟩)) al_nil) (y_len (xs := (points48.filter fun (point55 : Int × Int) => (!decide ((lawValueT prime5 row53 point55.1) = point55.2)))) (e := (eP PyData.int PyData.int)))) (Pv.lk pv_v) y_le))) (fun hk => ?_) (fun hk => ?_)
            · skip
              refine g_gd fun hg59 => ?_
              refine g_stepL (ρ2 := fun good60 => [some (.dat (.list (script.map PyData.int))), some (StV nums b44.2), some (vI turn2), some (vI prime5), some (vI most8), some (vI b18), some (vI many14), some (.dat (.list (numbers23.map PyData.int))), some (.ml (b33.1.map PyData.int)), z9, some (.ml (b44.1.map PyData.int)), some (.dat (.tuple (points48.map (eP PyData.int PyData.int)))), some (.dat (.str kept50)), some (.ml (good60.map (eT PyData.int))), some (.dat (.tuple (row53.map PyData.int))), z15, z16, none, none]) (ev_app (xs := b54) (x := (lawCut row53)) (e := (eT PyData.int)) (pv_call (n := 1) (av_cons pv_v (h2 := av_nil)) (sp__law_cut row53 (hg59.1))) (hg59.2) (hr := by rfl)) fun good60 => ?_
              exact g_lp ⟨_, rfl⟩
            · skip
              refine g_skip ?_
              exact g_lp ⟨_, rfl⟩
          · rintro b61 ρ' ⟨z14, rfl⟩
            refine g_if (tv_bo (Pv.lk (pv_bin (pv_callB (al_consL pl_v al_nil) (y_len (xs := b61) (e := (eT PyData.int)))) (Pv.lk pv_c) y_gt))) (fun hk => ?_) (fun hk => ?_)
            · skip
              exact g_fret (g_ret (wr := (fun (g : Bool) => (vB g))) pv_c trivial)
            · skip
              refine g_skip ?_
              refine g_stepL (ρ2 := fun due62 => [some (.dat (.list (script.map PyData.int))), some (StV nums b44.2), some (vI turn2), some (vI prime5), some (vI most8), some (vI b18), some (vI many14), some (.dat (.list (numbers23.map PyData.int))), some (.ml (b33.1.map PyData.int)), z9, some (.ml (b44.1.map PyData.int)), some (.dat (.tuple (points48.map (eP PyData.int PyData.int)))), some (.dat (.str kept50)), some (.ml (b61.map (eT PyData.int))), z14, some (.dat due62), z16, none, none]) (ev_set pv_c rfl) fun due62 => ?_
              refine g_ifJ (E := (fun (b : PyData) ρ' => ρ' = [some (.dat (.list (script.map PyData.int))), some (StV nums b44.2), some (vI turn2), some (vI prime5), some (vI most8), some (vI b18), some (vI many14), some (.dat (.list (numbers23.map PyData.int))), some (.ml (b33.1.map PyData.int)), z9, some (.ml (b44.1.map PyData.int)), some (.dat (.tuple (points48.map (eP PyData.int PyData.int)))), some (.dat (.str kept50)), some (.ml (b61.map (eT PyData.int))), z14, some (.dat b), z16, none, none])) ?_ ?_
              · refine g_one ?_
                refine g_if (tv_bo (Pv.lk (pv_bin (pv_callB (al_consL pl_v al_nil) (y_len (xs := b61) (e := (eT PyData.int)))) (Pv.lk pv_c) (y_eq (e := PyData.int) (x := (b61.length : Int)) (y := (1 : Int)) cod_int)))) (fun hk => ?_) (fun hk => ?_)
                · skip
                  refine g_gd fun hg63 => ?_
                  refine g_stepL (ρ2 := fun due64 => [some (.dat (.list (script.map PyData.int))), some (StV nums b44.2), some (vI turn2), some (vI prime5), some (vI most8), some (vI b18), some (vI many14), some (.dat (.list (numbers23.map PyData.int))), some (.ml (b33.1.map PyData.int)), z9, some (.ml (b44.1.map PyData.int)), some (.dat (.tuple (points48.map (eP PyData.int PyData.int)))), some (.dat (.str kept50)), some (.ml (b61.map (eT PyData.int))), z14, some (.dat due64), z16, none, none]) (ev_set (pv_tup (av_cons pv_c (h2 := (av_cons (pl_bin pl_v (Pv.lk pv_c) (y_ix (xs := b61) (e := (eT PyData.int)) hg63)) (h2 := av_nil))))) rfl) fun due64 => ?_
                  exact g_nx rfl
                · skip
                  refine g_skip ?_
                  exact g_nx rfl
              · rintro b65 ρ' rfl
                refine g_gd fun hg66 => ?_
                refine g_if (tv_not (tv_tr (Pv.lk (pv_call (n := 2) (av_cons (pv_call (n := 4) (av_cons pv_v (h2 := (av_cons pv_v (h2 := (av_cons pv_v (h2 := (av_cons pv_v (h2 := av_nil)))))))) (sp__law_told prime5 most8 b18 points48 (hg66.1))) (h2 := (av_cons pv_v (h2 := av_nil)))) (same_call (hg66.2)))) rfl)) (fun hk => ?_) (fun hk => ?_)
                · skip
                  exact g_fret (g_ret (wr := (fun (g : Bool) => (vB g))) pv_c trivial)
                · skip
                  refine g_skip ?_
                  refine g_gd fun hg67 => ?_
                  refine g_stepL (ρ2 := fun bad68 => [some (.dat (.list (script.map PyData.int))), some (StV nums b44.2), some (vI turn2), some (vI prime5), some (vI most8), some (vI b18), some (vI many14), some (.dat (.list (numbers23.map PyData.int))), some (.ml (b33.1.map PyData.int)), z9, some (.ml (b44.1.map PyData.int)), some (.dat (.tuple (points48.map (eP PyData.int PyData.int)))), some (.dat (.str kept50)), some (.ml (b61.map (eT PyData.int))), z14, some (.dat b65), some (.dat (.list (bad68.map idD))), none, none]) (ev_set (pv_Z (pv_lstS (xs := ([(toldV prime5 most8 (3 : Int) points48), (toldV prime5 (-(1 : Int)) b18 points48), (toldV prime5 (prime5 + (1 : Int)) (0 : Int) points48), (toldV prime5 most8 b18 (points48.reverse ++ ([(prime5, (0 : Int))] : List (Int × Int)))), (toldV prime5 (most8 + (1 : Int)) b18 (cutD points48 none (some (most8 + ((2 : Int) * b18))))), (toldV (prime5 + (1 : Int)) most8 b18 points48), (toldV prime5 most8 (-(1 : Int)) points48)] : List PyData)) (e := idD) (av_cons (pv_call (n := 4) (av_cons pv_v (h2 := (av_cons pv_v (h2 := (av_cons pv_c (h2 := (av_cons pv_v (h2 := av_nil)))))))) (sp__law_told prime5 most8 (3 : Int) points48 (hg67.1))) (h2 := (av_cons (pv_call (n := 4) (av_cons pv_v (h2 := (av_cons (pv_una (Pv.lk pv_c) y_neg) (h2 := (av_cons pv_v (h2 := (av_cons pv_v (h2 := av_nil)))))))) (sp__law_told prime5 (-(1 : Int)) b18 points48 (hg67.2.1))) (h2 := (av_cons (pv_call (n := 4) (av_cons pv_v (h2 := (av_cons (pv_bin pv_v (Pv.lk pv_c) y_add) (h2 := (av_cons pv_c (h2 := (av_cons pv_v (h2 := av_nil)))))))) (sp__law_told prime5 (prime5 + (1 : Int)) (0 : Int) points48 (hg67.2.2.1))) (h2 := (av_cons (pv_call (n := 4) (av_cons pv_v (h2 := (av_cons pv_v (h2 := (av_cons pv_v (h2 := (av_cons (pv_bin (pv_una (Pv.lk pv_v) (y_revT (xs := points48) (e := (eP PyData.int PyData.int)))) (Pv.lk (pv_tupS (xs := ([(prime5, (0 : Int))] : List (Int × Int))) (e := (eP PyData.int PyData.int)) (av_cons (pv_tup (av_cons pv_v (h2 := (av_cons pv_c (h2 := av_nil))))) (h2 := av_nil)) (Nat.le_of_ble_eq_true rfl) rfl)) (y_catT (xs := points48.reverse) (ys := ([(prime5, (0 : Int))] : List (Int × Int))) (e := (eP PyData.int PyData.int)) (hg67.2.2.2.1))) (h2 := av_nil)))))))) (sp__law_told prime5 most8 b18 (points48.reverse ++ ([(prime5, (0 : Int))] : List (Int × Int))) (hg67.2.2.2.2.1))) (h2 := (av_cons (pv_call (n := 4) (av_cons pv_v (h2 := (av_cons (pv_bin pv_v (Pv.lk pv_c) y_add) (h2 := (av_cons pv_v (h2 := (av_cons (pv_sl (Pv.lk pv_v) sv_no (sv_so (Pv.lk (pv_bin pv_v (Pv.lk (pv_bin pv_c (Pv.lk pv_v) (y_mul (hg67.2.2.2.2.2.1)))) y_add))) (y_slT (xs := points48) (e := (eP PyData.int PyData.int)))) (h2 := av_nil)))))))) (sp__law_told prime5 (most8 + (1 : Int)) b18 (cutD points48 none (some (most8 + ((2 : Int) * b18)))) (hg67.2.2.2.2.2.2.1))) (h2 := (av_cons (pv_call (n := 4) (av_cons (pv_bin pv_v (Pv.lk pv_c) y_add) (h2 := (av_cons pv_v (h2 := (av_cons pv_v (h2 := (av_cons pv_v (h2 := av_nil)))))))) (sp__law_told (prime5 + (1 : Int)) most8 b18 points48 (hg67.2.2.2.2.2.2.2.1))) (h2 := (av_cons (pv_call (n := 4) (av_cons pv_v (h2 := (av_cons pv_v (h2 := (av_cons (pv_una (Pv.lk pv_c) y_neg) (h2 := (av_cons pv_v (h2 := av_nil)))))))) (sp__law_told prime5 most8 (-(1 : Int)) points48 (hg67.2.2.2.2.2.2.2.2))) (h2 := av_nil)))))))))))))) (Nat.le_of_ble_eq_true rfl) rfl)) rfl) fun bad68 => ?_
                  refine g_one ?_
                  refine g_gd fun hg70 => ?_
                  refine g_if (tv_or (tv_bo (Pv.lk (pv_bin pv_v (Pv.lk (pv_bin (pv_lstS (xs := ([("refused" : PySem.Str)] : List PySem.Str)) (e := PyData.str) (av_cons pv_c (h2 := av_nil)) (Nat.le_of_ble_eq_true rfl) rfl) (Pv.lk pv_c) (y_repL (xs := ([("refused" : PySem.Str)] : List PySem.Str)) (e := PyData.str) (hg70.1)))) (y_neD (d := ((eL idD) bad68)) (d' := ((eL PyData.str) ((List.replicate (7 : Int).toNat ([("refused" : PySem.Str)] : List PySem.Str)).flatten))) (h := (hg70.2.1)))))) (fun hk69 => (tv_bo (Pv.lk (pv_bin (pv_callB (al_cons pv_v al_nil) (y_repr (d := ((eT (eP PyData.int PyData.int)) points48)) ⟨((hg70.2.2) hk69), rfl⟩)) (Pv.lk pv_v) y_neS))))) (fun hk => ?_) (fun hk => ?_)
                  · skip
                    exact g_fret (g_ret (wr := (fun (g : Bool) => (vB g))) pv_c trivial)
                  · skip
                    refine g_skip ?_
                    exact g_fn ⟨_, _, _, _, _, _, _, _, _, _, _, _, _, _, _, rfl⟩
  · rintro b71 ρ' ⟨z3, z4, z5, z6, z7, z8, z9, z10, z11, z12, z13, z14, z15, z16, z2, rfl⟩
    refine g_one ?_
    exact (g_ret (wr := (fun (g : Bool) => (vB g))) (pv_bin pv_c (Pv.lk pv_c) (y_eq (e := PyData.int) (x := (2 : Int)) (y := (2 : Int)) cod_int)) trivial)

end K49
end
section
set_option Elab.async false
set_option linter.all false
set_option maxRecDepth 100000
/-! En: a twin ends with a value that has a property -/
namespace Mi
open PySem
open PySem.PyData (strOk)
def Ends {α : Type} (P : α → Prop) (r : R α) : Prop := ∃ a, r = .ok a ∧ P a
section
variable {α β γ δ : Type} {P Q : α → Prop} {r t : R α} {p : Prop}
theorem en_gd (h : p) (e : Ends P r) : Ends P (gdR p r) := by rw [gdR_pos h]; exact e
theorem en_let {a a' : β} {k : β → R α} (e : a = a') (h : Ends P (k a')) : Ends P (letR a k) := by subst e; exact h
theorem en_letG {a : β} {k : β → R α} (h : ∀ x, x = a → Ends P (k x)) : Ends P (letR a k) := h a rfl
theorem en_ifn [Decidable p] (h : ¬ p) (e : Ends P t) : Ends P (if p then r else t) := by rw [if_neg h]; exact e
theorem en_ifp [Decidable p] (h : p) (e : Ends P r) : Ends P (if p then r else t) := by rw [if_pos h]; exact e
theorem en_if [Decidable p] (h : p → Ends P r) (e : ¬ p → Ends P t) : Ends P (if p then r else t) := by
  by_cases q : p
  · rw [if_pos q]; exact h q
  · rw [if_neg q]; exact e q
theorem en_ok {a : α} (h : P a) : Ends P (.ok a) := ⟨a, rfl, h⟩
theorem en_mono (h : Ends Q r) (i : ∀ a, Q a → P a) : Ends P r := by
  obtain ⟨a, e, q⟩ := h
  exact ⟨a, e, i a q⟩
theorem en_bind {r : R β} {B : β → Prop} {k : β → R α} (h : Ends B r) (h2 : ∀ b, B b → Ends P (k b)) : Ends P (r.bind k) := by
  obtain ⟨b, e, q⟩ := h
  rw [e]; exact h2 b q
theorem en_bindE {r : R β} {b : β} {k : β → R α} (e : r = .ok b) (h : Ends P (k b)) : Ends P (r.bind k) := by rw [e]; exact h
theorem Ends.eq {a : α} (h : Ends (fun x => x = a) r) : r = .ok a := by
  obtain ⟨b, e, q⟩ := h
  rw [e, q]
theorem Ends.good (h : Ends P r) : r.good := by
  obtain ⟨b, e, q⟩ := h
  exact ⟨b, e⟩
theorem Ends.get [Inhabited α] (h : Ends P r) : r = .ok r.get ∧ P r.get := by
  obtain ⟨b, e, q⟩ := h
  subst e
  exact ⟨rfl, q⟩
theorem get_ok [Inhabited α] {a : α} (e : r = .ok a) : r.get = a := by subst e; rfl
theorem good_ok {a : α} (e : r = .ok a) : r.good := ⟨a, e⟩
theorem en_forR {f : δ → β → R β} {xs : List δ} {b0 : β} {k : β → R α} (I : Nat → β → Prop) (h : I 0 b0) (st : ∀ (j : Nat) (x : δ) (b : β), xs[j]? = some x → I j b → Ends (fun b' => I (j + 1) b') (f x b)) (h2 : ∀ b, I xs.length b → Ends P (k b)) : Ends P ((forR f xs b0).bind k) := by
  obtain ⟨b, e, q⟩ := forR_inv (f := f) I h fun j x b hx hI => st j x b hx hI
  rw [e]; exact h2 b q
theorem en_forR' {f : δ → β → R β} {xs : List δ} {b0 : β} (I : Nat → β → Prop) (h : I 0 b0) (st : ∀ (j : Nat) (x : δ) (b : β), xs[j]? = some x → I j b → Ends (fun b' => I (j + 1) b') (f x b)) : Ends (fun b => I xs.length b) (forR f xs b0) := forR_inv (f := f) I h fun j x b hx hI => st j x b hx hI
/-- by what was walked and what is left -/
theorem en_forRs {f : δ → β → R β} {xs : List δ} {b0 : β} {k : β → R α} (I : List δ → β → Prop) (h : I [] b0) (st : ∀ (ps : List δ) (x : δ) (qs : List δ) (b : β), xs = ps ++ x :: qs → I ps b → Ends (fun b' => I (ps ++ [x]) b') (f x b)) (h2 : ∀ b, I xs b → Ends P (k b)) : Ends P ((forR f xs b0).bind k) := by
  refine en_forR (fun j b => I (xs.take j) b) (by simpa using h) (fun j x b hx hI => ?_) fun b hI => h2 b (by simpa using hI)
  have hj : j < xs.length := by
    rcases Nat.lt_or_ge j xs.length with g | g
    · exact g
    · rw [List.getElem?_eq_none g] at hx; cases hx
  have hx' : xs[j] = x := by rw [List.getElem?_eq_getElem hj] at hx; exact Option.some.inj hx
  have e : xs.take (j + 1) = xs.take j ++ [x] := by rw [List.take_succ_eq_append_getElem hj, hx']
  show Ends (fun b' => I (xs.take (j + 1)) b') (f x b)
  rw [e]
  refine st (xs.take j) x (xs.drop (j + 1)) b ?_ hI
  rw [← hx']
  conv => lhs; rw [← List.take_append_drop j xs]
  rw [List.drop_eq_getElem_cons hj]
/-- a loop with ways out -/
def FlP (N B : β → Prop) (G : γ → Prop) : Fl β γ → Prop
  | .nx b => N b
  | .ct b => N b
  | .bk b => B b
  | .ret g => G g
theorem forF_go {f : δ → β → R (Fl β γ)} (I : Nat → β → Prop) (B : β → Prop) (G : γ → Prop) : ∀ (xs : List δ) (k : Nat) (b : β), I k b → (∀ (j : Nat) (x : δ) (b : β), xs[j]? = some x → I (k + j) b → Ends (FlP (fun b' => I (k + j + 1) b') B G) (f x b)) → Ends (FlP (fun b' => I (k + xs.length) b' ∨ B b') (fun _ => False) G) (forF f xs b)
  | [], k, b, h, _ => ⟨_, rfl, .inl h⟩
  | x :: xs, k, b, h, st => by
    obtain ⟨z, e, hz⟩ := st 0 x b rfl h
    have go : ∀ b', I (k + 1) b' → Ends (FlP (fun b' => I (k + (x :: xs).length) b' ∨ B b') (fun _ => False) G) (forF f xs b') := fun b' h' => by
      have := forF_go I B G xs (k + 1) b' h' fun j y b hy hI => by
        have := st (j + 1) y b (by simpa using hy) (by rw [show k + (j + 1) = k + 1 + j by omega]; exact hI)
        rwa [show k + (j + 1) = k + 1 + j by omega] at this
      rwa [show k + 1 + xs.length = k + (x :: xs).length by simp; omega] at this
    show Ends _ ((f x b).bind _)
    rw [e]
    cases z with
    | nx b' => exact go b' hz
    | ct b' => exact go b' hz
    | bk b' => exact ⟨_, rfl, .inr hz⟩
    | ret g => exact ⟨_, rfl, hz⟩
theorem en_forF {f : δ → β → R (Fl β γ)} {xs : List δ} {b0 : β} {k : β → R α} {hr : γ → α} (I : Nat → β → Prop) (B : β → Prop) (G : γ → Prop) (h : I 0 b0) (st : ∀ (j : Nat) (x : δ) (b : β), xs[j]? = some x → I j b → Ends (FlP (fun b' => I (j + 1) b') B G) (f x b)) (h2 : ∀ b, I xs.length b ∨ B b → Ends P (k b)) (h3 : ∀ g, G g → P (hr g)) : Ends P ((forF f xs b0).bind (flK k hr)) := by
  obtain ⟨z, e, hz⟩ := forF_go (f := f) I B G xs 0 b0 h fun j x b hx hI => by
    have := st j x b hx (by simpa using hI)
    simpa using this
  rw [e]
  cases z with
  | nx b => exact h2 b (by simpa [FlP] using hz)
  | ct b => exact h2 b (by simpa [FlP] using hz)
  | bk b => exact hz.elim
  | ret g => exact ⟨_, rfl, h3 g hz⟩
/-- without ways out -/
theorem en_forFn {f : δ → β → R (Fl β γ)} {xs : List δ} {b0 : β} {k : β → R α} {hr : γ → α} (I : Nat → β → Prop) (h : I 0 b0) (st : ∀ (j : Nat) (x : δ) (b : β), xs[j]? = some x → I j b → Ends (FlP (fun b' => I (j + 1) b') (fun _ => False) (fun _ => False)) (f x b)) (h2 : ∀ b, I xs.length b → Ends P (k b)) : Ends P ((forF f xs b0).bind (flK k hr)) :=
  en_forF I (fun _ => False) (fun _ => False) h st (fun b hb => h2 b (hb.elim id False.elim)) fun _ z => z.elim
theorem en_nx {N B : β → Prop} {G : γ → Prop} {b : β} (h : N b) : Ends (FlP N B G) (.ok (.nx b)) := ⟨_, rfl, h⟩
theorem en_ct {N B : β → Prop} {G : γ → Prop} {b : β} (h : N b) : Ends (FlP N B G) (.ok (.ct b)) := ⟨_, rfl, h⟩
theorem en_bk {N B : β → Prop} {G : γ → Prop} {b : β} (h : B b) : Ends (FlP N B G) (.ok (.bk b)) := ⟨_, rfl, h⟩
theorem en_ret {N B : β → Prop} {G : γ → Prop} {g : γ} (h : G g) : Ends (FlP N B G) (.ok (.ret g)) := ⟨_, rfl, h⟩
/-- while, with ways out, by a measure -/
theorem whF_go {c : β → R Bool} {f : β → R (Fl β γ)} (I : Nat → β → Prop) (B : β → Prop) (G : γ → Prop) (st : ∀ (m : Nat) (b : β), I m b → Ends (fun t => (t = false → B b) ∧ (t = true → Ends (FlP (fun b' => ∃ m', m' < m ∧ I m' b') B G) (f b))) (c b)) {m : Nat} {b : β} (h : I m b) : Ends (FlP B (fun _ => False) G) (whF c f b) := by
  have go : ∀ (m : Nat) (b : β), I m b → ∃ k z, whN' c f k b = .ok z ∧ FlP B (fun _ => False) G z := by
    intro m
    induction m using Nat.strongRecOn with
    | ind m ih =>
      intro b h
      obtain ⟨t, e1, h1, h2⟩ := st m b h
      cases t with
      | false =>
        refine ⟨1, .nx b, ?_, h1 rfl⟩
        show (c b).bind _ = _
        rw [e1]; rfl
      | true =>
        obtain ⟨z, e2, hz⟩ := h2 rfl
        cases z with
        | nx b1 =>
          obtain ⟨m', lt, i2⟩ := hz
          obtain ⟨k, z', e3, p3⟩ := ih m' lt b1 i2
          refine ⟨k + 1, z', ?_, p3⟩
          show (c b).bind _ = _
          rw [e1, R.ok_bind, if_pos rfl, e2]; exact e3
        | ct b1 =>
          obtain ⟨m', lt, i2⟩ := hz
          obtain ⟨k, z', e3, p3⟩ := ih m' lt b1 i2
          refine ⟨k + 1, z', ?_, p3⟩
          show (c b).bind _ = _
          rw [e1, R.ok_bind, if_pos rfl, e2]; exact e3
        | bk b1 =>
          refine ⟨1, .nx b1, ?_, hz⟩
          show (c b).bind _ = _
          rw [e1, R.ok_bind, if_pos rfl, e2]; rfl
        | ret g =>
          refine ⟨1, .ret g, ?_, hz⟩
          show (c b).bind _ = _
          rw [e1, R.ok_bind, if_pos rfl, e2]; rfl
  obtain ⟨k, z, e, p⟩ := go m b h
  exact ⟨z, whF_eq e (fun z => nomatch z), p⟩
theorem en_whF {c : β → R Bool} {f : β → R (Fl β γ)} {b0 : β} {k : β → R α} {hr : γ → α} (I : Nat → β → Prop) (B : β → Prop) (G : γ → Prop) (m : Nat) (h : I m b0) (st : ∀ (m : Nat) (b : β), I m b → Ends (fun t => (t = false → B b) ∧ (t = true → Ends (FlP (fun b' => ∃ m', m' < m ∧ I m' b') B G) (f b))) (c b)) (h2 : ∀ b, B b → Ends P (k b)) (h3 : ∀ g, G g → P (hr g)) : Ends P ((whF c f b0).bind (flK k hr)) := by
  obtain ⟨z, e, hz⟩ := whF_go I B G st h
  rw [e]
  cases z with
  | nx b => exact h2 b hz
  | ct b => exact h2 b hz
  | bk b => exact hz.elim
  | ret g => exact ⟨_, rfl, h3 g hz⟩
end
/-- joins with ways out -/
def SmP {β α : Type} (B : β → Prop) (P : α → Prop) : β ⊕ α → Prop
  | .inl b => B b
  | .inr d => P d
section
variable {α β : Type} {P : α → Prop}
theorem en_sm {r : R (β ⊕ α)} {tk : β → R α} (B : β → Prop) (h : Ends (SmP B P) r) (h2 : ∀ b, B b → Ends P (tk b)) : Ends P (r.bind (smK tk)) := by
  obtain ⟨z, e, hz⟩ := h
  rw [e]
  cases z with
  | inl b => exact h2 b hz
  | inr d => exact ⟨d, rfl, hz⟩
theorem en_inl {B : β → Prop} {b : β} (h : B b) : Ends (SmP B P) (.ok (Sum.inl b)) := ⟨_, rfl, h⟩
theorem en_inr {B : β → Prop} {d : α} (h : P d) : Ends (SmP B P) (.ok (Sum.inr d)) := ⟨_, rfl, h⟩
end
/-! ### lists of draws -/
section
variable {α β : Type}
theorem mapC_inv {f : α → Int → β × Int} {G : α → Int → Prop} (I : α → β → Prop) (k : Nat) : ∀ (xs : List α) (c : Int), (∀ x ∈ xs, ∀ c', c ≤ c' → c' ≤ c + k * xs.length → G x c' ∧ I x (f x c').1 ∧ c' ≤ (f x c').2 ∧ (f x c').2 ≤ c' + k) →
    allC G (fun x c => (f x c).2) xs c ∧ (∀ y ∈ (mapC f xs c).1, ∃ x ∈ xs, I x y) ∧ (mapC f xs c).1.length = xs.length ∧ c ≤ (mapC f xs c).2 ∧ (mapC f xs c).2 ≤ c + k * xs.length
  | [], c, _ => ⟨trivial, (fun _ h => nomatch h), rfl, Int.le_refl _, by simp [mapC]⟩
  | x :: xs, c, h => by
    have e : ((k : Int) * (x :: xs).length) = k * xs.length + k := by
      rw [List.length_cons, Int.natCast_add, Int.mul_add]; simp
    have nn : (0 : Int) ≤ (k : Int) * xs.length := Int.mul_nonneg (Int.natCast_nonneg _) (Int.natCast_nonneg _)
    obtain ⟨h1, h2, h3, h4⟩ := h x (by simp) c (Int.le_refl _) (by omega)
    obtain ⟨i1, i2, i3, i4, i5⟩ := mapC_inv I k xs (f x c).2 fun y hy c' a b => h y (List.mem_cons_of_mem _ hy) c' (by omega) (by omega)
    refine ⟨⟨h1, i1⟩, fun y hy => ?_, ?_, ?_, ?_⟩
    · rcases List.mem_cons.mp hy with rfl | hy
      · exact ⟨x, by simp, h2⟩
      · obtain ⟨z, hz, q⟩ := i2 y hy
        exact ⟨z, List.mem_cons_of_mem _ hz, q⟩
    · show (mapC f xs (f x c).2).1.length + 1 = _
      rw [i3]; rfl
    · show c ≤ (mapC f xs (f x c).2).2
      omega
    · show (mapC f xs (f x c).2).2 ≤ _
      omega
theorem filterC_inv {p : α → Int → Bool × Int} {v : α → β} {G : α → Int → Prop} (k : Nat) : ∀ (xs : List α) (c : Int), (∀ x ∈ xs, ∀ c', c ≤ c' → c' ≤ c + k * xs.length → G x c' ∧ c' ≤ (p x c').2 ∧ (p x c').2 ≤ c' + k) →
    allC G (fun x c => (p x c).2) xs c ∧ (∃ l : List α, l.Sublist xs ∧ (filterC p v xs c).1 = l.map v) ∧ c ≤ (filterC p v xs c).2 ∧ (filterC p v xs c).2 ≤ c + k * xs.length
  | [], c, _ => ⟨trivial, ⟨[], List.Sublist.refl _, rfl⟩, Int.le_refl _, by simp [filterC]⟩
  | x :: xs, c, h => by
    have e : ((k : Int) * (x :: xs).length) = k * xs.length + k := by
      rw [List.length_cons, Int.natCast_add, Int.mul_add]; simp
    have nn : (0 : Int) ≤ (k : Int) * xs.length := Int.mul_nonneg (Int.natCast_nonneg _) (Int.natCast_nonneg _)
    obtain ⟨h1, h3, h4⟩ := h x (by simp) c (Int.le_refl _) (by omega)
    obtain ⟨i1, ⟨l, hl, i2⟩, i4, i5⟩ := filterC_inv (v := v) k xs (p x c).2 fun y hy c' a b => h y (List.mem_cons_of_mem _ hy) c' (by omega) (by omega)
    refine ⟨⟨h1, i1⟩, ?_, ?_, ?_⟩
    · unfold filterC
      split
      · exact ⟨x :: l, hl.cons_cons x, by simp [i2]⟩
      · exact ⟨l, hl.cons x, i2⟩
    · have e2 : (filterC p v (x :: xs) c).2 = (filterC p v xs (p x c).2).2 := by
        show (if (p x c).1 = true then _ else _ : List β × Int).2 = _
        split <;> rfl
      rw [e2]; omega
    · have e2 : (filterC p v (x :: xs) c).2 = (filterC p v xs (p x c).2).2 := by
        show (if (p x c).1 = true then _ else _ : List β × Int).2 = _
        split <;> rfl
      rw [e2, e]; omega
end
/-! ### draws -/
section
variable {nums : List Int} {c m : Int}
/-- a stream that can be drawn from -/
structure Str (nums : List Int) : Prop where
  pos : 0 < nums.length
  few : nums.length < 10000
theorem Str.g (h : Str nums) (hc : 0 ≤ c) (hc2 : c < 1000000) (hm : 0 < m) : nxG nums c m := ⟨h.pos, h.few, hc, hc2, hm⟩
theorem Str.draw (h : Str nums) (hc : 0 ≤ c) (hc2 : c < 1000000) {k : Nat} (hk : 0 < k) (hm : m = (k : Int)) : ∃ n : Nat, nxG nums c m ∧ nxt nums c m = (n : Int) ∧ n < k := by
  have g := h.g hc hc2 (by omega : 0 < m)
  have l := nxt_lo g
  have u := nxt_hi g
  exact ⟨(nxt nums c m).toNat, g, by omega, by omega⟩
theorem inRd {n : Nat} {i : Int} (h : (decide (-(n : Int) ≤ i) && decide (i < (n : Int))) = true) : inR n i := by
  rw [Bool.and_eq_true, decide_eq_true_iff, decide_eq_true_iff] at h
  exact h
theorem szOk_d {n : Nat} (h : Nat.ble n 100000 = true) : szOk n := by
  have := Nat.le_of_ble_eq_true h
  unfold szOk; omega
theorem szOk_of {n : Nat} (h : n ≤ 100000) : szOk n := by unfold szOk; omega
theorem rOk_nat {n : Nat} (h : n ≤ 1000000000) : rOk (n : Int) := ⟨by omega, by omega⟩
theorem rOk_int {n : Int} (h : -1000000000 ≤ n) (h2 : n ≤ 1000000000) : rOk n := ⟨by omega, by omega⟩
theorem irange_nat (n : Nat) : irange 0 (n : Int) = (List.range n).map fun k : Nat => (k : Int) := by
  unfold irange
  rw [show ((n : Int) - 0).toNat = n by omega]
  exact List.map_congr_left fun k _ => by omega
theorem irange_get {lo hi : Int} {j : Nat} {x : Int} (h : (irange lo hi)[j]? = some x) : j < (hi - lo).toNat ∧ x = lo + (j : Int) := by
  unfold irange at h
  rw [List.getElem?_map] at h
  by_cases q : j < (hi - lo).toNat
  · rw [List.getElem?_range q] at h
    simp at h
    exact ⟨q, h.symm⟩
  · rw [List.getElem?_eq_none (by simp; omega)] at h
    cases h
theorem irangeDn_get {lo hi : Int} {j : Nat} {x : Int} (h : (irangeDn lo hi)[j]? = some x) : j < (lo - hi).toNat ∧ x = lo - (j : Int) := by
  unfold irangeDn at h
  rw [List.getElem?_map] at h
  by_cases q : j < (lo - hi).toNat
  · rw [List.getElem?_range q] at h
    simp at h
    exact ⟨q, h.symm⟩
  · rw [List.getElem?_eq_none (by simp; omega)] at h
    cases h
theorem len_irangeDn (lo hi : Int) : (irangeDn lo hi).length = (lo - hi).toNat := by unfold irangeDn; simp
theorem mem_get {α : Type} {xs : List α} {j : Nat} {x : α} (h : xs[j]? = some x) : x ∈ xs := List.mem_of_getElem? h
theorem get_lt {α : Type} {xs : List α} {j : Nat} {x : α} (h : xs[j]? = some x) : j < xs.length := by
  rcases Nat.lt_or_ge j xs.length with g | g
  · exact g
  · rw [List.getElem?_eq_none g] at h; cases h
end
/-! ### slices -/
theorem cut_from {α : Type} (xs : List α) (k : Nat) : cutD xs (some (k : Int)) none = xs.drop k := by
  unfold cutD
  rw [HT.sIx_nat, HT.sIx_none]
  by_cases h : k ≤ xs.length
  · rw [Nat.min_eq_left h]
    exact List.take_of_length_le (by rw [List.length_drop]; omega)
  · rw [Nat.min_eq_right (by omega), List.drop_of_length_le (Nat.le_refl _), List.drop_of_length_le (by omega)]; simp
theorem cut_to {α : Type} (xs : List α) (k : Nat) : cutD xs none (some (k : Int)) = xs.take k := by
  unfold cutD
  rw [HT.sIx_nat, HT.sIx_none, List.drop_zero, Nat.sub_zero]
  by_cases h : k ≤ xs.length
  · rw [Nat.min_eq_left h]
  · rw [Nat.min_eq_right (by omega), List.take_of_length_le (Nat.le_refl _), List.take_of_length_le (by omega)]
/-! ### what is told -/
abbrev tD (d : PyData) : PyData := .tuple [.str "told", d]
theorem ok_told : strOk ("told" : PySem.Str) = true := by decide +kernel
theorem ok_rfd : strOk ("refused" : PySem.Str) = true := by decide +kernel
theorem ok_mis : strOk ("missing" : PySem.Str) = true := by decide +kernel
theorem ok_wrong : strOk ("wrong" : PySem.Str) = true := by decide +kernel
abbrev rfd : PyData := .str ("refused" : PySem.Str)
abbrev mis : PyData := .str ("missing" : PySem.Str)
abbrev wrg : PyData := .str ("wrong" : PySem.Str)
theorem sm_told {k N : Nat} {d : PyData} (h : Sm k N d) : Sm (k + 1) (N + 10) (tD d) := by
  have h4 : Sm k 4 (.str ("told" : PySem.Str)) := (sm_str ok_told (n := 4) (by decide +kernel)).mono (Nat.zero_le k) (Nat.le_refl _)
  exact (sm_tup (sm_cons h4 (sm_cons h (sm_nil (N := 0))))).mono (Nat.le_refl _) (by omega)
theorem sm_rfd : Sm 0 7 rfd := sm_str ok_rfd (by decide +kernel)
theorem sm_mis : Sm 0 7 mis := sm_str ok_mis (by decide +kernel)
theorem sm_wrg : Sm 0 7 wrg := sm_str ok_wrong (by decide +kernel)
theorem shp_str {s : PySem.Str} (h : strOk s = true) : shp (.str s) := (sm_str h (Nat.le_refl _)).shp (by decide)
theorem eqv_same {d : PyData} (h : d.canLay0 = true) : PyData.eqv d d = true := PySem.SeqAt.eqv_refl d h
theorem Sm.eqv {k N : Nat} {d : PyData} (h : Sm k N d) : PyData.eqv d d = true := eqv_same h.lay
/-- the same, and small enough to be told -/
theorem same_of {k N : Nat} {d d' : PyData} (e : d = d') (h : Sm k N d') (hk : k ≤ 63 := by decide) (hN : N + 1 ≤ 2 ^ 20 := by decide) : sameG d d' := by
  subst e
  exact ⟨rfl, Sm.rok (k := k + 1) (N := N + 1 + 0) (sm_lst (sm_cons h sm_nil)) (by omega) (by omega)⟩
theorem okT_ok {γ : Type} {r : R γ} {g : γ} (e : r = .ok g) : okT r := by rw [e]; trivial
theorem okT_exc {γ : Type} {r : R γ} {c : Nat} (e : r = .exc c) (h : (errR c).isSome = true := by rfl) : okT r := by rw [e]; exact h
theorem toldR_ok {γ : Type} {r : R γ} {g : γ} (f : γ → PyData) (e : r = .ok g) : toldR r f = tD (f g) := by rw [e]; rfl
theorem toldR_1 {γ : Type} {r : R γ} (f : γ → PyData) (e : r = .exc 1) : toldR r f = rfd := by rw [e]; rfl
theorem toldR_3 {γ : Type} {r : R γ} (f : γ → PyData) (e : r = .exc 3) : toldR r f = mis := by rw [e]; rfl
theorem toldR_5 {γ : Type} {r : R γ} (f : γ → PyData) (e : r = .exc 5) : toldR r f = wrg := by rw [e]; rfl
end Mi
end
section
set_option Elab.async false
set_option linter.all false
set_option maxRecDepth 100000
/-! Po: sums of powers modulo a prime, in plain lists -/
namespace Mi
open PySem
def pv (x : Int) : List Int → Int
  | [] => 0
  | c :: t => c + x * pv x t
theorem pv_append (x : Int) : ∀ (a b : List Int), pv x (a ++ b) = pv x a + x ^ a.length * pv x b
  | [], b => by simp [pv]
  | c :: a, b => by
    show c + x * pv x (a ++ b) = c + x * pv x a + x ^ (a.length + 1) * pv x b
    rw [pv_append x a b, Int.pow_succ]; grind
theorem pv_zero (x : Int) : ∀ (a : List Int), (∀ c ∈ a, c = 0) → pv x a = 0
  | [], _ => rfl
  | c :: a, h => by
    show c + x * pv x a = 0
    rw [h c (by simp), pv_zero x a fun d hd => h d (List.mem_cons_of_mem _ hd)]; simp
/-- the quotient by X - x0 -/
def qd (x0 : Int) : List Int → List Int
  | [] => []
  | [_] => []
  | _ :: d :: t => pv x0 (d :: t) :: qd x0 (d :: t)
theorem qd_len (x0 : Int) : ∀ (cs : List Int), (qd x0 cs).length = cs.length - 1
  | [] => rfl
  | [_] => rfl
  | _ :: d :: t => by
    show (qd x0 (d :: t)).length + 1 = _
    rw [qd_len x0 (d :: t)]; simp
theorem qd_pv (x x0 : Int) : ∀ (cs : List Int), pv x cs - pv x0 cs = (x - x0) * pv x (qd x0 cs)
  | [] => by simp [pv, qd]
  | [c] => by simp [pv, qd]
  | c :: d :: t => by
    have h := qd_pv x x0 (d :: t)
    show c + x * pv x (d :: t) - (c + x0 * pv x0 (d :: t)) = (x - x0) * (pv x0 (d :: t) + x * pv x (qd x0 (d :: t)))
    grind
theorem qd_zero {p x0 : Int} : ∀ (cs : List Int), (∀ c ∈ qd x0 cs, p ∣ c) → p ∣ pv x0 cs → ∀ c ∈ cs, p ∣ c
  | [], _, _ => fun _ h => nomatch h
  | [c], _, h => fun d hd => by
    rw [List.mem_singleton.mp hd]
    simpa [pv] using h
  | c :: d :: t, h, h2 => by
    have h0 : p ∣ pv x0 (d :: t) := h _ (List.mem_cons_self)
    have ih := qd_zero (d :: t) (fun e he => h e (List.mem_cons_of_mem _ he)) h0
    intro e he
    rcases List.mem_cons.mp he with rfl | he
    · have h3 : p ∣ e + x0 * pv x0 (d :: t) := h2
      have h4 : p ∣ x0 * pv x0 (d :: t) := Int.dvd_trans h0 (Int.dvd_mul_left _ _)
      exact (Int.dvd_add_left h4).mp h3
    · exact ih e he
/-- a prime by its inverses -/
def Fld (p : Nat) : Prop := 1 < p ∧ ((List.range p).all fun r => r == 0 || (List.range p).any fun k => k * r % p == 1) = true
instance (p : Nat) : Decidable (Fld p) := by unfold Fld; infer_instance
theorem Fld.inv {p : Nat} (h : Fld p) {a : Int} (ha : ¬ (p : Int) ∣ a) : ∃ k : Nat, k < p ∧ ((k : Int) * a) % p = 1 := by
  obtain ⟨h1, h2⟩ := h
  have hp : (0 : Int) < p := by omega
  have hr0 := Int.emod_nonneg a (show (p : Int) ≠ 0 by omega)
  have hr1 := Int.emod_lt_of_pos a hp
  have hne : a % p ≠ 0 := fun z => ha (Int.dvd_of_emod_eq_zero z)
  have := List.all_eq_true.mp h2 (a % p).toNat (List.mem_range.mpr (by omega))
  rw [Bool.or_eq_true] at this
  rcases this with z | z
  · have := eq_of_beq z; omega
  · obtain ⟨k, hk, e⟩ := List.any_eq_true.mp z
    have e := eq_of_beq e
    refine ⟨k, List.mem_range.mp hk, ?_⟩
    have e2 : ((k : Int) * (a % p)) % p = 1 := by
      have : (((k * (a % p).toNat % p : Nat) : Int)) = 1 := by rw [e]; rfl
      rw [Int.natCast_emod, Int.natCast_mul, Int.toNat_of_nonneg hr0] at this
      exact this
    rwa [Int.mul_emod, Int.emod_emod_of_dvd _ (Int.dvd_refl _), ← Int.mul_emod] at e2
theorem Fld.prime {p : Nat} (h : Fld p) {a b : Int} (hd : (p : Int) ∣ a * b) : (p : Int) ∣ a ∨ (p : Int) ∣ b := by
  by_cases ha : (p : Int) ∣ a
  · exact .inl ha
  · obtain ⟨k, _, e⟩ := h.inv ha
    refine .inr ?_
    have h1 : (p : Int) ∣ (k : Int) * a - 1 := Int.dvd_of_emod_eq_zero (by
      rw [Int.sub_emod, e]
      have : (1 : Int) % p = 1 := Int.emod_eq_of_lt (by omega) (by have := h.1; omega)
      rw [this]; simp)
    have h2 : (p : Int) ∣ k * (a * b) := Int.dvd_trans hd (Int.dvd_mul_left _ _)
    have h3 : (p : Int) ∣ (k * a - 1) * b := Int.dvd_trans h1 (Int.dvd_mul_right _ _)
    have : b = k * (a * b) - (k * a - 1) * b := by grind
    rw [this]
    exact Int.dvd_sub h2 h3
/-- places that differ -/
def Dis (p : Nat) (xs : List Int) : Prop := xs.Pairwise fun x y => ¬ (p : Int) ∣ y - x
theorem roots {p : Nat} (h : Fld p) : ∀ (xs cs : List Int), Dis p xs → cs.length ≤ xs.length → (∀ x ∈ xs, (p : Int) ∣ pv x cs) → ∀ c ∈ cs, (p : Int) ∣ c
  | xs, [], _, _, _ => fun _ z => nomatch z
  | [], c :: cs, _, l, _ => absurd l (by simp)
  | x0 :: xs, c :: cs, d, l, z => by
    obtain ⟨d1, d2⟩ := List.pairwise_cons.mp d
    have z0 := z x0 (List.mem_cons_self)
    refine qd_zero (c :: cs) (roots h xs (qd x0 (c :: cs)) d2 (by rw [qd_len]; simp at l ⊢; omega) fun x hx => ?_) z0
    have e := qd_pv x x0 (c :: cs)
    have : (p : Int) ∣ (x - x0) * pv x (qd x0 (c :: cs)) := by
      rw [← e]; exact Int.dvd_sub (z x (List.mem_cons_of_mem _ hx)) z0
    exact (h.prime this).resolve_left (d1 x hx)
termination_by xs cs => cs.length
decreasing_by rw [qd_len]; simp
/-- the difference -/
def subP : List Int → List Int → List Int
  | [], b => b.map fun c => -c
  | a, [] => a
  | x :: a, y :: b => (x - y) :: subP a b
theorem pv_neg (x : Int) : ∀ (b : List Int), pv x (b.map fun c => -c) = - pv x b
  | [] => rfl
  | c :: b => by
    show -c + x * pv x (b.map fun c => -c) = -(c + x * pv x b)
    rw [pv_neg x b]; grind
theorem pv_subP (x : Int) : ∀ (a b : List Int), pv x (subP a b) = pv x a - pv x b
  | [], b => by
    show pv x (b.map fun c => -c) = 0 - pv x b
    rw [pv_neg]; omega
  | c :: a, [] => by show pv x (c :: a) = pv x (c :: a) - 0; omega
  | c :: a, d :: b => by
    show c - d + x * pv x (subP a b) = c + x * pv x a - (d + x * pv x b)
    rw [pv_subP x a b]; grind
theorem subP_len : ∀ (a b : List Int), (subP a b).length = max a.length b.length
  | [], b => by simp [subP]
  | c :: a, [] => by simp [subP]
  | c :: a, d :: b => by
    show (subP a b).length + 1 = _
    rw [subP_len a b]; simp only [List.length_cons]; omega
theorem subP_get : ∀ (a b : List Int) (i : Nat), (subP a b).getD i 0 = a.getD i 0 - b.getD i 0
  | [], b, i => by
    show (b.map fun c => -c).getD i 0 = (0 : Int) - b.getD i 0
    rw [List.getD_eq_getElem?_getD, List.getD_eq_getElem?_getD, List.getElem?_map]
    cases b[i]? <;> simp
  | c :: a, [], i => by simp [subP]
  | c :: a, d :: b, 0 => rfl
  | c :: a, d :: b, i + 1 => subP_get a b i
def Rng (p : Nat) (a : List Int) : Prop := ∀ c ∈ a, 0 ≤ c ∧ c < (p : Int)
def Canon (a : List Int) : Prop := ∀ n, a.length = n + 1 → a.getD n 0 ≠ 0
def Eqz (a b : List Int) : Prop := ∀ i, a.getD i 0 = b.getD i 0
theorem getD_mem0 (a : List Int) (i : Nat) : a.getD i 0 = 0 ∨ a.getD i 0 ∈ a := by
  rw [List.getD_eq_getElem?_getD]
  cases h : a[i]? with
  | none => exact .inl rfl
  | some x => exact .inr (List.mem_of_getElem? h)
theorem Rng.get {p : Nat} {a : List Int} (hp : 0 < p) (h : Rng p a) (i : Nat) : 0 ≤ a.getD i 0 ∧ a.getD i 0 < (p : Int) := by
  rcases getD_mem0 a i with e | e
  · rw [e]; omega
  · exact h _ e
theorem sub_zero {p a b : Int} (ha : 0 ≤ a ∧ a < p) (hb : 0 ≤ b ∧ b < p) (h : p ∣ a - b) : a = b := by
  obtain ⟨k, e⟩ := h
  have : k = 0 := by
    rcases Int.lt_trichotomy k 0 with z | z | z
    · have : p * k ≤ p * (-1) := Int.mul_le_mul_of_nonneg_left (by omega) (by omega); omega
    · exact z
    · have : p * 1 ≤ p * k := Int.mul_le_mul_of_nonneg_left (by omega) (by omega); omega
  subst this
  omega
/-- two sums of few powers that agree at many places -/
theorem agree {p : Nat} (h : Fld p) {xs a b : List Int} (d : Dis p xs) (la : a.length ≤ xs.length) (lb : b.length ≤ xs.length) (ra : Rng p a) (rb : Rng p b) (e : ∀ x ∈ xs, (p : Int) ∣ pv x a - pv x b) : Eqz a b := by
  have hp := h.1
  have z := roots h xs (subP a b) d (by rw [subP_len]; omega) fun x hx => by rw [pv_subP]; exact e x hx
  intro i
  refine sub_zero (ra.get (by omega) i) (rb.get (by omega) i) ?_
  rw [← subP_get]
  rcases getD_mem0 (subP a b) i with q | q
  · rw [q]; exact ⟨0, by simp⟩
  · exact z _ q
theorem getD_ge {a : List Int} {i : Nat} (h : a.length ≤ i) : a.getD i 0 = 0 := by
  rw [List.getD_eq_getElem?_getD, List.getElem?_eq_none h]; rfl
theorem Eqz.ext {a b : List Int} (h : Eqz a b) (l : a.length = b.length) : a = b := by
  refine List.ext_getElem l fun i h1 h2 => ?_
  have := h i
  rwa [List.getD_eq_getElem?_getD, List.getD_eq_getElem?_getD, List.getElem?_eq_getElem h1, List.getElem?_eq_getElem h2] at this
theorem Canon.le {a b : List Int} (ha : Canon a) (h : Eqz a b) : a.length ≤ b.length := by
  rcases Nat.lt_or_ge b.length a.length with g | g
  · have := ha (a.length - 1) (by omega)
    rw [h] at this
    exact absurd (getD_ge (by omega)) this
  · exact g
theorem Eqz.symm {a b : List Int} (h : Eqz a b) : Eqz b a := fun i => (h i).symm
theorem Eqz.trans {a b c : List Int} (h : Eqz a b) (h2 : Eqz b c) : Eqz a c := fun i => (h i).trans (h2 i)
theorem Canon.eq {a b : List Int} (ha : Canon a) (hb : Canon b) (h : Eqz a b) : a = b := h.ext (Nat.le_antisymm (ha.le h) (hb.le h.symm))
theorem eqz_pv {x : Int} : ∀ {a b : List Int}, Eqz a b → pv x a = pv x b
  | [], b, h => by
    show (0 : Int) = _
    refine (pv_zero x b fun c hc => ?_).symm
    obtain ⟨i, hi, rfl⟩ := List.getElem_of_mem hc
    have := h i
    rw [getD_ge (Nat.zero_le _), List.getD_eq_getElem?_getD, List.getElem?_eq_getElem hi] at this
    exact this.symm
  | c :: a, [], h => by
    show _ = (0 : Int)
    refine pv_zero x (c :: a) fun d hd => ?_
    obtain ⟨i, hi, rfl⟩ := List.getElem_of_mem hd
    have := h i
    rw [getD_ge (a := []) (Nat.zero_le _), List.getD_eq_getElem?_getD, List.getElem?_eq_getElem hi] at this
    exact this
  | c :: a, d :: b, h => by
    have h0 : c = d := h 0
    have : pv x a = pv x b := eqz_pv fun i => h (i + 1)
    show c + x * _ = d + x * _
    rw [h0, this]
/-- cut down to its last that is not zero -/
structure IsCut (a r : List Int) : Prop where
  pre : r = a.take r.length
  len : r.length ≤ a.length
  canon : Canon r
  rest : ∀ i, r.length ≤ i → a.getD i 0 = 0
theorem IsCut.eqz {a r : List Int} (h : IsCut a r) : Eqz r a := by
  intro i
  rcases Nat.lt_or_ge i r.length with g | g
  · rw [h.pre, List.getD_eq_getElem?_getD, List.getD_eq_getElem?_getD]
    rw [List.getElem?_take_of_lt g]
  · rw [getD_ge g, h.rest i g]
theorem IsCut.rng {p : Nat} {a r : List Int} (h : IsCut a r) (hr : Rng p a) : Rng p r := fun c hc => hr c (by rw [h.pre] at hc; exact List.mem_of_mem_take hc)
theorem IsCut.of_canon {a r : List Int} (h : IsCut a r) (ha : Canon a) : r = a := h.canon.eq ha h.eqz
theorem isCut_take {a : List Int} {n : Nat} (hn : n ≤ a.length) (h1 : n = 0 ∨ a.getD (n - 1) 0 ≠ 0) (h2 : ∀ i, n ≤ i → a.getD i 0 = 0) : IsCut a (a.take n) := by
  have l : (a.take n).length = n := by rw [List.length_take]; omega
  refine ⟨by rw [l], by omega, fun m hm => ?_, fun i hi => h2 i (by omega)⟩
  rw [l] at hm
  rw [List.getD_eq_getElem?_getD, List.getElem?_take_of_lt (by omega), ← List.getD_eq_getElem?_getD]
  rcases h1 with z | z
  · omega
  · rwa [show m = n - 1 by omega]
end Mi
end
section
set_option Elab.async false
set_option linter.all false
set_option maxRecDepth 100000
/-! En2: places of lists; equal up to a modulus -/
namespace Mi
open PySem
section
variable {α β : Type}
theorem ix_getD [Inhabited α] {xs : List α} {k : Nat} : ix xs (k : Int) = xs.getD k default := by
  unfold ix
  rw [if_pos (by omega)]; rfl
theorem ix_at [Inhabited α] {xs : List α} {k : Nat} (h : k < xs.length) : ix xs (k : Int) = xs[k] := by
  rw [ix_getD, List.getD_eq_getElem?_getD, List.getElem?_eq_getElem h]; rfl
theorem inR_nat {n k : Nat} (h : k < n) : inR n (k : Int) := ⟨by omega, by omega⟩
theorem inR_int {n : Nat} {k : Int} (h0 : 0 ≤ k) (h : k < n) : inR n k := ⟨by omega, h⟩
theorem setI_nat {xs : List α} {k : Nat} {x : α} : setI xs (k : Int) x = xs.set k x := by
  unfold setI
  rw [if_pos (by omega)]; rfl
theorem eraseI_nat {xs : List α} {k : Nat} : eraseI xs (k : Int) = xs.eraseIdx k := by
  unfold eraseI
  rw [if_pos (by omega)]; rfl
theorem enL_len' {xs : List α} : (enL xs).length = xs.length := by unfold enL; simp
theorem enL_at {xs : List α} {j : Nat} {p : Int × α} (h : (enL xs)[j]? = some p) : ∃ g : j < xs.length, p = ((j : Int), xs[j]) := by
  have hj : j < xs.length := by have := get_lt h; rwa [enL_len'] at this
  refine ⟨hj, ?_⟩
  unfold enL at h
  rw [List.getElem?_zipWith, List.getElem?_range hj, List.getElem?_eq_getElem hj] at h
  exact (Option.some.inj h).symm
theorem enL_cons (x : α) (xs : List α) : enL (x :: xs) = (0, x) :: (enL xs).map fun p => (p.1 + 1, p.2) := by
  unfold enL
  rw [List.length_cons, List.range_succ_eq_map, List.zipWith_cons_cons, List.zipWith_map_left, List.map_zipWith]
  rfl
theorem get_in {xs : List α} {j : Nat} {x : α} (h : xs[j]? = some x) : ∃ g : j < xs.length, x = xs[j] := by
  have g := get_lt h
  rw [List.getElem?_eq_getElem g] at h
  exact ⟨g, (Option.some.inj h).symm⟩
end
/-! ### equal up to a modulus -/
def Cg (p : Nat) (a b : Int) : Prop := (p : Int) ∣ a - b
section
variable {p : Nat} {a b c d : Int}
theorem Cg.rfl' : Cg p a a := ⟨0, by simp⟩
theorem Cg.of_eq (h : a = b) : Cg p a b := h ▸ Cg.rfl'
theorem Cg.symm (h : Cg p a b) : Cg p b a := by
  obtain ⟨k, e⟩ := h
  exact ⟨-k, by grind⟩
theorem Cg.trans (h : Cg p a b) (h2 : Cg p b c) : Cg p a c := by
  obtain ⟨k, e⟩ := h
  obtain ⟨l, e2⟩ := h2
  exact ⟨k + l, by grind⟩
theorem Cg.add (h : Cg p a b) (h2 : Cg p c d) : Cg p (a + c) (b + d) := by
  obtain ⟨k, e⟩ := h
  obtain ⟨l, e2⟩ := h2
  exact ⟨k + l, by grind⟩
theorem Cg.sub (h : Cg p a b) (h2 : Cg p c d) : Cg p (a - c) (b - d) := by
  obtain ⟨k, e⟩ := h
  obtain ⟨l, e2⟩ := h2
  exact ⟨k - l, by grind⟩
theorem Cg.mul (h : Cg p a b) (h2 : Cg p c d) : Cg p (a * c) (b * d) := by
  obtain ⟨k, e⟩ := h
  obtain ⟨l, e2⟩ := h2
  exact ⟨k * c + b * l, by grind⟩
theorem Cg.mod : Cg p (a % p) a := by
  have := Int.emod_def a p
  exact ⟨-(a / p), by grind⟩
theorem Cg.emod (h : Cg p a b) : a % p = b % p := Int.emod_eq_emod_iff_emod_sub_eq_zero.mpr (Int.emod_eq_zero_of_dvd h)
theorem Cg.of_emod (h : a % p = b % p) : Cg p a b := Int.dvd_of_emod_eq_zero (Int.emod_eq_emod_iff_emod_sub_eq_zero.mp h)
theorem cg_iff : Cg p a b ↔ a % p = b % p := ⟨Cg.emod, Cg.of_emod⟩
end
end Mi
end
section
set_option Elab.async false
set_option linter.all false
set_option maxRecDepth 100000
set_option maxHeartbeats 4000000
/-! K49d: what the functions give -/
namespace K49
open Mi PySem
variable {p : Nat} {x : Int}
theorem rng_mod (hp : 0 < p) (a : Int) : 0 ≤ a % (p : Int) ∧ a % (p : Int) < p := ⟨Int.emod_nonneg _ (by omega), Int.emod_lt_of_pos _ (by omega)⟩
theorem cmul_r {a b : Int} (h : -(2 ^ 64) < b) (h2 : b < 2 ^ 64) : L2.CMul a b := .inr ⟨h, h2⟩
theorem cmul_l {a b : Int} (h : -(2 ^ 64) < a) (h2 : a < 2 ^ 64) : L2.CMul a b := .inl ⟨h, h2⟩
theorem value_eq (hp : 0 < p) (hx : 0 ≤ x ∧ x < 1000) (cs : List Int) : T_value_at p cs x = .ok (pv x cs % p) := by
  refine Ends.eq ?_
  unfold T_value_at
  refine en_let rfl ?_
  refine en_forRs (fun ps (b : Int) => b = pv x ps.reverse % p) (by simp [pv]) (fun ps n qs b _ hb => ?_) fun b hb => en_ok (by rw [hb, List.reverse_reverse])
  refine en_gd ⟨cmul_r (by omega) (by omega), by omega⟩ (en_let rfl (en_ok ?_))
  rw [List.reverse_append, hb]
  show _ = (n + x * pv x ps.reverse) % p
  refine cg_iff.mp ?_
  exact (Cg.add (Cg.mul Cg.mod Cg.rfl') Cg.rfl').trans (Cg.of_eq (by grind))
theorem lawValueGo {r : R Int} (hp : 1 < p) (hp2 : p ≤ 1000) (hx : 0 ≤ x ∧ x < 1000) (cs : List Int) (e : r = T__law_value_T p cs x) : r = .ok (pv x cs % p) := by
  rw [e]
  refine Ends.eq ?_
  unfold T__law_value_T
  refine en_let rfl (en_let rfl ?_)
  refine en_forRs (fun ps (b : Int × Int) => b.1 = pv x ps % p ∧ b.2 = x ^ ps.length % p) ⟨by simp [pv], by
    show (1 : Int) = x ^ 0 % p
    rw [Int.pow_zero, Int.emod_eq_of_lt (by omega) (by omega)]⟩ (fun ps n qs b _ hb => ?_) fun b hb => en_ok hb.1
  obtain ⟨h1, h2⟩ := hb
  have r2 := rng_mod (p := p) (by omega) (x ^ ps.length)
  refine en_gd ⟨cmul_r (by omega) (by omega), by omega⟩ (en_let rfl (en_gd ⟨cmul_r (by omega) (by omega), by omega⟩ (en_let rfl (en_ok ⟨?_, ?_⟩))))
  · rw [pv_append, h1, h2]
    refine cg_iff.mp ?_
    exact (Cg.add Cg.mod (Cg.mul Cg.rfl' Cg.mod)).trans (Cg.of_eq (by simp [pv]; grind))
  · rw [h2, List.length_append]
    refine cg_iff.mp ?_
    exact (Cg.mul Cg.mod Cg.rfl').trans (Cg.of_eq (by show _ = x ^ (ps.length + 1); rw [Int.pow_succ]))
theorem law_value_eq (hp : 1 < p) (hp2 : p ≤ 1000) (hx : 0 ≤ x ∧ x < 1000) (cs : List Int) : T__law_value_T p cs x = .ok (pv x cs % p) ∧ T__law_value_L p cs x = .ok (pv x cs % p) := ⟨lawValueGo hp hp2 hx cs rfl, lawValueGo hp hp2 hx cs rfl⟩
theorem cut_eq (cs : List Int) : Ends (fun r => IsCut cs r) (T_cut cs) := by
  unfold T_cut
  refine en_let rfl ?_
  refine en_whF (fun (m : Nat) (b : Int) => b = (m : Int) ∧ m ≤ cs.length ∧ ∀ i, m ≤ i → cs.getD i 0 = 0)
    (fun (b : Int) => ∃ n : Nat, b = (n : Int) ∧ n ≤ cs.length ∧ (n = 0 ∨ cs.getD (n - 1) 0 ≠ 0) ∧ ∀ i, n ≤ i → cs.getD i 0 = 0) (fun _ => False) cs.length ⟨rfl, Nat.le_refl _, fun i hi => getD_ge hi⟩ (fun m b hb => ?_) (fun b hb => ?_) (fun _ z => z.elim)
  · obtain ⟨rfl, h1, h2⟩ := hb
    refine en_gd (fun q => ?_) (en_ok ⟨fun q => ?_, fun q => ?_⟩)
    · have q := of_decide_eq_true q
      have : ((m : Int) - 1) = ((m - 1 : Nat) : Int) := by omega
      rw [this]; exact inR_nat (by omega)
    · refine ⟨m, rfl, h1, ?_, h2⟩
      rcases Nat.eq_zero_or_pos m with z | z
      · exact .inl z
      · have e : ((m : Int) - 1) = ((m - 1 : Nat) : Int) := by omega
        rw [e, ix_getD, Bool.and_eq_false_iff, decide_eq_false_iff_not, decide_eq_false_iff_not] at q
        exact .inr (q.resolve_left fun w => w (by omega))
    · rw [Bool.and_eq_true, decide_eq_true_iff, decide_eq_true_iff] at q
      have e : ((m : Int) - 1) = ((m - 1 : Nat) : Int) := by omega
      rw [e, ix_getD] at q
      refine en_let e (en_nx ⟨m - 1, by omega, rfl, by omega, fun i hi => ?_⟩)
      rcases Nat.lt_or_ge i m with g | g
      · rw [show i = m - 1 by omega]; exact q.2
      · exact h2 i g
  · obtain ⟨n, rfl, h1, h2, h3⟩ := hb
    rw [cut_to]
    exact en_ok (isCut_take h1 h2 h3)
theorem cut_of (cs : List Int) : cutVG cs ∧ IsCut cs (cutV cs) := ⟨(cut_eq cs).good, (cut_eq cs).get.2⟩
theorem isCut_rng {cs r : List Int} (h : IsCut cs r) (x : Int) : pv x r = pv x cs := eqz_pv h.eqz
theorem set_pv (x : Int) : ∀ (b : List Int) (i : Nat) (v : Int), i < b.length → pv x (b.set i v) = pv x b + (v - b.getD i 0) * x ^ i
  | [], i, v, h => absurd h (by simp)
  | c :: b, 0, v, _ => by
    show v + x * pv x b = c + x * pv x b + (v - c) * x ^ 0
    rw [Int.pow_zero]; grind
  | c :: b, i + 1, v, h => by
    show c + x * pv x (b.set i v) = c + x * pv x b + (v - b.getD i 0) * x ^ (i + 1)
    rw [set_pv x b i v (by simpa using h), Int.pow_succ]; grind
theorem take_pv (x : Int) (l : List Int) (j : Nat) (h : j < l.length) : pv x (l.take (j + 1)) = pv x (l.take j) + l[j] * x ^ j := by
  rw [List.take_succ_eq_append_getElem h, pv_append, List.length_take, Nat.min_eq_left (Nat.le_of_lt h)]
  simp [pv]; grind
theorem rng_set {b : List Int} {i : Nat} {v : Int} (h : Rng p b) (hv : 0 ≤ v ∧ v < p) : Rng p (b.set i v) := fun c hc => by
  rcases List.mem_or_eq_of_mem_set hc with q | q
  · exact h c q
  · rw [q]; exact hv
theorem getD_set {b : List Int} {i k : Nat} {v : Int} (h : k ≠ i) : (b.set i v).getD k 0 = b.getD k 0 := by
  rw [List.getD_eq_getElem?_getD, List.getD_eq_getElem?_getD, List.getElem?_set_ne (Ne.symm h)]
/-- a product: cut down, its values, its length -/
structure PolW (p : Nat) (r : List Int) (n : Nat) (v : Int → Int) : Prop where
  rng : Rng p r
  canon : Canon r
  len : r.length ≤ n
  val : ∀ x, Cg p (pv x r) (v x)
theorem product_eq (hp : 1 < p) (hp2 : p ≤ 1000) {a b : List Int} (ha : Rng p a) (hb : Rng p b) (la : 0 < a.length) (lb : 0 < b.length) (la2 : a.length ≤ 1000) (lb2 : b.length ≤ 1000) :
    Ends (fun r => PolW p r (a.length + b.length - 1) fun x => pv x a * pv x b) (T_product p a b) := by
  unfold T_product
  have e0 : ((a.length : Int) + (b.length : Int)) = ((a.length + b.length : Nat) : Int) := by omega
  rw [e0, irange_nat]
  refine en_gd ⟨rOk_nat (by omega), by simp; omega⟩ (en_let rfl ?_)
  refine en_forR (fun j (f : List Int) => f.length = a.length + b.length ∧ Rng p f ∧ (∀ i, a.length + b.length - 1 ≤ i → f.getD i 0 = 0) ∧ ∀ x, Cg p (pv x f) (pv x (a.take j) * pv x b)) ⟨by simp, ?_, ?_, ?_⟩ (fun j q f hq hf => ?_) (fun f hf => ?_)
  · intro c hc
    simp at hc
    obtain ⟨_, _, rfl⟩ := hc
    omega
  · intro i _
    rw [List.getD_eq_getElem?_getD]
    simp
    cases (List.range (a.length + b.length))[i]? <;> rfl
  · intro x
    refine Cg.of_eq ?_
    rw [pv_zero x _ (fun c hc => by simp at hc; exact hc.2.symm ▸ rfl)]
    simp [pv]
  · obtain ⟨hj, rfl⟩ := enL_at hq
    obtain ⟨f1, f2, f3, f4⟩ := hf
    have raj := ha a[j] (List.getElem_mem hj)
    refine en_forR (fun k (g : List Int) => g.length = a.length + b.length ∧ Rng p g ∧ (∀ i, a.length + b.length - 1 ≤ i → g.getD i 0 = 0) ∧ ∀ x, Cg p (pv x g) (pv x f + a[j] * x ^ j * pv x (b.take k))) ⟨f1, f2, f3, fun x => Cg.of_eq (by simp [pv])⟩ (fun k q g hq hg => ?_) (fun g hg => ?_)
    · obtain ⟨hk, rfl⟩ := enL_at hq
      obtain ⟨g1, g2, g3, g4⟩ := hg
      have rbk := hb b[k] (List.getElem_mem hk)
      have e1 : ((j : Int) + (k : Int)) = ((j + k : Nat) : Int) := by omega
      have hR : inR g.length ((j + k : Nat) : Int) := inR_nat (by omega)
      show Ends _ (gdR (inR g.length ((j : Int) + (k : Int)) ∧ L2.CMul a[j] b[k] ∧ _ ∧ inR g.length ((j : Int) + (k : Int))) (letR (setI g ((j : Int) + (k : Int)) ((ix g ((j : Int) + (k : Int)) + a[j] * b[k]) % (p : Int))) _))
      rw [e1]
      refine en_gd ⟨hR, cmul_l (by omega) (by omega), by omega, hR⟩ (en_let rfl (en_ok ?_))
      rw [setI_nat, ix_getD]
      refine ⟨by simpa using g1, rng_set g2 (rng_mod (by omega) _), fun i hi => ?_, fun x => ?_⟩
      · rw [getD_set (by omega)]; exact g3 i hi
      · rw [set_pv x g (j + k) _ (by omega), take_pv x b k hk]
        refine (Cg.add (g4 x) (Cg.mul (Cg.sub Cg.mod Cg.rfl') Cg.rfl')).trans (Cg.of_eq ?_)
        rw [show (default : Int) = 0 from rfl, Int.pow_add]; grind
    · obtain ⟨g1, g2, g3, g4⟩ := hg
      refine en_ok ⟨g1, g2, g3, fun x => (g4 x).trans ?_⟩
      rw [take_pv x a j hj]
      have : b.take (enL b).length = b := by rw [enL_len', List.take_length]
      rw [this]
      exact (Cg.add (f4 x) Cg.rfl').trans (Cg.of_eq (by grind))
  · obtain ⟨f1, f2, f3, f4⟩ := hf
    obtain ⟨c1, c2⟩ := cut_of f
    refine en_gd c1 (en_ok ⟨c2.rng f2, c2.canon, ?_, fun x => ?_⟩)
    · rcases Nat.lt_or_ge (a.length + b.length - 1) (cutV f).length with z | z
      · exfalso
        have l := c2.len
        refine c2.canon ((cutV f).length - 1) (by omega) ?_
        rw [c2.eqz, f3 _ (by omega)]
      · exact z
    · rw [isCut_rng c2]
      have := f4 x
      rwa [enL_len', List.take_length] at this
theorem product_of (hp : 1 < p) (hp2 : p ≤ 1000) {a b : List Int} (ha : Rng p a) (hb : Rng p b) (la : 0 < a.length) (lb : 0 < b.length) (la2 : a.length ≤ 1000) (lb2 : b.length ≤ 1000) : productVG p a b ∧ PolW p (productV p a b) (a.length + b.length - 1) fun x => pv x a * pv x b :=
  have h := product_eq hp hp2 ha hb la lb la2 lb2
  ⟨h.good, h.get.2⟩
theorem zip_pv (x : Int) : ∀ (a b : List Int), a.length = b.length → Cg p (pv x ((a.zip b).map fun q => (q.1 + q.2) % (p : Int))) (pv x a + pv x b)
  | [], [], _ => Cg.rfl'
  | c :: a, d :: b, h => by
    show Cg p ((c + d) % p + x * pv x ((a.zip b).map fun q => (q.1 + q.2) % (p : Int))) (c + x * pv x a + (d + x * pv x b))
    exact (Cg.add Cg.mod (Cg.mul Cg.rfl' (zip_pv x a b (by simpa using h)))).trans (Cg.of_eq (by grind))
def padTo (n : Nat) (a : List Int) : List Int := a ++ List.replicate (n - a.length) 0
theorem pad_pv (x : Int) (n : Nat) (a : List Int) : pv x (padTo n a) = pv x a := by
  unfold padTo
  rw [pv_append, pv_zero x _ fun c hc => (List.mem_replicate.mp hc).2]; simp
theorem pad_len {n : Nat} {a : List Int} (h : a.length ≤ n) : (padTo n a).length = n := by
  unfold padTo
  rw [List.length_append, List.length_replicate]; omega
theorem total_eq (hp : 1 < p) {a b : List Int} (ha : a.length ≤ 1000) (hb : b.length ≤ 1000) :
    Ends (fun r => PolW p r (max a.length b.length) fun x => pv x a + pv x b) (T_total p a b) := by
  unfold T_total
  have e0 : (if (b.length : Int) > (a.length : Int) then (b.length : Int) else (a.length : Int)) = ((max a.length b.length : Nat) : Int) := by
    split <;> omega
  refine en_let e0 ?_
  have ep : ∀ r : List Int, r.length ≤ max a.length b.length → r ++ ((irange 0 (((max a.length b.length : Nat) : Int) - (r.length : Int))).map fun (_ : Int) => (0 : Int)) = padTo (max a.length b.length) r := fun r hr => by
    unfold padTo irange
    rw [List.map_map]
    congr 1
    rw [show (((max a.length b.length : Nat) : Int) - (r.length : Int) - 0).toNat = max a.length b.length - r.length by omega]
    refine List.ext_getElem (by simp) fun i h1 h2 => by simp
  have epa := ep a (Nat.le_max_left _ _)
  have epb := ep b (Nat.le_max_right _ _)
  have g1 : ∀ r : List Int, r.length ≤ max a.length b.length → (rOk (((max a.length b.length : Nat) : Int) - (r.length : Int))) ∧ ((irange 0 (((max a.length b.length : Nat) : Int) - (r.length : Int))).length ≤ 100000) ∧ ((r ++ ((irange 0 (((max a.length b.length : Nat) : Int) - (r.length : Int))).map fun (_ : Int) => (0 : Int))).length ≤ 100000) := fun r hr =>
    ⟨rOk_int (by omega) (by omega), by rw [len_irange]; omega, by rw [ep r hr, pad_len hr]; omega⟩
  refine en_gd ⟨by simp, fun r hr => ?_⟩ ?_
  · rcases List.mem_cons.mp hr with rfl | hr
    · exact g1 _ (Nat.le_max_left _ _)
    · rw [List.mem_singleton.mp hr]; exact g1 _ (Nat.le_max_right _ _)
  · refine en_let (a' := [padTo (max a.length b.length) a, padTo (max a.length b.length) b]) (by rw [← epa, ← epb]; rfl) ?_
    have x0 : ix [padTo (max a.length b.length) a, padTo (max a.length b.length) b] (0 : Int) = padTo (max a.length b.length) a := rfl
    have x1 : ix [padTo (max a.length b.length) a, padTo (max a.length b.length) b] (1 : Int) = padTo (max a.length b.length) b := rfl
    rw [x0, x1]
    have la := pad_len (Nat.le_max_left a.length b.length)
    have lb := pad_len (Nat.le_max_right a.length b.length)
    obtain ⟨c1, c2⟩ := cut_of (((padTo (max a.length b.length) a).zip (padTo (max a.length b.length) b)).map fun q => (q.1 + q.2) % (p : Int))
    refine en_gd ⟨inRd rfl, inRd rfl, by rw [List.length_zip, la, lb]; omega, fun _ _ => by omega, c1⟩ (en_ok ⟨c2.rng ?_, c2.canon, ?_, fun x => ?_⟩)
    · intro c hc
      obtain ⟨q, _, rfl⟩ := List.mem_map.mp hc
      exact rng_mod (by omega) _
    · have := c2.len
      rw [List.length_map, List.length_zip, la, lb] at this
      omega
    · rw [isCut_rng c2]
      refine (zip_pv x _ _ (by rw [la, lb])).trans (Cg.of_eq ?_)
      rw [pad_pv, pad_pv]
theorem total_of (hp : 1 < p) {a b : List Int} (ha : a.length ≤ 1000) (hb : b.length ≤ 1000) : totalVG p a b ∧ PolW p (totalV p a b) (max a.length b.length) fun x => pv x a + pv x b :=
  have h := total_eq hp ha hb
  ⟨h.good, h.get.2⟩
theorem inverse_of (h : Fld p) (hp2 : p ≤ 1000) {v : Int} (hv : 0 ≤ v ∧ v < p) (hn : v ≠ 0) : inverseVG p v ∧ 0 ≤ inverseV p v ∧ inverseV p v < p ∧ inverseV p v * v % p = 1 := by
  have e : Ends (fun k => 0 ≤ k ∧ k < (p : Int) ∧ k * v % p = 1) (T_inverse p v) := by
    unfold T_inverse
    have nd : ¬ (p : Int) ∣ v := fun z => hn (by
      have := Int.emod_eq_zero_of_dvd z
      rwa [Int.emod_eq_of_lt hv.1 hv.2] at this)
    obtain ⟨k, hk, e⟩ := h.inv nd
    have hm : (k : Int) ∈ (irange 0 (p : Int)).filter fun (other_1 : Int) => (decide (((other_1 * v) % (p : Int)) = (1 : Int))) := List.mem_filter.mpr ⟨mem_irange.mpr ⟨by omega, by omega⟩, by simpa using e⟩
    have hl : 0 < ((irange 0 (p : Int)).filter fun (other_1 : Int) => (decide (((other_1 * v) % (p : Int)) = (1 : Int)))).length := List.length_pos_of_mem hm
    refine en_gd ⟨rOk_nat (by omega), by rw [len_irange]; omega, fun o ho => ?_, inR_nat (k := 0) hl⟩ (en_ok ?_)
    · have := mem_irange.mp ho
      exact ⟨cmul_l (by omega) (by omega), by have := h.1; omega⟩
    · have := ix_at (xs := (irange 0 (p : Int)).filter fun (other_1 : Int) => (decide (((other_1 * v) % (p : Int)) = (1 : Int)))) (k := 0) hl
      have e2 := List.getElem_mem hl
      rw [← this] at e2
      obtain ⟨m1, m2⟩ := List.mem_filter.mp e2
      exact ⟨(mem_irange.mp m1).1, (mem_irange.mp m1).2, of_decide_eq_true m2⟩
  exact ⟨e.good, e.get.2⟩
end K49
end
section
set_option Elab.async false
set_option linter.all false
set_option maxRecDepth 100000
set_option maxHeartbeats 4000000
/-! K49e: through, behind_wrong -/
namespace K49
open Mi PySem
variable {p : Nat} {x : Int}
/-- points in range -/
def Pts (p : Nat) (ps : List (Int × Int)) : Prop := ∀ q ∈ ps, (0 ≤ q.1 ∧ q.1 < (p : Int)) ∧ 0 ≤ q.2 ∧ q.2 < (p : Int)
structure ThrI (p : Nat) (pre : List (Int × Int)) (b : List Int × List Int) : Prop where
  r1 : Rng p b.1
  c1 : Canon b.1
  l1 : b.1.length ≤ pre.length
  v1 : ∀ q ∈ pre, Cg p (pv q.1 b.1) q.2
  r2 : Rng p b.2
  l2 : b.2.length ≤ pre.length + 1
  z2 : ∀ q ∈ pre, Cg p (pv q.1 b.2) 0
  n2 : ∀ x, (∀ q ∈ pre, ¬ (p : Int) ∣ x - q.1) → ¬ (p : Int) ∣ pv x b.2
theorem value_of (hp : 0 < p) (hx : 0 ≤ x ∧ x < 1000) (cs : List Int) : valueAtG p cs x ∧ valueAt p cs x = pv x cs % p :=
  ⟨good_ok (value_eq hp hx cs), get_ok (value_eq hp hx cs)⟩
theorem cg_zero {a : Int} : Cg p a 0 ↔ (p : Int) ∣ a := by unfold Cg; rw [Int.sub_zero]
theorem through_eq (h : Fld p) (hp2 : p ≤ 100) {ps : List (Int × Int)} (hr : Pts p ps) (hd : Dis p (ps.map (·.1))) (hl : ps.length ≤ 100) :
    Ends (fun f => Rng p f ∧ Canon f ∧ f.length ≤ ps.length ∧ ∀ q ∈ ps, Cg p (pv q.1 f) q.2) (T_through p ps) := by
  have hp := h.1
  unfold T_through
  refine en_let rfl (en_let rfl ?_)
  refine en_forRs (fun pre b => ThrI p pre b) ⟨(fun _ z => nomatch z), (fun n z => nomatch z), Nat.le_refl _, (fun _ z => nomatch z), (fun c hc => by rw [List.mem_singleton.mp hc]; omega), Nat.le_refl _, (fun _ z => nomatch z), fun x _ z => ?_⟩ (fun pre q post b e hb => ?_) (fun b hb => en_ok ⟨hb.r1, hb.c1, hb.l1, hb.v1⟩)
  · have : pv x [(1 : Int)] = 1 := by simp [pv]
    rw [this] at z
    have := Int.le_of_dvd (by omega) z
    omega
  · obtain ⟨x0, y⟩ := q
    have hq := hr (x0, y) (by rw [e]; simp)
    have hx0 : 0 ≤ x0 ∧ x0 < 1000 := ⟨hq.1.1, by have := hq.1.2; show x0 < 1000; have : x0 < (p : Int) := hq.1.2; omega⟩
    have hpl : pre.length < 100 := by rw [e, List.length_append, List.length_cons] at hl; omega
    have nx : ∀ q ∈ pre, ¬ (p : Int) ∣ x0 - q.1 := fun q hq => by
      unfold Dis at hd
      rw [e, List.map_append, List.map_cons] at hd
      exact (List.pairwise_append.mp hd).2.2 q.1 (List.mem_map_of_mem hq) x0 (List.mem_cons_self)
    have nb := hb.n2 x0 nx
    obtain ⟨f, base⟩ := b
    have lb0 : 0 < base.length := by
      rcases Nat.eq_zero_or_pos base.length with z | z
      · exfalso
        rw [show base = [] from List.eq_nil_of_length_eq_zero z] at nb
        exact nb ⟨0, rfl⟩
      · exact z
    have l1 : f.length ≤ pre.length := hb.l1
    have l2 : base.length ≤ pre.length + 1 := hb.l2
    obtain ⟨g1, e1⟩ := value_of (p := p) (by omega) hx0 f
    obtain ⟨g2, e2⟩ := value_of (p := p) (by omega) hx0 base
    have rb := rng_mod (p := p) (by omega) (pv x0 base)
    have nz : pv x0 base % (p : Int) ≠ 0 := fun z => nb (Int.dvd_of_emod_eq_zero z)
    obtain ⟨g3, i1, i2, i3⟩ := inverse_of h (by omega) rb nz
    show Ends _ (gdR (valueAtG p f x0 ∧ 0 < (p : Int)) (letR ((y - valueAt p f x0) % (p : Int)) _))
    refine en_gd ⟨g1, by omega⟩ (en_letG fun gap hgap => ?_)
    rw [e1] at hgap
    have rg := rng_mod (p := p) (by omega) (y - pv x0 f % p)
    rw [← hgap] at rg
    show Ends _ (gdR (valueAtG p base x0 ∧ inverseVG p (valueAt p base x0) ∧ L2.CMul gap (inverseV p (valueAt p base x0)) ∧ 0 < (p : Int)) (letR ((gap * inverseV p (valueAt p base x0)) % (p : Int)) _))
    rw [e2]
    refine en_gd ⟨g2, g3, cmul_l (by omega) (by omega), by omega⟩ (en_letG fun scale hs => ?_)
    have rs := rng_mod (p := p) (by omega) (gap * inverseV p (pv x0 base % p))
    rw [← hs] at rs
    have r1s : Rng p [scale] := fun c hc => by rw [List.mem_singleton.mp hc]; exact rs
    obtain ⟨g4, P1⟩ := product_of hp (by omega) hb.r2 r1s lb0 (by simp) (by show base.length ≤ 1000; omega) (by simp)
    have P1l : (productV p base [scale]).length ≤ base.length := P1.len
    obtain ⟨g5, P2⟩ := total_of hp (a := f) (b := productV p base [scale]) (by omega) (by omega)
    refine en_gd ⟨g4, g5⟩ (en_letG fun found hf => ?_)
    have r2s : Rng p [(-x0) % (p : Int), 1] := fun c hc => by
      rcases List.mem_cons.mp hc with rfl | hc
      · exact rng_mod (by omega) _
      · rw [List.mem_singleton.mp hc]; omega
    obtain ⟨g6, P3⟩ := product_of hp (by omega) hb.r2 r2s lb0 (by simp) (by show base.length ≤ 1000; omega) (by simp)
    have P3l : (productV p base [(-x0) % (p : Int), 1]).length ≤ base.length + 1 := P3.len
    refine en_gd ⟨by omega, g6⟩ (en_letG fun base' hb' => en_ok ?_)
    have V2 : ∀ x, Cg p (pv x found) (pv x f + pv x base * scale) := fun x => by
      rw [hf]
      refine (P2.val x).trans (Cg.add Cg.rfl' ((P1.val x).trans (Cg.of_eq ?_)))
      simp [pv]
    have V3 : ∀ x, Cg p (pv x base') (pv x base * (x - x0)) := fun x => by
      rw [hb']
      refine (P3.val x).trans (Cg.mul Cg.rfl' ?_)
      have : pv x [(-x0) % (p : Int), 1] = (-x0) % (p : Int) + x := by simp [pv]
      rw [this]
      exact (Cg.add Cg.mod Cg.rfl').trans (Cg.of_eq (by omega))
    have S : Cg p (pv x0 base * scale) gap := by
      have h1 : Cg p scale (gap * inverseV p (pv x0 base % p)) := by rw [hs]; exact Cg.mod
      have h2 : Cg p (inverseV p (pv x0 base % p) * (pv x0 base % p)) 1 := Cg.of_emod (by rw [i3, Int.emod_eq_of_lt (by omega) (by omega)])
      refine (Cg.mul (Cg.symm Cg.mod) h1).trans (Cg.trans (Cg.of_eq (b := gap * (inverseV p (pv x0 base % p) * (pv x0 base % p))) (by grind)) ((Cg.mul Cg.rfl' h2).trans (Cg.of_eq (by omega))))
    have G : Cg p gap (y - pv x0 f) := by rw [hgap]; exact Cg.mod.trans (Cg.sub Cg.rfl' Cg.mod)
    refine ⟨by rw [show (found, base').1 = found from rfl, hf]; exact P2.rng, by rw [show (found, base').1 = found from rfl, hf]; exact P2.canon, ?_, fun q hq => ?_, by rw [show (found, base').2 = base' from rfl, hb']; exact P3.rng, ?_, fun q hq => ?_, fun x hx => ?_⟩
    · show found.length ≤ _
      have := P2.len
      rw [← hf] at this
      rw [List.length_append]
      show found.length ≤ pre.length + 1
      omega
    · show Cg p (pv q.1 found) q.2
      rcases List.mem_append.mp hq with hq | hq
      · have z : Cg p (pv q.1 base) 0 := hb.z2 q hq
        have v : Cg p (pv q.1 f) q.2 := hb.v1 q hq
        exact (V2 q.1).trans ((Cg.add v (Cg.mul z Cg.rfl')).trans (Cg.of_eq (by omega)))
      · rw [List.mem_singleton.mp hq]
        exact (V2 x0).trans ((Cg.add Cg.rfl' (S.trans G)).trans (Cg.of_eq (by omega)))
    · show base'.length ≤ _
      have z : base'.length ≤ base.length + 1 := by rw [hb']; exact P3l
      rw [List.length_append]
      show _ ≤ pre.length + 1 + 1
      omega
    · show Cg p (pv q.1 base') 0
      rcases List.mem_append.mp hq with hq | hq
      · have z : Cg p (pv q.1 base) 0 := hb.z2 q hq
        exact (V3 q.1).trans ((Cg.mul z Cg.rfl').trans (Cg.of_eq (by omega)))
      · rw [List.mem_singleton.mp hq]
        exact (V3 x0).trans (Cg.of_eq (by grind))
    · show ¬ (p : Int) ∣ pv x base'
      intro z
      have z2 : (p : Int) ∣ pv x base * (x - x0) := cg_zero.mp ((V3 x).symm.trans (cg_zero.mpr z))
      rcases h.prime z2 with w | w
      · exact hb.n2 x (fun q hq => hx q (by simp [hq])) w
      · exact hx (x0, y) (by simp) w
theorem through_of (h : Fld p) (hp2 : p ≤ 100) {ps : List (Int × Int)} (hr : Pts p ps) (hd : Dis p (ps.map (·.1))) (hl : ps.length ≤ 100) :
    throughVG p ps ∧ Rng p (throughV p ps) ∧ Canon (throughV p ps) ∧ (throughV p ps).length ≤ ps.length ∧ ∀ q ∈ ps, Cg p (pv q.1 (throughV p ps)) q.2 :=
  have e := through_eq h hp2 hr hd hl
  ⟨e.good, e.get.2⟩
end K49
end
section
set_option Elab.async false
set_option linter.all false
set_option maxRecDepth 100000
set_option maxHeartbeats 4000000
/-! K49f: behind_wrong -/
namespace K49
open Mi PySem
variable {p : Nat} {x : Int}
section
variable {α : Type}
/-- what is left without the places of gone -/
def rowF (gone : List Int) : Int → List α → List α
  | _, [] => []
  | s, q :: ps => if s ∈ gone then rowF gone (s + 1) ps else q :: rowF gone (s + 1) ps
theorem rowF_go (gone : List Int) : ∀ (ps : List α) (s : Int), ((((enL ps).map fun q => (q.1 + s, q.2)).filter fun q => !decide (q.1 ∈ gone)).map fun q => q.2) = rowF gone s ps
  | [], s => rfl
  | q :: ps, s => by
    have ih := rowF_go gone ps (s + 1)
    rw [enL_cons, List.map_cons, List.map_map]
    have e : ((fun q : Int × α => (q.1 + s, q.2)) ∘ fun q : Int × α => (q.1 + 1, q.2)) = fun q => (q.1 + (s + 1), q.2) := by
      funext q; show (q.1 + 1 + s, q.2) = _; rw [show q.1 + 1 + s = q.1 + (s + 1) by omega]
    rw [e]
    unfold rowF
    rw [show (0 : Int) + s = s by omega]
    by_cases h : s ∈ gone
    · rw [if_pos h, List.filter_cons_of_neg (by simpa using h)]; exact ih
    · rw [if_neg h, List.filter_cons_of_pos (by simpa using h), List.map_cons, ih]
theorem rowF_eq (gone : List Int) (ps : List α) : (((enL ps).filter fun q => !decide (q.1 ∈ gone)).map fun q => q.2) = rowF gone 0 ps := by
  rw [← rowF_go]
  congr 2
  have : (fun q : Int × α => (q.1 + 0, q.2)) = id := by funext q; simp
  rw [this, List.map_id]
theorem rowF_sub (gone : List Int) : ∀ (ps : List α) (s : Int), (rowF gone s ps).Sublist ps
  | [], s => List.Sublist.refl _
  | q :: ps, s => by
    unfold rowF
    split
    · exact (rowF_sub gone ps (s + 1)).cons q
    · exact (rowF_sub gone ps (s + 1)).cons_cons q
theorem up_le (s : Int) : ∀ (gone : List Int), (gone.filter fun g => decide (s + 1 ≤ g)).length ≤ (gone.filter fun g => decide (s ≤ g)).length
  | [] => Nat.le_refl _
  | g :: gone => by
    have ih := up_le s gone
    by_cases h1 : s + 1 ≤ g
    · rw [List.filter_cons_of_pos (by simpa using h1), List.filter_cons_of_pos (by simp; omega)]; simpa using ih
    · rw [List.filter_cons_of_neg (by simpa using h1)]
      by_cases h2 : s ≤ g
      · rw [List.filter_cons_of_pos (by simpa using h2)]; simp; omega
      · rw [List.filter_cons_of_neg (by simpa using h2)]; exact ih
theorem up_lt {s : Int} : ∀ {gone : List Int}, s ∈ gone → (gone.filter fun g => decide (s + 1 ≤ g)).length + 1 ≤ (gone.filter fun g => decide (s ≤ g)).length
  | [], h => nomatch h
  | g :: gone, h => by
    by_cases h1 : g = s
    · subst h1
      rw [List.filter_cons_of_neg (by simp; omega), List.filter_cons_of_pos (by simp)]
      have := up_le g gone
      simp; omega
    · have ih := up_lt (gone := gone) (by rcases List.mem_cons.mp h with z | z; exact absurd z.symm h1; exact z)
      by_cases h2 : s + 1 ≤ g
      · rw [List.filter_cons_of_pos (by simpa using h2), List.filter_cons_of_pos (by simp; omega)]; simp; omega
      · rw [List.filter_cons_of_neg (by simpa using h2), List.filter_cons_of_neg (by simp; omega)]; exact ih
theorem few_out {P : α → Bool} (gone : List Int) : ∀ (ps : List α) (s : Int), (∀ q ∈ rowF gone s ps, P q = false) → (ps.filter P).length ≤ (gone.filter fun g => decide (s ≤ g)).length
  | [], s, _ => Nat.zero_le _
  | q :: ps, s, h => by
    unfold rowF at h
    by_cases g : s ∈ gone
    · rw [if_pos g] at h
      have ih := few_out gone ps (s + 1) h
      have := up_lt g
      have := List.length_filter_le P [q]
      by_cases hq : P q = true
      · rw [List.filter_cons_of_pos hq]; simp; omega
      · rw [List.filter_cons_of_neg hq]; omega
    · rw [if_neg g] at h
      have ih := few_out gone ps (s + 1) fun q hq => h q (List.mem_cons_of_mem _ hq)
      have := up_le s gone
      rw [List.filter_cons_of_neg (by rw [h q (List.mem_cons_self)]; simp)]
      omega
/-- the places of those that have P -/
def idxs (P : α → Bool) : Nat → List α → List Nat
  | _, [] => []
  | s, q :: ps => if P q = true then s :: idxs P (s + 1) ps else idxs P (s + 1) ps
theorem idxs_cons (P : α → Bool) (s : Nat) (q : α) (ps : List α) : idxs P s (q :: ps) = if P q = true then s :: idxs P (s + 1) ps else idxs P (s + 1) ps := rfl
theorem idxs_spec (P : α → Bool) : ∀ (ps : List α) (s : Nat), (idxs P s ps).Pairwise (· < ·) ∧ (idxs P s ps).length = (ps.filter P).length ∧ ∀ k ∈ idxs P s ps, s ≤ k ∧ k < s + ps.length
  | [], s => ⟨List.Pairwise.nil, rfl, fun _ h => nomatch h⟩
  | q :: ps, s => by
    obtain ⟨i1, i2, i3⟩ := idxs_spec P ps (s + 1)
    unfold idxs
    by_cases h : P q = true
    · rw [if_pos h, List.filter_cons_of_pos h]
      refine ⟨List.pairwise_cons.mpr ⟨fun k hk => by have := i3 k hk; omega, i1⟩, by simp [i2], fun k hk => ?_⟩
      rw [List.length_cons]
      rcases List.mem_cons.mp hk with rfl | hk
      · omega
      · have := i3 k hk; omega
    · rw [if_neg h, List.filter_cons_of_neg h]
      exact ⟨i1, i2, fun k hk => by have := i3 k hk; rw [List.length_cons]; omega⟩
theorem idxs_row (P : α → Bool) : ∀ (ps : List α) (s : Nat) (gone : List Int), (∀ k : Nat, s ≤ k → ((k : Int) ∈ gone ↔ k ∈ idxs P s ps)) → rowF gone (s : Int) ps = ps.filter fun q => !P q
  | [], s, gone, _ => rfl
  | q :: ps, s, gone, h => by
    have nin : s ∉ idxs P (s + 1) ps := fun z => by have := (idxs_spec P ps (s + 1)).2.2 s z; omega
    have ih := idxs_row P ps (s + 1) gone fun k hk => by
      rw [h k (by omega), idxs_cons]
      by_cases hq : P q = true
      · rw [if_pos hq, List.mem_cons]
        exact ⟨fun z => z.resolve_left (by omega), .inr⟩
      · rw [if_neg hq]
    have e : ((s : Int) + 1) = ((s + 1 : Nat) : Int) := by omega
    unfold rowF
    have hs := h s (Nat.le_refl _)
    unfold idxs at hs
    by_cases hq : P q = true
    · rw [if_pos hq] at hs
      rw [if_pos (hs.mpr (List.mem_cons_self)), List.filter_cons_of_neg (by simp [hq]), e, ih]
    · rw [if_neg hq] at hs
      rw [if_neg (fun z => nin (hs.mp z)), List.filter_cons_of_pos (by simp [hq]), e, ih]
end
theorem pick_range {n : Nat} {l : List Nat} (h : ∀ k ∈ l, k < n) : pickL (irange 0 (n : Int)) l = l.map fun k : Nat => (k : Int) := by
  unfold pickL
  refine List.map_congr_left fun k hk => ?_
  rw [irange_nat, List.getD_eq_getElem?_getD, List.getElem?_map, List.getElem?_range (h k hk)]; rfl
theorem len_range (n : Nat) : (irange 0 (n : Int)).length = n := by rw [len_irange]; omega
theorem gone_len {n r : Nat} {gone : List Int} (h : gone ∈ cmbL (irange 0 (n : Int)) r) : gone.length = r := by
  unfold cmbL at h
  obtain ⟨l, hl, rfl⟩ := List.mem_map.mp h
  unfold pickL
  rw [List.length_map]
  exact ((cmbs_mem _ _ _ _).mp hl).2.1
/-- the points that a sum misses -/
def missP (p : Nat) (f : List Int) (q : Int × Int) : Bool := !decide (pv q.1 f % (p : Int) = q.2)
def miss (p : Nat) (f : List Int) (ps : List (Int × Int)) : List (Int × Int) := ps.filter (missP p f)
theorem missP_no {f : List Int} {q : Int × Int} (h : 0 ≤ q.2 ∧ q.2 < (p : Int)) : missP p f q = false ↔ Cg p (pv q.1 f) q.2 := by
  unfold missP
  rw [Bool.not_eq_false', decide_eq_true_iff, cg_iff, Int.emod_eq_of_lt h.1 h.2]
theorem len_split {α : Type} (P : α → Bool) : ∀ (l : List α), (l.filter P).length + (l.filter fun q => !P q).length = l.length
  | [] => rfl
  | q :: l => by
    have ih := len_split P l
    by_cases h : P q = true
    · rw [List.filter_cons_of_pos h, List.filter_cons_of_neg (by simp [h])]; simp; omega
    · rw [List.filter_cons_of_neg h, List.filter_cons_of_pos (by simp [h])]; simp; omega
theorem asc_dis {xs : List Int} (h : xs.Pairwise (· < ·)) (hr : ∀ x ∈ xs, 0 ≤ x ∧ x < (p : Int)) : Dis p xs := by
  unfold Dis
  refine List.Pairwise.imp_of_mem (R := (· < ·)) (fun {a b} ha hb hab z => ?_) h
  have := sub_zero (hr b hb) (hr a ha) z
  omega
/-- sums of few powers with few misses are one -/
theorem one_sum (h : Fld p) {ps : List (Int × Int)} (hr : Pts p ps) (ha : (ps.map (·.1)).Pairwise (· < ·)) {m w : Nat} (hl : m + 2 * w ≤ ps.length) {f g : List Int} (rf : Rng p f) (rg : Rng p g) (lf : f.length ≤ m) (lg : g.length ≤ m) (mf : (miss p f ps).length ≤ w) (mg : (miss p g ps).length ≤ w) : Eqz f g := by
  have s1 := len_split (missP p f) ps
  have s2 := len_split (missP p g) (ps.filter fun q => !missP p f q)
  have sl : ((ps.filter fun q => !missP p f q).filter (missP p g)).length ≤ (ps.filter (missP p g)).length := (List.Sublist.filter _ List.filter_sublist).length_le
  unfold miss at mf mg
  have sub : ((ps.filter fun q => !missP p f q).filter fun q => !missP p g q).Sublist ps := List.filter_sublist.trans List.filter_sublist
  have asub := ha.sublist (sub.map (·.1))
  refine agree h (xs := ((ps.filter fun q => !missP p f q).filter fun q => !missP p g q).map (·.1)) (asc_dis asub fun x hx => ?_) (by rw [List.length_map]; omega) (by rw [List.length_map]; omega) rf rg fun x hx => ?_
  · obtain ⟨q, hq, rfl⟩ := List.mem_map.mp hx
    exact (hr q (sub.subset hq)).1
  · obtain ⟨q, hq, rfl⟩ := List.mem_map.mp hx
    obtain ⟨h1, h2⟩ := List.mem_filter.mp hq
    obtain ⟨h3, h4⟩ := List.mem_filter.mp h1
    have v := (hr q h3).2
    have a := (missP_no v).mp (by simpa using h4)
    have b := (missP_no v).mp (by simpa using h2)
    exact a.trans b.symm
structure Pok (p : Nat) (ps : List (Int × Int)) : Prop where
  fld : Fld p
  p2 : p ≤ 100
  pr : ((p : Int) ∈ ([2, 3, 5, 7, 11, 13, 17, 19, 23, 29, 31] : List Int))
  pts : Pts p ps
  asc : (ps.map (·.1)).Pairwise (· < ·)
  len : ps.length ≤ 100
theorem prime_ok (h : ((p : Int) ∈ ([2, 3, 5, 7, 11, 13, 17, 19, 23, 29, 31] : List Int))) : T_check_prime p = .ok () := by
  unfold T_check_prime
  rw [if_neg (by rw [decide_eq_true h]; decide)]
theorem points_ok {ps : List (Int × Int)} (h : Pok p ps) : T_check_points p ps = .ok () := by
  refine Ends.eq ?_
  unfold T_check_points
  rw [prime_ok h.pr]
  have hl := h.len
  have e1 : ps.map (·.1) = sortSet (ps.map (·.1)) := asc_ext h.asc asc_sortSet fun j => by rw [mem_sortSet]
  refine en_gd (by omega) (en_let rfl (en_gd ⟨by rw [List.length_map]; omega, fun _ => by omega⟩ (en_ifn (fun z => ?_) (en_ok rfl))))
  rw [Bool.or_eq_true] at z
  rcases z with z | z
  · rw [Bool.not_eq_true', decide_eq_false_iff_not] at z
    exact z e1
  · rw [Bool.not_eq_true'] at z
    have : ((ps.map fun (p6 : Int × Int) => (((decide ((0 : Int) ≤ p6.1)) && (decide (p6.1 < (p : Int)))) && ((decide ((0 : Int) ≤ p6.2)) && (decide (p6.2 < (p : Int)))))).all id) = true := by
      rw [List.all_eq_true]
      intro b hb
      obtain ⟨q, hq, rfl⟩ := List.mem_map.mp hb
      have := h.pts q hq
      simp [this.1.1, this.1.2, this.2.1, this.2.2]
    rw [this] at z
    cases z
theorem points_bad {ps : List (Int × Int)} (hp : ((p : Int) ∈ ([2, 3, 5, 7, 11, 13, 17, 19, 23, 29, 31] : List Int))) (hl : ps.length < 4000) {q : Int × Int} (hq : q ∈ ps) (hb : (p : Int) ≤ q.1) : T_check_points p ps = .exc 1 := by
  unfold T_check_points
  rw [prime_ok hp, R.ok_bind, gdR_pos (by omega), letR_eq, gdR_pos ⟨by rw [List.length_map]; omega, fun _ => by omega⟩, if_pos]
  rw [Bool.or_eq_true]
  refine .inr ?_
  rw [Bool.not_eq_true', List.all_eq_false]
  refine ⟨_, List.mem_map_of_mem hq, ?_⟩
  have : decide (q.1 < (p : Int)) = false := decide_eq_false (by omega)
  simp [this]
theorem points_prime {ps : List (Int × Int)} {n : Int} (hp : ¬ (n ∈ ([2, 3, 5, 7, 11, 13, 17, 19, 23, 29, 31] : List Int))) : T_check_points n ps = .exc 1 := by
  unfold T_check_points T_check_prime
  rw [if_pos (by simpa using hp)]; rfl
theorem wrong_bad {ps : List (Int × Int)} (h : Pok p ps) {m w : Int} (hb : m < 0 ∨ (p : Int) < m ∨ w < 0 ∨ 2 < w) : T_check_wrong p m w ps = .exc 1 := by
  unfold T_check_wrong
  rw [points_ok h, R.ok_bind, if_pos]
  rw [Bool.or_eq_true, Bool.not_eq_true', Bool.not_eq_true', Bool.and_eq_false_iff, Bool.and_eq_false_iff, decide_eq_false_iff_not, decide_eq_false_iff_not, decide_eq_false_iff_not, decide_eq_false_iff_not]
  omega
theorem wrong_if {ps : List (Int × Int)} (h : Pok p ps) {m w : Nat} (hm : m ≤ p) (hw : w ≤ 2) : T_check_wrong p m w ps = if ps.length < m + 2 * w then .exc 1 else .ok () := by
  unfold T_check_wrong
  rw [points_ok h, R.ok_bind, if_neg (fun z => ?_), gdR_pos (cmul_l (by omega) (by omega))]
  · by_cases q : ps.length < m + 2 * w
    · rw [if_pos q, if_pos (decide_eq_true (by omega))]
    · rw [if_neg q, if_neg (by simp; omega)]
  · rw [Bool.or_eq_true, Bool.not_eq_true', Bool.not_eq_true', Bool.and_eq_false_iff, Bool.and_eq_false_iff, decide_eq_false_iff_not, decide_eq_false_iff_not, decide_eq_false_iff_not, decide_eq_false_iff_not] at z
    omega
theorem row_of {ps : List (Int × Int)} (h : Pok p ps) (gone : List Int) : throughVG p (rowF gone 0 ps) ∧ Rng p (throughV p (rowF gone 0 ps)) ∧ Canon (throughV p (rowF gone 0 ps)) ∧ (throughV p (rowF gone 0 ps)).length ≤ (rowF gone 0 ps).length ∧ ∀ q ∈ rowF gone 0 ps, Cg p (pv q.1 (throughV p (rowF gone 0 ps))) q.2 := by
  have sub := rowF_sub gone ps 0
  have hl := h.len
  refine through_of h.fld h.p2 (fun q hq => h.pts q (sub.subset hq)) (asc_dis (h.asc.sublist (sub.map _)) fun x hx => ?_) (by have := sub.length_le; omega)
  obtain ⟨q, hq, rfl⟩ := List.mem_map.mp hx
  exact (h.pts q (sub.subset hq)).1
theorem behind_eq {ps : List (Int × Int)} (h : Pok p ps) {m w : Nat} (hm : m ≤ p) (hw : w ≤ 2) (hl : m + 2 * w ≤ ps.length) :
    (∃ f, T_behind_wrong p m w ps = .ok f ∧ Rng p f ∧ Canon f ∧ f.length ≤ m ∧ (miss p f ps).length ≤ w) ∨ (T_behind_wrong p m w ps = .exc 3 ∧ ∀ g, Rng p g → g.length ≤ m → ¬ (miss p g ps).length ≤ w) := by
  have hlen := h.len
  unfold T_behind_wrong
  rw [wrong_if h hm hw, if_neg (by omega), R.ok_bind, gdR_pos (rOk_int (by omega) (by omega))]
  have key := forF_go (γ := List Int) (f := fun (size3 : Int) (b4 : Unit) => (gdR ((cmbG (ps.length : Int).toNat size3 ∧ 0 ≤ (ps.length : Int))) ((forF (γ := List Int) (fun (gone6 : List Int) (b7 : Unit) => (gdR (((enL ps).length ≤ 100000)) (letR (((enL ps).filter fun (p8 : Int × (Int × Int)) => (!decide (p8.1 ∈ gone6))).map fun (p8 : Int × (Int × Int)) => p8.2) fun row12 => (gdR ((throughVG p row12)) (letR (throughV p row12) fun found14 => (if (decide ((found14.length : Int) ≤ (m : Int))) = true then (.ok (Fl.ret found14)) else (.ok (Fl.nx ())))))))) (cmbL (irange 0 (ps.length : Int)) size3.toNat) ()).bind (flK (fun (b15 : Unit) => (.ok (Fl.nx ()))) (fun g => Fl.ret g)))))
    (fun j _ => ∀ size : Nat, size < j → ∀ gone ∈ cmbL (irange 0 (ps.length : Int)) size, ¬ (throughV p (rowF gone 0 ps)).length ≤ m) (fun _ => False) (fun f => Rng p f ∧ Canon f ∧ f.length ≤ m ∧ (miss p f ps).length ≤ w) (irange 0 ((w : Int) + 1)) 0 () (fun size z => absurd z (by omega)) (fun j size b hs hI => ?_)
  · obtain ⟨z, e, hz⟩ := key
    rw [e]
    have ln : (irange 0 ((w : Int) + 1)).length = w + 1 := by rw [len_irange]; omega
    rw [ln] at hz
    have N : (∀ size : Nat, size < 0 + (w + 1) → ∀ gone ∈ cmbL (irange 0 (ps.length : Int)) size, ¬ (throughV p (rowF gone 0 ps)).length ≤ m) → ∀ g, Rng p g → g.length ≤ m → ¬ (miss p g ps).length ≤ w := fun hz g rg lg mg => by
      obtain ⟨i1, i2, i3⟩ := idxs_spec (missP p g) ps 0
      have hmem : (idxs (missP p g) 0 ps).map (fun k : Nat => (k : Int)) ∈ cmbL (irange 0 (ps.length : Int)) (miss p g ps).length := by
        unfold cmbL
        rw [len_range]
        refine List.mem_map.mpr ⟨idxs (missP p g) 0 ps, (cmbs_mem _ _ _ _).mpr ⟨i1, i2, i3⟩, pick_range (n := ps.length) fun k hk => by have := i3 k hk; omega⟩
      have no := hz (miss p g ps).length (by omega) _ hmem
      have er := idxs_row (missP p g) ps 0 ((idxs (missP p g) 0 ps).map (fun k : Nat => (k : Int))) fun k _ => by
        rw [List.mem_map]
        constructor
        · rintro ⟨a, ha, e⟩
          rwa [show a = k by omega] at ha
        · exact fun z => ⟨k, z, rfl⟩
      have er : rowF ((idxs (missP p g) 0 ps).map (fun k : Nat => (k : Int))) 0 ps = ps.filter fun q => !missP p g q := er
      obtain ⟨_, r1, r2, r3, r4⟩ := row_of h ((idxs (missP p g) 0 ps).map (fun k : Nat => (k : Int)))
      rw [er] at no r1 r2 r3 r4
      have sp := len_split (missP p g) ps
      unfold miss at mg
      have sub : (ps.filter fun q => !missP p g q).Sublist ps := List.filter_sublist
      have eq : Eqz (throughV p (ps.filter fun q => !missP p g q)) g := by
        refine agree h.fld (xs := (ps.filter fun q => !missP p g q).map (·.1)) (asc_dis (h.asc.sublist (sub.map _)) fun x hx => ?_) (by rw [List.length_map]; exact r3) (by rw [List.length_map]; omega) r1 rg fun x hx => ?_
        · obtain ⟨q, hq, rfl⟩ := List.mem_map.mp hx
          exact (h.pts q (sub.subset hq)).1
        · obtain ⟨q, hq, rfl⟩ := List.mem_map.mp hx
          have v := (h.pts q (sub.subset hq)).2
          have b := (missP_no v).mp (by simpa using (List.mem_filter.mp hq).2)
          exact (r4 q hq).trans b.symm
      exact no (Nat.le_trans (r2.le eq) lg)
    cases z with
    | ct b => exact .inr ⟨rfl, N (hz.elim id False.elim)⟩
    | bk b => exact hz.elim
    | ret f => exact .inl ⟨f, rfl, hz⟩
    | nx b => exact .inr ⟨rfl, N (hz.elim id False.elim)⟩
  · obtain ⟨hj, rfl⟩ := irange_get hs
    have es : (0 : Int) + (j : Int) = (j : Int) := by omega
    rw [es]
    have hjw : j ≤ w := by omega
    refine en_gd ⟨⟨⟨by omega, by omega⟩, by omega⟩, by omega⟩ ?_
    show Ends _ ((forF _ (cmbL (irange 0 (ps.length : Int)) j) ()).bind _)
    refine en_forF (fun k _ => ∀ k' < k, ∀ gone, (cmbL (irange 0 (ps.length : Int)) j)[k']? = some gone → ¬ (throughV p (rowF gone 0 ps)).length ≤ m) (fun _ => False) (fun f => Rng p f ∧ Canon f ∧ f.length ≤ m ∧ (miss p f ps).length ≤ w) (fun k' z => absurd z (by omega)) (fun k gone b hk hI2 => ?_) (fun b hb => ?_) (fun g hg => hg)
    · obtain ⟨t1, t2, t3, t4, t5⟩ := row_of h gone
      refine en_gd (by rw [enL_len']; omega) ?_
      rw [rowF_eq]
      refine en_let rfl (en_gd t1 (en_let rfl (en_if (fun q => ?_) (fun q => ?_))))
      · have q := of_decide_eq_true q
        refine en_ret ⟨t2, t3, by omega, ?_⟩
        have few := few_out (P := missP p (throughV p (rowF gone 0 ps))) gone ps 0 fun q hq => (missP_no (h.pts q ((rowF_sub gone ps 0).subset hq)).2).mpr (t5 q hq)
        have := List.length_filter_le (fun g => decide ((0 : Int) ≤ g)) gone
        have := gone_len (mem_get hk)
        unfold miss
        omega
      · refine en_nx fun k' hk' gone' hg' => ?_
        rcases Nat.lt_or_ge k' k with z | z
        · exact hI2 k' z gone' hg'
        · rw [show k' = k by omega, hk] at hg'
          rw [← Option.some.inj hg']
          simpa using q
    · refine en_nx fun size hsz gone hg => ?_
      rcases Nat.lt_or_ge size j with z | z
      · exact hI size (by omega) gone hg
      · rw [show size = j by omega] at hg
        have hb := hb.elim id False.elim
        obtain ⟨k', hk', e⟩ := List.getElem_of_mem hg
        exact hb k' hk' gone (by rw [List.getElem?_eq_getElem hk', e])
end K49
end
section
set_option Elab.async false
set_option linter.all false
set_option maxRecDepth 100000
set_option maxHeartbeats 4000000
/-! K49g: the law's own reckoning -/
namespace K49
open Mi PySem
variable {p : Nat} {x : Int}
theorem lawCut_eq {cs : List Int} (hl : cs.length ≤ 1000) : Ends (fun r => IsCut cs r) (T__law_cut cs) := by
  unfold T__law_cut
  have hm : ∀ k : Int, k ∈ (([(0 : Int)] : List Int) ++ (((irange 0 (cs.length : Int)).filter fun (k1 : Int) => (!decide ((ix cs k1) = (0 : Int)))).map fun (k1 : Int) => (k1 + (1 : Int)))) ↔ k = 0 ∨ ∃ j : Nat, j < cs.length ∧ cs.getD j 0 ≠ 0 ∧ k = ((j + 1 : Nat) : Int) := by
    intro k
    rw [List.mem_append, List.mem_singleton, List.mem_map]
    refine or_congr_right ⟨?_, ?_⟩
    · rintro ⟨a, ha, rfl⟩
      obtain ⟨h1, h2⟩ := List.mem_filter.mp ha
      have h1 := mem_irange.mp h1
      obtain ⟨j, rfl⟩ := Int.eq_ofNat_of_zero_le h1.1
      rw [Bool.not_eq_true', decide_eq_false_iff_not, ix_getD] at h2
      exact ⟨j, by omega, h2, by omega⟩
    · rintro ⟨j, hj, h2, rfl⟩
      refine ⟨(j : Int), List.mem_filter.mpr ⟨mem_irange.mpr ⟨by omega, by omega⟩, ?_⟩, by omega⟩
      rw [Bool.not_eq_true', decide_eq_false_iff_not, ix_getD]; exact h2
  have hlen : (((irange 0 (cs.length : Int)).filter fun (k1 : Int) => (!decide ((ix cs k1) = (0 : Int)))).map fun (k1 : Int) => (k1 + (1 : Int))).length ≤ cs.length := by
    rw [List.length_map]
    have := List.length_filter_le (fun (k1 : Int) => (!decide ((ix cs k1) = (0 : Int)))) (irange 0 (cs.length : Int))
    rw [len_range] at this
    exact this
  refine en_gd ⟨rOk_nat (by omega), by rw [len_range]; omega, fun k hk => ?_, szOk_of (by simp only [List.length_cons, List.length_nil]; omega), by simp⟩ (en_letG fun n hn => en_ok ?_)
  · have := mem_irange.mp hk
    exact inR_int this.1 this.2
  · have h1 := (hm n).mp (by rw [hn]; exact maxI_mem (by simp))
    have h2 : ∀ k : Int, (k = 0 ∨ ∃ j : Nat, j < cs.length ∧ cs.getD j 0 ≠ 0 ∧ k = ((j + 1 : Nat) : Int)) → k ≤ n := fun k hk => by rw [hn]; exact maxI_le ((hm k).mpr hk)
    have up : ∀ m : Nat, n = (m : Int) → ∀ i, m ≤ i → cs.getD i 0 = 0 := fun m e i hi => by
      rcases Nat.lt_or_ge i cs.length with z | z
      · by_cases q : cs.getD i 0 = 0
        · exact q
        · have := h2 ((i + 1 : Nat) : Int) (.inr ⟨i, z, q, rfl⟩)
          omega
      · exact getD_ge z
    rcases h1 with e | ⟨j, hj, hne, e⟩
    · have : n = ((0 : Nat) : Int) := e
      rw [this, cut_to]
      exact isCut_take (Nat.zero_le _) (.inl rfl) (up 0 this)
    · rw [e, cut_to]
      exact isCut_take hj (.inr hne) (up (j + 1) e)
/-- all sums of m powers -/
def sums (p : Nat) : Nat → List (List Int)
  | 0 => [[]]
  | m + 1 => (sums p m).flatMap fun row => (irange 0 (p : Int)).map fun n => row ++ [n]
theorem sums_mem : ∀ (m : Nat) (r : List Int), r ∈ sums p m ↔ r.length = m ∧ Rng p r
  | 0, r => by
    unfold sums
    rw [List.mem_singleton]
    constructor
    · rintro rfl; exact ⟨rfl, fun _ h => nomatch h⟩
    · rintro ⟨h, _⟩; exact List.eq_nil_of_length_eq_zero h
  | m + 1, r => by
    unfold sums
    rw [List.mem_flatMap]
    constructor
    · rintro ⟨row, hr, h⟩
      obtain ⟨n, hn, rfl⟩ := List.mem_map.mp h
      obtain ⟨h1, h2⟩ := (sums_mem m row).mp hr
      refine ⟨by simp [h1], fun c hc => ?_⟩
      rcases List.mem_append.mp hc with hc | hc
      · exact h2 c hc
      · rw [List.mem_singleton.mp hc]; exact mem_irange.mp hn
    · rintro ⟨h1, h2⟩
      have hne : r ≠ [] := fun z => by rw [z] at h1; simp at h1
      refine ⟨r.dropLast, (sums_mem m _).mpr ⟨by rw [List.length_dropLast]; omega, fun c hc => h2 c ((List.dropLast_sublist r).subset hc)⟩, List.mem_map.mpr ⟨r.getLast hne, mem_irange.mpr (h2 _ (List.getLast_mem hne)), List.dropLast_concat_getLast hne⟩⟩
theorem sums_nodup : ∀ (m : Nat), (sums p m).Nodup
  | 0 => by unfold sums; simp
  | m + 1 => by
    unfold sums
    rw [List.Nodup, List.flatMap_def, List.pairwise_flatten]
    refine ⟨fun l hl => ?_, ?_⟩
    · obtain ⟨row, _, rfl⟩ := List.mem_map.mp hl
      rw [List.pairwise_map]
      refine List.Pairwise.imp (R := (· < ·)) (fun {a b} h e => ?_) ?_
      · have := List.append_cancel_left e
        simp at this; omega
      · unfold irange
        rw [List.pairwise_map]
        exact List.pairwise_lt_range.imp fun {a b} h => by omega
    · rw [List.pairwise_map]
      refine (sums_nodup m).imp fun {a b} hab u hu v hv e => hab ?_
      obtain ⟨n, _, rfl⟩ := List.mem_map.mp hu
      obtain ⟨n', _, rfl⟩ := List.mem_map.mp hv
      exact (List.append_inj' e rfl).1
theorem sums_len : ∀ (m : Nat), (sums p m).length = p ^ m
  | 0 => rfl
  | m + 1 => by
    unfold sums
    rw [List.length_flatMap]
    have : ((sums p m).map fun row => ((irange 0 (p : Int)).map fun n => row ++ [n]).length) = List.replicate (sums p m).length p := by
      rw [List.eq_replicate_iff]
      refine ⟨by simp, fun k hk => ?_⟩
      obtain ⟨row, _, rfl⟩ := List.mem_map.mp hk
      rw [List.length_map, len_range]
    rw [this, List.sum_replicate_nat, sums_len m, Nat.pow_succ]
theorem allSums_eq {m : Nat} (hp : 0 < p) (h : p ^ m ≤ 100000) (hp2 : p ≤ 1000) (hm : m ≤ 1000) : T__law_all_sums p m = .ok (sums p m) := by
  refine Ends.eq ?_
  unfold T__law_all_sums
  refine en_let rfl (en_gd (rOk_nat (by omega)) ?_)
  refine en_forR (fun j b => b = sums p j) rfl (fun j k b hk hb => ?_) fun b hb => en_ok (by rw [hb, len_range])
  have hj : j < m := by have := (irange_get hk).1; omega
  subst hb
  refine en_let rfl ?_
  have hle : p ^ (j + 1) ≤ p ^ m := Nat.pow_le_pow_right hp (by omega)
  refine en_forRs (fun pre b => b = pre.flatMap fun row => (irange 0 (p : Int)).map fun n => row ++ [n]) rfl (fun pre row post b e hb => ?_) fun b hb => en_ok hb
  have hrow : row.length = j := ((sums_mem j row).mp (by rw [e]; simp)).1
  have hlen : (pre.flatMap fun row => (irange 0 (p : Int)).map fun n => row ++ [n]).length + p ≤ p ^ (j + 1) := by
    have h1 := sums_len (p := p) (j + 1)
    unfold sums at h1
    rw [e, List.flatMap_append, List.flatMap_cons, List.length_append, List.length_append, List.length_map, len_range] at h1
    omega
  refine en_gd ⟨rOk_nat (by omega), by rw [len_range]; omega, fun n _ => szOk_of (by rw [hrow]; simp; omega), ?_⟩ (en_let rfl (en_ok ?_))
  · rw [hb, List.length_map, len_range]; omega
  · rw [hb, List.flatMap_append]; simp
theorem pad_rng (hp : 0 < p) {n : Nat} {a : List Int} (h : Rng p a) : Rng p (padTo n a) := fun c hc => by
  unfold padTo at hc
  rcases List.mem_append.mp hc with q | q
  · exact h c q
  · rw [(List.mem_replicate.mp q).2]; omega
theorem pad_miss {n : Nat} {a : List Int} {ps : List (Int × Int)} : miss p (padTo n a) ps = miss p a ps := by
  unfold miss
  congr 1
  funext q
  unfold missP
  rw [pad_pv]
theorem nodup_one {α : Type} {l : List α} (h : l.Nodup) (h1 : ∀ a ∈ l, ∀ b ∈ l, a = b) : l = [] ∨ ∃ a, l = [a] := by
  match l, h, h1 with
  | [], _, _ => exact .inl rfl
  | [a], _, _ => exact .inr ⟨a, rfl⟩
  | a :: b :: t, h, h1 =>
    exfalso
    have := (List.nodup_cons.mp h).1
    rw [h1 a (by simp) b (by simp)] at this
    simp at this
/-- the good ones -/
def goods (p m w : Nat) (ps : List (Int × Int)) : List (List Int) := (sums p m).filter fun row => decide ((miss p row ps).length ≤ w)
theorem mem_goods {m w : Nat} {ps : List (Int × Int)} {g : List Int} : g ∈ goods p m w ps ↔ (g.length = m ∧ Rng p g) ∧ (miss p g ps).length ≤ w := by
  unfold goods
  rw [List.mem_filter, sums_mem, decide_eq_true_iff]
/-- what behind_wrong tells is what the law found -/
theorem found_eq {ps : List (Int × Int)} (h : Pok p ps) {m w : Nat} (hm : m ≤ p) (hw : w ≤ 2) (hl : m + 2 * w ≤ ps.length) (hm2 : m ≤ 1000) :
    (goods p m w ps = [] ∧ T_behind_wrong p m w ps = .exc 3) ∨ ∃ g, goods p m w ps = [g] ∧ T_behind_wrong p m w ps = .ok (lawCut g) ∧ lawCutG g ∧ g.length = m ∧ Rng p g ∧ IsCut g (lawCut g) := by
  have hp := h.fld.1
  have one : ∀ a ∈ goods p m w ps, ∀ b ∈ goods p m w ps, a = b := fun a ha b hb => by
    obtain ⟨⟨a1, a2⟩, a3⟩ := mem_goods.mp ha
    obtain ⟨⟨b1, b2⟩, b3⟩ := mem_goods.mp hb
    exact (one_sum h.fld h.pts h.asc hl a2 b2 (by omega) (by omega) a3 b3).ext (by omega)
  have be := behind_eq h hm hw hl
  rcases nodup_one (List.Pairwise.sublist List.filter_sublist (sums_nodup (p := p) m)) one with e | ⟨g, e⟩
  · refine .inl ⟨e, ?_⟩
    rcases be with ⟨f, _, f1, _, f2, f3⟩ | ⟨q, _⟩
    · have : padTo m f ∈ goods p m w ps := mem_goods.mpr ⟨⟨pad_len f2, pad_rng (by omega) f1⟩, by rw [pad_miss]; exact f3⟩
      rw [show goods p m w ps = [] from e] at this
      cases this
    · exact q
  · have hg : g ∈ goods p m w ps := by rw [show goods p m w ps = [g] from e]; simp
    obtain ⟨⟨a1, a2⟩, a3⟩ := mem_goods.mp hg
    have lc := lawCut_eq (cs := g) (by omega)
    have ic : IsCut g (lawCut g) := lc.get.2
    refine .inr ⟨g, e, ?_, lc.good, a1, a2, ic⟩
    rcases be with ⟨f, q, f1, fc, f2, f3⟩ | ⟨_, no⟩
    · rw [q]
      have := one_sum h.fld h.pts h.asc hl f1 a2 f2 (by omega) f3 a3
      rw [fc.eq ic.canon (this.trans ic.eqz.symm)]
    · exact absurd a3 (no g a2 (by omega))
theorem behind_bad {n m w : Int} {ps : List (Int × Int)} (h : T_check_wrong n m w ps = .exc 1) : T_behind_wrong n m w ps = .exc 1 := by
  unfold T_behind_wrong
  rw [h]; rfl
theorem wrong_of_points {n m w : Int} {ps : List (Int × Int)} (h : T_check_points n ps = .exc 1) : T_check_wrong n m w ps = .exc 1 := by
  unfold T_check_wrong
  rw [h]; rfl
theorem sm_points {ps : List (Int × Int)} (h : ∀ q ∈ ps, q.1.natAbs < 10 ^ 12 ∧ q.2.natAbs < 10 ^ 12) (hl : ps.length ≤ 100) : Sm 2 9000 ((eT (eP PyData.int PyData.int)) ps) := by
  refine (sm_tup (sm_all (k := 1) (N := 84) fun d hd => ?_)).mono (Nat.le_refl _) (by rw [List.length_map]; omega)
  obtain ⟨q, hq, rfl⟩ := List.mem_map.mp hd
  obtain ⟨h1, h2⟩ := h q hq
  exact (sm_tup (sm_cons (sm_int h1) (sm_cons (sm_int h2) (sm_nil (N := 0))))).mono (Nat.le_refl _) (by omega)
end K49
end
section
set_option Elab.async false
set_option linter.all false
set_option maxRecDepth 100000
set_option maxHeartbeats 4000000
/-! K49p: the law -/
namespace K49
open Mi
open PySem (PyData)
open PySem
section
variable {nums : List Int}
theorem prime_pick {k : Nat} (h : k < 4) : ∃ P : Nat, ix ([(5 : Int), (7 : Int), (11 : Int), (13 : Int)] : List Int) (k : Int) = (P : Int) ∧ Fld P ∧ 5 ≤ P ∧ P ≤ 13 ∧ ((P : Int) ∈ ([2, 3, 5, 7, 11, 13, 17, 19, 23, 29, 31] : List Int)) ∧ ¬ ((P : Int) + 1 ∈ ([2, 3, 5, 7, 11, 13, 17, 19, 23, 29, 31] : List Int)) := by
  match k, h with
  | 0, _ => exact ⟨5, rfl, by decide, by decide, by decide, by decide, by decide⟩
  | 1, _ => exact ⟨7, rfl, by decide, by decide, by decide, by decide, by decide⟩
  | 2, _ => exact ⟨11, rfl, by decide, by decide, by decide, by decide, by decide⟩
  | 3, _ => exact ⟨13, rfl, by decide, by decide, by decide, by decide, by decide⟩
theorem pow_small {P M : Nat} (h : P ≤ 13) (hM : M ≤ 3) : P ^ M ≤ 2197 := by
  have h1 : P ^ M ≤ 13 ^ M := Nat.pow_le_pow_left h M
  have h2 : 13 ^ M ≤ 13 ^ 3 := Nat.pow_le_pow_right (by decide) hM
  have : (13 : Nat) ^ 3 = 2197 := by decide
  omega
theorem law_ok (hS : Str nums) : Ends (fun b => b = true) (T_law nums) := by
  unfold T_law
  refine en_let rfl (en_forFn (fun j b => 0 ≤ b ∧ b ≤ 400 * j) ⟨by omega, by omega⟩ (fun j x b hx hI => ?_) fun b _ => en_ok rfl)
  have hj4 : j < 4 := (irange_get hx).1
  obtain ⟨k0, g0, e0, hk0⟩ := hS.draw (c := b) (m := 4) hI.1 (by omega) (k := 4) (by decide) rfl
  obtain ⟨P, eP1, hF, P5, P13, hpr, hnp⟩ := prime_pick hk0
  have hp := hF.1
  refine en_gd ⟨g0, by rw [e0]; exact inR_nat (by simpa using hk0)⟩ (en_let (by rw [e0, eP1]) (en_let rfl ?_))
  obtain ⟨M, g1, e1, hM⟩ := hS.draw (c := b + 1) (m := (3 : Int) + (bI (decide ((P : Int) < (8 : Int))))) (by omega) (by omega) (k := if P < 8 then 4 else 3) (by split <;> decide) (by
    by_cases q : P < 8
    · rw [if_pos q, decide_eq_true (by omega)]; rfl
    · rw [if_neg q, decide_eq_false (by omega)]; rfl)
  have hM3 : M ≤ 3 := by split at hM <;> omega
  refine en_gd g1 (en_let e1 (en_let rfl ?_))
  obtain ⟨W0, g2, e2, hW0⟩ := hS.draw (c := b + 1 + 1) (m := 3) (by omega) (by omega) (k := 3) (by decide) rfl
  refine en_gd g2 (en_let e2 (en_let rfl ?_))
  obtain ⟨d, g3, e3, hd⟩ := hS.draw (c := b + 1 + 1 + 1) (m := 3) (by omega) (by omega) (k := 3) (by decide) rfl
  have hN : ∃ N : Nat, N ≤ P ∧ (M + 2 * W0 ≤ N ∨ M ≤ N) ∧ (if ((M : Int) + ((2 : Int) * (W0 : Int))) + (nxt nums (b + 1 + 1 + 1) (3 : Int)) < (P : Int) then (((M : Int) + ((2 : Int) * (W0 : Int))) + (nxt nums (b + 1 + 1 + 1) (3 : Int))) else (P : Int)) = (N : Int) := by
    rw [e3]
    by_cases q : ((M : Int) + ((2 : Int) * (W0 : Int))) + (d : Int) < (P : Int)
    · rw [if_pos q]; exact ⟨M + 2 * W0 + d, by omega, by omega, by omega⟩
    · rw [if_neg q]; exact ⟨P, by omega, by omega, rfl⟩
  obtain ⟨N, hNP, hMN, eN⟩ := hN
  refine en_gd ⟨cmul_l (by omega) (by omega), g3⟩ (en_let eN (en_let rfl (en_gd (cmul_l (by omega) (by omega)) ?_)))
  refine en_bind (B := fun (w : Int) => ∃ W : Nat, w = (W : Int) ∧ W ≤ 2 ∧ M + 2 * W ≤ N) (en_if (fun q => ?_) (fun q => ?_)) fun w hw => ?_
  · exact en_let rfl (en_ok ⟨0, rfl, by omega, by omega⟩)
  · have q : ¬ ((N : Int) < (M : Int) + 2 * (W0 : Int)) := by simpa using q
    exact en_ok ⟨W0, rfl, by omega, by omega⟩
  obtain ⟨W, rfl, hW, hl⟩ := hw
  have hc1 : 0 ≤ b + 1 + 1 + 1 + 1 := by omega
  obtain ⟨a1, a2, a3, a4, a5⟩ := mapC_inv (f := fun (k19 : Int) (c_20 : Int) => ((nxt nums c_20 (P : Int)), (c_20 + 1))) (G := fun (k19 : Int) (c_20 : Int) => (nxG nums c_20 (P : Int))) (fun _ y => 0 ≤ y ∧ y < (P : Int)) 1 (irange 0 (M : Int)) (b + 1 + 1 + 1 + 1) fun x hx c' h1 h2 => by
    rw [len_range] at h2
    have g := hS.g (c := c') (m := (P : Int)) (by omega) (by omega) (by omega)
    exact ⟨g, ⟨nxt_lo g, nxt_hi g⟩, by show c' ≤ c' + 1; omega, by show c' + 1 ≤ c' + ((1 : Nat) : Int); omega⟩
  rw [len_range] at a3 a5
  refine en_gd ⟨rOk_nat (by omega), by rw [len_range]; omega, a1⟩ (en_letG fun numbers hnum => en_letG fun c1 hc1' => ?_)
  rw [← hc1'] at a4 a5
  refine en_gd ⟨by omega, by omega⟩ (en_let rfl (en_gd (rOk_int (by omega) (by omega)) ?_))
  refine en_forR (fun j (s : List Int × Int) => s.1.Pairwise (· < ·) ∧ (∀ x ∈ s.1, 0 ≤ x ∧ x < (P : Int)) ∧ s.1.length + j = P ∧ c1 ≤ s.2 ∧ s.2 ≤ c1 + j) ⟨?_, fun x hx => mem_irange.mp hx, by rw [len_range]; omega, by omega, by omega⟩ (fun j x s hx hs => ?_) fun s hs => ?_
  · unfold irange
    rw [List.pairwise_map]
    exact List.pairwise_lt_range.imp fun {a b} h => by omega
  · obtain ⟨s1, s2, s3, s4, s5⟩ := hs
    have hj := (irange_get hx).1
    have h0 : 0 < s.1.length := by omega
    obtain ⟨i, g, e, hi⟩ := hS.draw (c := s.2) (m := (s.1.length : Int)) (by omega) (by omega) h0 rfl
    refine en_gd ⟨g, by rw [e]; exact inR_nat hi, by omega⟩ (en_let (by rw [e, eraseI_nat]) (en_let rfl (en_ok ⟨s1.sublist (List.eraseIdx_sublist _ _), fun x hx => s2 x ((List.eraseIdx_sublist _ _).subset hx), ?_, by show c1 ≤ s.2 + 1; omega, by show s.2 + 1 ≤ c1 + ((j + 1 : Nat) : Int); omega⟩)))
    show (s.1.eraseIdx i).length + _ = P
    rw [List.length_eraseIdx, if_pos hi]; omega
  obtain ⟨firsts, c2⟩ := s
  obtain ⟨s1, s2, s3, s4, s5⟩ := hs
  rw [len_irange] at s3 s5
  have s1 : firsts.Pairwise (· < ·) := s1
  have s2 : ∀ x ∈ firsts, 0 ≤ x ∧ x < (P : Int) := s2
  have s3 : firsts.length = N := by have : firsts.length + ((P : Int) - (N : Int) - 0).toNat = P := s3; omega
  have s4 : c1 ≤ c2 := s4
  have s5 : c2 ≤ c1 + 13 := by have : c2 ≤ c1 + ((((P : Int) - (N : Int) - 0).toNat : Nat) : Int) := s5; omega
  have lv := fun x (hx : x ∈ firsts) => (law_value_eq (p := P) (x := x) hp (by omega) ⟨(s2 x hx).1, by have := (s2 x hx).2; omega⟩ numbers).2
  show Ends _ (gdR ((firsts.length ≤ 100000) ∧ (∀ first_34 ∈ firsts, (lawValueLG (P : Int) numbers first_34))) (letR (firsts.map fun (first_34 : Int) => (lawValueL (P : Int) numbers first_34)) _))
  refine en_gd ⟨by omega, fun x hx => good_ok (lv x hx)⟩ (en_letG fun values hval => ?_)
  have rv : Rng P values := fun y hy => by
    rw [hval] at hy
    obtain ⟨x, hx, rfl⟩ := List.mem_map.mp hy
    rw [show lawValueL (P : Int) numbers x = _ from get_ok (lv x hx)]
    exact rng_mod (by omega) _
  have lval : values.length = N := by rw [hval, List.length_map, s3]
  obtain ⟨K, g4, e4, hK⟩ := hS.draw (c := c2) (m := (W : Int) + 2) (by omega) (by omega) (k := W + 2) (by omega) (by omega)
  have hbI : bI (decide ((0 : Int) < (N : Int))) = ((if 0 < N then 1 else 0 : Nat) : Int) := by
    by_cases q : 0 < N
    · rw [if_pos q, decide_eq_true (by omega)]; rfl
    · rw [if_neg q, decide_eq_false (by omega)]; rfl
  have hprod : (K : Int) * ((if 0 < N then 1 else 0 : Nat) : Int) = ((if 0 < N then K else 0 : Nat) : Int) := by split <;> simp
  show Ends _ (gdR ((nxG nums c2 ((W : Int) + 2)) ∧ (L2.CMul (nxt nums c2 ((W : Int) + 2)) (bI (decide ((0 : Int) < (N : Int))))) ∧ (rOk ((nxt nums c2 ((W : Int) + 2)) * (bI (decide ((0 : Int) < (N : Int))))))) ((forR _ (irange 0 ((nxt nums c2 ((W : Int) + 2)) * (bI (decide ((0 : Int) < (N : Int)))))) (values, (c2 + 1))).bind _))
  rw [e4, hbI, hprod]
  refine en_gd ⟨g4, cmul_l (by omega) (by omega), rOk_nat (by split <;> omega)⟩ ?_
  refine en_forR (fun j (s : List Int × Int) => Rng P s.1 ∧ s.1.length = N ∧ c2 + 1 ≤ s.2 ∧ s.2 ≤ c2 + 1 + 2 * j) ⟨rv, lval, by omega, by omega⟩ (fun j x s hx hs => ?_) fun s hs => ?_
  · obtain ⟨t1, t2, t3, t4⟩ := hs
    have hj := (irange_get hx).1
    have hN0 : 0 < N := by
      rcases Nat.eq_zero_or_pos N with z | z
      · rw [if_neg (by omega)] at hj; simp at hj
      · exact z
    rw [if_pos hN0] at hj
    obtain ⟨v, gv, ev, hv⟩ := hS.draw (c := s.2) (m := (P : Int)) (by omega) (by omega) (k := P) (by omega) rfl
    obtain ⟨i, gi, ei, hi⟩ := hS.draw (c := s.2 + 1) (m := (N : Int)) (by omega) (by omega) hN0 rfl
    refine en_gd ⟨gv, gi, by rw [ei]; exact inR_nat (by omega)⟩ (en_let (by rw [ei, ev, setI_nat]) (en_let rfl (en_ok ⟨rng_set t1 ⟨by omega, by omega⟩, by show (s.1.set i (v : Int)).length = N; rw [List.length_set]; exact t2, by show c2 + 1 ≤ s.2 + 1 + 1; omega, by show s.2 + 1 + 1 ≤ c2 + 1 + 2 * ((j + 1 : Nat) : Int); omega⟩)))
  obtain ⟨vals, c3⟩ := s
  obtain ⟨t1, t2, t3, t4⟩ := hs
  rw [len_range] at t4
  have t1 : Rng P vals := t1
  have t2 : vals.length = N := t2
  have t3 : c2 + 1 ≤ c3 := t3
  have t4 : c3 ≤ c2 + 20 := by have : c3 ≤ c2 + 1 + 2 * ((if 0 < N then K else 0 : Nat) : Int) := t4; split at this <;> omega
  show Ends _ (gdR ((rOk (N : Int)) ∧ ((irange 0 (N : Int)).length ≤ 100000) ∧ (∀ k45 ∈ (irange 0 (N : Int)), (inR firsts.length k45) ∧ (inR vals.length k45))) (letR ((irange 0 (N : Int)).map fun (k45 : Int) => ((ix firsts k45), (ix vals k45))) _))
  refine en_gd ⟨rOk_nat (by omega), by rw [len_range]; omega, fun k hk => ?_⟩ (en_letG fun ps hps => ?_)
  · have := mem_irange.mp hk
    exact ⟨inR_int this.1 (by omega), inR_int this.1 (by omega)⟩
  have psl : ps.length = N := by rw [hps, List.length_map, len_range]
  have psf : ps.map (·.1) = firsts := by
    refine List.ext_getElem (by rw [List.length_map, psl, s3]) fun i h1 h2 => ?_
    simp only [hps, List.getElem_map]
    have : (irange 0 (N : Int))[i]'(by rw [len_range]; omega) = (i : Int) := by unfold irange; simp
    rw [this, ix_at h2]
  have ppts : Pts P ps := fun q hq => by
    rw [hps] at hq
    obtain ⟨k, hk, rfl⟩ := List.mem_map.mp hq
    have hk := mem_irange.mp hk
    obtain ⟨i, rfl⟩ := Int.eq_ofNat_of_zero_le hk.1
    have h1 : i < firsts.length := by omega
    have h2 : i < vals.length := by omega
    show (0 ≤ ix firsts (i : Int) ∧ ix firsts (i : Int) < (P : Int)) ∧ 0 ≤ ix vals (i : Int) ∧ ix vals (i : Int) < (P : Int)
    rw [ix_at h1, ix_at h2]
    exact ⟨s2 _ (List.getElem_mem h1), t1 _ (List.getElem_mem h2)⟩
  have pok : Pok P ps := ⟨hF, by omega, hpr, ppts, by rw [psf]; exact s1, by omega⟩
  have sP : Sm 2 9000 ((eT (eP PyData.int PyData.int)) ps) := sm_points (fun q hq => by have := ppts q hq; omega) (by omega)
  have hrok : Rok ((eT (eP PyData.int PyData.int)) ps) := sP.rok (by decide) (by decide)
  refine en_gd hrok (en_let rfl (en_let rfl ?_))
  have eA := allSums_eq (p := P) (m := M) (by omega) (by have := pow_small P13 hM3; omega) (by omega) (by omega)
  have vA : allSums (P : Int) (M : Int) = sums P M := get_ok eA
  refine en_gd (good_ok eA) ?_
  rw [vA]
  have lvT := fun (row : List Int) (q : Int × Int) (hq : q ∈ ps) => (law_value_eq (p := P) (x := q.1) hp (by omega) ⟨(ppts q hq).1.1, by have := (ppts q hq).1.2; omega⟩ row).1
  refine en_forRs (fun pre g => g = (pre.filter fun row => decide ((miss P row ps).length ≤ W)).map lawCut) rfl (fun pre row post g e hg => ?_) fun good hgood => ?_
  · have er : (ps.filter fun (point55 : Int × Int) => (!decide ((lawValueT (P : Int) row point55.1) = point55.2))) = miss P row ps := by
      unfold miss
      refine List.filter_congr fun q hq => ?_
      unfold missP
      rw [show lawValueT (P : Int) row q.1 = _ from get_ok (lvT row q hq)]
    rw [er]
    have hpre : pre.length ≤ 2197 := by
      have h1 := sums_len (p := P) M
      have := pow_small P13 hM3
      rw [e, List.length_append] at h1; omega
    have hrow : row.length = M := ((sums_mem M row).mp (by rw [e]; simp)).1
    have hlg : g.length ≤ pre.length := by rw [hg, List.length_map]; exact List.length_filter_le _ _
    refine en_gd ⟨by omega, fun q hq => good_ok (lvT row q hq)⟩ (en_if (fun q => ?_) (fun q => ?_))
    · have q : (miss P row ps).length ≤ W := by have := of_decide_eq_true q; omega
      refine en_gd ⟨(lawCut_eq (by omega)).good, by omega⟩ (en_let rfl (en_ok ?_))
      rw [List.filter_append, List.map_append, ← hg]; simp [q]
    · have q : ¬ (miss P row ps).length ≤ W := fun z => q (decide_eq_true (by omega))
      refine en_ok ?_
      rw [List.filter_append, List.map_append, ← hg]; simp [q]
  have hgood : good = (goods P M W ps).map lawCut := hgood
  have fe := found_eq (m := M) (w := W) pok (by omega) hW (by omega) (by omega)
  have L1 : good.length ≤ 1 := by
    rw [hgood, List.length_map]
    rcases fe with ⟨e, _⟩ | ⟨g, e, _⟩ <;> rw [e] <;> simp
  refine en_ifn (by simp; omega) (en_let rfl ?_)
  have told : ∃ due : PyData, Ends (fun d => d = due) (if (decide ((good.length : Int) = (1 : Int))) = true then (gdR ((inR good.length (0 : Int))) (letR (.tuple [(PyData.str ("told" : PySem.Str)), ((eT PyData.int) (ix good (0 : Int)))]) fun due64 => (.ok due64))) else (.ok mis)) ∧ toldVG (P : Int) (M : Int) (W : Int) ps ∧ sameG (toldV (P : Int) (M : Int) (W : Int) ps) due := by
    rcases fe with ⟨e, q⟩ | ⟨g, e, q, _, gl, gr, gc⟩
    · refine ⟨mis, en_ifn (by rw [hgood, e]; decide) (en_ok rfl), okT_exc q, same_of (k := 0) (N := 7) (toldR_3 _ q) sm_mis⟩
    · have eg : good = [lawCut g] := by rw [hgood, e]; rfl
      refine ⟨tD (eT PyData.int (lawCut g)), en_ifp (by rw [eg]; simp) (en_gd (by rw [eg]; exact inR_nat (k := 0) (by simp)) (en_let (by rw [eg]; rfl) (en_ok rfl))), okT_ok q, same_of (k := 2) (N := 200) (toldR_ok _ q) ?_⟩
      have rr := gc.rng gr
      have ll := gc.len
      exact sm_told (N := 190) ((sm_tup (sm_ints (ns := lawCut g) fun x hx => by have := rr x hx; omega)).mono (Nat.le_refl _) (by omega))
  obtain ⟨due, d1, d2, d3⟩ := told
  refine en_bind d1 fun dd hdd => ?_
  rw [hdd]
  refine en_gd ⟨d2, d3⟩ (en_ifn (by decide) ?_)
  have b1 := behind_bad (wrong_bad pok (m := (M : Int)) (w := (3 : Int)) (.inr (.inr (.inr (by decide)))))
  have b2 := behind_bad (wrong_bad pok (m := -(1 : Int)) (w := (W : Int)) (.inl (by decide)))
  have b3 := behind_bad (wrong_bad pok (m := (P : Int) + (1 : Int)) (w := (0 : Int)) (.inr (.inl (by omega))))
  have b4 := behind_bad (m := (M : Int)) (w := (W : Int)) (wrong_of_points (points_bad (p := P) (ps := ps.reverse ++ ([((P : Int), (0 : Int))] : List (Int × Int))) hpr (by simp; omega) (q := ((P : Int), (0 : Int))) (by simp) (Int.le_refl _)))
  have ect : cutD ps none (some ((M : Int) + ((2 : Int) * (W : Int)))) = ps.take (M + 2 * W) := by
    rw [show ((M : Int) + ((2 : Int) * (W : Int))) = ((M + 2 * W : Nat) : Int) by omega, cut_to]
  have pok2 : Pok P (ps.take (M + 2 * W)) := ⟨hF, by omega, hpr, fun q hq => ppts q (List.mem_of_mem_take hq), by
    rw [List.map_take, psf]; exact s1.sublist (List.take_sublist _ _), by rw [List.length_take]; omega⟩
  have b5 : T_behind_wrong (P : Int) ((M : Int) + (1 : Int)) (W : Int) (ps.take (M + 2 * W)) = .exc 1 := by
    refine behind_bad ?_
    rw [show ((M : Int) + (1 : Int)) = ((M + 1 : Nat) : Int) by omega, wrong_if pok2 (by omega) hW, if_pos (by rw [List.length_take]; omega)]
  have b6 := behind_bad (m := (M : Int)) (w := (W : Int)) (wrong_of_points (points_prime (ps := ps) hnp))
  have b7 := behind_bad (wrong_bad pok (m := (M : Int)) (w := -(1 : Int)) (.inr (.inr (.inl (by decide)))))
  rw [ect]
  have u1 : toldV (P : Int) (M : Int) (3 : Int) ps = rfd := toldR_1 _ b1
  have u2 : toldV (P : Int) (-(1 : Int)) (W : Int) ps = rfd := toldR_1 _ b2
  have u3 : toldV (P : Int) ((P : Int) + (1 : Int)) (0 : Int) ps = rfd := toldR_1 _ b3
  have u4 : toldV (P : Int) (M : Int) (W : Int) (ps.reverse ++ ([((P : Int), (0 : Int))] : List (Int × Int))) = rfd := toldR_1 _ b4
  have u5 : toldV (P : Int) ((M : Int) + (1 : Int)) (W : Int) (ps.take (M + 2 * W)) = rfd := toldR_1 _ b5
  have u6 : toldV ((P : Int) + (1 : Int)) (M : Int) (W : Int) ps = rfd := toldR_1 _ b6
  have u7 : toldV (P : Int) (M : Int) (-(1 : Int)) ps = rfd := toldR_1 _ b7
  refine en_gd ⟨okT_exc b1, okT_exc b2, okT_exc b3, szOk_of (by simp; omega), okT_exc b4, cmul_l (by omega) (by omega), okT_exc b5, okT_exc b6, okT_exc b7⟩ (en_let (a' := List.replicate 7 rfd) (by rw [u1, u2, u3, u4, u5, u6, u7]; rfl) ?_)
  have z1 : (eL PyData.str) ((List.replicate (7 : Int).toNat ([("refused" : PySem.Str)] : List PySem.Str)).flatten) = PyData.list (List.replicate 7 rfd) := rfl
  have sR : Sm 1 ((List.replicate 7 rfd).length * (7 + 1)) (PyData.list (List.replicate 7 rfd)) := sm_lst (sm_all (k := 0) (N := 7) fun d hd => by rw [List.eq_of_mem_replicate hd]; exact sm_rfd)
  have z2 : (eL idD) (List.replicate 7 rfd) = PyData.list (List.replicate 7 rfd) := rfl
  rw [z1, z2]
  refine en_gd ⟨⟨by decide, by decide, szOk_d rfl⟩, ⟨sR.shp (by decide), sR.shp (by decide)⟩, fun _ => hrok⟩ (en_ifn ?_ (en_nx ⟨?_, ?_⟩))
  · rw [eqv_same sR.lay]
    simp
  · show 0 ≤ c3
    omega
  · show c3 ≤ 400 * ((j + 1 : Nat) : Int)
    omega
theorem law_true : ∀ ns : List Int, ns.length ≤ 63 → ∃ o, S_law [.dat (.list (ns.map .int))] = .ok (vB true) o := by
  intro ns hn
  obtain ⟨nums, es, hL, hL2, _⟩ := stream_ev ns hn
  obtain ⟨b, e, rfl⟩ := law_ok ⟨hL, hL2⟩
  exact ⟨_, sp_okR (t_law nums ns es) e⟩
end
end K49
end
section
set_option Elab.async false
set_option linter.all false
set_option maxRecDepth 100000
set_option maxHeartbeats 4000000
namespace K49
open PySem PySem.Spec PyProof.Rows L2 Mi
theorem all_mk {l : PySem.W.OpenLaw} {w : World} {K : PySem.W.Frag} {h : Heap} {mg : Str → Option Value} {fa : Addr} (X : K.In h) (N : h.Ns mainGlobals mg) (hfa : mg "law" = some (.ref fa))
    {C0 C1 C2 C3 C4 C5 : Addr} {f0 : Addr} {od0 an0 : Option Addr} {sl0 : Array (Option Value)} {oc0 kV0 dc0 pm0 cd0 ct0 : Value} {f1 : Addr} {od1 an1 : Option Addr} {sl1 : Array (Option Value)} {oc1 kV1 dc1 pm1 cd1 ct1 : Value} {f2 : Addr} {od2 an2 : Option Addr} {sl2 : Array (Option Value)} {oc2 kV2 dc2 pm2 cd2 ct2 : Value} {f3 : Addr} {od3 an3 : Option Addr} {sl3 : Array (Option Value)} {oc3 kV3 dc3 pm3 cd3 ct3 : Value} {f4 : Addr} {od4 an4 : Option Addr} {sl4 : Array (Option Value)} {oc4 kV4 dc4 pm4 cd4 ct4 : Value} {f5 : Addr} {od5 an5 : Option Addr} {sl5 : Array (Option Value)} {oc5 kV5 dc5 pm5 cd5 ct5 : Value} {f6 : Addr} {od6 an6 : Option Addr} {sl6 : Array (Option Value)} {oc6 kV6 dc6 pm6 cd6 ct6 : Value} {f7 : Addr} {od7 an7 : Option Addr} {sl7 : Array (Option Value)} {oc7 kV7 dc7 pm7 cd7 ct7 : Value} {f8 : Addr} {od8 an8 : Option Addr} {sl8 : Array (Option Value)} {oc8 kV8 dc8 pm8 cd8 ct8 : Value} {f9 : Addr} {od9 an9 : Option Addr} {sl9 : Array (Option Value)} {oc9 kV9 dc9 pm9 cd9 ct9 : Value} {f10 : Addr} {od10 an10 : Option Addr} {sl10 : Array (Option Value)} {oc10 kV10 dc10 pm10 cd10 ct10 : Value} {f11 : Addr} {od11 an11 : Option Addr} {sl11 : Array (Option Value)} {oc11 kV11 dc11 pm11 cd11 ct11 : Value} {f12 : Addr} {od12 an12 : Option Addr} {sl12 : Array (Option Value)} {oc12 kV12 dc12 pm12 cd12 ct12 : Value} {f13 : Addr} {od13 an13 : Option Addr} {sl13 : Array (Option Value)} {oc13 kV13 dc13 pm13 cd13 ct13 : Value} {f14 : Addr} {od14 an14 : Option Addr} {sl14 : Array (Option Value)} {oc14 kV14 dc14 pm14 cd14 ct14 : Value} {f15 : Addr} {od15 an15 : Option Addr} {sl15 : Array (Option Value)} {oc15 kV15 dc15 pm15 cd15 ct15 : Value} {f16 : Addr} {od16 an16 : Option Addr} {sl16 : Array (Option Value)} {oc16 kV16 dc16 pm16 cd16 ct16 : Value} {f17 : Addr} {od17 an17 : Option Addr} {sl17 : Array (Option Value)} {oc17 kV17 dc17 pm17 cd17 ct17 : Value} {f18 : Addr} {od18 an18 : Option Addr} {sl18 : Array (Option Value)} {oc18 kV18 dc18 pm18 cd18 ct18 : Value}
    (a0 : PySem.W.nsIn K mainGlobals "check_prime" = some (some (.ref f0))) (l0 : K.lookup f0 = some ⟨oc0, od0, .func (PySem.W.fnOf "check_prime" "check_prime" (defArgs s_check_prime) (defBody s_check_prime) (defScope s_check_prime) .none kV0 dc0 pm0 an0 cd0 ct0), sl0⟩) (c0 : PySem.W.codeIn K cd0 "check_prime" = true) (k0 : PySem.W.keepIn K (.ref f0) = true)
    (a1 : PySem.W.nsIn K mainGlobals "check_points" = some (some (.ref f1))) (l1 : K.lookup f1 = some ⟨oc1, od1, .func (PySem.W.fnOf "check_points" "check_points" (defArgs s_check_points) (defBody s_check_points) (defScope s_check_points) .none kV1 dc1 pm1 an1 cd1 ct1), sl1⟩) (c1 : PySem.W.codeIn K cd1 "check_points" = true) (k1 : PySem.W.keepIn K (.ref f1) = true)
    (a2 : PySem.W.nsIn K mainGlobals "value_at" = some (some (.ref f2))) (l2 : K.lookup f2 = some ⟨oc2, od2, .func (PySem.W.fnOf "value_at" "value_at" (defArgs s_value_at) (defBody s_value_at) (defScope s_value_at) .none kV2 dc2 pm2 an2 cd2 ct2), sl2⟩) (c2 : PySem.W.codeIn K cd2 "value_at" = true) (k2 : PySem.W.keepIn K (.ref f2) = true)
    (a3 : PySem.W.nsIn K mainGlobals "cut" = some (some (.ref f3))) (l3 : K.lookup f3 = some ⟨oc3, od3, .func (PySem.W.fnOf "cut" "cut" (defArgs s_cut) (defBody s_cut) (defScope s_cut) .none kV3 dc3 pm3 an3 cd3 ct3), sl3⟩) (c3 : PySem.W.codeIn K cd3 "cut" = true) (k3 : PySem.W.keepIn K (.ref f3) = true)
    (a4 : PySem.W.nsIn K mainGlobals "product" = some (some (.ref f4))) (l4 : K.lookup f4 = some ⟨oc4, od4, .func (PySem.W.fnOf "product" "product" (defArgs s_product) (defBody s_product) (defScope s_product) .none kV4 dc4 pm4 an4 cd4 ct4), sl4⟩) (c4 : PySem.W.codeIn K cd4 "product" = true) (k4 : PySem.W.keepIn K (.ref f4) = true)
    (a5 : PySem.W.nsIn K mainGlobals "total" = some (some (.ref f5))) (l5 : K.lookup f5 = some ⟨oc5, od5, .func (PySem.W.fnOf "total" "total" (defArgs s_total) (defBody s_total) (defScope s_total) .none kV5 dc5 pm5 an5 cd5 ct5), sl5⟩) (c5 : PySem.W.codeIn K cd5 "total" = true) (k5 : PySem.W.keepIn K (.ref f5) = true)
    (a6 : PySem.W.nsIn K mainGlobals "inverse" = some (some (.ref f6))) (l6 : K.lookup f6 = some ⟨oc6, od6, .func (PySem.W.fnOf "inverse" "inverse" (defArgs s_inverse) (defBody s_inverse) (defScope s_inverse) .none kV6 dc6 pm6 an6 cd6 ct6), sl6⟩) (c6 : PySem.W.codeIn K cd6 "inverse" = true) (k6 : PySem.W.keepIn K (.ref f6) = true)
    (a7 : PySem.W.nsIn K mainGlobals "through" = some (some (.ref f7))) (l7 : K.lookup f7 = some ⟨oc7, od7, .func (PySem.W.fnOf "through" "through" (defArgs s_through) (defBody s_through) (defScope s_through) .none kV7 dc7 pm7 an7 cd7 ct7), sl7⟩) (c7 : PySem.W.codeIn K cd7 "through" = true) (k7 : PySem.W.keepIn K (.ref f7) = true)
    (a8 : PySem.W.nsIn K mainGlobals "check_wrong" = some (some (.ref f8))) (l8 : K.lookup f8 = some ⟨oc8, od8, .func (PySem.W.fnOf "check_wrong" "check_wrong" (defArgs s_check_wrong) (defBody s_check_wrong) (defScope s_check_wrong) .none kV8 dc8 pm8 an8 cd8 ct8), sl8⟩) (c8 : PySem.W.codeIn K cd8 "check_wrong" = true) (k8 : PySem.W.keepIn K (.ref f8) = true)
    (a9 : PySem.W.nsIn K mainGlobals "behind_wrong" = some (some (.ref f9))) (l9 : K.lookup f9 = some ⟨oc9, od9, .func (PySem.W.fnOf "behind_wrong" "behind_wrong" (defArgs s_behind_wrong) (defBody s_behind_wrong) (defScope s_behind_wrong) .none kV9 dc9 pm9 an9 cd9 ct9), sl9⟩) (c9 : PySem.W.codeIn K cd9 "behind_wrong" = true) (k9 : PySem.W.keepIn K (.ref f9) = true)
    (a10 : PySem.W.nsIn K mainGlobals "_law_same" = some (some (.ref f10))) (l10 : K.lookup f10 = some ⟨oc10, od10, .func (PySem.W.fnOf "_law_same" "_law_same" (defArgs s__law_same) (defBody s__law_same) (defScope s__law_same) .none kV10 dc10 pm10 an10 cd10 ct10), sl10⟩) (c10 : PySem.W.codeIn K cd10 "_law_same" = true) (k10 : PySem.W.keepIn K (.ref f10) = true)
    (a11 : PySem.W.nsIn K mainGlobals "_law_stream" = some (some (.ref f11))) (l11 : K.lookup f11 = some ⟨oc11, od11, .func (PySem.W.fnOf "_law_stream" "_law_stream" (defArgs s__law_stream) (defBody s__law_stream) (defScope s__law_stream) .none kV11 dc11 pm11 an11 cd11 ct11), sl11⟩) (c11 : PySem.W.codeIn K cd11 "_law_stream" = true) (k11 : PySem.W.keepIn K (.ref f11) = true)
    (a12 : PySem.W.nsIn K mainGlobals "_law_next" = some (some (.ref f12))) (l12 : K.lookup f12 = some ⟨oc12, od12, .func (PySem.W.fnOf "_law_next" "_law_next" (defArgs s__law_next) (defBody s__law_next) (defScope s__law_next) .none kV12 dc12 pm12 an12 cd12 ct12), sl12⟩) (c12 : PySem.W.codeIn K cd12 "_law_next" = true) (k12 : PySem.W.keepIn K (.ref f12) = true)
    (a13 : PySem.W.nsIn K mainGlobals "_law_error" = some (some (.ref f13))) (l13 : K.lookup f13 = some ⟨oc13, od13, .func (PySem.W.fnOf "_law_error" "_law_error" (defArgs s__law_error) (defBody s__law_error) (defScope s__law_error) .none kV13 dc13 pm13 an13 cd13 ct13), sl13⟩) (c13 : PySem.W.codeIn K cd13 "_law_error" = true) (k13 : PySem.W.keepIn K (.ref f13) = true)
    (a14 : PySem.W.nsIn K mainGlobals "_law_told" = some (some (.ref f14))) (l14 : K.lookup f14 = some ⟨oc14, od14, .func (PySem.W.fnOf "_law_told" "_law_told" (defArgs s__law_told) (defBody s__law_told) (defScope s__law_told) .none kV14 dc14 pm14 an14 cd14 ct14), sl14⟩) (c14 : PySem.W.codeIn K cd14 "_law_told" = true) (k14 : PySem.W.keepIn K (.ref f14) = true)
    (a15 : PySem.W.nsIn K mainGlobals "_law_value" = some (some (.ref f15))) (l15 : K.lookup f15 = some ⟨oc15, od15, .func (PySem.W.fnOf "_law_value" "_law_value" (defArgs s__law_value) (defBody s__law_value) (defScope s__law_value) .none kV15 dc15 pm15 an15 cd15 ct15), sl15⟩) (c15 : PySem.W.codeIn K cd15 "_law_value" = true) (k15 : PySem.W.keepIn K (.ref f15) = true)
    (a16 : PySem.W.nsIn K mainGlobals "_law_cut" = some (some (.ref f16))) (l16 : K.lookup f16 = some ⟨oc16, od16, .func (PySem.W.fnOf "_law_cut" "_law_cut" (defArgs s__law_cut) (defBody s__law_cut) (defScope s__law_cut) .none kV16 dc16 pm16 an16 cd16 ct16), sl16⟩) (c16 : PySem.W.codeIn K cd16 "_law_cut" = true) (k16 : PySem.W.keepIn K (.ref f16) = true)
    (a17 : PySem.W.nsIn K mainGlobals "_law_all_sums" = some (some (.ref f17))) (l17 : K.lookup f17 = some ⟨oc17, od17, .func (PySem.W.fnOf "_law_all_sums" "_law_all_sums" (defArgs s__law_all_sums) (defBody s__law_all_sums) (defScope s__law_all_sums) .none kV17 dc17 pm17 an17 cd17 ct17), sl17⟩) (c17 : PySem.W.codeIn K cd17 "_law_all_sums" = true) (k17 : PySem.W.keepIn K (.ref f17) = true)
    (a18 : PySem.W.nsIn K mainGlobals "law" = some (some (.ref f18))) (l18 : K.lookup f18 = some ⟨oc18, od18, .func (PySem.W.fnOf "law" "law" (defArgs s_law) (defBody s_law) (defScope s_law) .none kV18 dc18 pm18 an18 cd18 ct18), sl18⟩) (c18 : PySem.W.codeIn K cd18 "law" = true) (k18 : PySem.W.keepIn K (.ref f18) = true)
    (xa0 : PySem.W.nsIn K mainGlobals "MaieuticError" = some (some (.ref C0))) (xe0 : PySem.W.excIn K C0 bmV "ValueError.__new__" = true) (xk0 : PySem.W.keepIn K (.ref C0) = true) (xb0 : PySem.W.subIn K (.ref C0) (.type "BaseException") = some true) (xt0 : PySem.W.typeIn K (.ref C0) = some (.type "type"))
    (xa1 : PySem.W.nsIn K mainGlobals "NotAllowed" = some (some (.ref C1))) (xe1 : PySem.W.excIn K C1 bmV "ValueError.__new__" = true) (xk1 : PySem.W.keepIn K (.ref C1) = true) (xb1 : PySem.W.subIn K (.ref C1) (.type "BaseException") = some true) (xt1 : PySem.W.typeIn K (.ref C1) = some (.type "type"))
    (xa2 : PySem.W.nsIn K mainGlobals "BadForm" = some (some (.ref C2))) (xe2 : PySem.W.excIn K C2 bmV "ValueError.__new__" = true) (xk2 : PySem.W.keepIn K (.ref C2) = true) (xb2 : PySem.W.subIn K (.ref C2) (.type "BaseException") = some true) (xt2 : PySem.W.typeIn K (.ref C2) = some (.type "type"))
    (xa3 : PySem.W.nsIn K mainGlobals "Missing" = some (some (.ref C3))) (xe3 : PySem.W.excIn K C3 bmV "ValueError.__new__" = true) (xk3 : PySem.W.keepIn K (.ref C3) = true) (xb3 : PySem.W.subIn K (.ref C3) (.type "BaseException") = some true) (xt3 : PySem.W.typeIn K (.ref C3) = some (.type "type"))
    (xa4 : PySem.W.nsIn K mainGlobals "Alike" = some (some (.ref C4))) (xe4 : PySem.W.excIn K C4 bmV "ValueError.__new__" = true) (xk4 : PySem.W.keepIn K (.ref C4) = true) (xb4 : PySem.W.subIn K (.ref C4) (.type "BaseException") = some true) (xt4 : PySem.W.typeIn K (.ref C4) = some (.type "type"))
    (xa5 : PySem.W.nsIn K mainGlobals "Wrong" = some (some (.ref C5))) (xe5 : PySem.W.excIn K C5 bmV "ValueError.__new__" = true) (xk5 : PySem.W.keepIn K (.ref C5) = true) (xb5 : PySem.W.subIn K (.ref C5) (.type "BaseException") = some true) (xt5 : PySem.W.typeIn K (.ref C5) = some (.type "type"))
    (yg1 : PySem.W.findIn K (.ref C1) "__getattribute__" = some (some (.builtin "BaseException.__getattribute__"))) (yh1 : PySem.W.findIn K (.ref C1) "__getattr__" = some none) (yd1 : PySem.W.hasDictIn K C1 = true) (ya1 : PySem.W.findIn K (.ref C1) "__class__" = some (some (.builtin "object.__class__"))) (ym1 : PySem.W.mroIn K C1 (.type "object") = some true) (yx1 : PySem.W.subIn K (.ref C1) (.ref C0) = some true)
    (yg2 : PySem.W.findIn K (.ref C2) "__getattribute__" = some (some (.builtin "BaseException.__getattribute__"))) (yh2 : PySem.W.findIn K (.ref C2) "__getattr__" = some none) (yd2 : PySem.W.hasDictIn K C2 = true) (ya2 : PySem.W.findIn K (.ref C2) "__class__" = some (some (.builtin "object.__class__"))) (ym2 : PySem.W.mroIn K C2 (.type "object") = some true) (yx2 : PySem.W.subIn K (.ref C2) (.ref C0) = some true)
    (yg3 : PySem.W.findIn K (.ref C3) "__getattribute__" = some (some (.builtin "BaseException.__getattribute__"))) (yh3 : PySem.W.findIn K (.ref C3) "__getattr__" = some none) (yd3 : PySem.W.hasDictIn K C3 = true) (ya3 : PySem.W.findIn K (.ref C3) "__class__" = some (some (.builtin "object.__class__"))) (ym3 : PySem.W.mroIn K C3 (.type "object") = some true) (yx3 : PySem.W.subIn K (.ref C3) (.ref C0) = some true)
    (yg4 : PySem.W.findIn K (.ref C4) "__getattribute__" = some (some (.builtin "BaseException.__getattribute__"))) (yh4 : PySem.W.findIn K (.ref C4) "__getattr__" = some none) (yd4 : PySem.W.hasDictIn K C4 = true) (ya4 : PySem.W.findIn K (.ref C4) "__class__" = some (some (.builtin "object.__class__"))) (ym4 : PySem.W.mroIn K C4 (.type "object") = some true) (yx4 : PySem.W.subIn K (.ref C4) (.ref C0) = some true)
    (yg5 : PySem.W.findIn K (.ref C5) "__getattribute__" = some (some (.builtin "BaseException.__getattribute__"))) (yh5 : PySem.W.findIn K (.ref C5) "__getattr__" = some none) (yd5 : PySem.W.hasDictIn K C5 = true) (ya5 : PySem.W.findIn K (.ref C5) "__class__" = some (some (.builtin "object.__class__"))) (ym5 : PySem.W.mroIn K C5 (.type "object") = some true) (yx5 : PySem.W.subIn K (.ref C5) (.ref C0) = some true)
    (yn : PySem.W.specialIn K (.builtin "object.__class__") "__get__" = some (some (.builtin "getset_descriptor.__get__"))) (yt : PySem.W.takesIn K (.builtin "object.__class__") = some true) (yd0 : PySem.W.hasDictIn K C0 = true) (nz : [C1, C2, C3, C4, C5].Nodup)
    (z12 : PySem.W.subIn K (.ref C1) (.ref C2) = some false)
    (z13 : PySem.W.subIn K (.ref C1) (.ref C3) = some false)
    (z14 : PySem.W.subIn K (.ref C1) (.ref C4) = some false)
    (z15 : PySem.W.subIn K (.ref C1) (.ref C5) = some false)
    (z21 : PySem.W.subIn K (.ref C2) (.ref C1) = some false)
    (z23 : PySem.W.subIn K (.ref C2) (.ref C3) = some false)
    (z24 : PySem.W.subIn K (.ref C2) (.ref C4) = some false)
    (z25 : PySem.W.subIn K (.ref C2) (.ref C5) = some false)
    (z31 : PySem.W.subIn K (.ref C3) (.ref C1) = some false)
    (z32 : PySem.W.subIn K (.ref C3) (.ref C2) = some false)
    (z34 : PySem.W.subIn K (.ref C3) (.ref C4) = some false)
    (z35 : PySem.W.subIn K (.ref C3) (.ref C5) = some false)
    (z41 : PySem.W.subIn K (.ref C4) (.ref C1) = some false)
    (z42 : PySem.W.subIn K (.ref C4) (.ref C2) = some false)
    (z43 : PySem.W.subIn K (.ref C4) (.ref C3) = some false)
    (z45 : PySem.W.subIn K (.ref C4) (.ref C5) = some false)
    (z51 : PySem.W.subIn K (.ref C5) (.ref C1) = some false)
    (z52 : PySem.W.subIn K (.ref C5) (.ref C2) = some false)
    (z53 : PySem.W.subIn K (.ref C5) (.ref C3) = some false)
    (z54 : PySem.W.subIn K (.ref C5) (.ref C4) = some false)
    (b_list : PySem.W.nsIn K mainGlobals "list" = some none)
    (b_sorted : PySem.W.nsIn K mainGlobals "sorted" = some none)
    (b_set : PySem.W.nsIn K mainGlobals "set" = some none)
    (b_all : PySem.W.nsIn K mainGlobals "all" = some none)
    (b_any : PySem.W.nsIn K mainGlobals "any" = some none)
    (b_tuple : PySem.W.nsIn K mainGlobals "tuple" = some none)
    (b_len : PySem.W.nsIn K mainGlobals "len" = some none)
    (b_abs : PySem.W.nsIn K mainGlobals "abs" = some none)
    (b_int : PySem.W.nsIn K mainGlobals "int" = some none)
    (b_range : PySem.W.nsIn K mainGlobals "range" = some none)
    (b_repr : PySem.W.nsIn K mainGlobals "repr" = some none)
    (b_sum : PySem.W.nsIn K mainGlobals "sum" = some none)
    (b_isinstance : PySem.W.nsIn K mainGlobals "isinstance" = some none)
    (b_max : PySem.W.nsIn K mainGlobals "max" = some none)
    (b_min : PySem.W.nsIn K mainGlobals "min" = some none)
    (b_zip : PySem.W.nsIn K mainGlobals "zip" = some none)
    (b_enumerate : PySem.W.nsIn K mainGlobals "enumerate" = some none)
    (cmb : PySem.W.nsIn K mainGlobals "combinations" = some (some (.type "itertools.combinations")))
    {AT_PRIMES : Addr} {oT_PRIMES : Option Addr} {iT_PRIMES : Array Value} {nT_PRIMES : Nat} {sT_PRIMES : Array (Option Value)} (g_PRIMES : PySem.W.nsIn K mainGlobals "PRIMES" = some (some (.ref AT_PRIMES))) (h_PRIMES : K.lookup AT_PRIMES = some ⟨.type "tuple", oT_PRIMES, .seq iT_PRIMES nT_PRIMES, sT_PRIMES⟩) (v_PRIMES : cVs iT_PRIMES.toList [.int 2, .int 3, .int 5, .int 7, .int 11, .int 13, .int 17, .int 19, .int 23, .int 29, .int 31] = true) (z_PRIMES : iT_PRIMES.size ≤ 1000)
    {tk_MAX_WRONG : Tok} (g_MAX_WRONG : PySem.W.nsIn K mainGlobals "MAX_WRONG" = some (some (.int 2 tk_MAX_WRONG)))
    : ∃ fd : FuncData, (∀ (s : Shared) (v : Value), BindsTo s fd ⟨[v], []⟩ [("script", v)]) ∧ ∀ base : Heap, K.In base → base.Ns mainGlobals mg → FnG l.prog w K mg base 40 fa fd ["script"] (spV ⟨K, w, eaOf C0 C1 C2 C3 C4 C5, fun _ => 0⟩ [false] S_law) := by
  have e := hfa.symm.trans (PySem.W.mg_of X N a18)
  cases e
  have B : NoG mg blts := nog_in X N (nog_cons b_list (nog_cons b_sorted (nog_cons b_set (nog_cons b_all (nog_cons b_any (nog_cons b_tuple (nog_cons b_len (nog_cons b_abs (nog_cons b_int (nog_cons b_range (nog_cons b_repr (nog_cons b_sum (nog_cons b_isinstance (nog_cons b_max (nog_cons b_min (nog_cons b_zip (nog_cons b_enumerate nog_nil)))))))))))))))))
  have x_MaieuticError : Exc1 K mg "MaieuticError" C0 := exc_in X N xa0 xe0 xk0 xb0 xt0
  have x_NotAllowed : Exc1 K mg "NotAllowed" C1 := exc_in X N xa1 xe1 xk1 xb1 xt1
  have x_BadForm : Exc1 K mg "BadForm" C2 := exc_in X N xa2 xe2 xk2 xb2 xt2
  have x_Missing : Exc1 K mg "Missing" C3 := exc_in X N xa3 xe3 xk3 xb3 xt3
  have x_Alike : Exc1 K mg "Alike" C4 := exc_in X N xa4 xe4 xk4 xb4 xt4
  have x_Wrong : Exc1 K mg "Wrong" C5 := exc_in X N xa5 xe5 xk5 xb5 xt5
  have CB : mg "combinations" = some (.type "itertools.combinations") := PySem.W.mg_of X N cmb
  have T_PRIMES : TupK K mg "PRIMES" [.int 2, .int 3, .int 5, .int 7, .int 11, .int 13, .int 17, .int 19, .int 23, .int 29, .int 31] := ⟨_, _, _, _, _, PySem.W.mg_of X N g_PRIMES, h_PRIMES, v_PRIMES, z_PRIMES⟩
  have T_MAX_WRONG : ∃ t, mg "MAX_WRONG" = some (Value.int 2 t) := ⟨_, PySem.W.mg_of X N g_MAX_WRONG⟩
  have XC : ∀ c, 0 < c → c < 6 → ExcC K (eaOf C0 C1 C2 C3 C4 C5 c) := fun c h1 h2 => by
    have : c = 1 ∨ c = 2 ∨ c = 3 ∨ c = 4 ∨ c = 5 := by omega
    rcases this with rfl | rfl | rfl | rfl | rfl
    · exact ⟨yg1, yh1, xb1, yd1, ya1, yn, yt, ym1⟩
    · exact ⟨yg2, yh2, xb2, yd2, ya2, yn, yt, ym2⟩
    · exact ⟨yg3, yh3, xb3, yd3, ya3, yn, yt, ym3⟩
    · exact ⟨yg4, yh4, xb4, yd4, ya4, yn, yt, ym4⟩
    · exact ⟨yg5, yh5, xb5, yd5, ya5, yn, yt, ym5⟩
  have kit : ∀ i j, i < 6 → j < 6 → 0 < i → 0 < j → PySem.W.kitOne K (.ref (eaOf C0 C1 C2 C3 C4 C5 i)) (.ref (eaOf C0 C1 C2 C3 C4 C5 j)) = some (decide (i = j)) := fun i j h1 h2 h3 h4 => by
    have hi : i = 1 ∨ i = 2 ∨ i = 3 ∨ i = 4 ∨ i = 5 := by omega
    have hj : j = 1 ∨ j = 2 ∨ j = 3 ∨ j = 4 ∨ j = 5 := by omega
    rcases hi with rfl | rfl | rfl | rfl | rfl <;> rcases hj with rfl | rfl | rfl | rfl | rfl
    · exact kit_same
    · exact kit_no (nd_ne nz 0 1 rfl rfl (by decide)) yd2 xt2 z12
    · exact kit_no (nd_ne nz 0 2 rfl rfl (by decide)) yd3 xt3 z13
    · exact kit_no (nd_ne nz 0 3 rfl rfl (by decide)) yd4 xt4 z14
    · exact kit_no (nd_ne nz 0 4 rfl rfl (by decide)) yd5 xt5 z15
    · exact kit_no (nd_ne nz 1 0 rfl rfl (by decide)) yd1 xt1 z21
    · exact kit_same
    · exact kit_no (nd_ne nz 1 2 rfl rfl (by decide)) yd3 xt3 z23
    · exact kit_no (nd_ne nz 1 3 rfl rfl (by decide)) yd4 xt4 z24
    · exact kit_no (nd_ne nz 1 4 rfl rfl (by decide)) yd5 xt5 z25
    · exact kit_no (nd_ne nz 2 0 rfl rfl (by decide)) yd1 xt1 z31
    · exact kit_no (nd_ne nz 2 1 rfl rfl (by decide)) yd2 xt2 z32
    · exact kit_same
    · exact kit_no (nd_ne nz 2 3 rfl rfl (by decide)) yd4 xt4 z34
    · exact kit_no (nd_ne nz 2 4 rfl rfl (by decide)) yd5 xt5 z35
    · exact kit_no (nd_ne nz 3 0 rfl rfl (by decide)) yd1 xt1 z41
    · exact kit_no (nd_ne nz 3 1 rfl rfl (by decide)) yd2 xt2 z42
    · exact kit_no (nd_ne nz 3 2 rfl rfl (by decide)) yd3 xt3 z43
    · exact kit_same
    · exact kit_no (nd_ne nz 3 4 rfl rfl (by decide)) yd5 xt5 z45
    · exact kit_no (nd_ne nz 4 0 rfl rfl (by decide)) yd1 xt1 z51
    · exact kit_no (nd_ne nz 4 1 rfl rfl (by decide)) yd2 xt2 z52
    · exact kit_no (nd_ne nz 4 2 rfl rfl (by decide)) yd3 xt3 z53
    · exact kit_no (nd_ne nz 4 3 rfl rfl (by decide)) yd4 xt4 z54
    · exact kit_same
  have er_sub : ∀ c t, errR c = some t → PySem.W.exmOne K (.ref (eaOf C0 C1 C2 C3 C4 C5 c)) (.ref (eaOf C0 C1 C2 C3 C4 C5 0)) = some true := fun c t hr => by
    have hc := errR_lt hr
    have : c = 1 ∨ c = 2 ∨ c = 3 ∨ c = 4 ∨ c = 5 := by omega
    rcases this with rfl | rfl | rfl | rfl | rfl
    · exact PySem.W.exm_ref xb0 yd0 xt0 yx1
    · exact PySem.W.exm_ref xb0 yd0 xt0 yx2
    · exact PySem.W.exm_ref xb0 yd0 xt0 yx3
    · exact PySem.W.exm_ref xb0 yd0 xt0 yx4
    · exact PySem.W.exm_ref xb0 yd0 xt0 yx5
  have d_check_prime : Def ⟨K, w, eaOf C0 C1 C2 C3 C4 C5, fun _ => 0⟩ mg "check_prime" s_check_prime ["prime"] := def_in X N a0 l0 c0 k0 fun _ _ _ _ _ _ us hl => match us, hl with | [_], _ => rfl
  have d_check_points : Def ⟨K, w, eaOf C0 C1 C2 C3 C4 C5, fun _ => 0⟩ mg "check_points" s_check_points ["prime", "points"] := def_in X N a1 l1 c1 k1 fun _ _ _ _ _ _ us hl => match us, hl with | [_, _], _ => rfl
  have d_value_at : Def ⟨K, w, eaOf C0 C1 C2 C3 C4 C5, fun _ => 0⟩ mg "value_at" s_value_at ["prime", "numbers", "first"] := def_in X N a2 l2 c2 k2 fun _ _ _ _ _ _ us hl => match us, hl with | [_, _, _], _ => rfl
  have d_cut : Def ⟨K, w, eaOf C0 C1 C2 C3 C4 C5, fun _ => 0⟩ mg "cut" s_cut ["numbers"] := def_in X N a3 l3 c3 k3 fun _ _ _ _ _ _ us hl => match us, hl with | [_], _ => rfl
  have d_product : Def ⟨K, w, eaOf C0 C1 C2 C3 C4 C5, fun _ => 0⟩ mg "product" s_product ["prime", "first", "second"] := def_in X N a4 l4 c4 k4 fun _ _ _ _ _ _ us hl => match us, hl with | [_, _, _], _ => rfl
  have d_total : Def ⟨K, w, eaOf C0 C1 C2 C3 C4 C5, fun _ => 0⟩ mg "total" s_total ["prime", "first", "second"] := def_in X N a5 l5 c5 k5 fun _ _ _ _ _ _ us hl => match us, hl with | [_, _, _], _ => rfl
  have d_inverse : Def ⟨K, w, eaOf C0 C1 C2 C3 C4 C5, fun _ => 0⟩ mg "inverse" s_inverse ["prime", "number"] := def_in X N a6 l6 c6 k6 fun _ _ _ _ _ _ us hl => match us, hl with | [_, _], _ => rfl
  have d_through : Def ⟨K, w, eaOf C0 C1 C2 C3 C4 C5, fun _ => 0⟩ mg "through" s_through ["prime", "points"] := def_in X N a7 l7 c7 k7 fun _ _ _ _ _ _ us hl => match us, hl with | [_, _], _ => rfl
  have d_check_wrong : Def ⟨K, w, eaOf C0 C1 C2 C3 C4 C5, fun _ => 0⟩ mg "check_wrong" s_check_wrong ["prime", "most", "wrong", "points"] := def_in X N a8 l8 c8 k8 fun _ _ _ _ _ _ us hl => match us, hl with | [_, _, _, _], _ => rfl
  have d_behind_wrong : Def ⟨K, w, eaOf C0 C1 C2 C3 C4 C5, fun _ => 0⟩ mg "behind_wrong" s_behind_wrong ["prime", "most", "wrong", "points"] := def_in X N a9 l9 c9 k9 fun _ _ _ _ _ _ us hl => match us, hl with | [_, _, _, _], _ => rfl
  have d__law_same : Def ⟨K, w, eaOf C0 C1 C2 C3 C4 C5, fun _ => 0⟩ mg "_law_same" s__law_same ["told", "due"] := def_in X N a10 l10 c10 k10 fun _ _ _ _ _ _ us hl => match us, hl with | [_, _], _ => rfl
  have d__law_stream : Def ⟨K, w, eaOf C0 C1 C2 C3 C4 C5, fun _ => 0⟩ mg "_law_stream" s__law_stream ["script"] := def_in X N a11 l11 c11 k11 fun _ _ _ _ _ _ us hl => match us, hl with | [_], _ => rfl
  have d__law_next : Def ⟨K, w, eaOf C0 C1 C2 C3 C4 C5, fun _ => 0⟩ mg "_law_next" s__law_next ["state", "many"] := def_in X N a12 l12 c12 k12 fun _ _ _ _ _ _ us hl => match us, hl with | [_, _], _ => rfl
  have d__law_error : Def ⟨K, w, eaOf C0 C1 C2 C3 C4 C5, fun _ => 0⟩ mg "_law_error" s__law_error ["e"] := def_in X N a13 l13 c13 k13 fun _ _ _ _ _ _ us hl => match us, hl with | [_], _ => rfl
  have d__law_told : Def ⟨K, w, eaOf C0 C1 C2 C3 C4 C5, fun _ => 0⟩ mg "_law_told" s__law_told ["prime", "most", "wrong", "points"] := def_in X N a14 l14 c14 k14 fun _ _ _ _ _ _ us hl => match us, hl with | [_, _, _, _], _ => rfl
  have d__law_value : Def ⟨K, w, eaOf C0 C1 C2 C3 C4 C5, fun _ => 0⟩ mg "_law_value" s__law_value ["prime", "numbers", "first"] := def_in X N a15 l15 c15 k15 fun _ _ _ _ _ _ us hl => match us, hl with | [_, _, _], _ => rfl
  have d__law_cut : Def ⟨K, w, eaOf C0 C1 C2 C3 C4 C5, fun _ => 0⟩ mg "_law_cut" s__law_cut ["numbers"] := def_in X N a16 l16 c16 k16 fun _ _ _ _ _ _ us hl => match us, hl with | [_], _ => rfl
  have d__law_all_sums : Def ⟨K, w, eaOf C0 C1 C2 C3 C4 C5, fun _ => 0⟩ mg "_law_all_sums" s__law_all_sums ["prime", "many"] := def_in X N a17 l17 c17 k17 fun _ _ _ _ _ _ us hl => match us, hl with | [_, _], _ => rfl
  refine ⟨PySem.W.fnOf "law" "law" (defArgs s_law) (defBody s_law) (defScope s_law) .none kV18 dc18 pm18 an18 cd18 ct18, fun s v => .of_eq rfl, fun base _ _ => ?_⟩
  have c_check_prime := (k_check_prime (P := l.prog) (base := base) (mg := mg) d_check_prime x_NotAllowed T_PRIMES).imp e_check_prime
  have c_check_points := (k_check_points (P := l.prog) (base := base) (mg := mg) d_check_points B c_check_prime x_NotAllowed).imp e_check_points
  have c_value_at := (k_value_at (P := l.prog) (base := base) (mg := mg) d_value_at ).imp e_value_at
  have c_cut := (k_cut (P := l.prog) (base := base) (mg := mg) d_cut B).imp e_cut
  have c_product := (k_product (P := l.prog) (base := base) (mg := mg) d_product B c_cut).imp e_product
  have c_total := (k_total (P := l.prog) (base := base) (mg := mg) d_total B c_cut).imp e_total
  have c_inverse := (k_inverse (P := l.prog) (base := base) (mg := mg) d_inverse B).imp e_inverse
  have c_through := (k_through (P := l.prog) (base := base) (mg := mg) d_through c_product c_total c_inverse c_value_at).imp e_through
  have c_check_wrong := (k_check_wrong (P := l.prog) (base := base) (mg := mg) d_check_wrong B c_check_points x_NotAllowed T_MAX_WRONG).imp e_check_wrong
  have c_behind_wrong := (k_behind_wrong (P := l.prog) (base := base) (mg := mg) d_behind_wrong B c_through c_check_wrong x_Missing CB).imp e_behind_wrong
  have c__law_same := (k__law_same (P := l.prog) (base := base) (mg := mg) d__law_same B).imp e__law_same
  have c__law_stream := (k__law_stream (P := l.prog) (base := base) (mg := mg) d__law_stream B).imp e__law_stream
  have c__law_next := (k__law_next (P := l.prog) (base := base) (mg := mg) d__law_next B).imp e__law_next
  have er__law_error := k__law_error (P := l.prog) (base := base) d__law_error B x_NotAllowed x_BadForm x_Missing x_Alike x_Wrong XC kit
  have c__law_told := (k__law_told (P := l.prog) (base := base) (mg := mg) d__law_told c_behind_wrong x_MaieuticError er__law_error er_sub).imp e__law_told
  have c__law_value := (k__law_value (P := l.prog) (base := base) (mg := mg) d__law_value B).imp e__law_value
  have c__law_cut := (k__law_cut (P := l.prog) (base := base) (mg := mg) d__law_cut B).imp e__law_cut
  have c__law_all_sums := (k__law_all_sums (P := l.prog) (base := base) (mg := mg) d__law_all_sums B).imp e__law_all_sums
  exact (spec_imp (k_law (P := l.prog) (base := base) (G := ⟨K, w, eaOf C0 C1 C2 C3 C4 C5, fun _ => 0⟩) (fun_mk l18 c18 k18) B c__law_told c__law_same c__law_all_sums c__law_value c__law_cut c__law_next c__law_stream T_MAX_WRONG) e_law).mono (by decide)
end K49

open PySem PySem.W PyProof.Rows in
set_option maxRecDepth 100000 in
set_option maxHeartbeats 0 in
theorem PySem.Challenge.cw_askcraft_k49_sums_behind_wrong_values_holds : PySem.Challenge.rw_askcraft_k49_sums_behind_wrong_values.Holds := by
  w_on; o_law; k_head; (case hw => w_witness2)
  k_fill
  refine Mi.walk_G (l := PySem.Challenge.rw_askcraft_k49_sums_behind_wrong_values) (k := 40) (x := "script") (S := K49.S_law) (ea := fun _ => Mi.eaOf 42 55 67 79 91 103) (cl := fun _ _ => 0) rfl rfl ⟨rfl, by decide, by decide⟩ (fun w h Y => PySem.W.kIn_of Y) ?F K49.law_true
  case F =>
    intro w mg fa h KX G hmg
    refine' K49.all_mk KX G hmg ?a0 ?l0 ?c0 ?k0 ?a1 ?l1 ?c1 ?k1 ?a2 ?l2 ?c2 ?k2 ?a3 ?l3 ?c3 ?k3 ?a4 ?l4 ?c4 ?k4 ?a5 ?l5 ?c5 ?k5 ?a6 ?l6 ?c6 ?k6 ?a7 ?l7 ?c7 ?k7 ?a8 ?l8 ?c8 ?k8 ?a9 ?l9 ?c9 ?k9 ?a10 ?l10 ?c10 ?k10 ?a11 ?l11 ?c11 ?k11 ?a12 ?l12 ?c12 ?k12 ?a13 ?l13 ?c13 ?k13 ?a14 ?l14 ?c14 ?k14 ?a15 ?l15 ?c15 ?k15 ?a16 ?l16 ?c16 ?k16 ?a17 ?l17 ?c17 ?k17 ?a18 ?l18 ?c18 ?k18 ?xa0 ?xe0 ?xk0 ?xb0 ?xt0 ?xa1 ?xe1 ?xk1 ?xb1 ?xt1 ?xa2 ?xe2 ?xk2 ?xb2 ?xt2 ?xa3 ?xe3 ?xk3 ?xb3 ?xt3 ?xa4 ?xe4 ?xk4 ?xb4 ?xt4 ?xa5 ?xe5 ?xk5 ?xb5 ?xt5 ?yg1 ?yh1 ?yd1 ?ya1 ?ym1 ?yx1 ?yg2 ?yh2 ?yd2 ?ya2 ?ym2 ?yx2 ?yg3 ?yh3 ?yd3 ?ya3 ?ym3 ?yx3 ?yg4 ?yh4 ?yd4 ?ya4 ?ym4 ?yx4 ?yg5 ?yh5 ?yd5 ?ya5 ?ym5 ?yx5 ?yn ?yt ?yd0 ?nz ?z12 ?z13 ?z14 ?z15 ?z21 ?z23 ?z24 ?z25 ?z31 ?z32 ?z34 ?z35 ?z41 ?z42 ?z43 ?z45 ?z51 ?z52 ?z53 ?z54 ?b_list ?b_sorted ?b_set ?b_all ?b_any ?b_tuple ?b_len ?b_abs ?b_int ?b_range ?b_repr ?b_sum ?b_isinstance ?b_max ?b_min ?b_zip ?b_enumerate ?cmb ?g_PRIMES ?h_PRIMES ?v_PRIMES ?z_PRIMES ?g_MAX_WRONG
    (case a0 => k_is)
    (case l0 => k_is)
    (case c0 => k_is)
    (case k0 => k_is)
    (case a1 => k_is)
    (case l1 => k_is)
    (case c1 => k_is)
    (case k1 => k_is)
    (case a2 => k_is)
    (case l2 => k_is)
    (case c2 => k_is)
    (case k2 => k_is)
    (case a3 => k_is)
    (case l3 => k_is)
    (case c3 => k_is)
    (case k3 => k_is)
    (case a4 => k_is)
    (case l4 => k_is)
    (case c4 => k_is)
    (case k4 => k_is)
    (case a5 => k_is)
    (case l5 => k_is)
    (case c5 => k_is)
    (case k5 => k_is)
    (case a6 => k_is)
    (case l6 => k_is)
    (case c6 => k_is)
    (case k6 => k_is)
    (case a7 => k_is)
    (case l7 => k_is)
    (case c7 => k_is)
    (case k7 => k_is)
    (case a8 => k_is)
    (case l8 => k_is)
    (case c8 => k_is)
    (case k8 => k_is)
    (case a9 => k_is)
    (case l9 => k_is)
    (case c9 => k_is)
    (case k9 => k_is)
    (case a10 => k_is)
    (case l10 => k_is)
    (case c10 => k_is)
    (case k10 => k_is)
    (case a11 => k_is)
    (case l11 => k_is)
    (case c11 => k_is)
    (case k11 => k_is)
    (case a12 => k_is)
    (case l12 => k_is)
    (case c12 => k_is)
    (case k12 => k_is)
    (case a13 => k_is)
    (case l13 => k_is)
    (case c13 => k_is)
    (case k13 => k_is)
    (case a14 => k_is)
    (case l14 => k_is)
    (case c14 => k_is)
    (case k14 => k_is)
    (case a15 => k_is)
    (case l15 => k_is)
    (case c15 => k_is)
    (case k15 => k_is)
    (case a16 => k_is)
    (case l16 => k_is)
    (case c16 => k_is)
    (case k16 => k_is)
    (case a17 => k_is)
    (case l17 => k_is)
    (case c17 => k_is)
    (case k17 => k_is)
    (case a18 => k_is)
    (case l18 => k_is)
    (case c18 => k_is)
    (case k18 => k_is)
    (case xa0 => k_is)
    (case xe0 => k_exc)
    (case xk0 => k_is)
    (case xb0 => k_is)
    (case xt0 => k_is)
    (case xa1 => k_is)
    (case xe1 => k_exc)
    (case xk1 => k_is)
    (case xb1 => k_is)
    (case xt1 => k_is)
    (case xa2 => k_is)
    (case xe2 => k_exc)
    (case xk2 => k_is)
    (case xb2 => k_is)
    (case xt2 => k_is)
    (case xa3 => k_is)
    (case xe3 => k_exc)
    (case xk3 => k_is)
    (case xb3 => k_is)
    (case xt3 => k_is)
    (case xa4 => k_is)
    (case xe4 => k_exc)
    (case xk4 => k_is)
    (case xb4 => k_is)
    (case xt4 => k_is)
    (case xa5 => k_is)
    (case xe5 => k_exc)
    (case xk5 => k_is)
    (case xb5 => k_is)
    (case xt5 => k_is)
    (case yg1 => k_is)
    (case yh1 => k_is)
    (case yd1 => k_is)
    (case ya1 => k_is)
    (case ym1 => k_is)
    (case yx1 => k_is)
    (case yg2 => k_is)
    (case yh2 => k_is)
    (case yd2 => k_is)
    (case ya2 => k_is)
    (case ym2 => k_is)
    (case yx2 => k_is)
    (case yg3 => k_is)
    (case yh3 => k_is)
    (case yd3 => k_is)
    (case ya3 => k_is)
    (case ym3 => k_is)
    (case yx3 => k_is)
    (case yg4 => k_is)
    (case yh4 => k_is)
    (case yd4 => k_is)
    (case ya4 => k_is)
    (case ym4 => k_is)
    (case yx4 => k_is)
    (case yg5 => k_is)
    (case yh5 => k_is)
    (case yd5 => k_is)
    (case ya5 => k_is)
    (case ym5 => k_is)
    (case yx5 => k_is)
    (case yn => k_is)
    (case yt => k_is)
    (case yd0 => k_is)
    (case nz => decide)
    (case z12 => k_is)
    (case z13 => k_is)
    (case z14 => k_is)
    (case z15 => k_is)
    (case z21 => k_is)
    (case z23 => k_is)
    (case z24 => k_is)
    (case z25 => k_is)
    (case z31 => k_is)
    (case z32 => k_is)
    (case z34 => k_is)
    (case z35 => k_is)
    (case z41 => k_is)
    (case z42 => k_is)
    (case z43 => k_is)
    (case z45 => k_is)
    (case z51 => k_is)
    (case z52 => k_is)
    (case z53 => k_is)
    (case z54 => k_is)
    (case b_list => k_is)
    (case b_sorted => k_is)
    (case b_set => k_is)
    (case b_all => k_is)
    (case b_any => k_is)
    (case b_tuple => k_is)
    (case b_len => k_is)
    (case b_abs => k_is)
    (case b_int => k_is)
    (case b_range => k_is)
    (case b_repr => k_is)
    (case b_sum => k_is)
    (case b_isinstance => k_is)
    (case b_max => k_is)
    (case b_min => k_is)
    (case b_zip => k_is)
    (case b_enumerate => k_is)
    (case cmb => k_is)
    (case g_PRIMES => k_is)
    (case h_PRIMES => k_is)
    (case v_PRIMES => decide +kernel)
    (case z_PRIMES => decide +kernel)
    (case g_MAX_WRONG => k_is)
#print axioms PySem.Challenge.cw_askcraft_k49_sums_behind_wrong_values_holds
end
