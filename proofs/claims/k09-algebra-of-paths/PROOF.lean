import PyProof.Rows.All
import Wide.All
import OpenK.AllK
import Wide.FinOn
import HandS.ForMost
import HandS.GenList
import HandS.GenYield
import HandS.Star
import HandS.ClsMeth
import HandS.Property
import HandS.OwnEq
import HandS.StrMore
import HandS.NoneIn
import HandS.TupAny
import HandS.IsInst
import HandS.Wide
import HandS.Text
import PySem.Challenge.RW_filelayer_k09_whole_algebra_of_paths
set_option Elab.async false
set_option maxRecDepth 100000
set_option maxHeartbeats 4000000

/-! Suspended generators that are not resumed: the poison argument. -/
namespace Fl
open PySem PyProof.Rows

/-- a suspended generator that is stuck when it is resumed; seen and bare are kept -/
def poison : GenState → GenState
  | .suspended _ l c p fs cl => .suspended (fun _ => .unsupported "poison") l c p fs cl
  | x => x
def isSusp : GenState → Bool
  | .suspended .. => true
  | _ => false
theorem poison_seen (x : GenState) : (poison x).seen = x.seen := by cases x <;> rfl
theorem poison_bare (x : GenState) : (poison x).bare = x.bare := by cases x <;> rfl
theorem poison_not {x : GenState} (h : isSusp x = false) : poison x = x := by cases x <;> first | rfl | cases h

/-- the frames hold no generator's mark -/
def NG (fs : List Frame) : Prop := splitAtGen fs = none
def GNG : GenState → Prop
  | .suspended _ _ _ _ fs _ => NG fs
  | _ => True

/-- index i of the array O ahead is poisoned -/
def Pz (O : Array GenState) (i : Nat) : Prop := ∃ x, O[i]? = some x ∧ isSusp x = true
/-- the poisoned run's array, beside the real one -/
structure Pair (O g r : Array GenState) : Prop where
  size : g.size = r.size
  big : O.size ≤ g.size
  pz : ∀ (i : Nat) (x : GenState), O[i]? = some x → isSusp x = true → g[i]? = some (poison x) ∧ r[i]? = some x
  np : ∀ (i : Nat), ¬ Pz O i → g[i]? = r[i]?
  ng : ∀ (i : Nat) (x : GenState), ¬ Pz O i → g[i]? = some x → GNG x

abbrev real (s : Shared) (r : Array GenState) : Shared := { s with gens := r }

theorem susp_poison (y : GenState) : isSusp (poison y) = isSusp y := by cases y <;> rfl
theorem Pair.not_pz {O g r : Array GenState} (P : Pair O g r) {i : Nat} {x : GenState} (h : g[i]? = some x) (hx : isSusp x = false) : ¬ Pz O i := fun ⟨y, hy, hs⟩ => by
  obtain ⟨a, b⟩ := P.pz i y hy hs
  rw [h] at a
  have e := Option.some.inj a
  rw [e, susp_poison, hs] at hx
  cases hx
theorem Pair.push {O g r : Array GenState} (h : Pair O g r) {c : Code} : Pair O (g.push (.fresh c)) (r.push (.fresh c)) := by
  have lt : ∀ (i : Nat) (x : GenState), O[i]? = some x → i < O.size := fun i x e => (Array.getElem?_eq_some_iff.mp e).1
  have hs := h.size
  have hb := h.big
  refine ⟨by simp [h.size], by simp; omega, fun i x e hx => ?_, fun i hi => ?_, fun i x hi e => ?_⟩
  · obtain ⟨a, b⟩ := h.pz i x e hx
    have := lt i x e
    rw [Array.getElem?_push, Array.getElem?_push, if_neg (by omega), if_neg (by omega)]
    exact ⟨a, b⟩
  · rw [Array.getElem?_push, Array.getElem?_push, h.size, h.np i hi]
  · rw [Array.getElem?_push] at e
    by_cases hi2 : i = g.size
    · rw [if_pos hi2] at e
      cases e
      exact True.intro
    · rw [if_neg hi2] at e
      exact h.ng i x hi e

theorem Pair.set {O g r : Array GenState} (h : Pair O g r) {i : Nat} {x : GenState} (hi : ¬ Pz O i) (hx : GNG x) : Pair O (g.setIfInBounds i x) (r.setIfInBounds i x) := by
  refine ⟨by simp [h.size], by simp; exact h.big, fun j y e hy => ?_, fun j hj => ?_, fun j y hj e => ?_⟩
  · have ne : i ≠ j := fun q => hi (q ▸ ⟨y, e, hy⟩)
    obtain ⟨a, b⟩ := h.pz j y e hy
    rw [Array.getElem?_setIfInBounds_ne ne, Array.getElem?_setIfInBounds_ne ne]
    exact ⟨a, b⟩
  · rw [Array.getElem?_setIfInBounds, Array.getElem?_setIfInBounds, h.size, h.np j hj]
  · by_cases ne : i = j
    · subst ne
      rw [Array.getElem?_setIfInBounds, if_pos rfl] at e
      split at e
      · cases e; exact hx
      · cases e
    · rw [Array.getElem?_setIfInBounds_ne ne] at e
      exact h.ng j y hj e

theorem ng_nil : NG [] := rfl
theorem ng_cons {k h g l c p kp fs} (x : NG (.ret k h g l c p kp :: fs)) : NG fs := by
  unfold NG at x ⊢
  have e : splitAtGen (Frame.ret k h g l c p kp :: fs) = (splitAtGen fs).map fun (fs, b, r) => (Frame.ret k h g l c p kp :: fs, b, r) := rfl
  rw [e] at x
  cases q : splitAtGen fs with
  | none => rfl
  | some y => rw [q] at x; cases x
theorem ng_gen {g k l c p fs} (x : NG (.gen g k l c p :: fs)) : False := by
  unfold NG at x
  cases x
theorem ng_app {fs gs : List Frame} (a : NG fs) (b : NG gs) : NG (fs ++ gs) := by
  induction fs with
  | nil => exact b
  | cons f fs ih =>
    cases f with
    | gen g k l c p => exact (ng_gen a).elim
    | ret k h g l c p kp =>
      have e := ih (ng_cons a)
      unfold NG at e ⊢
      show (splitAtGen (fs ++ gs)).map _ = none
      rw [e]; rfl
theorem ng_one {k h g l c p kp} : NG [.ret k h g l c p kp] := rfl

def EndNG : End → Prop
  | .ret _ => True
  | .susp _ _ _ _ _ _ fs => NG fs
theorem endNG_state {e : End} (h : EndNG e) : GNG e.genState := by
  cases e with
  | ret _ => exact True.intro
  | susp v g l k c p fs => exact h

/-- a tree that is stuck -/
theorem stuck {M : Model} {Γ : Ctx} {p : Pos} {t : Sem PySem.Fin} {fs : List Frame} {s s' : Shared} {e : End} (h : Runs M Γ p t fs s e s') : ∀ {w : String}, t = .unsupported w → False := by
  induction h with
  | segRet _ _ ih _ => intro w q; exact ih q
  | segGen _ _ ih _ => intro w q; exact ih q
  | segSuspOut _ _ ih => intro w q; exact ih q
  | segSuspGen _ _ _ _ ih _ => intro w q; exact ih q
  | _ => intro w q; cases q

theorem runs_real {M : Model} {O : Array GenState} {Γ : Ctx} {p : Pos} {t : Sem PySem.Fin} {fs : List Frame} {s s' : Shared} {e : End} (h : Runs M Γ p t fs s e s') :
    ∀ r, NG fs → Pair O s.gens r → ∃ r', Pair O s'.gens r' ∧ EndNG e ∧ Runs M Γ p t fs (real s r) e (real s' r') := by
  induction h with
  | done => intro r n P; exact ⟨r, P, True.intro, .done⟩
  | raise => intro r n P; exact ⟨r, P, True.intro, .raise⟩
  | again q _ ih => intro r n P; obtain ⟨r', P', n', x⟩ := ih r n P; exact ⟨r', P', n', .again q x⟩
  | rule _ ih => intro r n P; obtain ⟨r', P', n', x⟩ := ih r n P; exact ⟨r', P', n', .rule x⟩
  | «at» _ ih => intro r n P; obtain ⟨r', P', n', x⟩ := ih r n P; exact ⟨r', P', n', .at x⟩
  | load ho _ ih => intro r n P; obtain ⟨r', P', n', x⟩ := ih r n P; exact ⟨r', P', n', .load ho x⟩
  | update ho _ ih => intro r n P; obtain ⟨r', P', n', x⟩ := ih r n P; exact ⟨r', P', n', .update ho x⟩
  | loadIfAlive _ ih => intro r n P; obtain ⟨r', P', n', x⟩ := ih r n P; exact ⟨r', P', n', .loadIfAlive x⟩
  | point _ ih => intro r n P; obtain ⟨r', P', n', x⟩ := ih r n P; exact ⟨r', P', n', .point x⟩
  | alloc _ ih => intro r n P; obtain ⟨r', P', n', x⟩ := ih r n P; exact ⟨r', P', n', .alloc x⟩
  | fresh _ ih => intro r n P; obtain ⟨r', P', n', x⟩ := ih r n P; exact ⟨r', P', n', .fresh x⟩
  | ask _ ih => intro r n P; obtain ⟨r', P', n', x⟩ := ih r n P; exact ⟨r', P', n', .ask x⟩
  | choose hn _ ih => intro r n P; obtain ⟨r', P', n', x⟩ := ih r n P; exact ⟨r', P', n', .choose hn x⟩
  | os _ ih => intro r n P; obtain ⟨r', P', n', x⟩ := ih r n P; exact ⟨r', P', n', .os x⟩
  | handled _ ih => intro r n P; obtain ⟨r', P', n', x⟩ := ih r n P; exact ⟨r', P', n', .handled x⟩
  | stack _ ih => intro r n P; obtain ⟨r', P', n', x⟩ := ih r n P; exact ⟨r', P', n', .stack x⟩
  | thread _ ih => intro r n P; obtain ⟨r', P', n', x⟩ := ih r n P; exact ⟨r', P', n', .thread x⟩
  | @genState g st Γ p k s e s' hg _ ih =>
    intro r n P
    obtain ⟨r', P', n', x⟩ := ih r n P
    by_cases hz : Pz O g
    · obtain ⟨y, hy, hs⟩ := hz
      obtain ⟨a, b⟩ := P.pz g y hy hs
      rw [hg] at a
      have es : st.seen = y.seen := by rw [Option.some.inj a]; exact poison_seen y
      exact ⟨r', P', n', .genState (st := y) b (by rw [← es]; exact x)⟩
    · exact ⟨r', P', n', .genState (st := st) (by rw [← P.np g hz]; exact hg) x⟩
  | @newGen Γ p k s e s' c _ ih =>
    intro r n P
    obtain ⟨r', P', n', x⟩ := ih (r.push (.fresh c)) n P.push
    exact ⟨r', P', n', .newGen (by show Runs _ _ _ (k r.size) _ _ _ _; rw [← P.size]; exact x)⟩
  | call _ _ ih1 ih2 =>
    intro r n P
    obtain ⟨r1, P1, n1, x1⟩ := ih1 r n P
    obtain ⟨r2, P2, n2, x2⟩ := ih2 r1 n P1
    exact ⟨r2, P2, n2, .call x1 x2⟩
  | callSusp _ ih =>
    intro r n P
    obtain ⟨r1, P1, n1, x1⟩ := ih r n P
    exact ⟨r1, P1, ng_app n1 ng_one, .callSusp x1⟩
  | yield => intro r n P; exact ⟨r, P, ng_nil, .yield⟩
  | @resumeFresh Γ p g l k s c e₁ s₁ e s' hg hr hq _ ih1 ih2 =>
    intro r n P
    have hz : ¬ Pz O g := P.not_pz hg rfl
    obtain ⟨r1, P1, n1, x1⟩ := ih1 (r.setIfInBounds g .running) ng_nil (P.set hz True.intro)
    obtain ⟨r2, P2, n2, x2⟩ := ih2 (r1.setIfInBounds g e₁.genState) n (P1.set hz (endNG_state n1))
    exact ⟨r2, P2, n2, .resumeFresh (by show r[g]? = _; rw [← P.np g hz]; exact hg) x1 hq x2⟩
  | @resumeSuspended Γ p g r0 l k s k₀ l₀ c₀ p₀ fs cl e₁ s₁ e s' hg hr hq _ ih1 ih2 =>
    intro r n P
    by_cases hz : Pz O g
    · obtain ⟨y, hy, hs⟩ := hz
      obtain ⟨a, b⟩ := P.pz g y hy hs
      rw [hg] at a
      cases y with
      | suspended k1 l1 c1 p1 fs1 cl1 =>
        injection a with a
        injection a with a1 a2 a3 a4 a5 a6
        subst a1
        exact (stuck hr rfl).elim
      | fresh c => cases hs
      | running => cases hs
      | finished => cases hs
    · have nf : NG fs := P.ng g _ hz hg
      obtain ⟨r1, P1, n1, x1⟩ := ih1 (r.setIfInBounds g .running) nf (P.set hz True.intro)
      obtain ⟨r2, P2, n2, x2⟩ := ih2 (r1.setIfInBounds g e₁.genState) n (P1.set hz (endNG_state n1))
      exact ⟨r2, P2, n2, .resumeSuspended (by show r[g]? = _; rw [← P.np g hz]; exact hg) x1 hq x2⟩
  | @resumeJustStarted g v Γ p k s e s' l c hg hv _ ih =>
    intro r n P
    have hz : ¬ Pz O g := P.not_pz hg rfl
    obtain ⟨r', P', n', x⟩ := ih r n P
    exact ⟨r', P', n', .resumeJustStarted (by show r[g]? = _; rw [← P.np g hz]; exact hg) hv x⟩
  | @resumeThrowFresh g Γ p k e s' x0 l s c hg _ ih =>
    intro r n P
    have hz : ¬ Pz O g := P.not_pz hg rfl
    obtain ⟨r', P', n', x⟩ := ih (r.setIfInBounds g .finished) n (P.set hz True.intro)
    exact ⟨r', P', n', .resumeThrowFresh (by show r[g]? = _; rw [← P.np g hz]; exact hg) x⟩
  | @resumeRunning g Γ p k s e s' r0 l hg _ ih =>
    intro r n P
    have hz : ¬ Pz O g := P.not_pz hg rfl
    obtain ⟨r', P', n', x⟩ := ih r n P
    exact ⟨r', P', n', .resumeRunning (by show r[g]? = _; rw [← P.np g hz]; exact hg) x⟩
  | @resumeFinished g Γ p k s e s' r0 l hg _ ih =>
    intro r n P
    have hz : ¬ Pz O g := P.not_pz hg rfl
    obtain ⟨r', P', n', x⟩ := ih r n P
    exact ⟨r', P', n', .resumeFinished (by show r[g]? = _; rw [← P.np g hz]; exact hg) x⟩
  | segRet _ _ ih1 ih2 =>
    intro r n P
    obtain ⟨r1, P1, n1, x1⟩ := ih1 r ng_nil P
    obtain ⟨r2, P2, n2, x2⟩ := ih2 r1 (ng_cons n) P1
    exact ⟨r2, P2, n2, .segRet x1 x2⟩
  | segGen _ _ _ _ => intro r n P; exact (ng_gen n).elim
  | segSuspOut hs _ ih =>
    intro r n P
    obtain ⟨r1, P1, n1, x1⟩ := ih r ng_nil P
    exact ⟨r1, P1, ng_app n1 n, .segSuspOut hs x1⟩
  | segSuspGen hs _ _ _ _ _ => intro r n P; unfold NG at n; rw [n] at hs; cases hs

open Sem (wp) in
theorem wp_real {α : Type} {M : Model} {O : Array GenState} {Γ : Ctx} (t : Sem α) : ∀ (Q : α → Pos → Shared → Prop) (E : Value → Pos → Shared → Prop) (p : Pos) (s : Shared) (r : Array GenState), Pair O s.gens r → wp M Γ t Q E p s →
    wp M Γ t (fun a p' s' => ∃ s1 r1, s' = real s1 r1 ∧ Pair O s1.gens r1 ∧ Q a p' s1) (fun a p' s' => ∃ s1 r1, s' = real s1 r1 ∧ Pair O s1.gens r1 ∧ E a p' s1) p (real s r) := by
  induction t with
  | pure a => intro Q E p s r P h; exact ⟨s, r, rfl, P, h⟩
  | raise e => intro Q E p s r P h; exact ⟨s, r, rfl, P, h⟩
  | unsupported _ => intro Q E p s r P h; exact h
  | finish _ => intro Q E p s r P h; exact h
  | rule _ k ih => intro Q E p s r P h; exact ih () Q E p s r P h
  | «at» p' k ih => intro Q E p s r P h; exact ih () Q E p' s r P h
  | load a _ k ih => intro Q E p s r P h; obtain ⟨o, ho, h⟩ := h; exact ⟨o, ho, ih o Q E p s r P h⟩
  | update a _ f k ih => intro Q E p s r P h; exact ⟨h.1, ih () Q E p { s with heap := s.heap.update a f } r P h.2⟩
  | loadIfAlive a k ih => intro Q E p s r P h; exact ih _ Q E p s r P h
  | point _ k ih => intro Q E p s r P h; exact ih () Q E p s r P h
  | register _ _ => intro Q E p s r P h; exact h
  | alloc o k ih => intro Q E p s r P h; exact ih _ Q E p { s with heap := s.heap.push o } r P h
  | fresh k ih => intro Q E p s r P h; exact ih _ Q E p { s with toks := s.toks + 1 } r P h
  | ask k ih => intro Q E p s r P h; exact ih _ Q E p s r P h
  | choose src m k ih => intro Q E p s r P h; exact ⟨h.1, ih _ Q E p { s with drawn := s.drawn.bump src } r P h.2⟩
  | os q _ k ih => intro Q E p s r P h; exact ih _ Q E p { s with os := (Os.step s.os q).1 } r P h
  | call c hd _ _ k ih =>
    intro Q E p s r P h
    obtain ⟨x, s', hr, h⟩ := h
    obtain ⟨r1, P1, _, hr1⟩ := runs_real hr r ng_nil P
    exact ⟨x, _, hr1, ih x Q E p s' r1 P1 h⟩
  | handled own k ih => intro Q E p s r P h; exact ih _ Q E p s r P h
  | genState g k ih =>
    intro Q E p s r P h
    obtain ⟨st, hg, h⟩ := h
    by_cases hz : Pz O g
    · obtain ⟨y, hy, hs⟩ := hz
      obtain ⟨a, b⟩ := P.pz g y hy hs
      rw [hg] at a
      have es : st.seen = y.seen := by rw [Option.some.inj a]; exact poison_seen y
      exact ⟨y, b, by rw [← es]; exact ih _ Q E p s r P h⟩
    · exact ⟨st, by show r[g]? = _; rw [← P.np g hz]; exact hg, ih _ Q E p s r P h⟩
  | newGen c k ih =>
    intro Q E p s r P h
    have x := ih _ Q E p _ (r.push (.fresh c)) P.push h
    show wp M Γ (k r.size) _ _ p _
    rw [← P.size]
    exact x
  | resume g rr _ k ih =>
    intro Q E p s r P h
    obtain ⟨res, s', hw, h⟩ := h
    by_cases hz : Pz O g
    · obtain ⟨y, hy, hs⟩ := hz
      obtain ⟨a, b⟩ := P.pz g y hy hs
      cases y with
      | suspended k1 l1 c1 p1 fs1 cl1 =>
        unfold Wakes at hw
        rw [a] at hw
        obtain ⟨e₁, s₁, hr, _⟩ := hw
        exact (stuck hr rfl).elim
      | fresh c => cases hs
      | running => cases hs
      | finished => cases hs
    · have hg := P.np g hz
      unfold Wakes at hw
      cases q : s.gens[g]? with
      | none => rw [q] at hw; exact hw.elim
      | some st =>
        have q2 : r[g]? = some st := hg.symm.trans q
        rw [q] at hw
        cases st with
        | fresh c =>
          cases rr with
          | send v =>
            cases v with
            | none =>
              obtain ⟨e₁, s₁, hr, hq, e1, e2⟩ := hw
              obtain ⟨r1, P1, n1, hr1⟩ := runs_real hr (r.setIfInBounds g .running) ng_nil (P.set hz True.intro)
              subst e1 e2
              refine ⟨e₁.result, real (s₁.setGen g e₁.genState) (r1.setIfInBounds g e₁.genState), ?_, ih _ Q E p _ _ (P1.set hz (endNG_state n1)) h⟩
              unfold Wakes
              show (match r[g]? with | _ => _)
              rw [q2]
              exact ⟨e₁, _, hr1, hq, rfl, rfl⟩
            | _ =>
              obtain ⟨e1, e2⟩ := hw
              subst e1 e2
              refine ⟨_, real _ r, ?_, ih _ Q E p _ _ P h⟩
              unfold Wakes
              show (match r[g]? with | _ => _)
              rw [q2]
              exact ⟨rfl, rfl⟩
          | throw x =>
            obtain ⟨e1, e2⟩ := hw
            subst e1 e2
            refine ⟨_, real (s.setGen g .finished) (r.setIfInBounds g .finished), ?_, ih _ Q E p _ _ (P.set hz True.intro) h⟩
            unfold Wakes
            show (match r[g]? with | _ => _)
            rw [q2]
            exact ⟨rfl, rfl⟩
        | suspended k₀ l₀ c₀ p₀ fs cl =>
          obtain ⟨e₁, s₁, hr, hq, e1, e2⟩ := hw
          obtain ⟨r1, P1, n1, hr1⟩ := runs_real hr (r.setIfInBounds g .running) (P.ng g _ hz q) (P.set hz True.intro)
          subst e1 e2
          refine ⟨e₁.result, real (s₁.setGen g e₁.genState) (r1.setIfInBounds g e₁.genState), ?_, ih _ Q E p _ _ (P1.set hz (endNG_state n1)) h⟩
          unfold Wakes
          show (match r[g]? with | _ => _)
          rw [q2]
          exact ⟨e₁, _, hr1, hq, rfl, rfl⟩
        | running =>
          obtain ⟨e1, e2⟩ := hw
          subst e1 e2
          refine ⟨_, real _ r, ?_, ih _ Q E p _ _ P h⟩
          unfold Wakes
          show (match r[g]? with | _ => _)
          rw [q2]
          exact ⟨rfl, rfl⟩
        | finished =>
          obtain ⟨e1, e2⟩ := hw
          subst e1 e2
          refine ⟨_, real _ r, ?_, ih _ Q E p _ _ P h⟩
          unfold Wakes
          show (match r[g]? with | _ => _)
          rw [q2]
          exact ⟨rfl, rfl⟩
  | yield _ _ _ _ => intro Q E p s r P h; exact h
  | stack k ih => intro Q E p s r P h; exact ih _ Q E p s r P h
  | fork _ _ => intro Q E p s r P h; exact h
  | thread k ih => intro Q E p s r P h; exact ih _ Q E p s r P h
  | await _ _ _ _ _ => intro Q E p s r P h; exact h

/-- the pair at the start: every suspended one is poisoned -/
theorem pair_start (O : Array GenState) : Pair O (O.map poison) O := by
  have g : ∀ (i : Nat), (O.map poison)[i]? = O[i]?.map poison := fun i => by simp
  refine ⟨by simp, by simp, fun i x e hx => ⟨by rw [g, e]; rfl, e⟩, fun i hi => ?_, fun i x hi e => ?_⟩
  · rw [g]
    cases q : O[i]? with
    | none => rfl
    | some x =>
      have hs : isSusp x = false := by
        cases hq : isSusp x with
        | false => rfl
        | true => exact (hi ⟨x, q, hq⟩).elim
      show some (poison x) = _
      rw [poison_not hs]
  · rw [g] at e
    cases q : O[i]? with
    | none => rw [q] at e; cases e
    | some y =>
      rw [q] at e
      have e' : poison y = x := Option.some.inj e
      have hs : isSusp y = false := by
        cases hq : isSusp y with
        | false => rfl
        | true => exact (hi ⟨y, q, hq⟩).elim
      rw [poison_not hs] at e'
      subst e'
      cases y <;> first | exact True.intro | cases hs

/-- THE POISON ARGUMENT: what is proved from the state with all suspended generators poisoned holds at the state itself, and they are unchanged -/
theorem wpAny_poison {α : Type} {M : Model} {A : Around} {t : Sem α} {Q : α → Shared → Prop} {E : Value → Shared → Prop} {s : Shared} (h : wpAny M A t Q E (real s (s.gens.map poison))) :
    wpAny M A t (fun a s' => ∃ s1 r1, s' = real s1 r1 ∧ Pair s.gens s1.gens r1 ∧ Q a s1) (fun a s' => ∃ s1 r1, s' = real s1 r1 ∧ Pair s.gens s1.gens r1 ∧ E a s1) s := fun Γ p hΓ => by
  have x := wp_real (O := s.gens) t _ _ p (real s (s.gens.map poison)) s.gens (pair_start s.gens) (h Γ p hΓ)
  exact x

theorem Pair.bare {O g r : Array GenState} (P : Pair O g r) (hO : AllBare O) (hg : AllBare g) : AllBare r := fun y hy => by
  obtain ⟨i, hi, e⟩ := Array.mem_iff_getElem.mp hy
  have e2 : r[i]? = some y := by rw [Array.getElem?_eq_getElem hi, e]
  by_cases hz : Pz O i
  · obtain ⟨x, hx, hs⟩ := hz
    have := (P.pz i x hx hs).2
    rw [e2] at this
    cases this
    exact hO y (Array.mem_of_getElem? hx)
  · exact hg y (Array.mem_of_getElem? ((P.np i hz).trans e2))
theorem bare_poison {O : Array GenState} (hO : AllBare O) : AllBare (O.map poison) := fun y hy => by
  obtain ⟨x, hx, e⟩ := Array.mem_map.mp hy
  rw [← e, poison_bare]
  exact hO x hx
end Fl

/-! A generator's frame between its wakings, and the consumer's side. -/
namespace Fl
open PySem PySem.Spec PyProof.Rows L2

/-! ### the heap cut off at n -/
def cutH (h : Heap) (n : Nat) : Heap := { h with objs := h.objs.extract 0 n }
theorem cut_objs {h : Heap} {n b : Nat} : (cutH h n).objs[b]? = if b < n then h.objs[b]? else none := by
  show (h.objs.extract 0 n)[b]? = _
  rw [Array.getElem?_extract]
  by_cases hb : b < n
  · rw [if_pos hb, Nat.zero_add]
    by_cases hs : b < h.objs.size
    · rw [if_pos (by omega)]
    · rw [if_neg (by omega), Array.getElem?_eq_none (by omega)]
  · rw [if_neg hb, if_neg (by omega)]
theorem cut_get {h : Heap} {n b : Nat} (hb : b < n) : (cutH h n).get? b = h.get? b := by
  unfold Heap.get?
  rw [cut_objs, if_pos hb]
theorem cut_some {h : Heap} {n b : Nat} {o : Obj} (e : (cutH h n).get? b = some o) : b < n ∧ h.get? b = some o := by
  by_cases hb : b < n
  · rw [cut_get hb] at e
    exact ⟨hb, e⟩
  · unfold Heap.get? at e
    rw [cut_objs, if_neg hb] at e
    cases e
theorem cut_size {h : Heap} {n : Nat} (hn : n ≤ h.objs.size) : (cutH h n).objs.size = n := by
  show (h.objs.extract 0 n).size = n
  rw [Array.size_extract]
  omega
abbrev cutS (s : Shared) (n : Nat) : Shared := { s with heap := cutH s.heap n }

theorem funs_cut {h base : Heap} {n : Nat} : ∀ {l : List Env}, h.FunFrames base l → (∀ b ∈ frs l, b < n) → (cutH h n).FunFrames base l
  | [], _, _ => True.intro
  | env :: r, ⟨hk, ⟨L, o, hf, hb, ho, hd⟩, hr⟩, hs => by
    have hL : L < n := hs L (by unfold frs; rw [List.filterMap_cons, hf]; exact List.mem_cons_self)
    refine ⟨hk, ⟨L, o, hf, hb, by rw [cut_get hL]; exact ho, hd⟩, funs_cut hr fun b hb => hs b ?_⟩
    unfold frs
    rw [List.filterMap_cons, hf]
    exact List.mem_cons_of_mem _ hb
theorem fun_lt {h base : Heap} {l : List Env} (f : h.FunFrames base l) : ∀ b ∈ frs l, b < h.objs.size := fun b hb => by
  obtain ⟨_, o, ho, _⟩ := f.mem hb
  exact Heap.lt_size ho

/-! ### the generator's context: its entry state may be told anew at each waking -/
/-- a frame with no cells -/
structure GE (env : Env) : Prop where
  kind : env.scope.kind = .function
  glob : env.globals = mainGlobals
  blt : env.builtins = builtinsNs
  cells : env.cells = []
  nocell : ∀ x, ¬ (env.kindOf x = some .cell ∨ env.kindOf x = some .free)
  frame : env.frame = some env.locals
section
variable (P : Program) (w : World) (K : PySem.W.Frag) (mg : Str → Option Value) (base : Heap) (N : List Str) (env : Env) (outer : List Env)
def gcx (A : Around) (s0 : Shared) (H0 : Hp) : Cx where
  prog := P
  w := w
  K := K
  mg := mg
  base := base
  A := A.deeper env
  N := N
  s_0 := s0
  H_0 := H0
  env := env
  outer := outer
  stack := env :: outer
  ex := []
  calm := true
  fn := fun _ => true
  pn := []
  xe := fun _ _ => False
/-- woken in the state s, which knows H: since it slept in s', which knew H', its frame and the records pp are untouched -/
structure Wake (A : Around) (s' : Shared) (H' : Hp) (pp : List (Addr × Obj)) (s : Shared) (H : Hp) : Prop where
  hd : A.handled = none
  e0 : Env0 P w K mg base A outer s H
  same : Same H' H
  fr : ∀ o, s'.heap.get? env.locals = some o → s.heap.get? env.locals = some o
  frH : H env.locals = none
  fsn : ∀ b ∈ frs outer, b < env.locals
  bsn : base.objs.size ≤ env.locals
  pins : ∀ p ∈ pp, s.heap.get? p.1 = some p.2 ∧ H p.1 = none ∧ p.1 ≠ env.locals ∧ p.1 ∉ frs outer ∧ ∀ v, p.2.data ≠ .cell v
end
section
variable {P : Program} {w : World} {K : PySem.W.Frag} {mg : Str → Option Value} {base : Heap} {N : List Str} {env : Env} {outer : List Env}
theorem wake_inv {A A' : Around} {s0' s' s : Shared} {H0' H' H : Hp} {pp' pp : List (Addr × Obj)} {σ : L2.St} (g : GE env) (I : Inv (gcx P w K mg base N env outer A' s0' H0') pp' σ H' s')
    (W : Wake P w K mg base env outer A s' H' pp s H) : Inv (gcx P w K mg base N env outer A (cutS s env.locals) H) pp σ H s := by
  obtain ⟨m, hn, hl⟩ := I.loc
  have hn2 : s.heap.Ns env.locals m := by
    obtain ⟨o, es, ep, ho, r⟩ := hn
    exact ⟨o, es, ep, W.fr o ho, r⟩
  have hsz : env.locals ≤ s.heap.objs.size := Nat.le_of_lt hn2.lt
  have noc : ∀ {x : Str} {c : Addr}, env.cells.lookup x = some c → False := fun {x c} e => by rw [g.cells] at e; cases e
  have noA : ∀ b : Addr, b ∉ (gcx P w K mg base N env outer A (cutS s env.locals) H).ex := fun b z => absurd (show b ∈ ([] : List Addr) from z) (by simp)
  refine ⟨⟨W.e0.mod, g.kind, g.glob, g.blt, ?_, fun x y c h1 _ => (noc h1).elim, fun x hx => (g.nocell x hx).elim, fun x c _ h => (noc h).elim, fun _ => W.hd, Around.frames_deeper W.e0.frames, .inr ⟨rfl, g.frame⟩, fun b z => absurd z (noA b), fun b o e => ?_, ?_,
    fun b _ _ => noA b, fun b z => absurd z (noA b), funs_cut W.e0.funs W.fsn, W.e0.frf⟩, rfl, W.e0.bare, Un.kept fun b o e => (cut_some e).2, ⟨m, hn2, fun i x v e1 e2 e3 => ?_⟩, fun x c e => (noc e).elim, W.frH, fun x c e => (noc e).elim, fun p hp => W.pins p hp, W.e0.hok, I.len⟩
  · show (cutH s.heap env.locals).objs.size ≤ env.locals
    rw [cut_size hsz]
    exact Nat.le_refl _
  · have hb : b < env.locals := Nat.lt_of_lt_of_le (Heap.lt_size e) W.bsn
    exact ⟨by show (cutH s.heap env.locals).get? b = some o; rw [cut_get hb]; exact (W.e0.bs b o e).1, (W.e0.bs b o e).2⟩
  · show base.objs.size ≤ (cutH s.heap env.locals).objs.size
    rw [cut_size hsz]
    exact W.bsn
  · obtain ⟨u, r, l⟩ := hl i x v e1 e2 e3
    refine ⟨u, r, ?_⟩
    rcases l with l | ⟨_, c, e, _⟩
    · exact .inl l
    · exact (noc e).elim
end

/-! ### the consumer's side -/
section
variable {X : Cx} {pins : List (Addr × Obj)} {σ : L2.St} {H H' : Hp} {s : Shared} {h' : Heap} {g' : Array GenState} {d' : Drawn} {t' n : Nat}
theorem cons_after (I : Inv X pins σ H s) (hL : X.env.locals < n) (hC : ∀ x c, X.env.cells.lookup x = some c → c < n) (hf : ∀ b ∈ frs X.stack, b < n)
    (U : Un (frs X.stack) [] H H' (cutH s.heap n) h') (hok : HOk X.prog X.w H' h') (hg : AllBare g') (hp : ∀ p ∈ X.pn ++ pins, p.1 < n ∨ (h'.get? p.1 = some p.2 ∧ H' p.1 = none)) :
    Inv X pins σ H' { s with heap := h', gens := g', drawn := d', toks := t' } := by
  have hn0 : X.s_0.heap.objs.size ≤ n := Nat.le_trans I.ok.above (Nat.le_of_lt hL)
  have low : ∀ {b : Addr} {o : Obj}, b < n → s.heap.get? b = some o → (cutH s.heap n).get? b = some o := fun {b o} hb e => by rw [cut_get hb]; exact e
  have split : ∀ {b : Addr} {o : Obj}, b ∉ (List.range s.heap.objs.size).filter (fun b => decide (n ≤ b) && (X.pn ++ pins).all fun p => decide (p.1 ≠ b)) → s.heap.get? b = some o → b < n ∨ (h'.get? b = some o ∧ H' b = none) := fun {b o} hb e => by
    by_cases hbn : b < n
    · exact .inl hbn
    · refine .inr ?_
      by_cases ha : (X.pn ++ pins).all (fun p => decide (p.1 ≠ b)) = true
      · exact (hb (List.mem_filter.mpr ⟨List.mem_range.mpr (Heap.lt_size e), by rw [ha, decide_eq_true (Nat.le_of_not_lt hbn)]; rfl⟩)).elim
      · obtain ⟨p, hpm, hpb⟩ : ∃ p ∈ X.pn ++ pins, p.1 = b := by
          rw [List.all_eq_true] at ha
          by_cases hx : ∃ p ∈ X.pn ++ pins, p.1 = b
          · exact hx
          · exact (ha fun p hpm => decide_eq_true fun q => hx ⟨p, hpm, q⟩).elim
        subst hpb
        rcases hp p hpm with z | ⟨z1, z2⟩
        · exact (hbn z).elim
        · have q := (I.pin p hpm).1
          rw [e] at q
          cases q
          exact ⟨z1, z2⟩
  refine I.step (ch := (List.range s.heap.objs.size).filter (fun b => decide (n ≤ b) && (X.pn ++ pins).all fun p => decide (p.1 ≠ b))) (fun b hb => ?_)
    (fun b o hbL hbf hc e hn => ?_) (fun b o hbL hbf hc e hn => ?_) (fun b o hc e hn => ?_) (fun b o hc e => ?_) U.tups U.frzs U.tbls (fun m hm => ?_) hok hg
  · obtain ⟨_, h2⟩ := List.mem_filter.mp hb
    rw [Bool.and_eq_true] at h2
    have hbn : n ≤ b := of_decide_eq_true h2.1
    refine ⟨.inr (Nat.le_trans hn0 hbn), Nat.ne_of_gt (Nat.lt_of_lt_of_le hL hbn), fun x c e => Nat.ne_of_lt (Nat.lt_of_lt_of_le (hC x c e) hbn), fun p hpm => ?_⟩
    exact of_decide_eq_true (List.all_eq_true.mp h2.2 p hpm)
  · rcases split hc e with z | z
    · refine U.keep b o (low z e) hn (fun q => ?_) (by simp)
      rcases List.mem_cons.mp (I.stkSub b q) with y | y
      · exact hbL y
      · exact hbf y
    · exact z.1
  · rcases split hc e with z | z
    · exact U.any (low z e) hn (by simp)
    · exact ⟨o.slots, z.1⟩
  · rcases split hc e with z | z
    · exact U.free b o (low z e) hn (by simp)
    · exact z.2
  · rcases split hc e with z | z
    · exact U.there b o (low z e) (by simp)
    · exact ⟨o, z.1⟩
  · obtain ⟨o, es, ep, ho, r⟩ := hm
    obtain ⟨sl, e⟩ := U.any (low hL ho) I.free (by simp)
    exact ⟨_, es, ep, e, r⟩
end

/-! ### a block proved by the layer leaves suspended generators as they are -/
section
variable {X : Cx} {pins : List (Addr × Obj)} {σ : L2.St} {H : Hp} {s : Shared}
theorem inv_real {r : Array GenState} (I : Inv X pins σ H s) (hr : AllBare r) : Inv X pins σ H (real s r) :=
  ⟨I.ok, I.os, hr, I.base, I.loc, I.cell, I.free, I.freeC, I.pin, I.hok, I.len⟩
theorem sp_real {D : Ends} {f : Flow} {r : Array GenState} (hr : AllBare s.gens → AllBare r) (h : SP X pins D f s) : SP X pins D f (real s r) := by
  cases f with
  | next => obtain ⟨σ', H', I, q⟩ := h; exact ⟨σ', H', inv_real I (hr I.bare), q⟩
  | brk => obtain ⟨σ', H', I, q⟩ := h; exact ⟨σ', H', inv_real I (hr I.bare), q⟩
  | cont => obtain ⟨σ', H', I, q⟩ := h; exact ⟨σ', H', inv_real I (hr I.bare), q⟩
  | ret u => obtain ⟨v, σ', H', I, r, q⟩ := h; exact ⟨v, σ', H', inv_real I (hr I.bare), r, q⟩
/-- all suspended generators of g stand in r as they are -/
def Sleeps (g r : Array GenState) : Prop := ∀ (i : Nat) (x : GenState), g[i]? = some x → isSusp x = true → r[i]? = some x
theorem pss_sleeps {st : List Stmt} {t : TS} (h : PSs X st t) (hx : ∀ e s', ¬ X.xe e s') (D : Ends) (I : Inv X pins σ H s) (ht : t D σ H) :
    wpAny (model X.prog X.w) X.A (execs st X.env) (fun f s' => SP X pins D f s' ∧ Sleeps s.gens s'.gens) X.xe s := by
  refine wpAny_mono (wpAny_poison (h.run pins _ σ H D (inv_real I (bare_poison I.bare)) ht)) (fun f s' ⟨s1, r1, e, P, q⟩ => ?_) fun e s' ⟨s1, r1, _, _, q⟩ => (hx _ _ q).elim
  subst e
  exact ⟨sp_real (fun hb => P.bare I.bare hb) q, fun i x hi hs => (P.pz i x hi hs).2⟩
end
end Fl

/-! A generator def whose body is one for over a range that yields once a turn. -/
namespace Fl
open PySem PySem.Spec PyProof.Rows L2
open PySem.W.X (SegX)

/-! ### one segment of a generator's run; no exception leaves -/
section
variable {M : Model} {A : Around} {c : Code} {fs : List Frame} {s : Shared} {Pd : End → Shared → Prop}
theorem sx_wrap {α : Type} {m : Sem α} {K : α → Sem PySem.Fin} {H : Value → Sem PySem.Fin} {gd : Bool → Bool} {lv : List Value → List Value}
    (h : wpAny M (A.over c fs) m (fun a s' => SegX M A c (K a) fs s' Pd) (fun _ _ => False) s) : SegX M A c (m.wrap K H gd lv) fs s Pd := by
  rintro Γ p rfl hΓ
  obtain ⟨e, s', hr, hq⟩ := runs_wrap_of_wp (Φ := fun e s' => e.quiet = true ∧ Pd e s') K H gd lv m (h (Γ.over fs) p (hΓ.over fs)) (fun a p' s' h' => h' Γ p' rfl hΓ) (fun _ _ _ h' => h'.elim)
  exact ⟨e, s', hr, hq⟩
theorem sx_bindw {α β : Type} {m : Sem α} {f : α → Sem β} {K : β → Sem PySem.Fin} {H : Value → Sem PySem.Fin} {gd : Bool → Bool} {lv : List Value → List Value}
    (h : wpAny M (A.over c fs) m (fun a s' => SegX M A c ((f a).wrap K H gd lv) fs s' Pd) (fun _ _ => False) s) : SegX M A c ((m >>= f).wrap K H gd lv) fs s Pd := by
  rw [Sem.bind_eq_wrap', Sem.wrap_wrap]
  exact sx_wrap h
theorem sx_at {p' : Pos} {k : Unit → Sem PySem.Fin} (h : SegX M A c (k ()) fs s Pd) : SegX M A c (.at p' k) fs s Pd :=
  sx_wrap (m := standAt p') (K := k) (H := .raise) (gd := id) (lv := id) (wpAny_standAt h)
theorem sx_point {l : List Value} {k : Unit → Sem PySem.Fin} (h : SegX M A c (k ()) fs s Pd) : SegX M A c (.point l k) fs s Pd :=
  sx_wrap (m := point) (K := k) (H := .raise) (gd := id) (lv := fun _ => l) (wpAny_point h)
theorem sx_call {c' : Code} {h : Option Value} {g : Bool} {l : List Value} {k : Result → Sem PySem.Fin} (x : ∀ p, SegX M A c' (M.den c') (.ret k h g l c p [] :: fs) s Pd) : SegX M A c (.call c' h g l k) fs s Pd := by
  rintro Γ p rfl hΓ
  obtain ⟨e, s', hr, hq⟩ := x p (Γ.goto c') p rfl (hΓ.goto c')
  exact ⟨e, s', runs_call_seg hr, hq⟩
theorem sx_again {c' : Code} (hq : c'.quiet = true) (x : SegX M A c' (M.den c') fs s Pd) : SegX M A c (.pure (.again c')) fs s Pd := by
  rintro Γ p rfl hΓ
  obtain ⟨e, s', hr, hq'⟩ := x (Γ.goto c') p rfl (hΓ.goto c')
  exact ⟨e, s', Runs.head (c₁ := c') (fun _ _ y => .again hq y) hr, hq'⟩
theorem sx_pop {r : Result} {k : Result → Sem PySem.Fin} {hd : Option Value} {g : Bool} {l : List Value} {c₁ : Code} {p₁ : Pos} {kp : List Value} (x : SegX M A c₁ (k r) fs s Pd) : SegX M A c (leafOf r) (.ret k hd g l c₁ p₁ kp :: fs) s Pd := by
  rintro Γ p rfl hΓ
  obtain ⟨e, s', hr, hq⟩ := x (Γ.goto c₁) p₁ rfl (hΓ.goto c₁)
  exact ⟨e, s', Runs.pop r hr, hq⟩
theorem sx_end {r : Result} (x : Pd (.ret r) s) : SegX M A c (leafOf r) [] s Pd := by
  rintro Γ p rfl _
  exact ⟨.ret r, s, Runs.leaf r, rfl, x⟩
theorem sx_yield {v : Value} {g : Bool} {l : List Value} {k : Resume → Sem PySem.Fin} (hfs : splitAtGen fs = none) (hg : g = false) (hfg : fs.any Frame.guarded = false) (x : ∀ p, Pd (.susp v false l k c p fs) s) : SegX M A c (.yield v g l k) fs s Pd := by
  subst hg
  rintro Γ p rfl _
  exact ⟨_, s, Runs.yield' fs hfs, by simp [End.quiet, hfg], x p⟩
/-- the statement «yield e» -/
theorem sx_exYield {env : Env} {e : Expr} {yp pos : Pos} {K : Flow → Sem PySem.Fin} {H : Value → Sem PySem.Fin} {gd : Bool → Bool} {lv : List Value → List Value} (hfs : splitAtGen fs = none) (hgd : gd false = false) (hfg : fs.any Frame.guarded = false)
    (h : wpAny M (A.over c fs) (eval e env) (fun v s' => ∀ (k : Resume → Sem PySem.Fin) (l : List Value) (p : Pos), k (.send .none) = K .next → Pd (.susp v false l k c p fs) s') (fun _ _ => False) s)
    (hco : env.scope.isCoroutine = false := by rfl) (hi : interactive env = false := by rfl) : SegX M A c ((exec (.Expr (.Yield (some e) yp) pos) env).wrap K H gd lv) fs s Pd := by
  rw [exec_Expr env _ pos hi rfl]
  show SegX M A c (.at pos fun _ => ((eval e env >>= fun v => (standAt yp >>= fun _ => yieldOut env v)) >>= fun x => dropValue (.Yield (some e) yp) pos x).wrap K H gd lv) fs s Pd
  have hy : ∀ v, yieldOut env v = yieldValue v := fun v => by simp only [yieldOut, hco, Bool.false_eq_true, if_false]
  simp only [hy]
  refine sx_at ?_
  rw [Sem.bind_eq_wrap', Sem.bind_eq_wrap', Sem.wrap_wrap, Sem.wrap_wrap]
  refine sx_wrap (wpAny_mono h (fun v s' h' => ?_) fun _ _ x => x)
  exact sx_at (sx_yield hfs hgd hfg fun p => h' _ _ p rfl)
end

/-- where a generator goes on -/
def GoX (M : Model) (A : Around) (gs : GenState) (s : Shared) (Pd : End → Shared → Prop) : Prop :=
  match gs with
  | .fresh c => SegX M A c (M.den c) [] s Pd
  | .suspended k _ c _ fs _ => SegX M A c (k (.send .none)) fs s Pd
  | _ => False

section
variable (P : Program) (w : World) (K : PySem.W.Frag) (mg : Str → Option Value) (base : Heap) (N : List Str) (env : Env) (outer : List Env) (kk : Nat) (Yl : Nat → V → Hp → Prop)
/-- the last segment: the generator returns None -/
def End0 (A : Around) (s0 : Shared) (H0 : Hp) (pp : List (Addr × Obj)) (e : End) (s' : Shared) : Prop :=
  e = .ret (.ok (.ret .none)) ∧ ∃ σ' H', Same H0 H' ∧ Inv (gcx P w K mg base N env outer A (cutS s0 env.locals) H0) pp σ' H' s'
/-- a segment that hands out an item; Nx: what is known of its rest -/
def EndS (r : Nat) (Nx : GenState → Shared → Hp → List (Addr × Obj) → Prop) (A : Around) (s0 : Shared) (H0 : Hp) (pp : List (Addr × Obj)) (e : End) (s' : Shared) : Prop :=
  ∃ v x σ' H' own, e.result = .yielded v ∧ isSusp e.genState = true ∧ RelV x v ∧ Yl r x H' ∧ Same H0 H' ∧ Inv (gcx P w K mg base N env outer A (cutS s0 env.locals) H0) (own ++ pp) σ' H' s' ∧ (∀ p ∈ pp, ∀ q ∈ own, p.1 ≠ q.1) ∧ (∀ q ∈ own, env.locals < q.1) ∧ Nx e.genState s' H' own
/-- the generator gs, asleep in s', has r items left -/
def Going : Nat → GenState → Shared → Hp → List (Addr × Obj) → Prop
  | 0 => fun gs s' H' own => ∀ A s H cp, Room (kk + 1) A → (∀ p ∈ cp, ∀ q ∈ own, p.1 ≠ q.1) → Wake P w K mg base env outer A s' H' (own ++ cp) s H → GoX (model P w) A gs s (End0 P w K mg base N env outer A s H cp)
  | r + 1 => fun gs s' H' own => ∀ A s H cp, Room (kk + 1) A → (∀ p ∈ cp, ∀ q ∈ own, p.1 ≠ q.1) → Wake P w K mg base env outer A s' H' (own ++ cp) s H → GoX (model P w) A gs s (EndS P w K mg base N env outer Yl r (Going r) A s H cp)
def EndOf (r : Nat) (A : Around) (s0 : Shared) (H0 : Hp) (pp : List (Addr × Obj)) : End → Shared → Prop :=
  match r with
  | 0 => End0 P w K mg base N env outer A s0 H0 pp
  | r + 1 => EndS P w K mg base N env outer Yl r (Going P w K mg base N env outer kk Yl r) A s0 H0 pp
theorem going_iff (r : Nat) (gs : GenState) (s' : Shared) (H' : Hp) (own : List (Addr × Obj)) : Going P w K mg base N env outer kk Yl r gs s' H' own ↔
    ∀ A s H cp, Room (kk + 1) A → (∀ p ∈ cp, ∀ q ∈ own, p.1 ≠ q.1) → Wake P w K mg base env outer A s' H' (own ++ cp) s H → GoX (model P w) A gs s (EndOf P w K mg base N env outer kk Yl r A s H cp) := by
  cases r <;> exact Iff.rfl
end

section
variable {P : Program} {w : World} {K : PySem.W.Frag} {mg : Str → Option Value} {base : Heap} {N : List Str} {env : Env} {outer : List Env} {kk : Nat} {Yl : Nat → V → Hp → Prop}
  {x : Str} {px yp ypos fpos : Pos} {iter e : Expr} {st : Stmt}

/-- the turns of the loop -/
theorem gen_turn (g : GE env) {ix : Nat} (hN : N.Nodup) (hi : N[ix]? = some x) (hx : env.scope.names.lookup x = some .local) (hco : env.scope.isCoroutine = false) (hin : interactive env = false) {lo : Int} {n : Nat} {it : Addr} (hLi : env.locals < it)
    {Sg : Nat → L2.St → Hp → Prop} (hmono : ∀ j σ H H', Sg j σ H → Same H H' → Sg j σ H')
    (hbody : ∀ (A : Around) (s0 : Shared) (H0 : Hp), Room (kk + 1) A → ∃ t1 te, PS (gcx P w K mg base N env outer A s0 H0) st t1 ∧ PE (gcx P w K mg base N env outer A s0 H0) e te ∧
      ∀ r σ H, r < n → Sg (r + 1) σ H → t1 { nx := fun σ' H' => te σ' H' fun y H'' => Same H H'' ∧ Yl r y H'' ∧ Sg r σ' H'', rt := fun _ _ => False } (σ.set ix (some (.int (lo + ((n - (r + 1) : Nat) : Int) * (-1))))) H)
    (kf : Result → Sem PySem.Fin) (hkf : kf (.ok .next) = .pure (.done (.ret .none))) (gf : Bool) (hgf : gf = false) (lf : List Value) (pf : Pos) (fb : List Stmt) :
    ∀ (r : Nat), r ≤ n → ∀ (A : Around) (s0 : Shared) (H0 : Hp) (pp : List (Addr × Obj)) (σ : L2.St) (H : Hp) (s : Shared), Room (kk + 1) A → Same H0 H → Inv (gcx P w K mg base N env outer A (cutS s0 env.locals) H0) pp σ H s →
      FpOk (gcx P w K mg base N env outer A (cutS s0 env.locals) H0) pp H it → IsRangeIter s.heap it (lo + ((n - r : Nat) : Int) * (-1)) ((n : Int) - ((n - r : Nat) : Int)) (-1) → Sg r σ H →
      SegX (model P w) A (.forLoop (.Name x px) (.ref it) [st, .Expr (.Yield (some e) yp) ypos] [] env) ((model P w).den (.forLoop (.Name x px) (.ref it) [st, .Expr (.Yield (some e) yp) ypos] [] env))
        [.ret kf none gf lf (.func fb env) pf []] s (EndOf P w K mg base N env outer kk Yl r A s0 H0 pp) := by
  have hov : ∀ A : Around, A.over (.forLoop (.Name x px) (.ref it) [st, .Expr (.Yield (some e) yp) ypos] [] env) [.ret kf none gf lf (.func fb env) pf []] = A.deeper env := fun A => (GenW.over_loop rfl rfl).trans GenW.over_func
  intro r
  induction r with
  | zero =>
    intro _ A s0 H0 pp σ H s hr sm I hf hst hg
    show SegX _ A _ ((forTurn (.Name x px) (.ref it) [st, .Expr (.Yield (some e) yp) ypos] [] env).onRaise (fun x => do noteFrame x env; theTreesLotGoes x)) _ s _
    unfold forTurn
    rw [Sem.onRaise_eq_wrap]
    refine sx_bindw (wpAny_standAt ?_)
    refine sx_bindw ?_
    rw [hov]
    have T := turn_rangeC (P := P) (w := w) (K := K) (tg := .Name x px) it lo (-1) n
    refine wpAny_onRaise (thn (T.done _ rfl rfl rfl rfl n pp s σ H _ I (fun b hb => (by rw [List.mem_singleton.mp hb]; exact hf)) hst (Nat.le_refl _)) fun q s1 ⟨eq, I1⟩ => ?_)
    subst eq
    refine sx_again (c' := .block [] env) rfl ?_
    show SegX _ A _ (leafOf (.ok .next)) _ s1 _
    refine sx_pop ?_
    rw [hkf]
    show SegX _ A _ (leafOf (.ok (.ret .none))) _ s1 _
    exact sx_end ⟨rfl, σ, H, sm, I1⟩
  | succ r ih =>
    intro hrn A s0 H0 pp σ H s hr sm I hf hst hg
    show SegX _ A _ ((forTurn (.Name x px) (.ref it) [st, .Expr (.Yield (some e) yp) ypos] [] env).onRaise (fun x => do noteFrame x env; theTreesLotGoes x)) _ s _
    unfold forTurn
    rw [Sem.onRaise_eq_wrap]
    refine sx_bindw (wpAny_standAt ?_)
    refine sx_bindw ?_
    rw [hov]
    have T := turn_rangeC (P := P) (w := w) (K := K) (tg := .Name x px) it lo (-1) n
    refine wpAny_onRaise (wpAny_mono (T.item _ rfl rfl rfl rfl (n - (r + 1)) pp s σ H (fun _ _ => False) I (fun b hb => (by rw [List.mem_singleton.mp hb]; exact hf)) hst (by show n - (r + 1) < n; omega)) (fun q s1 ⟨u, eq, hq⟩ => ?_) fun _ _ z => z.elim)
    subst eq
    refine sx_bindw ?_
    rw [hov]
    refine wpAny_mono hq (fun _ s2 hq2 => ?_) fun _ _ z => z
    obtain ⟨y, H', I2, ry, ⟨eH, ey⟩, st2, fr2⟩ := hq2
    have eH2 := eH.symm
    subst eH2 ey
    obtain ⟨t1, te, h1, he, rd⟩ := hbody A (cutS s0 env.locals) H0 hr
    have hf2 : ∀ b ∈ [it], FpOk (gcx P w K mg base N env outer A (cutS s0 env.locals) H0) pp H b := fun b hb => (by rw [List.mem_singleton.mp hb]; exact hf)
    have I3 := I2.pinned hf2 (T.obj _ _ st2)
    refine sx_bindw ?_
    rw [hov]
    refine wpAny_assign_Name (store_ok I3 hN hi (.inl hx) ry (fun s3 I4 => ?_) (.inl rfl))
    rw [Sem.bind_eq_wrap', Sem.wrap_wrap, execs_cons_wrap]
    refine sx_wrap ?_
    rw [hov]
    refine wpAny_mono (h1.run _ s3 _ H _ I4 (rd r σ H (by omega) hg)) (fun f s4 hf4 => ?_) fun _ _ z => z
    cases f with
    | brk => obtain ⟨_, _, _, z⟩ := hf4; exact z.elim
    | cont => obtain ⟨_, _, _, z⟩ := hf4; exact z.elim
    | ret v => obtain ⟨_, _, _, _, _, z⟩ := hf4; exact z.elim
    | next =>
      obtain ⟨σ4, H4, I5, q4⟩ := hf4
      show SegX _ A _ ((execs [.Expr (.Yield (some e) yp) ypos] env).wrap _ _ _ _) _ s4 _
      rw [execs_cons_wrap]
      refine sx_exYield rfl rfl (by show (gf || false) = false; rw [hgf]; rfl) ?_ hco hin
      rw [hov]
      refine wpAny_mono (he.run _ s4 σ4 H4 _ I5 q4) (fun v s5 hv => ?_) fun _ _ z => z
      obtain ⟨y, H5, I6, rv, sm5, hY, hg5⟩ := hv
      intro k l p hk
      have hst5 := (I6.pin (it, _) (List.mem_append_right _ (List.mem_append_right _ (mem_pinsAt List.mem_cons_self st2)))).1
      obtain ⟨oit, hoit⟩ : ∃ o, s2.heap.get? it = some o := ⟨_, st2⟩
      have q5 : L2.Inv (gcx P w K mg base N env outer A (cutS s0 env.locals) H0) ([(it, oit)] ++ pp) σ4 H5 s5 := I6.pins_of fun p hp => by
        rcases List.mem_append.mp hp with z | z
        · rw [List.mem_singleton.mp z]
          exact I6.pin (it, oit) (List.mem_append_right _ (List.mem_append_right _ (mem_pinsAt List.mem_cons_self hoit)))
        · exact I6.pin p (List.mem_append_right _ (List.mem_append_left _ z))
      refine ⟨v, y, σ4, H5, [(it, oit)], rfl, rfl, rv, hY, sm.trans sm5, q5, fun p hp q hq => (by rw [List.mem_singleton.mp hq]; exact hf.2.2.2.2.2 p hp), fun q hq => (by rw [List.mem_singleton.mp hq]; exact hLi), ?_⟩
      rw [going_iff]
      intro A2 s6 H6 cp hr2 hap W
      have I7 := wake_inv g q5 W
      show SegX _ A2 _ (k (.send .none)) _ s6 _
      rw [hk]
      refine sx_again (c' := .forLoop (.Name x px) (.ref it) [st, .Expr (.Yield (some e) yp) ypos] [] env) rfl ?_
      obtain ⟨w1, w2, w3, w4, w5⟩ := W.pins (it, oit) (List.mem_append_left _ (List.mem_singleton.mpr rfl))
      refine ih (by omega) A2 s6 H6 cp σ4 H6 s6 hr2 (Same.refl _) (I7.pins_of fun p hp => I7.pin p (List.mem_append_right _ (List.mem_append_right _ hp))) ?_ ?_ (hmono _ _ _ _ hg5 W.same)
      · refine ⟨w2, w3, w4, .inr ?_, fun y c z => ?_, fun p hp => ?_⟩
        · show (s6.heap.objs.extract 0 env.locals).size ≤ it
          rw [Array.size_extract]
          have hLi2 : (env.locals : Nat) < (it : Nat) := hLi
          exact Nat.le_trans (Nat.sub_le _ _) (Nat.le_trans (Nat.min_le_left _ _) (Nat.le_of_lt hLi2))
        · have z' : env.cells.lookup y = some c := z
          rw [g.cells] at z'
          cases z'
        · exact hap p hp (it, oit) (List.mem_singleton.mpr rfl)
      · have e1 : oit = _ := Option.some.inj (hoit.symm.trans st2)
        have e2 : n - r = n - (r + 1) + 1 := by omega
        show s6.heap.get? it = some _
        rw [w1, e1, e2]

/-- range(i, j, k) walked: its iterator -/
theorem range_made {X : Cx} {a b c : Expr} {ta : TA} {p pos : Pos} (hg : Gl X "range") (hm : X.mg "range" = none) (ha : PA X [a, b, c] ta)
    (hs : starEach [a, b, c] X.env = (false, eval a X.env) :: starEach [b, c] X.env) (hpl : (backTo pos (starEach [b, c] X.env)).any (·.1) = false)
    {pins : List (Addr × Obj)} {s : Shared} {σ : L2.St} {H : Hp} {i j k : Int} {n : Nat} (I : Inv X pins σ H s) (hR : RgC i j k n) (h : ta σ H fun vs H1 => vs = [.int i, .int j, .int k] ∧ H1 = H) :
    wpAny (model X.prog X.w) X.A (eval (.Call (.Name "range" p) [a, b, c] [] pos) X.env) (fun v s1 => wpAny (model X.prog X.w) X.A (pyIter v) (fun itv s2 =>
      ∃ it, itv = .ref it ∧ X.env.locals < it ∧ Inv X pins σ H s2 ∧ FpOk X pins H it ∧ IsRangeIter s2.heap it i (n : Int) k) X.xe s1) X.xe s := by
  obtain ⟨c0, c1, c2, c3⟩ := hR
  refine Call_ (ld_blt I hg hm boot_range (PyProof.Rows.callWith_type1 (thn (ha.run pos pins s σ H _ I h) fun us s1 hv => ?_) hs hpl))
  obtain ⟨vs, H1, I1, rv, e1, e2⟩ := hv
  subst e1 e2
  obtain ⟨u1, rr, e3, ⟨t1, f1⟩, r2⟩ : ∃ u rr, us = u :: rr ∧ RelV (.int i) u ∧ Vals [.int j, .int k] rr := by cases rv with | cons q1 q2 => exact ⟨_, _, rfl, q1, q2⟩
  obtain ⟨u2, u3, e4, ⟨t2, f2⟩, ⟨t3, f3⟩⟩ := vals2 r2
  subst e3 e4 f1 f2 f3
  refine call_range_3 c0 ?_ (.inl (PyProof.noPylong_small c1))
  refine wpAny_pyIter_range (IsRange.new ..) c2 ?_
  have J1 := I1.kept (t' := s1.toks) (h' := s1.heap.push { cls := .type "range", data := .fields #[.int i t1, .int j t2, .int k t3] }) fun b o e => Heap.get?_push_of_some _ e
  have kp : ∀ b o, (s1.heap.push { cls := .type "range", data := .fields #[.int i t1, .int j t2, .int k t3] }).get? b = some o →
      ((s1.heap.push { cls := .type "range", data := .fields #[.int i t1, .int j t2, .int k t3] }).push { cls := .type "range_iterator", data := .fields #[.int i 0, .int (Builtin.Range.rangeSize i j k) 0, .int k 0] }).get? b = some o := fun b o e => Heap.get?_push_of_some _ e
  refine ⟨_, rfl, J1.lt, ?_, ?_, ?_⟩
  · exact J1.kept (t' := s1.toks) fun b o e => Heap.get?_push_of_some _ e
  · exact J1.fpOk (Nat.le_refl _) (J1.hok.fresh (Nat.le_refl _))
  · rw [← c3]
    exact Heap.get?_push_size _ rfl

/-- the def's body from its beginning -/
theorem gen_body (g : GE env) {ix : Nat} (hN : N.Nodup) (hi : N[ix]? = some x) (hx : env.scope.names.lookup x = some .local) (hco : env.scope.isCoroutine = false) (hin : interactive env = false)
    {Sg : Nat → L2.St → Hp → Prop} (hmono : ∀ j σ H H', Sg j σ H → Same H H' → Sg j σ H') {n : Nat} {lo : Int}
    (hbody : ∀ (A : Around) (s0 : Shared) (H0 : Hp), Room (kk + 1) A → ∃ t1 te, PS (gcx P w K mg base N env outer A s0 H0) st t1 ∧ PE (gcx P w K mg base N env outer A s0 H0) e te ∧
      ∀ r σ H, r < n → Sg (r + 1) σ H → t1 { nx := fun σ' H' => te σ' H' fun y H'' => Same H H'' ∧ Yl r y H'' ∧ Sg r σ' H'', rt := fun _ _ => False } (σ.set ix (some (.int (lo + ((n - (r + 1) : Nat) : Int) * (-1))))) H)
    (hs : ∀ x, foldedSetIterable iter env x = pure x)
    (hiter : ∀ (A : Around) (s0 : Shared) (H0 : Hp) (pp : List (Addr × Obj)) (s : Shared) (σ : L2.St) (H : Hp), Room (kk + 1) A → Inv (gcx P w K mg base N env outer A s0 H0) pp σ H s → Sg n σ H →
      wpAny (model P w) (A.deeper env) (eval iter env) (fun v s1 => wpAny (model P w) (A.deeper env) (pyIter v) (fun itv s2 =>
        ∃ it, itv = .ref it ∧ env.locals < it ∧ Inv (gcx P w K mg base N env outer A s0 H0) pp σ H s2 ∧ FpOk (gcx P w K mg base N env outer A s0 H0) pp H it ∧ IsRangeIter s2.heap it lo (n : Int) (-1)) (fun _ _ => False) s1) (fun _ _ => False) s)
    {s1 : Shared} {H1 : Hp} {σ1 : L2.St} {A1 : Around} {s0' : Shared} {H0' : Hp} (I : Inv (gcx P w K mg base N env outer A1 s0' H0') [] σ1 H1 s1) (hS : Sg n σ1 H1) :
    Going P w K mg base N env outer kk Yl n (.fresh (.func [.For (.Name x px) iter [st, .Expr (.Yield (some e) yp) ypos] [] fpos] env)) s1 H1 [] := by
  rw [going_iff]
  intro A s H cp hr hap W
  have I2 := wake_inv g I W
  show SegX _ A _ (.point [] fun _ => ((execs _ env).onRaise (leaving env)) >>= _) _ s _
  refine sx_point ?_
  rw [Sem.onRaise_eq_wrap, Sem.bind_eq_wrap', Sem.wrap_wrap, execs_cons_wrap, exec_For]
  refine sx_bindw (wpAny_standAt ?_)
  refine sx_bindw ?_
  rw [GenW.over_func]
  refine wpAny_mono (hiter A _ _ _ s σ1 H hr I2 (hmono _ _ _ _ hS W.same)) (fun v s2 h2 => ?_) fun _ _ z => z
  refine sx_bindw (wpAny_of_eq (hs v) ?_)
  refine sx_bindw (wpAny_standAt ?_)
  refine sx_bindw (wpAny_holding ?_)
  rw [GenW.over_func]
  refine wpAny_mono h2 (fun itv s3 h3 => ?_) fun _ _ z => z
  obtain ⟨it, e1, hlt, I3, hf3, hst3⟩ := h3
  subst e1
  unfold runOwn
  rw [Sem.onRaise_eq_wrap, Sem.wrap_wrap]
  refine sx_call fun p => ?_
  refine gen_turn g hN hi hx hco hin hlt hmono hbody _ ?_ _ rfl _ _ _ n (Nat.le_refl _) A s H cp σ1 H s3 hr (Same.refl _) I3 hf3 ?_ (hmono _ _ _ _ hS W.same)
  · first
      | rfl
      | (dsimp only [Sem.wrap, execs]; rfl)
  · have e1 : lo + ((n - n : Nat) : Int) * (-1) = lo := by rw [Nat.sub_self]; simp
    have e2 : (n : Int) - ((n - n : Nat) : Int) = (n : Int) := by rw [Nat.sub_self]; simp
    rw [e1, e2]
    exact hst3

end
end Fl

/-! A generator def called; list(g); for .. in g. -/
namespace Fl
open PySem PySem.Spec PyProof.Rows L2
open PySem.W.X (SegX)

theorem funs_at {h h' base : Heap} : ∀ {l : List Env}, h.FunFrames base l → (∀ b ∈ frs l, ∀ o, h.get? b = some o → ∃ o', h'.get? b = some o' ∧ o'.data = o.data) → h'.FunFrames base l
  | [], _, _ => True.intro
  | env :: r, ⟨hk, ⟨L, o, hf, hb, ho, hd⟩, hr⟩, hs => by
    have hfr : frs (env :: r) = L :: frs r := by unfold frs; rw [List.filterMap_cons, hf]
    obtain ⟨o', e1, e2⟩ := hs L (by rw [hfr]; exact List.mem_cons_self) o ho
    exact ⟨hk, ⟨L, o', hf, hb, e1, fun vs z => hd vs (e2 ▸ z)⟩, funs_at hr fun b hb => hs b (by rw [hfr]; exact List.mem_cons_of_mem _ hb)⟩

/-- what a call of the def gives: a generator that has not begun, of n items -/
structure GenMade (P : Program) (w : World) (K : PySem.W.Frag) (mg : Str → Option Value) (base : Heap) (N : List Str) (outer : List Env) (kk : Nat) (Yl : Nat → V → Hp → Prop) (n : Nat) (H : Hp) (s : Shared) (a : Addr) (g : Nat) (c : Code) (env : Env) (s' : Shared) : Prop where
  loc : env.locals = s.heap.objs.size
  lt : env.locals < a
  lt2 : a < s'.heap.objs.size
  gen : s'.heap.IsGen a g
  fresh : s'.gens[g]? = some (.fresh c)
  os : s'.os = s.os
  bare : AllBare s'.gens
  keep : ∀ b o, s.heap.get? b = some o → s'.heap.get? b = some o
  frame : ∃ o, s'.heap.get? env.locals = some o ∧ ∀ v, o.data ≠ .cell v
  fsn : ∀ b ∈ frs outer, b < env.locals
  bsn : base.objs.size ≤ env.locals
  go : Going P w K mg base N env outer kk Yl n (.fresh c) s' H []

section
variable {P : Program} {w : World} {K : PySem.W.Frag} {mg : Str → Option Value} {base : Heap} {N : List Str} {outer : List Env} {kk : Nat} {Yl : Nat → V → Hp → Prop}
theorem Going.keep {env : Env} {r : Nat} {gs : GenState} {s1 s2 : Shared} {H : Hp} {own : List (Addr × Obj)} (h : Going P w K mg base N env outer kk Yl r gs s1 H own) (k : ∀ o, s1.heap.get? env.locals = some o → s2.heap.get? env.locals = some o) :
    Going P w K mg base N env outer kk Yl r gs s2 H own := by
  rw [going_iff] at h ⊢
  exact fun A s H' cp hr hap W => h A s H' cp hr hap ⟨W.hd, W.e0, W.same, fun o e => W.fr o (k o e), W.frH, W.fsn, W.bsn, W.pins⟩

/-- THE RULE: the call of a generator def -/
theorem gen_call {f : Addr} {name qual : Str} {params : Arguments} {body : List Stmt} {scope : Scope} {dV kV doc pm cdv ct oc : Value} {an od : Option Addr} {osl : Array (Option Value)} {ps : List Str}
    (lk : K.lookup f = some ⟨oc, od, .func (PySem.W.fnOf name qual params body scope dV kV doc pm an cdv ct), osl⟩) (hcd : PySem.W.codeIn K cdv qual = true) (S : GScope N ps scope) (hcell : ∀ m, cellsFrom m scope.names [] = []) (hnc : ∀ x, scope.names.lookup x ≠ some .cell)
    {A : Around} {s : Shared} {H : Hp} {args : Args} {us : List Value} {vs : List V} {n : Nat} (hr : Room (kk + 1) A) (e0 : Env0 P w K mg base A outer s H) (hb : BindsTo s (PySem.W.fnOf name qual params body scope dV kV doc pm an cdv ct) args (ps.zip us)) (r : Vals vs us) (hl : vs.length = ps.length)
    (hgo : ∀ (env : Env), env = envOfC qual scope s.heap.objs.size f cdv → GE env → ∀ (A1 : Around) (s0 s1 : Shared) (H0 : Hp), Inv (gcx P w K mg base N env outer A1 s0 H0) [] (start N vs) H s1 → Going P w K mg base N env outer kk Yl n (.fresh (.func body env)) s1 H [])
    {R : Value → Shared → Prop} (hR : ∀ a g c env s', GenMade P w K mg base N outer kk Yl n H s a g c env s' → R (.ref a) s') :
    codeAny (model P w) A (.call (.ref f) args) (fun r s' => match r with | .ok (.ret u) => R u s' | _ => False) s := by
  have KX : K.In s.heap := e0.mod.kin.keeps fun b o e => (e0.bs b o e).1
  have lim : s.heap.NoLimit := e0.mod.nolimit.keeps fun b o e => (e0.bs b o e).1
  have hkind : ∀ y ∈ ps.zip us, scope.names.lookup y.1 = some .local ∨ (scope.names.lookup y.1 = some .cell ∧ ((cellsFrom (s.heap.objs.size + 1) scope.names []).lookup y.1).isSome = true) := fun y hy => by
    rcases S.par y.1 (List.of_mem_zip hy).1 with q | q
    · exact .inl q
    · exact (hnc _ q).elim
  have gE : GE (envOfC qual scope s.heap.objs.size f cdv) := ⟨S.kind, rfl, rfl, hcell _, fun y hy => by
    rcases hy with hy | hy
    · exact hnc y hy
    · exact S.nofree _ (PySem.mem_of_lookup hy) rfl, rfl⟩
  refine codeAny_call_generator hr.depth (KX _ _ lk) rfl S.co S.gen rfl (PySem.W.codeRec_of KX hcd) (hb _ _ _ _ ?_)
  refine wpAny_newFunctionEnv_cells S.kind hkind fun env he s1 x => ?_
  subst he
  have I := (inv_startG (w := w) (E := E0) S hr.hd e0 hl r x).wish (fun _ _ => False)
  have I1 : Inv (gcx P w K mg base N (envOfC qual scope s.heap.objs.size f cdv) outer A s H) [] (start N vs) H s1 := I
  obtain ⟨h1, tk, es1, hk1⟩ := id x.done
  have gs1 : s1.gens = s.gens := by rw [es1]
  refine ⟨lim.keeps x.toInCall.keep, hR s1.heap.objs.size s1.gens.size _ _ _ ⟨rfl, x.toInCall.ns.lt, ?_, ⟨_, _, _, Heap.get?_push_size _ rfl, rfl, rfl, rfl⟩, Array.getElem?_push_size .., by rw [es1], AllBare.push (by rw [gs1]; exact e0.bare) rfl,
    fun b o e => Heap.get?_push_of_some _ (x.toInCall.keep b o e), ?_, fun_lt e0.funs, e0.bsz, (hgo _ rfl gE A s s1 H I1).keep fun o e => Heap.get?_push_of_some _ e⟩⟩
  · show _ < (s1.heap.push _).objs.size
    rw [Heap.size_push]
    exact Nat.lt_succ_self _
  · obtain ⟨o, es, ep, ho, hd, _⟩ := x.toInCall.ns
    exact ⟨o, Heap.get?_push_of_some _ ho, fun v z => by rw [hd] at z; cases z⟩

/-- from the entry's heap over a segment that is told over the cut heap -/
theorem un_cut {fs : List Addr} {h h1 h2 : Heap} {H H1 H2 : Hp} {n : Nat} (hn : h.objs.size ≤ n) (a : Un fs [] H H1 h h1) (b : Un fs [] H1 H2 (cutH h1 n) h2) : Un fs [] H H2 h h2 := by
  have lt : ∀ {c : Addr} {o : Obj}, h.get? c = some o → c < n := fun {c o} e => Nat.lt_of_lt_of_le (Heap.lt_size e) hn
  have low : ∀ {c : Addr} {o o' : Obj}, h.get? c = some o → h1.get? c = some o' → (cutH h1 n).get? c = some o' := fun {c o o'} e q => by rw [cut_get (lt e)]; exact q
  refine ⟨fun c o e q hc hx => b.keep c o (low e (a.keep c o e q hc hx)) (a.free c o e q hx) hc hx, fun c o e q hc hx => ?_, fun c o e q hx => ?_, fun c o e hx => ?_, fun c xs q => b.tups c xs (a.tups c xs q), fun c o xs q => b.frzs c o xs (a.frzs c o xs q), fun c ps q => ?_⟩
  · obtain ⟨sl, e1⟩ := a.slot c o e q hc hx
    obtain ⟨sl2, e2⟩ := b.slot c _ (low e e1) (a.free c o e q hx) hc hx
    exact ⟨sl2, e2⟩
  · obtain ⟨o', e1⟩ := a.there c o e hx
    exact b.free c o' (low e e1) (a.free c o e q hx) hx
  · obtain ⟨o', e1⟩ := a.there c o e hx
    exact b.there c o' (low e e1) hx
  · obtain ⟨m1, e1⟩ := a.tbls c ps q
    obtain ⟨m2, e2⟩ := b.tbls c _ e1
    exact ⟨m1 ++ m2, by rw [e2, Array.append_assoc]⟩

/-- what holds at the end of list(g): all n items, the first has the greatest count of what is left behind it -/
def AllOut (Yl : Nat → V → Hp → Prop) (H : Hp) (n : Nat) : List V → Hp → Prop := fun ys H' => Same H H' ∧ ys.length = n ∧ ∀ i x, ys[i]? = some x → Yl (n - 1 - i) x H'

theorem list_seg {env : Env} {A : Around} {S a : Addr} {g n : Nat} {go : Obj} {s : Shared} {H : Hp} (hr : Room (kk + 1) A) (hloc : env.locals = s.heap.objs.size) (hSL : env.locals < S) (hSa : S ≠ a) (hgo : ∀ h : Heap, h.get? a = some go → h.IsGen a g) (hgd : ∀ v, go.data ≠ .cell v)
    (hn : n ≤ sizeLine) {Qo : List V → Hp → Prop} (hQo : ∀ ys H', AllOut Yl H n ys H' → Qo ys H') (hYl : ∀ r x H H', Yl r x H → Same H H' → Yl r x H') :
    ∀ (r : Nat) (gs : GenState) (sS : Shared) (HS : Hp) (own : List (Addr × Obj)) (ys : List V) (acc : Array Value) (cc m : Nat) (s1 : Shared), Going P w K mg base N env outer kk Yl r gs sS HS own →
      (∀ p ∈ [(S, lstObj acc cc), (a, go)], ∀ q ∈ own, p.1 ≠ q.1) → Wake P w K mg base env outer A sS HS (own ++ [(S, lstObj acc cc), (a, go)]) s1 HS → Un (frs outer) [] H HS s.heap s1.heap → s1.os = s.os → Same H HS → Vals ys acc.toList →
      n = r + ys.length → m + ys.length = sizeLine → (∀ i x, ys[i]? = some x → Yl (n - 1 - i) x HS) →
      gs.Goes (model P w) A (REnd P w outer H s [] S a g Qo E0) (YItem s S a g) m (.send .none) s1 := by
  intro r
  induction r with
  | zero =>
    intro gs sS HS own ys acc cc m s1 hG hap W U hos sm rv hnn hm hY
    have x := (going_iff ..).mp hG A s1 HS _ hr hap W
    have fin : ∀ e s', EndOf P w K mg base N env outer kk Yl 0 A s1 HS [(S, lstObj acc cc), (a, go)] e s' → SegEnd (REnd P w outer H s [] S a g Qo E0) (YItem s S a g) m (Seg.next (model P w) A (REnd P w outer H s [] S a g Qo E0) (YItem s S a g) m) s1 e s' := fun e s' he => by
      obtain ⟨ee, σ', H', sm', I⟩ := he
      subst ee
      obtain ⟨p1, p2, _⟩ := I.pin (S, lstObj acc cc) (List.mem_append_right _ List.mem_cons_self)
      have hl : ys.length ≤ sizeLine := by omega
      exact .inl ⟨.inl rfl, H', ys, acc, cc, I.os.trans hos, I.bare, un_cut (Nat.le_of_eq hloc.symm) U I.base, I.hok, p2, p1, rv, hl, hQo _ _ ⟨sm.trans sm', by omega, fun i y hy => hYl _ _ _ _ (hY i y hy) sm'⟩⟩
    cases gs with
    | fresh c =>
      refine ⟨rfl, seg_iff.mpr fun Γ p hc hΓ => ?_⟩
      obtain ⟨e, s', hr', hq, he⟩ := x Γ p hc hΓ
      exact ⟨e, s', hr', fin e s' he⟩
    | suspended k l c p fs cl =>
      refine seg_iff.mpr fun Γ p hc hΓ => ?_
      obtain ⟨e, s', hr', hq, he⟩ := x Γ p hc hΓ
      exact ⟨e, s', hr', fin e s' he⟩
    | running => exact x.elim
    | finished => exact x.elim
  | succ r ih =>
    intro gs sS HS own ys acc cc m s1 hG hap W U hos sm rv hnn hm hY
    have x := (going_iff ..).mp hG A s1 HS _ hr hap W
    have fin : ∀ e s', e.quiet = true → EndOf P w K mg base N env outer kk Yl (r + 1) A s1 HS [(S, lstObj acc cc), (a, go)] e s' → SegEnd (REnd P w outer H s [] S a g Qo E0) (YItem s S a g) m (Seg.next (model P w) A (REnd P w outer H s [] S a g Qo E0) (YItem s S a g) m) s1 e s' := fun e s' hq he => by
      obtain ⟨v, y, σ', H', own', e1, e2, ry, hy, sm', I, hap', hLq, hN⟩ := he
      cases e with
      | ret q =>
        cases q with
        | error z => cases e1
        | ok f => cases f <;> cases e1
      | susp v' gg l k c p fs =>
        have ev : v' = v := by injection e1
        subst ev
        have hacc : acc.size = ys.length := by
          have q1 := rv.length
          have q2 : acc.toList.length = acc.size := by simp
          omega
        obtain ⟨m, rfl⟩ : ∃ m', m = m' + 1 := ⟨m - 1, by omega⟩
        obtain ⟨p1, p2, p3, p4, _⟩ := I.pin (S, lstObj acc cc) (List.mem_append_right _ (List.mem_append_right _ List.mem_cons_self))
        obtain ⟨a1, a2, a3, a4, _⟩ := I.pin (a, go) (List.mem_append_right _ (List.mem_append_right _ (List.mem_cons_of_mem _ List.mem_cons_self)))
        refine ⟨hq, I.os.trans hos, I.bare, I.nolimit, hgo _ a1, ⟨acc, cc, p1, by rw [hacc]; show m + 1 - 1 + 1 + ys.length = sizeLine; omega⟩, fun s2 z => ?_⟩
        obtain ⟨c', eS'⟩ := z.own acc cc p1
        have ge := I.lt
        have hLs : (gcx P w K mg base N env outer A (cutS s1 env.locals) HS).env.locals = env.locals := rfl
        have low : ∀ {b : Addr}, b < env.locals → b ≠ S := fun {b} hb q => by rw [q] at hb; exact absurd (Nat.lt_trans hb hSL) (Nat.lt_irrefl _)
        have nt : ∀ b u, H' b = some u → b ≠ S := fun b u q hb => by rw [hb, p2] at q; cases q
        have frK : ∀ o, s'.heap.get? env.locals = some o → s2.heap.get? env.locals = some o := fun o e => z.keep _ o (Nat.ne_of_lt hSL) e
        have W2 : Wake P w K mg base env outer A s' H' (own' ++ [(S, lstObj (acc.push v') c'), (a, go)]) s2 H' := by
          refine ⟨W.hd, ⟨W.e0.frames, W.e0.mod, fun b o e => ?_, ?_, ?_, fun b hb => ?_, fun b u q => ?_, z.bare⟩, Same.refl _, frK, I.free, W.fsn, W.bsn, fun p hp => ?_⟩
          · obtain ⟨q1, q2⟩ := I.bs b o e
            exact ⟨z.keep b o (low (Nat.lt_of_lt_of_le (Heap.lt_size e) W.bsn)) q1, q2⟩
          · obtain ⟨_, ⟨o, _, _, ho, _⟩, _⟩ := I.loc
            exact Nat.le_trans W.bsn (Nat.le_of_lt (Heap.lt_size (frK o ho)))
          · exact funs_at I.funs fun b hb o e => ⟨o, z.keep b o (low (W.fsn b hb)) e, rfl⟩
          · exact I.stkFree b (by show b ∈ frs (env :: outer); unfold frs; rw [List.filterMap_cons]; split <;> first | exact hb | exact List.mem_cons_of_mem _ hb)
          · refine (I.hok b u q).stay (fun c v hc y => z.keep c v ?_ y) (fun _ y => y) fun _ _ y => y
            rcases hc with y | y
            · rw [y]; exact nt b u q
            · exact nt c _ y
          · rcases List.mem_append.mp hp with hp | hp
            · obtain ⟨q1, q2, q3, q4, q5⟩ := I.pin p (List.mem_append_right _ (List.mem_append_left _ hp))
              exact ⟨z.keep _ _ (fun y => hap' (S, lstObj acc cc) List.mem_cons_self p hp y.symm) q1, q2, q3, q4, q5⟩
            · rcases List.mem_cons.mp hp with hp | hp
              · rw [hp]
                exact ⟨eS', p2, p3, p4, fun v q => by cases q⟩
              · rw [List.mem_singleton.mp hp]
                exact ⟨z.keep _ _ (Ne.symm hSa) a1, a2, a3, a4, hgd⟩
        refine ih (.suspended k l c p fs (gg || fs.any Frame.guarded)) s' H' own' (ys ++ [y]) (acc.push v') c' m s2 hN (fun p hp q hq => ?_) W2 ?_ (z.os.trans (I.os.trans hos)) (sm.trans sm') (by rw [Array.toList_push]; exact rv.append (.cons ry .nil)) (by rw [List.length_append, List.length_singleton]; omega)
          (by rw [List.length_append, List.length_singleton]; omega) (fun i x hx => ?_)
        · rcases List.mem_cons.mp hp with hp | hp
          · rw [hp]; exact hap' (S, lstObj acc cc) List.mem_cons_self q hq
          · rw [List.mem_singleton.mp hp]; exact hap' (a, go) (List.mem_cons_of_mem _ List.mem_cons_self) q hq
        · have U2 := un_cut (Nat.le_of_eq hloc.symm) U I.base
          have lw : ∀ {b o}, s.heap.get? b = some o → b ≠ S := fun {b o} e => low (by rw [hloc]; exact Heap.lt_size e)
          refine ⟨fun b o e q hb hx => z.keep b o (lw e) (U2.keep b o e q hb hx), fun b o e q hb hx => ?_, U2.free, fun b o e hx => ?_, U2.tups, U2.frzs, U2.tbls⟩
          · obtain ⟨sl, e1⟩ := U2.slot b o e q hb hx
            exact ⟨sl, z.keep b _ (lw e) e1⟩
          · obtain ⟨o', e1⟩ := U2.there b o e hx
            exact ⟨o', z.keep b _ (lw e) e1⟩
        · by_cases hi : i < ys.length
          · rw [List.getElem?_append_left hi] at hx
            exact hYl _ _ _ _ (hY i x hx) sm'
          · rw [List.getElem?_append_right (by omega)] at hx
            have e0 : i - ys.length = 0 := by
              cases q : i - ys.length with
              | zero => rfl
              | succ j => rw [q] at hx; simp at hx
            rw [e0] at hx
            have ex : y = x := Option.some.inj hx
            subst ex
            have er : n - 1 - i = r := by omega
            rw [er]
            exact hy
    cases gs with
    | fresh c =>
      refine ⟨rfl, seg_iff.mpr fun Γ p hc hΓ => ?_⟩
      obtain ⟨e, s', hr', hq, he⟩ := x Γ p hc hΓ
      exact ⟨e, s', hr', fin e s' hq he⟩
    | suspended k l c p fs cl =>
      refine seg_iff.mpr fun Γ p hc hΓ => ?_
      obtain ⟨e, s', hr', hq, he⟩ := x Γ p hc hΓ
      exact ⟨e, s', hr', fin e s' hq he⟩
    | running => exact x.elim
    | finished => exact x.elim
end
end Fl

/-! list(o.m()), for .. in o.m(): m a generator method. -/
namespace Fl
open PySem PySem.Spec PyProof.Rows L2 GenW
open PySem.W.X (SegX)

section
variable {P : Program} {w : World} {K : PySem.W.Frag} {mg : Str → Option Value} {base : Heap} {N : List Str} {outer : List Env} {kk : Nat} {Yl : Nat → V → Hp → Prop}
/-- for list(g) -/
theorem gmade_of {n : Nat} {H : Hp} {s s' : Shared} {a : Addr} {g : Nat} {c : Code} {env : Env} {A1 : Around} (G : GenMade P w K mg base N outer kk Yl n H s a g c env s') (e0 : Env0 P w K mg base A1 outer s H) (hn : n ≤ sizeLine)
    (hYl : ∀ r x H H', Yl r x H → Same H H' → Yl r x H') {Qo : List V → Hp → Prop} (hQo : ∀ ys H', AllOut Yl H n ys H' → Qo ys H') : GMade P w (kk + 1) outer H s [] Qo E0 (.ref a) s' := by
  obtain ⟨go, nm, qn, hgo, hgc, hgd, hgs⟩ := id G.gen
  have lim : s'.heap.NoLimit := e0.mod.nolimit.keeps fun b o e => G.keep b o (e0.bs b o e).1
  refine ⟨a, g, c, rfl, by rw [← G.loc]; exact Nat.le_of_lt G.lt, G.lt2, G.gen, G.fresh, G.os, G.bare, lim, G.keep, fun A S s2 hr hfr hS hk ⟨cc, hSo⟩ hos hb => ?_⟩
  have hSa : S ≠ a := Nat.ne_of_gt (Nat.lt_of_lt_of_le G.lt2 hS)
  have hLS : env.locals < S := Nat.lt_of_lt_of_le (Nat.lt_trans G.lt G.lt2) hS
  have kp : ∀ b o, s.heap.get? b = some o → s2.heap.get? b = some o := fun b o e => hk b o (G.keep b o e)
  obtain ⟨oF, hoF, _⟩ := G.frame
  have frH : ∀ {b : Addr}, env.locals ≤ b → H b = none := fun {b} hb => e0.hok.fresh (by rw [← G.loc]; exact hb)
  have frN : ∀ {b : Addr}, env.locals ≤ b → b ∉ frs outer := fun {b} hb z => absurd (Nat.lt_of_lt_of_le (G.fsn b z) hb) (Nat.lt_irrefl _)
  have W : Wake P w K mg base env outer A s' H ([] ++ [(S, lstObj #[] cc), (a, go)]) s2 H := by
    refine ⟨hr.hd, ⟨hfr, e0.mod, fun b o e => ⟨kp b o (e0.bs b o e).1, (e0.bs b o e).2⟩, Nat.le_trans G.bsn (Nat.le_of_lt (Heap.lt_size (hk _ _ hoF))), funs_at e0.funs fun b _ o e => ⟨o, kp b o e, rfl⟩, e0.frf, e0.hok.kept kp, hb⟩,
      Same.refl _, fun o e => hk _ o e, frH (Nat.le_refl _), G.fsn, G.bsn, fun p hp => ?_⟩
    rcases List.mem_cons.mp hp with hp | hp
    · rw [hp]
      exact ⟨hSo, frH (Nat.le_of_lt hLS), Nat.ne_of_gt hLS, frN (Nat.le_of_lt hLS), fun v q => by cases q⟩
    · rw [List.mem_singleton.mp hp]
      exact ⟨hk _ _ hgo, frH (Nat.le_of_lt G.lt), Nat.ne_of_gt G.lt, frN (Nat.le_of_lt G.lt), fun v q => by rw [hgd] at q; cases q⟩
  have x := list_seg (A := A) (S := S) (g := g) (go := go) hr G.loc hLS hSa (fun h e => ⟨go, nm, qn, e, hgc, hgd, hgs⟩) (fun v q => by rw [hgd] at q; cases q) hn hQo hYl n (.fresh c) s' H [] [] #[] cc sizeLine s2 G.go
    (fun p _ q hq => by simp at hq) W (Un.kept kp) hos (Same.refl _) .nil (Nat.add_zero _).symm (Nat.add_zero _) (fun i x hx => by simp at hx)
  exact x.2

theorem wpAny_resumeX {M : Model} {A : Around} {gs : GenState} {s : Shared} {g : Nat} {Pd : End → Shared → Prop} {α : Type} {l : List Value} {k : GenResult → Sem α} {Q : α → Shared → Prop} {E : Value → Shared → Prop} (hg : s.gens[g]? = some gs)
    (hgo : GoX M A gs (s.setGen g .running) Pd) (h : ∀ e s1, Pd e s1 → e.quiet = true → wpAny M A (k e.result) Q E (s1.setGen g e.genState)) : wpAny M A (.resume g (.send .none) l k) Q E s := by
  intro Γ p hΓ
  rw [Sem.wp_resume]
  cases gs with
  | fresh c =>
    obtain ⟨e, s1, hr, hq, he⟩ := hgo (Γ.wake c p) p rfl (hΓ.wake c p)
    exact ⟨_, _, by unfold Wakes; rw [hg]; exact ⟨e, s1, hr, hq, rfl, rfl⟩, h e s1 he hq Γ p hΓ⟩
  | suspended k0 l0 c0 p0 fs cl =>
    obtain ⟨e, s1, hr, hq, he⟩ := hgo (Γ.wake c0 p) p0 rfl (hΓ.wake c0 p)
    exact ⟨_, _, by unfold Wakes; rw [hg]; exact ⟨e, s1, hr, hq, rfl, rfl⟩, h e s1 he hq Γ p hΓ⟩
  | running => exact hgo.elim
  | finished => exact hgo.elim

/-- the next item of a generator -/
theorem next_going {A : Around} {gs : GenState} {s : Shared} {a : Addr} {g : Nat} {Pd : End → Shared → Prop} {Q : Option Value → Shared → Prop} {E : Value → Shared → Prop} (hh : A.handled = none) (hl : s.heap.NoLimit) (hroom : A.depth < recursionLimit)
    (hg : s.heap.IsGen a g) (hgs : s.gens[g]? = some gs) (hgo : GoX (model P w) A.in1 gs (s.setGen g .running) Pd)
    (hY : ∀ e s1, Pd e s1 → e.quiet = true → (∃ v, e.result = .yielded v ∧ Q (some v) (s1.setGen g e.genState)) ∨
      (e = .ret (.ok (.ret .none)) ∧ ∀ h', (∀ b o, s1.heap.get? b = some o → h'.get? b = some o) → Q none { s1.setGen g .finished with heap := h' })) : wpAny (model P w) A (pyNext (.ref a)) Q E s := by
  unfold pyNext
  refine wpAny_bind (wpAny_attempt (wpAny_callSpecial?_slot (name := Str.ofString "__next__") hg.typeIs slot_gen_next (wpAny_call_entry slot_gen_next hg.typeIs entry_gen_next ?_ (args_gen_next _))))
  show wpAny _ A.in1 (Builtin.Generator.genWake (.ref a) (.send .none)) _ _ s
  unfold Builtin.Generator.genWake
  refine wpAny_bind (wpAny_holding (wpAny_genNumber hg (wpAny_bind (wpAny_genState hgs ?_))))
  cases gs with
  | running => exact hgo.elim
  | finished => exact hgo.elim
  | _ =>
    refine wpAny_bind (wpAny_roomToWake hl hroom ?_)
    show wpAny _ A.in1 (.resume g (.send .none) [] _) _ _ s
    refine wpAny_resumeX hgs hgo fun e s1 he hq => ?_
    rcases hY e s1 he hq with ⟨v, e1, q⟩ | ⟨ee, q⟩
    · rw [e1]
      exact wpAny_pure ⟨v, rfl, wpAny_pure q⟩
    · subst ee
      show wpAny _ A.in1 (newExc (.type "StopIteration") [] >>= _) _ _ _
      simp only [newExc, newTuple]
      refine wpAny_bind (wpAny_bind (wpAny_newObj_type ?_ (by size_fits)))
      refine wpAny_bind (m := firstArgMember _ _) (wpAny_of_eq (a := Value.none) (by first | rfl | (simp only [firstArgMember]; rfl)) ?_)
      refine wpAny_newObj_type ?_ (by size_fits)
      simp only [raiseNew]
      refine wpAny_bind (wpAny_bind (wpAny_handled ?_))
      first | rw [show A.in1.handled = none from hh] | rw [hh]
      refine wpAny_throw ?_
      refine wpAny_bind (wpAny_isInstance (T := "StopIteration") (b := true) ⟨_, Heap.get?_push_size _ rfl, rfl⟩ isSubtype_stop ?_)
      exact wpAny_pure (q _ fun b o hb => Heap.get?_push_of_some _ (Heap.get?_push_of_some _ hb))
end

/-! ### the consumer -/
/-- a generator method's promise: its self, the heap, how many items, what each is (by how many are left behind it) -/
abbrev SpN := V → Hp → Nat → (Nat → V → Hp → Prop) → Prop
structure GFn2 (P : Program) (w : World) (K : PySem.W.Frag) (mg : Str → Option Value) (base : Heap) (N : List Str) (kk : Nat) (f : Addr) (sp : SpN) : Prop where
  run : ∀ (A : Around) (outer : List Env) (s : Shared) (H : Hp) (u : Value) (x : V) (n : Nat) (Yl : Nat → V → Hp → Prop), Room (kk + 1) A → Env0 P w K mg base A outer s H → RelV x u → sp x H n Yl →
    ∀ R : Value → Shared → Prop, (∀ a g c env s', GenMade P w K mg base N outer kk Yl n H s a g c env s' → R (.ref a) s') → codeAny (model P w) A (.call (.ref f) ⟨[u], []⟩) (fun r s' => match r with | .ok (.ret u) => R u s' | _ => False) s
  mono : ∀ x H n Yl, sp x H n Yl → n ≤ sizeLine ∧ ∀ r y H H', Yl r y H → Same H H' → Yl r y H'

section
variable {X : Cx} {pins : List (Addr × Obj)} {σ : L2.St} {H : Hp} {s : Shared} {N : List Str} {kk : Nat} {f C : Addr} {sp : SpN} {o : Expr} {m : Str} {ta : TE} {apos pos' pos : Pos}
/-- behind the call: the consumer's own -/
theorem made_inv {n : Nat} {Yl : Nat → V → Hp → Prop} {a : Addr} {g : Nat} {c : Code} {env : Env} {s' : Shared} (I : Inv X pins σ H s) (G : GenMade X.prog X.w X.K X.mg X.base N X.stack kk Yl n H s a g c env s') : Inv X pins σ H s' :=
  I.call' (ch := []) G.os (Un.kept G.keep) (I.hok.kept G.keep) G.bare fun b z => by simp at z
theorem call_gen {n : Nat} {Yl : Nat → V → Hp → Prop} {u : Value} {x : V} {R : Value → Shared → Prop} (F : GFn2 X.prog X.w X.K X.mg X.base N kk f sp) (hr : Room (kk + 1) X.A) (I : Inv X pins σ H s) (r : RelV x u) (h : sp x H n Yl)
    (hR : ∀ a g c env s', GenMade X.prog X.w X.K X.mg X.base N X.stack kk Yl n H s a g c env s' → R (.ref a) s') {E1 : Value → Shared → Prop} : wpAny (model X.prog X.w) X.A (call (.ref f) [u]) R E1 s := by
  refine wpAny_call (codeAny_mono (F.run X.A X.stack s H u x n Yl hr I.env0 r h R hR) fun r s' hq => ?_)
  cases r with
  | error e => exact False.elim hq
  | ok fl => cases fl <;> first | exact hq | exact False.elim hq
def tGen (C : Addr) (m : Str) (sp : SpN) (ta : TE) : TGen := fun σ H cont => ta σ H fun x H1 => ∃ a dx fs n Yl, x = .ref a ∧ H1 a = some (.ins C dx fs) ∧ fs.lookup m = none ∧ sp x H1 n Yl ∧ ∀ ys H2, AllOut Yl H1 n ys H2 → cont ys H2
theorem pgen_meth2 {pl : Sem Bool} (he : PE X o ta) (c : Cls X.K C) (hm : Meth X.K C m f) (F : GFn2 X.prog X.w X.K X.mg X.base N kk f sp) (hr : Room (kk + 1) X.A)
    (ht : eval (.Call (.Attribute o m apos) [] [] pos') X.env = (do
      let ov ← eval o X.env
      standAt apos.atName
      let (f, first) ← holding [ov] (getMethod ov m pl)
      callWith pos' f first (backTo pos' (starEach [] X.env)) (backToKw pos' (keywordEach [] X.env))) := by rfl) :
    PGen X (kk + 1) (.Call (.Attribute o m apos) [] [] pos') (tGen C m sp ta) E0 := by
  refine ⟨fun pins s σ H cont I h => ?_⟩
  refine PySem.W.methodCall_KW (pl := pl) (thn (he.run pins s σ H _ I h) fun u s1 ⟨x, H1, I1, rx, a, dx, fs, n, Yl, ex, ea, l, hs, hc⟩ => ?_) ht
  subst ex
  obtain rfl : u = Value.ref a := rx
  obtain ⟨hn, hmo⟩ := F.mono _ _ _ _ hs
  refine getmeth_ok I1 ea c hm l ?_
  refine PySem.W.callWith_K0 (first := [.ref a]) I1.kIn hm.kp (call_gen (u := .ref a) (x := .ref a) F hr I1 rfl hs fun b g c env s' G => ?_)
  exact ⟨H1, s1, [], I1, .nil, gmade_of G I1.env0 hn hmo hc⟩

/-! ### for x in o.m(): body -/
/-- W r: r items are left -/
def tForG (C : Addr) (m : Str) (sp : SpN) (ta : TE) (g : TG) (tb : TS) : TS := fun D σ H => ta σ H fun x H1 => ∃ a dx fs n Yl, x = .ref a ∧ H1 a = some (.ins C dx fs) ∧ fs.lookup m = none ∧ sp x H1 n Yl ∧
  ∃ W : Nat → L2.St → Hp → Prop, W n σ H1 ∧ (∀ r σ H2, W (r + 1) σ H2 → ∀ y H3, Same H2 H3 → Yl r y H3 → g y σ H3 fun σ4 H4 => Same H3 H4 ∧ tb { D with nx := fun σ5 H5 => Same H4 H5 ∧ W r σ5 H5, ct := fun σ5 H5 => Same H4 H5 ∧ W r σ5 H5, bk := D.nx } σ4 H4) ∧
    ∀ σ H2 H3, W 0 σ H2 → Same H2 H3 → D.nx σ H3
theorem pg_sleeps {tg : Expr} {t : TG} {v : V} {u : Value} {Q : L2.St → Hp → Prop} (hg : PG X tg t) (hx : ∀ e s', ¬ X.xe e s') (I : Inv X pins σ H s) (r : RelV v u) (h : t v σ H Q) :
    wpAny (model X.prog X.w) X.A (assign tg X.env u) (fun _ s' => (∃ σ' H', Inv X pins σ' H' s' ∧ Q σ' H') ∧ Sleeps s.gens s'.gens) X.xe s := by
  refine wpAny_mono (wpAny_poison (hg.run pins _ σ H v u Q (inv_real I (bare_poison I.bare)) r h)) (fun _ s' ⟨s1, r1, e, P, σ', H', J, q⟩ => ?_) fun e s' ⟨s1, r1, _, _, q⟩ => (hx _ _ q).elim
  subst e
  exact ⟨⟨σ', H', inv_real J (P.bare I.bare J.bare), q⟩, fun i x hi hs => (P.pz i x hi hs).2⟩

/-- between two turns: the consumer's state, and the generator asleep with r items left -/
structure Mid (X : Cx) (pins : List (Addr × Obj)) (N : List Str) (kk : Nat) (Yl : Nat → V → Hp → Prop) (a : Addr) (g : Nat) (env : Env) (go : Obj) (r : Nat) (gs : GenState) (sS : Shared) (HS : Hp) (own : List (Addr × Obj)) (σ : L2.St) (H : Hp) (s : Shared) : Prop where
  inv : Inv X pins σ H s
  gen : s.gens[g]? = some gs
  goes : Going X.prog X.w X.K X.mg X.base N env X.stack kk Yl r gs sS HS own
  same : Same HS H
  fr : ∀ o, sS.heap.get? env.locals = some o → s.heap.get? env.locals = some o
  frO : ∃ o, s.heap.get? env.locals = some o ∧ ∀ v, o.data ≠ .cell v
  frH : H env.locals = none
  pins : ∀ p ∈ (a, go) :: own, s.heap.get? p.1 = some p.2 ∧ H p.1 = none ∧ env.locals < p.1 ∧ ∀ v, p.2.data ≠ .cell v
  apart : ∀ q ∈ own, a ≠ q.1
/-- what is younger than the consumer's own things -/
structure Low (X : Cx) (pins : List (Addr × Obj)) (n : Nat) : Prop where
  loc : X.env.locals < n
  cells : ∀ x c, X.env.cells.lookup x = some c → c < n
  frs : ∀ b ∈ frs X.stack, b < n
  fs : ∀ b ∈ X.fs, b < n
  pins : ∀ p ∈ X.pn ++ pins, p.1 < n
  base : X.base.objs.size ≤ n
theorem low_of (I : Inv X pins σ H s) {n : Nat} (hn : s.heap.objs.size = n) : Low X pins n := by
  subst hn
  refine ⟨I.lt, fun x c e => ?_, fun_lt I.stack, fun_lt I.funs, fun p hp => Heap.lt_size (I.pin p hp).1, Nat.le_trans I.ok.bsz I.sz⟩
  obtain ⟨v, q⟩ := I.cell x c e
  exact q.lt
theorem Low.no {n : Nat} (l : Low X pins n) {b : Addr} (hb : n ≤ b) : b ≠ X.env.locals ∧ b ∉ X.fs ∧ b ∉ L2.frs X.stack ∧ (∀ x c, X.env.cells.lookup x = some c → c ≠ b) ∧ ∀ p ∈ X.pn ++ pins, p.1 ≠ b := by
  have hst : b ∉ L2.frs X.stack := fun z => absurd (Nat.lt_of_lt_of_le (l.frs b z) hb) (Nat.lt_irrefl _)
  refine ⟨Nat.ne_of_gt (Nat.lt_of_lt_of_le l.loc hb), fun z => absurd (Nat.lt_of_lt_of_le (l.fs b z) hb) (Nat.lt_irrefl _), hst, fun x c e => Nat.ne_of_lt (Nat.lt_of_lt_of_le (l.cells x c e) hb), fun p hp => Nat.ne_of_lt (Nat.lt_of_lt_of_le (l.pins p hp) hb)⟩

theorem ps_forG {pl : Sem Bool} {tg : Expr} {g : TG} {body : List Stmt} {tb : TS} (hp : PassesOwn (model X.prog X.w) X.A X.env X.xe) (hx : ∀ e s', ¬ X.xe e s') (hc : X.calm = true) (he : PE X o ta) (c : Cls X.K C) (hm : Meth X.K C m f) (F : GFn2 X.prog X.w X.K X.mg X.base N kk f sp) (hr : Room (kk + 2) X.A)
    (hg : PG X tg g) (hb : PSs X body tb) (htg : ∀ it u, letOwnedTupleGo tg it u = pure () := by intros; rfl) (hs : ∀ x, foldedSetIterable (.Call (.Attribute o m apos) [] [] pos') X.env x = pure x := by intro _; rfl)
    (ht : eval (.Call (.Attribute o m apos) [] [] pos') X.env = (do
      let ov ← eval o X.env
      standAt apos.atName
      let (f, first) ← holding [ov] (getMethod ov m pl)
      callWith pos' f first (backTo pos' (starEach [] X.env)) (backToKw pos' (keywordEach [] X.env))) := by rfl) :
    PS X (.For tg (.Call (.Attribute o m apos) [] [] pos') body [] pos) (tForG C m sp ta g tb) := by
  refine ⟨fun pins s σ H D I h => ?_⟩
  refine wpAny_For ?_ hs
  refine PySem.W.methodCall_KW (pl := pl) (thn (he.run pins s σ H _ I h) fun u s1 ⟨x, H1, I1, rx, a, dx, fs, n, Yl, ex, ea, l, hsp, W, w0, turn, fin⟩ => ?_) ht
  subst ex
  obtain rfl : u = Value.ref a := rx
  obtain ⟨hn, hmo⟩ := F.mono _ _ _ _ hsp
  refine getmeth_ok I1 ea c hm l ?_
  refine PySem.W.callWith_K0 (first := [.ref a]) I1.kIn hm.kp (call_gen (u := .ref a) (x := .ref a) F (hr.mono (Nat.le_succ _)) I1 rfl hsp fun b gi cd env s2 G => ?_)
  refine wpAny_pyIter_gen G.gen ?_
  obtain ⟨go, nm, qn, hgo, hgc, hgd, hgs⟩ := id G.gen
  have I2 := made_inv I1 G
  have low : Low X pins env.locals := low_of I1 G.loc.symm
  have isg : ∀ h : Heap, h.get? b = some go → h.IsGen b gi := fun h e => ⟨go, nm, qn, e, hgc, hgd, hgs⟩
  have fr1 : ∀ {d : Addr}, env.locals ≤ d → H1 d = none := fun {d} hd => I1.hok.fresh (by rw [← G.loc]; exact hd)
  refine codeAny_forLoop_any (fun r s' => ∃ gs sS HS own σ' H', Mid X pins N kk Yl b gi env go r gs sS HS own σ' H' s' ∧ W r σ' H') ?_ n ⟨.fresh cd, s2, H1, [], σ, H1, ⟨I2, G.fresh, G.go, Same.refl _, fun o e => e, G.frame, fr1 (Nat.le_refl _), fun p hp => ?_, fun q hq => by simp at hq⟩, w0⟩
  · rintro r s3 ⟨gs, sS, HS, own, σ3, H3, M, w3⟩
    have hroom : Room (kk + 1) X.A.in1 := (hr.in1).mono (Nat.le_refl _)
    have gsz : gi < s3.gens.size := (Array.getElem?_eq_some_iff.mp M.gen).1
    have lim3 : s3.heap.NoLimit := M.inv.nolimit
    have Wk : Wake X.prog X.w X.K X.mg X.base env X.stack X.A.in1 sS HS (own ++ [(b, go)]) (s3.setGen gi .running) H3 := by
      have e3 := M.inv.env0.in1
      refine ⟨hroom.hd, ⟨e3.frames, e3.mod, e3.bs, e3.bsz, e3.funs, e3.frf, e3.hok, allBare_setGen M.inv.bare rfl⟩, M.same, M.fr, M.frH, low.frs, low.base, fun p hp => ?_⟩
      have hp' : p ∈ (b, go) :: own := by
        rcases List.mem_append.mp hp with z | z
        · exact List.mem_cons_of_mem _ z
        · rw [List.mem_singleton.mp z]; exact List.mem_cons_self
      obtain ⟨p1, p2, p3, p4⟩ := M.pins p hp'
      exact ⟨p1, p2, Nat.ne_of_gt p3, (low.no (Nat.le_of_lt p3)).2.2.1, p4⟩
    have hG := (going_iff ..).mp M.goes X.A.in1 _ H3 [(b, go)] hroom (fun p hp q hq => by rw [List.mem_singleton.mp hp]; exact M.apart q hq) Wk
    have isg3 := isg _ (M.pins (b, go) List.mem_cons_self).1
    refine wpAny_gsz (n := gi + 1) gsz (next_going (I.ok.hd hc) lim3 hr.depth isg3 M.gen hG fun e s4 he hq => ?_)
    -- the consumer's state behind the segment
    have cons : ∀ {H' : Hp} {h' : Heap} {g' : Array GenState}, Un (frs X.stack) [] H3 H' (cutH s3.heap env.locals) h' → HOk X.prog X.w H' h' → AllBare g' → s4.os = s3.os → Inv X pins σ3 H' { s4 with heap := h', gens := g' } := fun {H' h' g'} U ok hg' os => by
      obtain ⟨hh, gg, d, t, o⟩ := s4
      have eo : o = s3.os := os
      subst eo
      exact cons_after (s := s3) (n := env.locals) (g' := g') (d' := d) (t' := t) M.inv low.loc low.cells low.frs U ok hg' fun p hp => .inl (low.pins p hp)
    cases r with
    | zero =>
      obtain ⟨ee, σ', H', sm', Ig⟩ := he
      refine .inr ⟨ee, fun h' hk hsz => ?_⟩
      have U : Un (frs X.stack) [] H3 H' (cutH s3.heap env.locals) s4.heap := Ig.base
      have J := cons (U.trans (Un.kept hk)) (Ig.hok.kept hk) (allBare_setGen (g := gi) (x := .finished) Ig.bare rfl) Ig.os
      exact wpAny_execs_nil ⟨σ3, H', J, fin _ _ _ w3 sm'⟩
    | succ r =>
      obtain ⟨v, y, σ', H', own', e1, es, ry, hy, sm', Ig, hap', hLq, hN⟩ := he
      refine .inl ⟨v, e1, fun hsz => ?_⟩
      have U : Un (frs X.stack) [] H3 H' (cutH s3.heap env.locals) s4.heap := Ig.base
      have hbs : e.genState.bare = true := End.bare_of_quiet hq
      have I5 : Inv X pins σ3 H' (s4.setGen gi e.genState) := cons U Ig.hok (allBare_setGen Ig.bare hbs) Ig.os
      have gsz4 : gi < s4.gens.size := by
        have q : (s4.setGen gi e.genState).gens.size = s4.gens.size := GenW.setGen_size _ _ _
        have hsz' : gi + 1 ≤ (s4.setGen gi e.genState).gens.size := hsz
        omega
      have g5 : (s4.setGen gi e.genState).gens[gi]? = some e.genState := setGen_at gsz4
      obtain ⟨_, ⟨oF, esF, epF, hoF, hdF, _⟩, _⟩ := Ig.loc
      have hoF : s4.heap.get? env.locals = some oF := hoF
      have frH' : H' env.locals = none := Ig.free
      have I5p : Inv X (pins ++ ((env.locals, oF) :: (b, go) :: own')) σ3 H' (s4.setGen gi e.genState) := I5.pins_of fun p hp => by
        rcases List.mem_append.mp hp with z | z
        · exact I5.pin p (List.mem_append_right _ z)
        · rcases List.mem_cons.mp z with z | z
          · rw [z]
            obtain ⟨n1, n2, _⟩ := low.no (Nat.le_refl _)
            exact ⟨hoF, frH', n1, n2, fun v q => by rw [hdF] at q; cases q⟩
          · have hLp : env.locals < p.1 := by
              rcases List.mem_cons.mp z with z | z
              · rw [z]; exact G.lt
              · exact hLq p z
            obtain ⟨n1, n2, _⟩ := low.no (Nat.le_of_lt hLp)
            have hp2 : p ∈ (gcx X.prog X.w X.K X.mg X.base N env X.stack X.A.in1 (cutS (s3.setGen gi .running) env.locals) H3).pn ++ (own' ++ [(b, go)]) := by
              rcases List.mem_cons.mp z with z | z
              · rw [z]; exact List.mem_append_right _ (List.mem_append_right _ (List.mem_singleton.mpr rfl))
              · exact List.mem_append_right _ (List.mem_append_left _ z)
            obtain ⟨q1, q2, _, _, q5⟩ := Ig.pin p hp2
            exact ⟨q1, q2, n1, n2, q5⟩
      refine wpAny_of_eq (htg _ _) ?_
      refine wpAny_mono (pg_sleeps hg hx I5p ry (turn r σ3 H3 w3 y H' sm' hy)) (fun _ s6 ⟨⟨σ6, H6, I6, sm6, q6⟩, z6⟩ => ?_) fun e s' z => (hx _ _ z).elim
      refine wpAny_mono (pss_sleeps hb hx _ I6 q6) (fun fl s7 ⟨q7, z7⟩ => ?_) fun e s' z => (hx _ _ z).elim
      have again : ∀ {σ7 : L2.St} {H7 : Hp}, Inv X (pins ++ ((env.locals, oF) :: (b, go) :: own')) σ7 H7 s7 → Same H6 H7 ∧ W r σ7 H7 → ∃ m, m < r + 1 ∧ ∃ gs sS HS own σ' H', Mid X pins N kk Yl b gi env go m gs sS HS own σ' H' s7 ∧ W m σ' H' := fun {σ7 H7} I7 ⟨sm7, w7⟩ => by
        refine ⟨r, Nat.lt_succ_self _, e.genState, s4, H', own', σ7, H7, ⟨I7.unpinned, z7 _ _ (z6 _ _ g5 es) es, hN, sm6.trans sm7, fun o eo => ?_, ?_, ?_, fun p hp => ?_, fun q hq' => hap' (b, go) (List.mem_singleton.mpr rfl) q hq'⟩, w7⟩
        · have q := (I7.pin (env.locals, oF) (List.mem_append_right _ (List.mem_append_right _ List.mem_cons_self))).1
          rw [hoF] at eo
          cases eo
          exact q
        · exact ⟨oF, (I7.pin (env.locals, oF) (List.mem_append_right _ (List.mem_append_right _ List.mem_cons_self))).1, fun v q => by rw [hdF] at q; cases q⟩
        · exact (I7.pin (env.locals, oF) (List.mem_append_right _ (List.mem_append_right _ List.mem_cons_self))).2.1
        · obtain ⟨q1, q2, _, _, q5⟩ := I7.pin p (List.mem_append_right _ (List.mem_append_right _ (List.mem_cons_of_mem _ hp)))
          refine ⟨q1, q2, ?_, q5⟩
          rcases List.mem_cons.mp hp with z | z
          · rw [z]; exact G.lt
          · exact hLq p z
      cases fl with
      | next => obtain ⟨σ7, H7, I7, q⟩ := q7; exact again I7 q
      | cont => obtain ⟨σ7, H7, I7, q⟩ := q7; exact again I7 q
      | brk => obtain ⟨σ7, H7, I7, q⟩ := q7; exact ⟨σ7, H7, I7.unpinned, q⟩
      | ret v => obtain ⟨x7, σ7, H7, I7, r7, q⟩ := q7; exact ⟨x7, σ7, H7, I7.unpinned, r7, q⟩
  · rw [List.mem_singleton.mp hp]
    exact ⟨hgo, fr1 (Nat.le_of_lt G.lt), G.lt, fun v q => by rw [hgd] at q; cases q⟩
end
end Fl

/-! Operators that an own class defines; star calls of a class. -/
namespace Fl
open PySem PySem.Spec PyProof.Rows L2 GenW

section
variable {X : Cx} {pins : List (Addr × Obj)} {σ : L2.St} {H : Hp} {s : Shared} {k : Nat} {f C : Addr} {sp : Sp}
/-- a def's call below the running body -/
theorem run_sub {A : Around} {us : List Value} {vs : List V} {Q : VK} {E1 : Value → Shared → Prop} (F : FnR X.prog X.w X.K X.mg X.base CX0 k f sp) (sb : Sub X k A) (I : Inv X pins σ H s) (r : Vals vs us) (h : sp vs H Q E0) :
    wpAny (model X.prog X.w) A (call (.ref f) us) (EP X pins σ Q) E1 s := by
  have e := I.env0
  have e0 : Env0 X.prog X.w X.K X.mg X.base A X.stack s H := ⟨sb.fr.trans e.frames, e.mod, e.bs, e.bsz, e.funs, e.frf, e.hok, e.bare⟩
  refine wpAny_call (codeAny_mono (F A X.stack s H us vs Q E0 sb.room e0 r h) fun r s' hq => ?_)
  cases r with
  | error e => exact False.elim hq
  | ok fl => cases fl <;> first | exact I.after hq | exact False.elim hq
theorem sub_here (hr : Room k X.A) : Sub X k X.A := ⟨hr, rfl⟩
theorem sub_in1 (hr : Room (k + 1) X.A) : Sub X k X.A.in1 := ⟨hr.in1, rfl⟩
/-- the instance as the library's rules see it -/
theorem ins_at {a dx : Addr} {fs : List (Str × V)} (I : Inv X pins σ H s) (e : H a = some (.ins C dx fs)) : ∃ od, PySem.W.InstAt s.heap a (PySem.W.instObj C dx) C (some od) := by
  obtain ⟨mA, O, _⟩ := ins_get I.hok e
  obtain ⟨od, J, _⟩ := O.look
  exact ⟨od, J⟩
/-- a def of the class by its special name -/
structure Dun (K : PySem.W.Frag) (C : Addr) (m : Str) (f : Addr) : Prop where
  at_ : PySem.W.findIn K (.ref C) m = some (some (.ref f))
  fn : PySem.W.isFn K (.ref f) = true
/-- a reading of a one-place operation by such a def -/
def rOwn (C : Addr) (sp : Sp) : V → Hp → VK → Prop := fun x H Q => ∃ a dx fs, x = .ref a ∧ H a = some (.ins C dx fs) ∧ sp [x] H Q E0

/-- len(o) -/
theorem call_lenO (D : Dun X.K C "__len__" f) (F : FnR X.prog X.w X.K X.mg X.base CX0 k f sp) (hr : Room (k + 1) X.A) :
    CallR X (.builtin "len") (fun xs H Q => ∃ a dx fs, xs = [.ref a] ∧ H a = some (.ins C dx fs) ∧ sp [.ref a] H (fun v H' => ∃ n : Nat, v = .int n ∧ (n : Int) < 2 ^ 63 ∧ Q (.int n) H') E0) := by
  intro pins s σ H xs us Q I r h
  obtain ⟨a, dx, fs, e1, ha, hs⟩ := h
  subst e1
  obtain ⟨u, e2, e3⟩ := vals1 r
  subst e2
  obtain rfl : u = Value.ref a := e3
  obtain ⟨od, J⟩ := ins_at I ha
  obtain ⟨m, hF⟩ := I.fr
  refine PySem.W.len_K hF I.ok.mod.kin J D.at_ D.fn (thn (run_sub F (sub_in1 hr) I r hs) fun v s' ⟨y, H', I', ry, n, ey, hn, q⟩ => ?_)
  subst ey
  obtain ⟨t, rfl⟩ := ry
  exact ⟨⟨Int.natCast_nonneg _, hn⟩, ⟨.int n, H', I'.tok _, ⟨_, rfl⟩, q⟩⟩

/-- o[i] -/
theorem pe_itemO {a b : Expr} {ta tb : TE} {pos : Pos} (ha : PE X a ta) (hb : PE X b tb) (D : Dun X.K C "__getitem__" f) (hfi : PySem.W.fnIn X.K f = true) (F : FnR X.prog X.w X.K X.mg X.base CX0 k f sp) (hr : Room (k + 1) X.A)
    (hsl : ∀ (x : Addr) (i : Value), subscripted b true (.ref x) i = runValue (.builtin "lifetime.subscript" ⟨[.ref x, i], []⟩) := by intro _ _; with_unfolding_all rfl) :
    PE X (.Subscript a b pos) (tOp (fun x y H Q => ∃ p dx fs, x = .ref p ∧ H p = some (.ins C dx fs) ∧ sp [x, y] H Q E0) ta tb) := by
  refine ⟨fun pins s σ H Q I h => ?_⟩
  refine Subscript_ (binT ha hb I h fun v u s2 x y H2 I2 rx ry q => ?_)
  obtain ⟨p, dx, fs, e1, hp, hs⟩ := q
  subst e1
  obtain rfl : v = Value.ref p := rx
  obtain ⟨od, J⟩ := ins_at I2 hp
  obtain ⟨m, hF⟩ := I2.fr
  exact PySem.W.sub_K hF I2.ok.mod.kin J D.at_ hfi D.fn (run_sub (us := [.ref p, _]) (vs := [.ref p, y]) F (sub_in1 hr) I2 (.cons rfl (.cons ry .nil)) hs) (hsl _ _)

/-- a text's type -/
structure FDiv (K : PySem.W.Frag) (C f : Addr) : Prop where
  sf : PySem.W.selfFirst K C = true
  at_ : PySem.W.findIn K (.ref C) "__floordiv__" = some (some (.ref f))
  fn : PySem.W.isFn K (.ref f) = true
  ro : PySem.W.findIn K (.ref C) "__rfloordiv__" = some none
  t1 : ∃ fo, PySem.W.findIn K (.type "str") "__floordiv__" = some fo
  t2 : ∃ fo, PySem.W.findIn K (.type "str") "__rfloordiv__" = some fo
  sub : PySem.W.subIn K (.type "str") (.ref C) = some false
/-- o // text -/
theorem op_fdivO (D : FDiv X.K C f) (F : FnR X.prog X.w X.K X.mg X.base CX0 k f sp) (hr : Room k X.A) :
    OpR X (binaryOp .FloorDiv) (fun x y H Q => ∃ a dx fs z, x = .ref a ∧ y = .str z ∧ H a = some (.ins C dx fs) ∧ sp [x, y] H Q E0) := by
  intro pins s σ H x y v u Q I rx ry h
  obtain ⟨a, dx, fs, z, e1, e2, ha, hs⟩ := h
  subst e1 e2
  obtain rfl : v = Value.ref a := rx
  obtain ⟨t, et⟩ := id ry
  subst et
  obtain ⟨od, J⟩ := ins_at I ha
  obtain ⟨m, hF⟩ := I.fr
  obtain ⟨fo, h1⟩ := D.t1
  obtain ⟨ro, h2⟩ := D.t2
  refine PySem.W.ksp_binT (op := .FloorDiv) (T := "str") (rc := none) hF I.ok.mod.kin J rfl D.sf D.at_ D.fn D.ro (.inl rfl) h1 h2 D.sub (thn (run_sub (us := [.ref a, _]) (vs := [.ref a, .str z]) F (sub_here hr) I (.cons rfl (.cons ry .nil)) hs) fun w s' e => ?_)
  obtain ⟨y, H', I', ry', q⟩ := e
  have hn : w ≠ .notImplemented := fun q => by
    subst q
    have z := ry'.abs
    cases z
  cases w <;> first | exact ⟨y, H', I', ry', q⟩ | exact (hn rfl).elim

/-- v in o, v not in o -/
theorem op_inO (D : Dun X.K C "__contains__" f) (F : FnR X.prog X.w X.K X.mg X.base CX0 k f sp) (hr : Room k X.A) :
    OpR X (compareOp .In) (fun x y H Q => ∃ a dx fs, y = .ref a ∧ H a = some (.ins C dx fs) ∧ sp [y, x] H (fun v H' => ∃ b, v = .bl b ∧ Q (.bl b) H') E0) := by
  intro pins s σ H x y v u Q I rx ry h
  obtain ⟨a, dx, fs, e1, ha, hs⟩ := h
  subst e1
  obtain rfl : u = Value.ref a := ry
  obtain ⟨od, J⟩ := ins_at I ha
  obtain ⟨m, hF⟩ := I.fr
  refine PySem.W.in_K hF I.ok.mod.kin J D.at_ D.fn (thn (run_sub (us := [.ref a, _]) (vs := [.ref a, x]) F (sub_here hr) I (.cons rfl (.cons rx .nil)) hs) fun w s' ⟨y, H', I', ry', b, ey, q⟩ => ?_)
  subst ey
  obtain rfl : w = Value.bool b := ry'
  exact wpAny_truthy_bool ⟨.bl b, H', I', rfl, q⟩
theorem op_notInO (D : Dun X.K C "__contains__" f) (F : FnR X.prog X.w X.K X.mg X.base CX0 k f sp) (hr : Room k X.A) :
    OpR X (compareOp .NotIn) (fun x y H Q => ∃ a dx fs, y = .ref a ∧ H a = some (.ins C dx fs) ∧ sp [y, x] H (fun v H' => ∃ b, v = .bl b ∧ Q (.bl (!b)) H') E0) := by
  intro pins s σ H x y v u Q I rx ry h
  obtain ⟨a, dx, fs, e1, ha, hs⟩ := h
  subst e1
  obtain rfl : u = Value.ref a := ry
  obtain ⟨od, J⟩ := ins_at I ha
  obtain ⟨m, hF⟩ := I.fr
  refine PySem.W.notIn_K hF I.ok.mod.kin J D.at_ D.fn (thn (run_sub (us := [.ref a, _]) (vs := [.ref a, x]) F (sub_here hr) I (.cons rfl (.cons rx .nil)) hs) fun w s' ⟨y, H', I', ry', b, ey, q⟩ => ?_)
  subst ey
  obtain rfl : w = Value.bool b := ry'
  exact wpAny_truthy_bool ⟨.bl (!b), H', I', rfl, q⟩

/-- == of two instances by the own __eq__, at any around below -/
theorem rc_eqO {A : Around} {a b dx dy : Addr} {fs gs : List (Str × V)} {Q : VK} {E1 : Value → Shared → Prop} (D : Dun X.K C "__eq__" f) (F : FnR X.prog X.w X.K X.mg X.base CX0 k f sp) (sb : Sub X k A) (I : Inv X pins σ H s)
    (ha : H a = some (.ins C dx fs)) (hb : H b = some (.ins C dy gs)) (hs : sp [.ref a, .ref b] H (fun v H' => ∃ r, v = .bl r ∧ Q (.bl r) H') E0) :
    wpAny (model X.prog X.w) A (richCompare .Eq (.ref a) (.ref b)) (fun v s' => ∃ r, v = .bool r ∧ ∃ H', Inv X pins σ H' s' ∧ Q (.bl r) H') E1 s := by
  obtain ⟨od, J⟩ := ins_at I ha
  obtain ⟨od', J'⟩ := ins_at I hb
  obtain ⟨m, hF⟩ := I.fr
  refine PySem.W.cmp_K (op := .Eq) (tb := .ref C) sb.room.units0 hF I.ok.mod.kin J J'.type (by simp [PySem.W.notFirst]) D.at_ D.fn (thn (run_sub (us := [.ref a, .ref b]) (vs := [.ref a, .ref b]) F sb I (.cons rfl (.cons rfl .nil)) hs) fun w s' ⟨y, H', I', ry', r, ey, q⟩ => ?_)
  subst ey
  obtain rfl : w = Value.bool r := ry'
  exact ⟨r, rfl, H', I', q⟩
def rEqO (C : Addr) (sp : Sp) (neg : Bool) : R2 := fun x y H Q => ∃ a b dx dy fs gs, x = .ref a ∧ y = .ref b ∧ H a = some (.ins C dx fs) ∧ H b = some (.ins C dy gs) ∧ sp [x, y] H (fun v H' => ∃ r, v = .bl r ∧ Q (.bl (if neg then !r else r)) H') E0
theorem op_eqO (D : Dun X.K C "__eq__" f) (F : FnR X.prog X.w X.K X.mg X.base CX0 k f sp) (hr : Room k X.A) : OpR X (compareOp .Eq) (rEqO C sp false) := by
  intro pins s σ H x y v u Q I rx ry h
  obtain ⟨a, b, dx, dy, fs, gs, e1, e2, ha, hb, hs⟩ := h
  subst e1 e2
  obtain rfl : v = Value.ref a := rx
  obtain rfl : u = Value.ref b := ry
  show wpAny _ _ (richCompare .Eq (.ref a) (.ref b)) _ _ s
  refine thn (rc_eqO D F (sub_here hr) I ha hb hs) fun w s' ⟨r, ew, H', I', q⟩ => ?_
  subst ew
  exact ⟨.bl r, H', I', rfl, q⟩
end
end Fl

/-! != by object.__ne__ over an own __eq__; x in a list of own objects; star calls of a class. -/
namespace Fl
open PySem PySem.Spec PyProof.Rows L2 GenW

structure NeO (K : PySem.W.Frag) (C f : Addr) : Prop where
  eq : Dun K C "__eq__" f
  ne : PySem.W.findIn K (.ref C) "__ne__" = some (some (.builtin "object.__ne__"))
  po : PySem.W.plainOver K C = true

section
variable {X : Cx} {pins : List (Addr × Obj)} {σ : L2.St} {H : Hp} {s : Shared} {k : Nat} {f C : Addr} {sp : Sp}
theorem objne_body {A : Around} {a b dx : Addr} {fs : List (Str × V)} {Q : VK} (D : NeO X.K C f) (F : FnR X.prog X.w X.K X.mg X.base CX0 k f sp) (sb : Sub X k A) (I : Inv X pins σ H s)
    (ha : H a = some (.ins C dx fs)) (hs : sp [.ref a, .ref b] H (fun v H' => ∃ r, v = .bl r ∧ Q (.bl (!r)) H') E0) {R : PySem.Fin → Shared → Prop} {E1 : Value → Shared → Prop}
    (hR : ∀ r s' H', Inv X pins σ H' s' → Q (.bl r) H' → R (.done (.ret (.bool r))) s') : wpAny (model X.prog X.w) A (Builtin.«object.__ne__» ⟨[.ref a, .ref b], []⟩) R E1 s := by
  obtain ⟨od, J⟩ := ins_at I ha
  have call : wpAny (model X.prog X.w) A (callSpecialIfBound? (.ref a) "__eq__" [.ref b]) (fun o s' => ∃ r H', o = some (.bool r) ∧ Inv X pins σ H' s' ∧ Q (.bl (!r)) H') E1 s :=
    PySem.W.ifBound_K (args := [.ref b]) (E := E1) I.kIn J D.eq.at_ D.eq.fn (thn (run_sub (us := [.ref a, .ref b]) (vs := [.ref a, .ref b]) F sb I (.cons rfl (.cons rfl .nil)) hs) fun w s' ⟨y, H', I', ry, r, ey, q⟩ => by
      subst ey
      obtain rfl : w = Value.bool r := ry
      exact ⟨r, H', rfl, I', q⟩)
  unfold Builtin.«object.__ne__»
  refine wpAny_bind (wpAny_pure ?_)
  refine wpAny_bind (wpAny_cRoomFor sb.room.units0 ?_)
  refine wpAny_bind (wpAny_mono call (fun o s' hr => ?_) fun _ _ z => z)
  obtain ⟨r, H', eo, I', q⟩ := hr
  subst eo
  exact wpAny_bind (wpAny_truthy_bool (wpAny_pure (hR _ _ _ I' q)))

theorem rc_neO {a b dx dy : Addr} {fs gs : List (Str × V)} {Q : VK} (D : NeO X.K C f) (F : FnR X.prog X.w X.K X.mg X.base CX0 k f sp) (hr : Room (k + 1) X.A) (I : Inv X pins σ H s)
    (ha : H a = some (.ins C dx fs)) (hb : H b = some (.ins C dy gs)) (hs : sp [.ref a, .ref b] H (fun v H' => ∃ r, v = .bl r ∧ Q (.bl (!r)) H') E0) :
    wpAny (model X.prog X.w) X.A (richCompare .NotEq (.ref a) (.ref b)) (EP X pins σ Q) X.xe s := by
  obtain ⟨od, J⟩ := ins_at I ha
  obtain ⟨od', J'⟩ := ins_at I hb
  obtain ⟨cd, hc, ho⟩ := PySem.W.any_some D.po
  have ne : cd.mro.isEmpty = false := by cases q : cd.mro with | nil => rw [q] at ho; cases ho | cons _ _ => rfl
  have sub : PySem.W.Looks (model X.prog X.w) s.heap (isInstance (.ref a) (.type "object")) true := J.type.andThen (PySem.W.looks_mroIn I.kIn (by unfold PySem.W.mroIn; rw [hc, Option.bind_some, if_neg (by rw [ne]; decide), PySem.W.only_has ho]))
  have one : wpAny (model X.prog X.w) X.A (call (.builtin "object.__ne__") [.ref a, .ref b]) (fun v s' => ∃ r H', v = .bool r ∧ Inv X pins σ H' s' ∧ Q (.bl r) H') X.xe s := by
    refine wpAny_call (codeAny_call_builtin PySem.F.cmp_object.ne.plain PySem.F.cmpEntry_ne (PySem.W.check_slot PySem.F.cmpKind_ne PySem.F.cmpSplit_ne sub (PySem.F.cmpArgs_ne _ _) ?_))
    exact objne_body D F (sub_in1 hr) I ha hs fun r s' H' I' q => ⟨r, H', rfl, I', q⟩
  have spec : wpAny (model X.prog X.w) X.A (callSpecialIfBound? (.ref a) "__ne__" [.ref b]) (fun o s' => ∃ r H', o = some (.bool r) ∧ Inv X pins σ H' s' ∧ Q (.bl r) H') X.xe s := by
    simp only [callSpecialIfBound?, bindSpecialIfBound?]
    refine wpAny_holding (wpAny_bind (wpAny_bind (wpAny_bind (J.type.here ((PySem.W.looks_findIn I.kIn D.ne).here ?_)))))
    refine wpAny_bind (wpAny_askSetting (wpAny_ite ?_))
    have fin : wpAny (model X.prog X.w) X.A (call (.builtin "object.__ne__") ([.ref a] ++ [.ref b]) >>= fun v => pure (some v)) (fun o s' => ∃ r H', o = some (.bool r) ∧ Inv X pins σ H' s' ∧ Q (.bl r) H') X.xe s :=
      wpAny_bind (wpAny_mono one (fun v s' ⟨r, H', ev, I', q⟩ => wpAny_pure ⟨r, H', congrArg some ev, I', q⟩) fun _ _ z => z)
    split
    · exact wpAny_bind (wpAny_of_eq (PySem.F.cmp_object.ne.bind _) (wpAny_pure (by exact fin)))
    · exact wpAny_tryCatch (wpAny_bind (wpAny_of_eq (PySem.F.cmp_object.ne.bind _) (wpAny_pure (by exact fin))))
  unfold richCompare
  simp only [oneThing_ref]
  refine wpAny_holding (wpAny_bind (wpAny_cRoomFor hr.units0 ?_))
  refine wpAny_bind (J.type.here (wpAny_bind (J'.type.here ?_)))
  rw [show (Value.ref C != Value.ref C) = false from by simp]
  simp only [Bool.false_eq_true, if_false]
  refine wpAny_bind (wpAny_pure ?_)
  simp only [Bool.false_eq_true, if_false]
  refine wpAny_bind (m := tryCompare _ _ _) ?_
  unfold tryCompare
  refine wpAny_bind (wpAny_mono spec (fun o s' ⟨r, H', eo, I', q⟩ => ?_) fun _ _ z => z)
  subst eo
  exact wpAny_pure (wpAny_pure ⟨.bl r, H', I', rfl, q⟩)
theorem op_neO (D : NeO X.K C f) (F : FnR X.prog X.w X.K X.mg X.base CX0 k f sp) (hr : Room (k + 1) X.A) : OpR X (compareOp .NotEq) (rEqO C sp true) := by
  intro pins s σ H x y v u Q I rx ry h
  obtain ⟨a, b, dx, dy, fs, gs, e1, e2, ha, hb, hs⟩ := h
  subst e1 e2
  obtain rfl : v = Value.ref a := rx
  obtain rfl : u = Value.ref b := ry
  exact rc_neO D F hr I ha hb hs

/-! ### x in a list of own objects -/
theorem eqBool_O {A : Around} {a b dx dy : Addr} {fs gs : List (Str × V)} {Q : VK} {E1 : Value → Shared → Prop} (D : Dun X.K C "__eq__" f) (F : FnR X.prog X.w X.K X.mg X.base CX0 k f sp) (sb : Sub X k A) (I : Inv X pins σ H s)
    (ha : H a = some (.ins C dx fs)) (hb : H b = some (.ins C dy gs)) (hab : a = b → Q (.bl true) H) (hs : a ≠ b → sp [.ref a, .ref b] H (fun v H' => ∃ r, v = .bl r ∧ Q (.bl r) H') E0) :
    wpAny (model X.prog X.w) A (eqBool (.ref a) (.ref b)) (fun r s' => ∃ H', Inv X pins σ H' s' ∧ Q (.bl r) H') E1 s := by
  by_cases q : a = b
  · subst q
    exact SeqAt.EqAt.same (A := A) (s := s) (.ref a) X.prog X.w E1 _ ⟨H, I, hab rfl⟩
  · exact GQ.eqBool_refG q (rc_eqO D F sb I ha hb (hs q))
end

section
variable {prog : Program} {w : World}
/-- the loop of list.__contains__, whose comparisons may change the state: J i holds ahead of the i-th, W when the answer is b -/
theorem contains_loopO {l : Addr} {x : Value} {items : Array Value} {J : Nat → Shared → Prop} {W : Bool → Shared → Prop} {A : Around} {R : Result → Shared → Prop}
    (hl : ∀ i s, J i s → ∃ dd n sl, s.heap.get? l = some { cls := .type "list", dict := dd, data := .seq items n, slots := sl })
    (turn : ∀ i (h : i < items.size) s, J i s → wpAny (model prog w) A.in1 (eqBool items[i] x) (fun r s' => if r = true then W true s' else J (i + 1) s') (fun e s' => R (.error e) s') s)
    (fin : ∀ s, J items.size s → W false s) (hW : ∀ b s, W b s → R (.ok (.ret (.bool b))) s) :
    ∀ (m i : Nat), items.size - i = m → i ≤ items.size → ∀ s, J i s → codeAny (model prog w) A (.builtin "list.__contains__.loop" ⟨[.ref l, x, rawInt i], []⟩) R s := by
  intro m
  induction m with
  | zero =>
    intro i hi hle s hJ
    have e : i = items.size := by omega
    obtain ⟨dd, n, sl, hg⟩ := hl i s hJ
    refine codeAny_builtin MeetsSeq.entry_contains_loop ?_
    rw [Around.under_plainId MeetsSeq.plain_contains_loop _]
    obtain ⟨hp, g, d, tk, os⟩ := s
    wp_walk using AutoSeq1.wpAny_loadPart' hg
    have hn : items[((i : Nat) : Int).toNat]? = none := by simp; omega
    rw [hn]
    wp_walk
    exact hW _ _ (fin _ (e ▸ hJ))
  | succ m ih =>
    intro i hi hle s hJ
    have hlt : i < items.size := by omega
    obtain ⟨dd, n, sl, hg⟩ := hl i s hJ
    refine codeAny_builtin MeetsSeq.entry_contains_loop ?_
    rw [Around.under_plainId MeetsSeq.plain_contains_loop _]
    have tn := turn i hlt s hJ
    obtain ⟨hp, g, d, tk, os⟩ := s
    wp_walk using AutoSeq1.wpAny_loadPart' hg
    have hn : items[((i : Nat) : Int).toNat]? = some items[i] := by simp [hlt]
    rw [hn]
    refine wpAny_bind (wpAny_mono tn (fun r s' hr => ?_) fun _ _ z => z)
    cases r with
    | true =>
      rw [if_pos rfl] at hr
      wp_walk
      exact hW _ _ hr
    | false =>
      rw [if_neg Bool.false_ne_true] at hr
      have hc : ((i : Int) + 1) = ((i + 1 : Nat) : Int) := by push_cast; rfl
      wp_walk
      rw [hc]
      exact ⟨plainId_quiet MeetsSeq.plain_contains_loop _, ih (i + 1) (by omega) hlt _ hr⟩
end
end Fl

/-! x in a list of own objects; star calls of a class. -/
namespace Fl
open PySem PySem.Spec PyProof.Rows L2 GenW

theorem refs_eq : ∀ {xs : List V} {us ws : List Value}, (∀ v ∈ xs, ∃ a, v = V.ref a) → Vals xs us → Vals xs ws → us = ws
  | [], _, _, _, .nil, .nil => rfl
  | v :: xs, _, _, h, .cons r t, .cons r' t' => by
    obtain ⟨a, e⟩ := h v List.mem_cons_self
    subst e
    rw [show _ = Value.ref a from r, show _ = Value.ref a from r', refs_eq (fun v hv => h v (List.mem_cons_of_mem _ hv)) t t']
section
variable {X : Cx} {pins : List (Addr × Obj)} {σ : L2.St} {H : Hp} {s : Shared} {k : Nat} {f C : Addr} {sp : Sp}
/-- x in xs, xs a list of instances: J i ahead of the i-th comparison -/
def rInO (K : PySem.W.Frag) (C : Addr) (sp : Sp) : R2 := fun x y H Q => ∃ b l xs, x = .ref b ∧ y = .ref l ∧ (∀ v ∈ xs, ∃ a, v = V.ref a) ∧ ∃ J : Nat → Hp → Prop, J 0 H ∧ (∀ i H', J i H' → SqL K H' l xs) ∧
  (∀ i v H', xs[i]? = some v → J i H' → ∃ a dx dy fs gs, v = .ref a ∧ H' a = some (.ins C dx fs) ∧ H' b = some (.ins C dy gs) ∧ (a = b → Q (.bl true) H') ∧
    sp [.ref a, .ref b] H' (fun v H'' => ∃ r, v = .bl r ∧ ((V.bl r = .bl true ∧ Q (.bl true) H'') ∨ (V.bl r = .bl false ∧ J (i + 1) H''))) E0) ∧
  ∀ H', J xs.length H' → Q (.bl false) H'
theorem op_inL (D : Dun X.K C "__eq__" f) (F : FnR X.prog X.w X.K X.mg X.base CX0 k f sp) (hr : Room (k + 1) X.A) : OpR X (compareOp .In) (rInO X.K C sp) := by
  intro pins s σ H x y v u Q I rx ry h
  obtain ⟨b, l, xs, e1, e2, hrf, J, j0, hl, turn, fin⟩ := h
  subst e1 e2
  obtain rfl : v = Value.ref b := rx
  obtain rfl : u = Value.ref l := ry
  obtain ⟨its, rv, pl, hz⟩ := I.list (hl 0 H j0)
  have hT : s.TypeIs (.ref l) "list" := let ⟨o, _, e, c, _⟩ := pl; ⟨o, e, c⟩
  show wpAny _ X.A (do return .bool (← contains (.ref l) (.ref b))) (EP X pins σ Q) X.xe s
  refine wpAny_bind (wpAny_contains_slot hT PySem.F.slot_list_contains (wpAny_mono (GQ.call_here (E := X.xe) (Q := fun v s' => ∃ b', v = .bool b' ∧ EP X pins σ Q (.bool b') s') PySem.F.slot_list_contains hT PySem.F.entry_list_contains (PySem.F.args_list_contains_2 _ _) ?_) (fun v s' hv => ?_) fun _ _ e => e))
  · have J0 : ∃ H', Inv X pins σ H' s ∧ J 0 H' := ⟨H, I, j0⟩
    have go := contains_loopO (prog := X.prog) (w := X.w) (l := l) (x := .ref b) (items := its.toArray) (A := X.A) (R := wants (fun v s' => ∃ b', v = .bool b' ∧ EP X pins σ Q (.bool b') s') X.xe)
      (J := fun i s' => ∃ H', Inv X pins σ H' s' ∧ J i H') (W := fun b s' => ∃ H', Inv X pins σ H' s' ∧ Q (.bl b) H') (fun i s' ⟨H', I', j⟩ => ?_) (fun i hi s' ⟨H', I', j⟩ => ?_) (fun s' ⟨H', I', j⟩ => ?_) (fun b s' ⟨H', I', q⟩ => ?_) its.toArray.size 0 (by omega) (Nat.zero_le _) s J0
    · obtain ⟨hp, g, d, tk, os⟩ := s
      wp_walk
      exact ⟨plainId_quiet MeetsSeq.plain_contains_loop _, go⟩
    · obtain ⟨its2, rv2, pl2, _⟩ := I'.list (hl i H' j)
      rw [← refs_eq hrf rv rv2] at pl2
      obtain ⟨⟨cls, dd, data, sl⟩, n, e, c, _, d⟩ := pl2
      simp only at c d
      subst c d
      exact ⟨dd, n, sl, e⟩
    · have hix : i < xs.length := by rw [rv.length]; simpa using hi
      obtain ⟨a, dx, dy, fs, gs, ev, ha, hb, hab, hs⟩ := turn i xs[i] H' (List.getElem?_eq_getElem hix) j
      obtain ⟨u, hu, ru⟩ := rv.get (List.getElem?_eq_getElem hix)
      have eu : its.toArray[i] = Value.ref a := by
        have e1 : its[i]? = some its.toArray[i] := by
          have : i < its.length := by simpa using hi
          rw [List.getElem?_eq_getElem this]; simp
        rw [e1] at hu
        rw [Option.some.inj hu]
        rw [ev] at ru
        exact ru
      rw [eu]
      refine wpAny_mono (eqBool_O (Q := fun v H'' => (v = .bl true ∧ Q (.bl true) H'') ∨ (v = .bl false ∧ J (i + 1) H'')) (E1 := fun e s' => wants (fun v s' => ∃ b', v = .bool b' ∧ EP X pins σ Q (.bool b') s') X.xe (.error e) s') D F (sub_in1 hr) I' ha hb (fun q => .inl ⟨rfl, hab q⟩) fun _ => hs) (fun r s2 ⟨H2, I2, q⟩ => ?_) fun _ _ z => z
      · rcases q with ⟨e, q⟩ | ⟨e, q⟩
        · cases e
          rw [if_pos rfl]
          exact ⟨H2, I2, q⟩
        · cases e
          rw [if_neg Bool.false_ne_true]
          exact ⟨H2, I2, q⟩
    · have e : its.toArray.size = xs.length := by rw [rv.length]; simp
      rw [e] at j
      exact ⟨H', I', fin H' j⟩
    · exact ⟨b, rfl, .bl b, H', I', rfl, q⟩
  · obtain ⟨b', eb, q⟩ := hv
    subst eb
    exact wpAny_truthy_bool (wpAny_pure q)
end
end Fl

/-! A class called with starred arguments. -/
namespace Fl
open PySem PySem.Spec PyProof.Rows L2 GenW

theorem evalArgs_two {M : Model} {A : Around} {E : Value → Shared → Prop} {s : Shared} {f : Value} {x y : Bool × Sem Value} {rest : List (Bool × Sem Value)} {Q : Args → Shared → Prop}
    (h : wpAny M A (spliced (x :: y :: rest)) (fun vs s' => Q ⟨vs, []⟩ s') E s) : wpAny M A (evalArgs f true (x :: y :: rest) []) Q E s := by
  obtain ⟨b, x⟩ := x
  unfold evalArgs
  cases b <;> (
    show wpAny M A (spliced _ >>= _) Q E s
    refine wpAny_bind (wpAny_mono h (fun vs s' h' => wpAny_holding ?_) fun _ _ x => x)
    exact wpAny_bind (wpAny_pure (wpAny_bind (wpAny_pure (wpAny_pure h')))))

section
variable {X : Cx} {k : Nat} {f C : Addr} {sp : Sp} {fe e e2 : Expr} {tf te te2 : TE} {p pos : Pos}
/-- what making an instance wants, its positional values given -/
def mkP (C : Addr) (sp : Sp) (vs : List V) (H : Hp) (Q : VK) : Prop := ∀ x dx, H x = Option.none → H dx = Option.none → dx ≠ x → sp (V.ref x :: vs) (upd (upd H dx (.own x)) x (.ins C dx [])) (fun v H2 => v = .non ∧ Q (.ref x) H2) E0
/-- C() -/
theorem pe_mk0 (M : Mk X.K C f) (F : FnR X.prog X.w X.K X.mg X.base CX0 k f sp) (hr : Room (k + 1) X.A) {x : Str} (hg : Gl X x) (hm : X.mg x = some (.ref C)) (hdb : (x == ("__debug__" : Str)) = false := by decide) :
    PE X (.Call (.Name x p) [] [] pos) (fun σ H Q => mkP C sp [] H Q) := by
  refine ⟨fun pins s σ H Q I h => ?_⟩
  refine wpAny_Call_Name_kw (ld_glob I hg hm ?_ hdb)
  exact PySem.W.callWith_K0 I.kIn M.kp (StX.run_makeR (us := []) (E := E0) (CX := CX0) M F hr pass0 I .nil h)
/-- C( *e) -/
theorem pe_mkS1 (M : Mk X.K C f) (F : FnR X.prog X.w X.K X.mg X.base CX0 k f sp) (hr : Room (k + 1) X.A) (hf : PE X fe tf) (he : PE X e te)
    (ht : eval (.Call fe [.Starred e p] [] pos) X.env = (do callWith pos (← eval fe X.env) [] (backTo pos (starEach [.Starred e p] X.env)) (backToKw pos (keywordEach [] X.env))) := by rfl)
    (hst : starEach [.Starred e p] X.env = [(true, eval e X.env)] := by rfl) :
    PE X (.Call fe [.Starred e p] [] pos) (fun σ H Q => tf σ H fun y H1 => y = .ref C ∧ te σ H1 fun z H2 => ∃ t xs, z = .ref t ∧ SqT X.K H2 t xs ∧ mkP C sp xs H2 Q) := by
  refine ⟨fun pins s σ H Q I h => ?_⟩
  refine Call_ (thn (hf.run pins s σ H _ I h) fun u s1 ⟨y, H1, I1, ry, ey, q⟩ => ?_) ht
  subst ey
  obtain rfl : u = Value.ref C := ry
  refine PySem.W.callWith_S (h₀ := X.base) I.ok.mod.kin M.kp (thn (he.run pins s1 σ H1 _ I1 q) fun v s2 ⟨z, H2, I2, rz, t, xs, ez, hx, q2⟩ => ?_) hst
  subst ez
  obtain rfl : v = Value.ref t := rz
  exact star_tup I2 hx fun us s3 I3 rv => ⟨I3.kIn, StX.run_makeR (E := E0) (CX := CX0) M F hr pass0 I3 rv q2⟩
/-- C( *e, e2) -/
theorem pe_mkS2 (M : Mk X.K C f) (F : FnR X.prog X.w X.K X.mg X.base CX0 k f sp) (hr : Room (k + 1) X.A) (hf : PE X fe tf) (he : PE X e te) (he2 : PE X e2 te2)
    (ht : eval (.Call fe [.Starred e p, e2] [] pos) X.env = (do callWith pos (← eval fe X.env) [] (backTo pos (starEach [.Starred e p, e2] X.env)) (backToKw pos (keywordEach [] X.env))) := by rfl)
    (hst : starEach [.Starred e p, e2] X.env = (true, eval e X.env) :: starEach [e2] X.env := by rfl) (hs2 : starEach [e2] X.env = [(false, eval e2 X.env)] := by rfl) :
    PE X (.Call fe [.Starred e p, e2] [] pos) (fun σ H Q => tf σ H fun y H1 => y = .ref C ∧ te σ H1 fun z H2 => ∃ t xs, z = .ref t ∧ SqT X.K H2 t xs ∧ te2 σ H2 fun z2 H3 => mkP C sp (xs ++ [z2]) H3 Q) := by
  refine ⟨fun pins s σ H Q I h => ?_⟩
  refine Call_ (thn (hf.run pins s σ H _ I h) fun u s1 ⟨y, H1, I1, ry, ey, q⟩ => ?_) ht
  subst ey
  obtain rfl : u = Value.ref C := ry
  rw [hst, hs2]
  refine PySem.W.ks_call (P := fun h => X.K.In h) rfl (PySem.W.keeps_K M.kp) (evalArgs_two ?_)
  refine PySem.W.ks_spliced (thn (he.run pins s1 σ H1 _ I1 q) fun v s2 ⟨z, H2, I2, rz, t, xs, ez, hx, q2⟩ => ?_)
  subst ez
  obtain rfl : v = Value.ref t := rz
  refine star_tup I2 hx fun us s3 I3 rv => ?_
  refine Calls.spliced_cons (thn (he2.run pins s3 σ H2 _ I3 q2) fun v2 s4 ⟨z2, H3, I4, r2, q3⟩ => Calls.spliced_nil ?_)
  exact ⟨I4.kIn, StX.run_makeR (E := E0) (CX := CX0) M F hr pass0 I4 (rv.append (.cons r2 .nil)) q3⟩
end
end Fl

/-! The plain law: paths as lists of names. -/
namespace Fl
open PySem TL

def Nm (x : Str) : Prop := x = "a" ∨ x = "b" ∨ x = "a.b"
instance : DecidablePred Nm := fun x => inferInstanceAs (Decidable (x = "a" ∨ x = "b" ∨ x = "a.b"))
def Good (ns : List Str) : Prop := (∀ n ∈ ns, Nm n) ∧ ns.length ≤ 12
theorem Good.take {ns : List Str} (g : Good ns) (k : Nat) : Good (ns.take k) := ⟨fun n h => g.1 n (List.mem_of_mem_take h), by rw [List.length_take]; have := g.2; omega⟩
theorem Good.drop {ns : List Str} (g : Good ns) (k : Nat) : Good (ns.drop k) := ⟨fun n h => g.1 n (List.mem_of_mem_drop h), by rw [List.length_drop]; have := g.2; omega⟩
theorem Good.dropLast {ns : List Str} (g : Good ns) : Good ns.dropLast := ⟨fun n h => g.1 n (List.dropLast_subset ns h), by rw [List.length_dropLast]; have := g.2; omega⟩
theorem Good.app {ns ms : List Str} (g : Good ns) (h : Good ms) (hl : ns.length + ms.length ≤ 12) : Good (ns ++ ms) := ⟨fun n hn => (List.mem_append.mp hn).elim (g.1 n) (h.1 n), by rw [List.length_append]; exact hl⟩
theorem Good.nil : Good [] := ⟨fun _ h => by simp at h, by simp⟩
theorem Good.one {x : Str} (h : Nm x) : Good [x] := ⟨fun n hn => by rw [List.mem_singleton.mp hn]; exact h, by simp⟩

def signsS : Str := "abcdefghijklmnopqrstuvwxyz0123456789_-."
def isName (x : Str) : Bool := (decide (1 ≤ x.length) && decide (x.length ≤ 12) && !(decide (x = ".") || decide (x = ".."))) && (tl x).all fun c => decide (c ∈ tl signsS)
theorem name_a : isName "a" = true := by decide +kernel
theorem name_b : isName "b" = true := by decide +kernel
theorem name_ab : isName "a.b" = true := by decide +kernel
theorem name_e : isName "" = false := by decide +kernel
theorem name_d : isName "." = false := by decide +kernel
theorem name_nm {x : Str} (h : Nm x) : isName x = true := by
  rcases h with h | h | h <;> subst h
  · exact name_a
  · exact name_b
  · exact name_ab
theorem nm_len {x : Str} (h : Nm x) : 1 ≤ x.length ∧ x.length ≤ 3 := by
  rcases h with h | h | h <;> subst h <;> decide +kernel
theorem nm_ne {x : Str} (h : Nm x) : x ≠ ".." ∧ x ≠ "." ∧ x ≠ "" := by
  rcases h with h | h | h <;> subst h <;> decide +kernel
theorem nm_sl {x : Str} (h : Nm x) : 47 ∉ tl x := by
  rcases h with h | h | h <;> subst h <;> decide +kernel

/-! ### texts of paths -/
def sl : Str := "/"
def parts (ns : List Str) : List Str := if ns = [] then [("" : Str), ("" : Str)] else ("" : Str) :: ns
def textOf (ns : List Str) : Str := Str.join sl (parts ns)
theorem tl_sl : tl sl = [47] := by decide +kernel
theorem tl_e : tl ("" : Str) = [] := by decide +kernel
theorem tl_jn : ∀ (p : Str) (ps : List Str), tl (Str.join sl (p :: ps)) = tl p ++ ps.flatMap fun q => 47 :: tl q
  | p, [] => by simp [Str.join]
  | p, q :: r => by
    show tl (p ++ sl ++ Str.join sl (q :: r)) = _
    rw [tl_append, tl_append, tl_jn q r, tl_sl]
    simp
theorem parts_cons (ns : List Str) : ∃ q r, parts ns = ("" : Str) :: q :: r := by
  unfold parts
  cases ns with
  | nil => exact ⟨("" : Str), [], if_pos rfl⟩
  | cons n ns => exact ⟨n, ns, if_neg (by simp)⟩
theorem parts_ne (ns : List Str) : parts ns ≠ [] := by
  obtain ⟨q, r, e⟩ := parts_cons ns
  rw [e]; simp
/-- the text that place_of glues -/
theorem place_text {ns : List Str} (h : ns ≠ []) : Txt.join "" (ns.map fun n => ("/" : Str) ++ n) = textOf ns := by
  refine ext_tl ?_
  rw [join_eq, textOf, parts, if_neg h, tl_jn, tl_e, List.nil_append]
  have e : ∀ ys : List Str, tl (Str.join "" ys) = ys.flatMap tl := by
    intro ys
    induction ys with
    | nil => exact tl_e
    | cons y ys ih =>
      cases ys with
      | nil => simp [Str.join]
      | cons z zs =>
        show tl (y ++ "" ++ Str.join "" (z :: zs)) = _
        rw [tl_append, tl_append, ih, tl_e]
        simp
  rw [e, List.flatMap_map]
  have e2 : (fun a : Str => tl (("/" : Str) ++ a)) = fun q => 47 :: tl q := by
    funext a
    rw [tl_append]
    have : tl ("/" : Str) = [47] := tl_sl
    rw [this]; rfl
  show ns.flatMap (fun a : Str => tl (("/" : Str) ++ a)) = _
  rw [e2]
theorem text_root : textOf [] = "/" := by decide +kernel
/-- one more part -/
theorem text_more (ns : List Str) (q w : Str) (hw : tl w = 47 :: tl q) : textOf ns ++ w = Str.join sl (parts ns ++ [q]) := by
  refine ext_tl ?_
  obtain ⟨x, r, e⟩ := parts_cons ns
  rw [textOf, tl_append, e, tl_jn, hw]
  show _ = tl (Str.join sl (("" : Str) :: ((x :: r) ++ [q])))
  rw [tl_jn]
  simp
theorem text_dots (ns : List Str) : textOf ns ++ "/.." = Str.join sl (parts ns ++ [(".." : Str)]) := text_more ns _ _ (by decide +kernel)
theorem text_dot (ns : List Str) : textOf ns ++ "/." = Str.join sl (parts ns ++ [("." : Str)]) := text_more ns _ _ (by decide +kernel)
theorem text_app (ns ms : List Str) : textOf ns ++ textOf ms = Str.join sl (parts ns ++ (parts ms).tail) := by
  refine ext_tl ?_
  obtain ⟨x, r, e⟩ := parts_cons ns
  obtain ⟨y, t, e2⟩ := parts_cons ms
  rw [textOf, textOf, tl_append, e, e2, tl_jn, tl_jn]
  show _ = tl (Str.join sl (("" : Str) :: ((x :: r) ++ (y :: t))))
  rw [tl_jn, tl_e]
  simp

/-! ### reading a text -/
def fold : List Str → List Str → Option (List Str)
  | found, [] => some found
  | found, p :: ps => if p = ".." then fold found.dropLast ps else if isName p = true then fold (found ++ [p]) ps else if p = "" ∨ p = "." then fold found ps else none
theorem fold_e (f ps : List Str) : fold f (("" : Str) :: ps) = fold f ps := by
  rw [fold, if_neg (by decide +kernel), name_e, if_neg Bool.false_ne_true, if_pos (.inl rfl)]
theorem fold_dot (f ps : List Str) : fold f (("." : Str) :: ps) = fold f ps := by
  rw [fold, if_neg (by decide +kernel), name_d, if_neg Bool.false_ne_true, if_pos (.inr rfl)]
theorem fold_up (f ps : List Str) : fold f ((".." : Str) :: ps) = fold f.dropLast ps := by rw [fold, if_pos rfl]
theorem fold_names : ∀ (ns f ps : List Str), (∀ n ∈ ns, Nm n) → fold f (ns ++ ps) = fold (f ++ ns) ps
  | [], f, ps, _ => by rw [List.nil_append, List.append_nil]
  | n :: ns, f, ps, h => by
    have hn := h n List.mem_cons_self
    rw [List.cons_append, fold, if_neg (nm_ne hn).1, if_pos (name_nm hn), fold_names ns _ _ fun m hm => h m (List.mem_cons_of_mem _ hm), List.append_assoc]
    rfl
theorem fold_parts (ns f ps : List Str) (h : ∀ n ∈ ns, Nm n) : fold f (parts ns ++ ps) = fold (f ++ ns) ps := by
  unfold parts
  by_cases e : ns = []
  · subst e
    rw [if_pos rfl, List.append_nil]
    show fold f (("" : Str) :: ("" : Str) :: ps) = _
    rw [fold_e, fold_e]
  · rw [if_neg e]
    show fold f (("" : Str) :: (ns ++ ps)) = _
    rw [fold_e, fold_names ns _ _ h]
theorem fold_tail (ns f : List Str) (h : ∀ n ∈ ns, Nm n) : fold f (parts ns).tail = some (f ++ ns) := by
  unfold parts
  by_cases e : ns = []
  · subst e
    rw [if_pos rfl, List.append_nil]
    show fold f [("" : Str)] = _
    rw [fold_e]; rfl
  · rw [if_neg e]
    show fold f ns = _
    have x := fold_names ns f [] h
    rw [List.append_nil] at x
    rw [x]; rfl

/-- a text that parse takes: its parts, and the names to which they lead -/
structure Reads (s : Str) (ps ns : List Str) : Prop where
  join : s = Str.join sl ps
  two : ∃ q r, ps = ("" : Str) :: q :: r
  free : ∀ p ∈ ps, 47 ∉ tl p
  len : s.length ≤ 200
  each : ∀ p ∈ ps, p.length ≤ 3
  cnt : ps.length ≤ 30
  to : fold [] ps = some ns
  good : Good ns

theorem parts_mem {ns : List Str} (g : ∀ n ∈ ns, Nm n) : ∀ p ∈ parts ns, 47 ∉ tl p ∧ p.length ≤ 3 := by
  intro p hp
  unfold parts at hp
  split at hp
  · rcases List.mem_cons.mp hp with e | hp
    · subst e; decide +kernel
    · rw [List.mem_singleton.mp hp]; decide +kernel
  · rcases List.mem_cons.mp hp with e | hp
    · subst e; decide +kernel
    · exact ⟨nm_sl (g p hp), (nm_len (g p hp)).2⟩
theorem parts_len {ns : List Str} : (parts ns).length ≤ ns.length + 2 := by
  unfold parts
  split <;> simp
theorem join_len : ∀ {ps : List Str}, (∀ p ∈ ps, p.length ≤ 3) → (Str.join sl ps).length ≤ 4 * ps.length
  | [], _ => by decide +kernel
  | p :: ps, h => by
    rw [len_tl, tl_jn, List.length_append, ← len_tl]
    have hp := h p List.mem_cons_self
    have : (ps.flatMap fun q => 47 :: tl q).length ≤ 4 * ps.length := by
      clear hp
      induction ps with
      | nil => simp
      | cons q r ih =>
        have hq := h q (by simp)
        have i := ih (fun z hz => h z (by simp at hz ⊢; rcases hz with e | e <;> simp [e]))
        rw [List.flatMap_cons, List.length_append, List.length_cons, List.length_cons, ← len_tl]
        omega
    rw [List.length_cons]
    omega
theorem reads_of {ps ns : List Str} (two : ∃ q r, ps = ("" : Str) :: q :: r) (h : ∀ p ∈ ps, 47 ∉ tl p ∧ p.length ≤ 3) (cnt : ps.length ≤ 30) (to : fold [] ps = some ns) (g : Good ns) : Reads (Str.join sl ps) ps ns :=
  ⟨rfl, two, fun p hp => (h p hp).1, by have := join_len (ps := ps) fun p hp => (h p hp).2; omega, fun p hp => (h p hp).2, cnt, to, g⟩
theorem reads_text {ns : List Str} (g : Good ns) : Reads (textOf ns) (parts ns) ns :=
  reads_of (parts_cons ns) (parts_mem g.1) (Nat.le_trans parts_len (by have := g.2; omega)) (by have x := fold_parts ns [] [] g.1; rw [List.append_nil] at x; rw [x]; rfl) g
theorem reads_dots {ns : List Str} (g : Good ns) : Reads (textOf ns ++ "/..") (parts ns ++ [(".." : Str)]) ns.dropLast := by
  rw [text_dots]
  refine reads_of ?_ (fun p hp => ?_) (by have := parts_len (ns := ns); have := g.2; rw [List.length_append, List.length_singleton]; omega) (by rw [fold_parts ns [] _ g.1, fold_up]; rfl) g.dropLast
  · obtain ⟨q, r, e⟩ := parts_cons ns
    exact ⟨q, r ++ [(".." : Str)], by rw [e]; rfl⟩
  · rcases List.mem_append.mp hp with hp | hp
    · exact parts_mem g.1 p hp
    · rw [List.mem_singleton.mp hp]; decide +kernel
theorem reads_dot {ns : List Str} (g : Good ns) : Reads (textOf ns ++ "/.") (parts ns ++ [("." : Str)]) ns := by
  rw [text_dot]
  refine reads_of ?_ (fun p hp => ?_) (by have := parts_len (ns := ns); have := g.2; rw [List.length_append, List.length_singleton]; omega) (by rw [fold_parts ns [] _ g.1, fold_dot]; rfl) g
  · obtain ⟨q, r, e⟩ := parts_cons ns
    exact ⟨q, r ++ [("." : Str)], by rw [e]; rfl⟩
  · rcases List.mem_append.mp hp with hp | hp
    · exact parts_mem g.1 p hp
    · rw [List.mem_singleton.mp hp]; decide +kernel
theorem reads_app {ns ms : List Str} (g : Good ns) (h : Good ms) (hl : ns.length + ms.length ≤ 12) : Reads (textOf ns ++ textOf ms) (parts ns ++ (parts ms).tail) (ns ++ ms) := by
  rw [text_app]
  refine reads_of ?_ (fun p hp => ?_) ?_ (by rw [fold_parts ns [] _ g.1, fold_tail ms _ h.1]; rfl) (g.app h hl)
  · obtain ⟨q, r, e⟩ := parts_cons ns
    exact ⟨q, r ++ (parts ms).tail, by rw [e]; rfl⟩
  · rcases List.mem_append.mp hp with hp | hp
    · exact parts_mem g.1 p hp
    · exact parts_mem h.1 p (List.mem_of_mem_tail hp)
  · have h1 := parts_len (ns := ns)
    have h2 := parts_len (ns := ms)
    rw [List.length_append, List.length_tail]
    omega
theorem Reads.split {s : Str} {ps ns : List Str} (r : Reads s ps ns) : Txt.split s sl = ps := by
  obtain ⟨q, t, e⟩ := r.two
  have x := split_join (y := sl) (s := 47) (S := []) tl_sl (by decide +kernel) (parts := ps) (by rw [e]; simp) r.free
  rw [join_eq] at x
  rw [r.join]
  exact x
theorem Reads.head {s : Str} {ps ns : List Str} (r : Reads s ps ns) : ∃ z, tl s = 47 :: z := by
  obtain ⟨q, t, e⟩ := r.two
  rw [r.join, e, tl_jn, tl_e, List.nil_append, List.flatMap_cons, List.cons_append]
  exact ⟨_, rfl⟩
theorem text_inj {ns ms : List Str} (g : Good ns) (h : Good ms) (e : textOf ns = textOf ms) : ns = ms := by
  have a := (reads_text g).split
  have b := (reads_text h).split
  rw [e, b] at a
  have x := (reads_text g).to
  rw [← a, (reads_text h).to] at x
  exact (Option.some.inj x).symm

/-! ### below -/
def below (ns ms : List Str) : Bool := decide (ms.length < ns.length) && decide (ns.take ms.length = ms)
theorem below_iff {ns ms : List Str} : below ns ms = true ↔ ms.length < ns.length ∧ ns.take ms.length = ms := by unfold below; simp
theorem below_self (ns : List Str) : below ns ns = false := by unfold below; simp
theorem below_take {ns : List Str} {r : Nat} (h : r < ns.length) : below ns (ns.take r) = true := below_iff.mpr ⟨by rw [List.length_take]; omega, by rw [List.length_take, Nat.min_eq_left (Nat.le_of_lt h)]⟩
theorem below_asym {ns ms : List Str} (h : below ns ms = true) : below ms ns = false := by
  obtain ⟨h1, _⟩ := below_iff.mp h
  unfold below
  rw [decide_eq_false (by omega)]
  rfl
theorem below_any {ns ms : List Str} : below ns ms = true ↔ ∃ r, r < ns.length ∧ ns.take r = ms := by
  rw [below_iff]
  constructor
  · rintro ⟨h1, h2⟩
    exact ⟨ms.length, h1, h2⟩
  · rintro ⟨r, h1, h2⟩
    subst h2
    rw [List.length_take, Nat.min_eq_left (Nat.le_of_lt h1)]
    exact ⟨h1, rfl⟩
theorem below_parent {ns : List Str} (h : ns ≠ []) : below ns ns.dropLast = true := by
  rw [List.dropLast_eq_take]
  exact below_take (by cases ns with
    | nil => exact (h rfl).elim
    | cons n r => simp)
theorem below_rest {ns ms : List Str} (h : below ns ms = true) : ms ++ ns.drop ms.length = ns := by
  obtain ⟨_, h2⟩ := below_iff.mp h
  have x := List.take_append_drop ms.length ns
  rw [h2] at x
  exact x
theorem below_app (ns ms : List Str) : below (ns ++ ms) ns = decide (0 < ms.length) := by
  unfold below
  rw [List.take_left, decide_eq_true rfl, Bool.and_true, List.length_append]
  exact decide_eq_decide.mpr ⟨fun h => by omega, fun h => by omega⟩
theorem below_trans {a b c : List Str} (h : below a b = true) (k : below b c = true) : below a c = true := by
  obtain ⟨h1, h2⟩ := below_iff.mp h
  obtain ⟨k1, k2⟩ := below_iff.mp k
  refine below_iff.mpr ⟨by omega, ?_⟩
  have e : c.length ≤ b.length := Nat.le_of_lt k1
  rw [← h2, List.take_take, Nat.min_eq_left e] at k2
  exact k2
theorem below_total {a b c : List Str} (h : below a b = true) (k : below a c = true) (ne : b ≠ c) : below b c = !below c b := by
  obtain ⟨h1, h2⟩ := below_iff.mp h
  obtain ⟨k1, k2⟩ := below_iff.mp k
  have key : ∀ {x y : List Str}, a.take x.length = x → a.take y.length = y → x.length ≤ y.length → y.take x.length = x := fun {x y} hx hy hl => by
    rw [← hy, List.take_take, Nat.min_eq_left hl, hx]
  rcases Nat.lt_trichotomy b.length c.length with l | l | l
  · have e : below c b = true := below_iff.mpr ⟨l, key h2 k2 (Nat.le_of_lt l)⟩
    rw [e, below_asym e]; rfl
  · have e := key h2 k2 (Nat.le_of_eq l)
    rw [l, List.take_length] at e
    exact (ne e.symm).elim
  · have e : below b c = true := below_iff.mpr ⟨l, key k2 h2 (Nat.le_of_lt l)⟩
    rw [e, below_asym e]; rfl

/-! ### the last name and its two parts -/
def lastOf (ns : List Str) : Str := ns.getLastD ""
def stemOf (x : Str) : Str := if x = "a.b" then "a" else x
def sufOf (x : Str) : Str := if x = "a.b" then ".b" else ""
theorem last_cases {ns : List Str} (g : Good ns) : lastOf ns = "" ∨ Nm (lastOf ns) := by
  unfold lastOf
  by_cases e : ns = []
  · subst e; exact .inl rfl
  · refine .inr ?_
    rw [List.getLastD_eq_getLast?, List.getLast?_eq_some_getLast e]
    exact g.1 _ (List.getLast_mem e)
theorem stem_suf {x : Str} (h : x = "" ∨ Nm x) : stemOf x ++ sufOf x = x := by
  rcases h with h | h | h | h <;> subst h <;> decide +kernel
end Fl

/-! The defs without objects: is_integer, is_name, place_of, names_after, names_in, name_parts. -/
namespace Fl
open PySem L2 TL

def top (i : Nat) : Stmt := PySem.Challenge.pw_filelayer_k09_whole_algebra_of_paths.main.body.getD i (.Pass ⟨0, 0, 0, 0⟩)
abbrev sIsInt : Stmt := top 10
abbrev sIsName : Stmt := top 11
abbrev sPlace : Stmt := top 13
abbrev sNamesAfter : Stmt := top 14
abbrev sNamesIn : Stmt := top 15
abbrev sNameParts : Stmt := top 16

/-- what the walk asks of the top's names -/
structure TX (K : PySem.W.Frag) (mg : Str → Option Value) (C : Addr) : Prop where
  cl : Cls K C
  nN : NoAttr K C "names"
  mgP : mg "Path" = some (.ref C)
  kc : PySem.W.keepIn K (.ref C) = true
  bIsi : mg "isinstance" = none
  bInt : mg "int" = none
  bStr : mg "str" = none
  bBool : mg "bool" = none
  bLen : mg "len" = none
  bAll : mg "all" = none
  bMax : mg "max" = none
  bMin : mg "min" = none
  bList : mg "list" = none
  bRange : mg "range" = none
  cNs : ∃ t, mg "MAX_NAMES" = some (.int 12 t)
  cPa : ∃ t, mg "MAX_PATH" = some (.int 200 t)
  cNa : ∃ t, mg "MAX_NAME" = some (.int 12 t)
  cSg : ∃ t, mg "NAME_SIGNS" = some (.str signsS t)
  cc : PySem.W.findIn K (.ref C) "__class__" = some (some (.builtin "object.__class__"))
  cn : PySem.W.specialIn K (.builtin "object.__class__") "__get__" = some (some (.builtin "getset_descriptor.__get__"))
  ct : PySem.W.takesIn K (.builtin "object.__class__") = some true
  cm : PySem.W.mroIn K C (.type "object") = some true
  kII : PySem.W.kitOne K (.ref C) (.ref C) = some true
  kSI : PySem.W.kitOne K (.type "str") (.ref C) = some false

/-- a def of the top, with its promise -/
structure Gd (P : Program) (w : World) (K : PySem.W.Frag) (mg : Str → Option Value) (base : Heap) (k : Nat) (name : Str) (ps : List Str) (sp : Sp) : Prop where
  ex : ∃ f fd, FnOk P w K mg base CX0 k f fd ps sp ∧ mg name = some (.ref f) ∧ PySem.W.keepIn K (.ref f) = true ∧ Binds K fd ps []
section
variable {X : Cx} {k : Nat} {x : Str} {ps : List Str} {sp : Sp} {e : Expr} {es : List Expr} {t : TA} {p pos : Pos}
theorem pe_gd (G : Gd X.prog X.w X.K X.mg X.base k x ps sp) (hr : Room k X.A) (hg : Gl X x) (ha : PA X (e :: es) t) (hdb : (x == ("__debug__" : Str)) = false := by decide) (he : starEach (e :: es) X.env = (false, eval e X.env) :: starEach es X.env := by rfl)
    (hpl : (backTo pos (starEach es X.env)).any (·.1) = false := by rfl) : PE X (.Call (.Name x p) (e :: es) [] pos) (tCall sp [] E0 t) := by
  obtain ⟨f, fd, F, hm, hk, hb⟩ := G.ex
  exact pe_call F hr hg hm hk hb .nil pass0 ha hdb he hpl
end

/-! ### words of heaps -/
theorem iteE {b : Bool} {A B : Prop} (e : b = true) (h : A) : if b = true then A else B := by
  rw [if_pos e]; exact h
theorem iteG {b : Bool} {A B : Prop} (e : b = false) (h : B) : if b = true then A else B := by
  subst e; exact iteF h
def Qs (H : Hp) (v : V) (Q : VK) : Prop := ∀ H', Same H H' → Q v H'
theorem same_upd {H : Hp} {a : Addr} {o : HO} (h : H a = none) : Same H (upd H a o) := fun b q e => by rw [upd_ne (ne_of_none e h)]; exact e
theorem same_new {H H' : Hp} {a : Addr} {o : HO} (s : Same H H') (h : H' a = none) : Same H (upd H' a o) := s.trans (same_upd h)
/-- a list that is new behind H, its items -/
theorem same_over {H H' : Hp} {a : Addr} {o : HO} (s : Same H H') (h : H a = none) : Same H (upd H' a o) := fun b q e => by rw [upd_ne (ne_of_none e h)]; exact s _ _ e

/-! ### a comprehension over a text -/
theorem lc_str {x : Str} {g : TG} {tt : TT} {te : TE} {vs : List Nat} {σ : L2.St} {H1 : Hp} {D : Addr} {Qd : Hp → Prop} (Pv : Nat → Hp → Prop) (h0 : Pv 0 (upd H1 D (.lst [])))
    (hs : ∀ i c H, (tl x)[i]? = some c → Pv i H → g (.str ⟨#[c]⟩) (wipe σ vs) H fun σ2 H2 => wipe σ2 vs = wipe σ vs ∧ tt σ2 H2 fun b H3 =>
      if b = true then te σ2 H3 fun y H4 => ∃ acc, H4 D = some (.lst acc) ∧ acc.length < sizeLine ∧ Pv (i + 1) (upd H4 D (.lst (acc ++ [y]))) else Pv (i + 1) H3) (hd : ∀ H, Pv (tl x).length H → Qd H) :
    ∃ W : Nat → Nat → Hp → Prop, (∃ m, W 0 m (upd H1 D (.lst []))) ∧ ∀ i m H, W i m H →
      ((Its x).stop i H ∧ Qd H) ∨ ((Its x).go i H ∧ ∃ Nx : Hp → Prop, (∀ H', Nx H' → ∃ m', m' < m ∧ W (i + 1) m' H') ∧ ∀ y H', (Its x).yld i H y H' → g y (wipe σ vs) H' fun σ2 H2 => wipe σ2 vs = wipe σ vs ∧ tt σ2 H2 fun b H3 =>
        if b = true then te σ2 H3 fun y H4 => ∃ acc, H4 D = some (.lst acc) ∧ acc.length < sizeLine ∧ Nx (upd H4 D (.lst (acc ++ [y]))) else Nx H3) := by
  have sz : (tl x).length = x.cps.size := by simp [tl]
  refine ⟨fun i m H => m = (tl x).length - i ∧ i ≤ (tl x).length ∧ Pv i H, ⟨(tl x).length, by simp, Nat.zero_le _, h0⟩, ?_⟩
  rintro i m H ⟨rfl, hi, p⟩
  by_cases hlt : i < (tl x).length
  · refine .inr ⟨by show i < x.cps.size; omega, Pv (i + 1), fun H' p' => ⟨(tl x).length - (i + 1), by omega, rfl, hlt, p'⟩, fun y H' q => ?_⟩
    obtain ⟨e, c, hc, ey⟩ := q
    subst e ey
    exact hs i c _ (by simpa [tl] using hc) p
  · have e : i = (tl x).length := by omega
    subst e
    exact .inl ⟨by show x.cps.size ≤ _; omega, hd H p⟩

/-! ### equality of tuples and lists of texts -/
theorem dp_strs {K : PySem.W.Frag} {H : Hp} : ∀ ns : List Str, DpAll K H (ns.map V.str) (ns.map PyData.str)
  | [] => .nil
  | n :: ns => .cons (.str n) (dp_strs ns)
theorem eqv_strs : ∀ ns ms : List Str, PyData.eqvAll (ns.map PyData.str) (ms.map PyData.str) = decide (ns = ms)
  | [], [] => rfl
  | [], m :: ms => rfl
  | n :: ns, [] => rfl
  | n :: ns, m :: ms => by
    show (PyData.eqv (.str n) (.str m) && PyData.eqvAll (ns.map PyData.str) (ms.map PyData.str)) = _
    rw [eqv_strs ns ms]
    show ((n == m) && _) = _
    by_cases e : n = m
    · subst e; simp
    · have : (n == m) = false := by simpa using e
      rw [this]; simp [e]
theorem eqv_tup (ns ms : List Str) : PyData.eqv (.tuple (ns.map PyData.str)) (.tuple (ms.map PyData.str)) = decide (ns = ms) := eqv_strs ns ms
theorem eqv_lst (ns ms : List Str) : PyData.eqv (.list (ns.map PyData.str)) (.list (ms.map PyData.str)) = decide (ns = ms) := eqv_strs ns ms
theorem nm_ok {x : Str} (h : Nm x) : PyData.canLay0 (.str x) = true := by
  rcases h with h | h | h <;> subst h <;> decide +kernel
theorem can_strs : ∀ ns : List Str, (∀ n ∈ ns, Nm n) → PyData.canLayAll0 (ns.map PyData.str) = true
  | [], _ => by simp [PyData.canLayAll0]
  | n :: ns, h => by
    rw [List.map_cons, PyData.canLayAll0, nm_ok (h n List.mem_cons_self), can_strs ns fun m hm => h m (List.mem_cons_of_mem _ hm)]
    rfl
theorem depth_strs : ∀ ns : List Str, PyData.depthAll (ns.map PyData.str) ≤ 1
  | [] => by simp [PyData.depthAll]
  | n :: ns => by
    have i := depth_strs ns
    rw [List.map_cons]
    simp only [PyData.depthAll, PyData.depth]
    omega
theorem shaped_tup {ns : List Str} (h : ∀ n ∈ ns, Nm n) : SeqAt.shaped (.tuple (ns.map PyData.str)) = true := by
  have d := depth_strs ns
  unfold SeqAt.shaped
  rw [PyData.canLay0, can_strs ns h, Bool.true_and]
  exact decide_eq_true (by simp only [PyData.depth]; omega)
theorem shaped_lst {ns : List Str} (h : ∀ n ∈ ns, Nm n) : SeqAt.shaped (.list (ns.map PyData.str)) = true := by
  have d := depth_strs ns
  unfold SeqAt.shaped
  rw [PyData.canLay0, can_strs ns h, Bool.true_and]
  exact decide_eq_true (by simp only [PyData.depth]; omega)
/-- t stands for a tuple of texts -/
def TupAt (H : Hp) (t : Addr) (ns : List Str) : Prop := H t = some (.tup (ns.map V.str))
theorem TupAt.sq {K : PySem.W.Frag} {H : Hp} {t : Addr} {ns : List Str} (h : TupAt H t ns) : SqT K H t (ns.map V.str) := SqT.of h
theorem TupAt.dp {K : PySem.W.Frag} {H : Hp} {t : Addr} {ns : List Str} (h : TupAt H t ns) : Dp K H (.ref t) (.tuple (ns.map PyData.str)) := .tup h.sq (dp_strs ns)
theorem TupAt.up {H H' : Hp} {t : Addr} {ns : List Str} (h : TupAt H t ns) (s : Same H H') : TupAt H' t ns := s _ _ h

/-! ### the promises -/
def spIsInt : Sp := fun vs H Q _ => ∃ v lo hi : Int, vs = [.int v, .int lo, .int hi] ∧ Q (.bl (decide (lo ≤ v) && decide (v ≤ hi))) H
def spIsName : Sp := fun vs H Q _ => ∃ x : Str, vs = [.str x] ∧ x.length ≤ 200 ∧ Qs H (.bl (isName x)) Q
def spPlace : Sp := fun vs H Q _ => ∃ t ns, vs = [.ref t] ∧ TupAt H t ns ∧ Good ns ∧ Qs H (.str (textOf ns)) Q
/-- the answer is a tuple of ns -/
def QT (H : Hp) (ns : List Str) (Q : VK) : Prop := ∀ t H', Same H H' → TupAt H' t ns → Q (.ref t) H'
def spNamesAfter : Sp := fun vs H Q _ => ∃ t s ps ns, vs = [.ref t, .str s] ∧ TupAt H t [] ∧ Reads s ps ns ∧ QT H ns Q
def spNamesIn : Sp := fun vs H Q _ => ∃ s ps ns, vs = [.str s] ∧ Reads s ps ns ∧ QT H ns Q
def spNameParts : Sp := fun vs H Q _ => ∃ x, vs = [.str x] ∧ (x = "" ∨ Nm x) ∧ QT H [stemOf x, sufOf x] Q

section
variable {P : Program} {w : World} {K : PySem.W.Frag} {mg : Str → Option Value} {base : Heap} {C : Addr}
theorem scIsInt : FnScope ["value", "low", "high"] ["value", "low", "high"] (defScope sIsInt) := ⟨rfl, rfl, rfl, by decide +kernel, rfl, by decide +kernel, by decide +kernel⟩
theorem ok_isInt {f : Addr} {fd : FuncData} (F : Fun K "is_integer" "is_integer" sIsInt f fd) (T : TX K mg C) : FnOk P w K mg base CX0 1 f fd ["value", "low", "high"] spIsInt := by
  refine F.ok scIsInt (fun vs H Q E h => ?_) (fun cdv A outer s H vs Q E hr h => ?_)
  · obtain ⟨v, lo, hi, rfl, _⟩ := h
    rfl
  · obtain ⟨v, lo, hi, rfl, q⟩ := h
    refine ⟨_, pss_one (ps_ret (pe_and (pe_callB call_isi (by rfl) T.bIsi (by decide +kernel) (pa_cons (pv 0) (pa_cons (pe_bltn (v := .ty "int") (by rfl) T.bInt (by decide +kernel) rfl) pa_nil)))
      (pe_and (pe_not (pe_callB call_isi (by rfl) T.bIsi (by decide +kernel) (pa_cons (pv 0) (pa_cons (pe_bltn (v := .ty "bool") (by rfl) T.bBool (by decide +kernel) rfl) pa_nil)))) (pe_one (pe_chain op_le op_le (pv 1) (pv 0) (pv 2)))))), ?_⟩
    refine ⟨_, rfl, _, _, _, _, _, rfl, .ty "int", .base (.int v), kit_ty (r := true) (by decide +kernel), true, rfl, ?_⟩
    refine iteT ?_
    refine ⟨_, rfl, _, _, _, _, _, rfl, .ty "bool", .base (.int v), kit_ty (r := false) (by decide +kernel), ?_⟩
    refine ⟨_, rfl, _, rfl, ?_⟩
    refine iteT ?_
    refine ⟨_, rfl, _, rfl, _, _, rfl, rfl, _, rfl, ?_⟩
    by_cases h1 : lo ≤ v
    · refine iteE (by simpa using h1) ?_
      refine ⟨_, rfl, _, _, rfl, rfl, ?_⟩
      rw [decide_eq_true h1, Bool.true_and] at q
      exact q
    · refine iteG (by simpa using h1) ?_
      rw [decide_eq_false h1, Bool.false_and] at q
      exact q
end
end Fl

namespace Fl
open PySem L2 TL
section
variable {P : Program} {w : World} {K : PySem.W.Frag} {mg : Str → Option Value} {base : Heap} {C : Addr}
theorem yes_ {σ : L2.St} {H : Hp} {A B : Hp → Prop} (h : A H) : tYes σ H fun b H3 => if b = true then A H3 else B H3 := by
  show (if true = true then A H else B H)
  rw [if_pos rfl]
  exact h
theorem line_small {n : Nat} (h : n ≤ 1000) : n < sizeLine := by
  have : sizeLine = 16777216 := sizeLine_eq
  omega
theorem line_smallE {n : Nat} (h : n ≤ 1000) : n ≤ sizeLine := Nat.le_of_lt (line_small h)
theorem inV_two (x a b : Str) : inV (.str x) [.str a, .str b] = (decide (x = a) || decide (x = b)) := by
  unfold inV
  simp only [List.any_cons, List.any_nil, Bool.or_false]
  congr 1
  · by_cases e : x = a
    · subst e; simp [eqV]
    · simp [eqV, e, Ne.symm e]
  · by_cases e : x = b
    · subst e; simp [eqV]
    · simp [eqV, e, Ne.symm e]
theorem scIsName : FnScope ["value", "sign"] ["value"] (defScope sIsName) := ⟨rfl, rfl, rfl, by decide +kernel, rfl, by decide +kernel, by decide +kernel⟩
theorem ok_isName {f : Addr} {fd : FuncData} (F : Fun K "is_name" "is_name" sIsName f fd) (T : TX K mg C) : FnOk P w K mg base CX0 1 f fd ["value"] spIsName := by
  refine F.ok scIsName (fun vs H Q E h => ?_) (fun cdv A outer s H vs Q E hr h => ?_)
  · obtain ⟨x, rfl, _⟩ := h
    rfl
  · obtain ⟨x, rfl, hx, q⟩ := h
    obtain ⟨tn, hn⟩ := T.cNa
    obtain ⟨ts, hs⟩ := T.cSg
    refine ⟨_, pss_cons (ps_if (PW.pt (pw_or (pt_not (pt_val (pe_callB call_isi (by rfl) T.bIsi (by decide +kernel) (pa_cons (pv 0) (pa_cons (pe_bltn (v := .ty "str") (by rfl) T.bStr (by decide +kernel) rfl) pa_nil)))))
      (pw_or (pt_not (pt_chain op_le op_le pe_int (pe_callB call_len_str (by rfl) T.bLen (by decide +kernel) (pa_cons (pv 0) pa_nil)) (pe_glob (v := .int 12) rfl hn ⟨_, rfl⟩)))
       (pw_or1 (pt_cmpR op_in_seq (pv 0) (pe_tup (pa_cons pe_str (pa_cons pe_str pa_nil))) (by rfl)))))) (pss_one (ps_ret pe_bl)) pss_nil)
      (pss_one (ps_ret (pe_callB (cr_all rfl) (by rfl) T.bAll (by decide +kernel) (pa_cons (pe_lc (own := [("sign", 1)]) (g := gName 1) (tt := tYes) (by rfl) scIsName.nd (pi_str (pv 0)) (blkOk_by (N := ["value", "sign"]) (sc := defScope sIsName) (by decide +kernel)) (fun _ _ _ _ _ => pg_name (i := 1) scIsName.nd rfl (Or.inl rfl)) (fun _ _ _ _ _ => pts_nil)
        (fun _ _ _ _ _ => pe_cmpR op_in_sign (pv 1) (pe_glob (v := .str signsS) rfl hs ⟨_, rfl⟩) rfl)) pa_nil)))), ?_⟩
    refine ⟨_, rfl, _, _, _, _, _, rfl, .ty "str", .base (.str x), kit_ty (r := true) (by decide +kernel), _, rfl, ?_⟩
    refine iteF ?_
    refine ⟨_, rfl, _, rfl, line_smallE (by omega), _, _, rfl, rfl, _, rfl, ?_⟩
    by_cases h1 : (1 : Int) ≤ (x.length : Int)
    case neg =>
      have e : isName x = false := by
        unfold isName
        rw [decide_eq_false (by omega : ¬ 1 ≤ x.length), Bool.false_and, Bool.false_and, Bool.false_and]
      rw [e] at q
      refine iteG (by simpa using h1) ?_
      refine ⟨_, rfl, ?_⟩
      refine iteT ?_
      refine iteT ?_
      exact q _ (Same.refl _)
    case pos =>
      have l1 : decide (1 ≤ x.length) = true := decide_eq_true (by omega)
      refine iteE (by simpa using h1) ?_
      refine ⟨_, _, rfl, rfl, _, rfl, ?_⟩
      by_cases h2 : (x.length : Int) ≤ 12
      case neg =>
        have e : isName x = false := by
          unfold isName
          rw [decide_eq_false (by omega : ¬ x.length ≤ 12), Bool.and_false, Bool.false_and, Bool.false_and]
        rw [e] at q
        refine iteE (by simpa using h2) ?_
        refine iteT ?_
        exact q _ (Same.refl _)
      case pos =>
        have l2 : decide (x.length ≤ 12) = true := decide_eq_true (by omega)
        refine iteG (by simpa using h2) ?_
        refine ⟨_, rfl, (by decide), fun t ht => ?_⟩
        refine ⟨_, _, rfl, .inr (SqT.of upd_same), rfl, rfl, _, rfl, ?_⟩
        have s1 : Same H (upd H t (.tup [.str ".", .str ".."])) := same_upd ht
        rw [if_neg Bool.false_ne_true, inV_two]
        cases h3 : (decide (x = ".") || decide (x = "..")) with
        | true =>
          have e : isName x = false := by
            unfold isName
            rw [h3, Bool.not_true, Bool.and_false, Bool.false_and]
          rw [e] at q
          refine iteT ?_
          exact q _ s1
        | false =>
          refine iteF ?_
          have e : isName x = (tl x).all fun c => decide (c ∈ tl signsS) := by
            unfold isName
            rw [h3, l1, l2]; rfl
          rw [e] at q
          refine ⟨_, rfl, x, rfl, fun D hD => lc_str (x := x) (fun i H' => Same (upd H t (.tup [.str ".", .str ".."])) H' ∧ H' D = some (.lst (((tl x).take i).map fun c => V.bl (decide (c ∈ tl signsS))))) ⟨same_upd hD, upd_same⟩ (fun i c H' hc hP => ?_) fun H' hP => ?_⟩
          · refine ⟨rfl, yes_ ?_⟩
            refine ⟨_, rfl, _, _, rfl, rfl, _, hP.2, ?_, ?_, ?_⟩
            · rw [List.length_map, List.length_take]
              exact line_small (by have := len_tl x; omega)
            · exact same_over hP.1 hD
            · rw [upd_same, List.take_add_one, hc, List.map_append]
              rfl
          · refine ⟨D, (tl x).map fun c => decide (c ∈ tl signsS), rfl, SqL.of ?_, ?_⟩
            · rw [hP.2, List.take_length, List.map_map]
              rfl
            · have := q H' (s1.trans hP.1)
              rw [List.all_map]
              exact this
end
end Fl

namespace Fl
open PySem L2 TL
section
variable {P : Program} {w : World} {K : PySem.W.Frag} {mg : Str → Option Value} {base : Heap} {C : Addr}
theorem map_at {ns : List Str} {i : Nat} {v : V} (h : (ns.map V.str)[i]? = some v) : ∃ n, ns[i]? = some n ∧ v = .str n := by
  rw [List.getElem?_map] at h
  cases e : ns[i]? with
  | none => rw [e] at h; cases h
  | some n => rw [e] at h; exact ⟨n, rfl, (Option.some.inj h).symm⟩
theorem scPlace : FnScope ["names", "name"] ["names"] (defScope sPlace) := ⟨rfl, rfl, rfl, by decide +kernel, rfl, by decide +kernel, by decide +kernel⟩
theorem sum_len : ∀ {ns : List Str}, (∀ n ∈ ns, Nm n) → ((ns.map fun n => ("/" : Str) ++ n).map (·.length)).sum ≤ 4 * ns.length
  | [], _ => by simp
  | n :: ns, h => by
    have i := sum_len (ns := ns) fun m hm => h m (List.mem_cons_of_mem _ hm)
    have q := (nm_len (h n List.mem_cons_self)).2
    have e : (("/" : Str) ++ n).length = 1 + n.length := by
      rw [len_tl, tl_append, List.length_append, ← len_tl, ← len_tl]
      congr 1
    rw [List.map_cons, List.map_cons, List.sum_cons, e, List.length_cons]
    omega
theorem ok_place {f : Addr} {fd : FuncData} (F : Fun K "place_of" "place_of" sPlace f fd) : FnOk P w K mg base CX0 1 f fd ["names"] spPlace := by
  refine F.ok scPlace (fun vs H Q E h => ?_) (fun cdv A outer s H vs Q E hr h => ?_)
  · obtain ⟨t, ns, rfl, _⟩ := h
    rfl
  · obtain ⟨t, ns, rfl, ht, g, q⟩ := h
    refine ⟨_, pss_one (ps_ret (pe_ifExp (pt_cmpR (op_neD hr.units) (pv 0) (pe_tup pa_nil) (nomark _))
      (pe_join pe_str (pe_lc (own := [("name", 1)]) (g := gName 1) (tt := tYes) (by rfl) scPlace.nd (pi_tup (pv 0)) (blkOk_by (N := ["names", "name"]) (sc := defScope sPlace) (by decide +kernel)) (fun _ _ _ _ _ => pg_name (i := 1) scPlace.nd rfl (Or.inl rfl)) (fun _ _ _ _ _ => pts_nil)
        (fun _ _ _ _ _ => pe_op op_add_str pe_str (pv 1)))) pe_str)), ?_⟩
    refine ⟨_, rfl, Nat.zero_le _, fun u hu => ?_⟩
    have s1 : Same H (upd H u (.tup [])) := same_upd hu
    refine ⟨_, _, (ht.up s1).dp, TupAt.dp (ns := []) upd_same, shaped_tup g.1, shaped_tup (fun _ h => by simp at h), _, rfl, ?_⟩
    rw [show PyData.eqv (.tuple (ns.map PyData.str)) (.tuple (([] : List Str).map PyData.str)) = decide (ns = []) from eqv_tup ns []]
    by_cases e : ns = []
    · refine iteG (by rw [decide_eq_true e]; rfl) ?_
      rw [e, text_root] at q
      exact q _ s1
    · refine iteE (by rw [decide_eq_false e]; rfl) ?_
      refine ⟨⟨_, rfl⟩, _, rfl, t, rfl, ⟨_, (ht.up s1).sq⟩, fun D hD => lc_tup (K := K) (a := t) (xs := ns.map V.str) (fun i H' => Same (upd H u (.tup [])) H' ∧ H' D = some (.lst (((ns.take i).map fun n => ("/" : Str) ++ n).map V.str))) ⟨same_upd hD, upd_same⟩
        (fun i H' _ hP => ((ht.up s1).up hP.1).sq) (fun i x H' hx hP => ?_) fun H' hP => ?_⟩
      · obtain ⟨n, hn, rfl⟩ := map_at hx
        refine ⟨rfl, yes_ ?_⟩
        refine ⟨_, rfl, _, _, rfl, rfl, ?_, _, hP.2, ?_, same_over hP.1 hD, ?_⟩
        · have := (nm_len (g.1 n (List.mem_of_getElem? hn))).2
          have e1 : ("/" : Str).length = 1 := by decide +kernel
          rw [e1]
          exact line_smallE (by omega)
        · rw [List.length_map, List.length_map, List.length_take]
          exact line_small (by have := g.2; omega)
        · rw [upd_same, List.take_add_one, hn, List.map_append, List.map_append]
          rfl
      · rw [List.length_map, List.take_length] at hP
        refine ⟨"", D, ns.map fun n => ("/" : Str) ++ n, rfl, rfl, .inl (SqL.of hP.2), ?_, ?_⟩
        · have := sum_len g.1
          have := g.2
          have e1 : ("" : Str).length = 0 := by decide +kernel
          rw [e1, Nat.mul_zero]
          omega
        · rw [place_text e]
          exact q _ (s1.trans hP.1)

theorem sIx_m1 (n d : Nat) : HT.sIx n d (some (-1)) = n - 1 := by
  show (if (-1 : Int) < 0 then ((-1 : Int) + (n : Int)).toNat else min (-1 : Int).toNat n) = n - 1
  rw [if_pos (by decide)]
  omega
theorem cut_last (ns : List Str) : cutV (ns.map V.str) none (some (-1)) = ns.dropLast.map V.str := by
  unfold cutV
  rw [HT.sIx_none, List.drop_zero, List.dropLast_eq_take, List.map_take, sIx_m1, List.length_map]
  rfl
/-- names[:-1] -/
theorem sl_last {K : PySem.W.Frag} {H : Hp} {Q : VK} {t : Addr} {ns : List Str} (h : TupAt H t ns) (q : QT H ns.dropLast Q) : rSlA K (.ref t) none (some (-1)) H Q := by
  refine ⟨t, _, rfl, h.sq, fun hw => ?_, fun _ p hp => ?_⟩
  · have e : ns = [] := by
      have h2 := hw.2
      rw [sIx_m1, List.length_map] at h2
      cases ns with
      | nil => rfl
      | cons a r => rw [List.length_cons] at h2; omega
    subst e
    exact q t H (Same.refl _) h
  · refine q p _ (same_upd hp) ?_
    unfold TupAt
    rw [upd_same, cut_last]

theorem scNamesAfter : FnScope ["before", "string", "found", "part"] ["before", "string"] (defScope sNamesAfter) := ⟨rfl, rfl, rfl, by decide +kernel, rfl, by decide +kernel, by decide +kernel⟩
theorem ok_namesAfter {f : Addr} {fd : FuncData} (F : Fun K "names_after" "names_after" sNamesAfter f fd) (G : Gd P w K mg base 1 "is_name" ["value"] spIsName) : FnOk P w K mg base CX0 2 f fd ["before", "string"] spNamesAfter := by
  refine F.ok scNamesAfter (fun vs H Q E h => ?_) (fun cdv A outer s H vs Q E hr h => ?_)
  · obtain ⟨t, z, ps, ns, rfl, _⟩ := h
    rfl
  · obtain ⟨t, z, ps, ns, rfl, ht, R, q⟩ := h
    refine ⟨_, pss_cons (ps_set (i := 2) scNamesAfter.nd rfl (Or.inl rfl) (pv 0)) (pss_cons (ps_for PassesOwn.never rfl (pi_list (pe_split (pv 1) pe_str)) (pg_name (i := 3) scNamesAfter.nd rfl (Or.inl rfl))
        (pss_one (ps_if (pt_cmpR op_eq (pv 3) pe_str (nomark _)) (pss_one (ps_set (i := 2) scNamesAfter.nd rfl (Or.inl rfl) (pe_slice sl_tupA (pv 2) po_none (po_some (pe_un un_neg pe_int)))))
          (pss_one (ps_if (pt_val (pe_gd G hr (by rfl) (pa_cons (pv 3) pa_nil))) (pss_one (ps_set (i := 2) scNamesAfter.nd rfl (Or.inl rfl) (pe_tup (StX.pa_star (pv 2) (pa_cons (pv 3) pa_nil)))))
            (pss_one (ps_if (pt_cmpR op_notIn_seq (pv 3) (pe_tup (pa_cons pe_str (pa_cons pe_str pa_nil))) (by rfl)) (pss_one (ps_ret pe_non)) pss_nil)))))))
      (pss_one (ps_ret (pv 2)))), ?_⟩
    refine ⟨_, rfl, _, rfl, ⟨_, rfl⟩, _, _, rfl, rfl, by decide +kernel, ?_, fun L hL => ?_⟩
    · have := R.len
      exact line_smallE (by omega)
    · rw [show Txt.split z "/" = ps from R.split]
      have s0 : Same H (upd H L (.lst (ps.map V.str))) := same_upd hL
      refine ⟨L, rfl, ⟨_, SqL.of upd_same⟩, for_list (K := K) (a := L) (xs := ps.map V.str) (fun i σ H' => ∃ (u : Addr) (fs : List Str) (v : Option V), σ = [some (.ref t), some (.str z), some (.ref u), v] ∧ Same (upd H L (.lst (ps.map V.str))) H' ∧ TupAt H' u fs ∧ fs.length ≤ i ∧ fold fs (ps.drop i) = some ns)
        ⟨t, [], none, rfl, Same.refl _, ht.up s0, Nat.le_refl _, R.to⟩ (fun i σ H' _ ⟨_, _, _, _, sm, _⟩ => SqL.of (sm _ _ upd_same)) ?_ ?_⟩
      · rintro i y σ H' hy ⟨u, fs, v, rfl, sm, hu, hfl, hf⟩
        obtain ⟨p, hp, rfl⟩ := map_at hy
        have hi : i < ps.length := (List.getElem?_eq_some_iff.mp hp).1
        have hd : ps.drop i = p :: ps.drop (i + 1) := by
          rw [List.drop_eq_getElem_cons hi]
          congr 1
          exact (List.getElem?_eq_some_iff.mp hp).2
        have hpl : p.length ≤ 3 := R.each p (List.mem_of_getElem? hp)
        have hcnt := R.cnt
        rw [hd, fold] at hf
        refine ⟨_, rfl, rfl, _, rfl, ?_⟩
        by_cases e1 : p = ".."
        · rw [if_pos e1] at hf
          refine iteE (decide_eq_true (by rw [e1])) ?_
          refine ⟨_, rfl, _, rfl, _, rfl, sl_last hu fun u2 H2 s2 h2 => ?_⟩
          exact ⟨u2, fs.dropLast, _, rfl, sm.trans s2, h2, by rw [List.length_dropLast]; omega, hf⟩
        · rw [if_neg e1] at hf
          refine iteG (decide_eq_false fun z => e1 (by injection z)) ?_
          refine ⟨_, rfl, p, rfl, by omega, fun H2 s2 => ⟨_, rfl, ?_⟩⟩
          by_cases e2 : isName p = true
          · rw [if_pos e2] at hf
            refine iteE e2 ?_
            refine ⟨_, rfl, u, _, rfl, .inl (hu.up s2).sq, _, rfl, ?_, fun u2 h2 => ?_⟩
            · rw [List.length_append, List.length_map]
              exact line_smallE (by show fs.length + 1 ≤ 1000; omega)
            · refine ⟨u2, fs ++ [p], _, rfl, sm.trans (s2.trans (same_upd h2)), ?_, by rw [List.length_append]; show fs.length + 1 ≤ _; omega, hf⟩
              unfold TupAt
              rw [upd_same, List.map_append]
              rfl
          · rw [if_neg e2] at hf
            refine iteG (by simpa using e2) ?_
            refine ⟨_, rfl, (by decide), fun u2 h2 => ?_⟩
            refine ⟨_, _, rfl, .inr (SqT.of upd_same), rfl, rfl, _, rfl, ?_⟩
            rw [if_pos rfl, inV_two]
            split at hf
            case isTrue e3 =>
              refine iteG (by rcases e3 with e3 | e3 <;> simp [e3]) ?_
              exact ⟨u, fs, _, rfl, sm.trans (s2.trans (same_upd h2)), (hu.up s2).up (same_upd h2), by omega, hf⟩
            case isFalse => cases hf
      · rintro σ H' ⟨u, fs, v, rfl, sm, hu, hfl, hf⟩
        rw [List.length_map, List.drop_length, fold] at hf
        cases hf
        exact ⟨_, rfl, q u H' (s0.trans sm) hu⟩
end
end Fl

namespace Fl
open PySem L2 TL
abbrev sPath : Stmt := top 17
abbrev sInit : Stmt := inClass sPath 1
abbrev sParse : Stmt := inClass sPath 2
/-- a Path stands at p; its names -/
def PathAt (C : Addr) (H : Hp) (p : Addr) (ns : List Str) : Prop := ∃ dx t, H p = some (.ins C dx [("names", .ref t)]) ∧ TupAt H t ns ∧ Good ns
theorem PathAt.up {C : Addr} {H H' : Hp} {p : Addr} {ns : List Str} (h : PathAt C H p ns) (s : Same H H') : PathAt C H' p ns := by
  obtain ⟨dx, t, h1, h2, h3⟩ := h
  exact ⟨dx, t, s _ _ h1, h2.up s, h3⟩
theorem PathAt.good {C : Addr} {H : Hp} {p : Addr} {ns : List Str} (h : PathAt C H p ns) : Good ns := by
  obtain ⟨_, _, _, _, h3⟩ := h
  exact h3
theorem PathAt.inj {C : Addr} {H : Hp} {p : Addr} {ns ms : List Str} (h : PathAt C H p ns) (k : PathAt C H p ms) : ns = ms := by
  obtain ⟨dx, t, h1, h2, h3⟩ := h
  obtain ⟨dy, u, k1, k2, k3⟩ := k
  rw [h1] at k1
  cases k1
  have e : some (HO.tup (ns.map V.str)) = some (HO.tup (ms.map V.str)) := h2.symm.trans k2
  have e2 : ns.map V.str = ms.map V.str := by injection e with e; injection e
  exact List.map_inj_right (fun a b h => by injection h) |>.mp e2
/-- the answer is a path of ns -/
def QP (C : Addr) (H : Hp) (ns : List Str) (Q : VK) : Prop := ∀ p H', Same H H' → PathAt C H' p ns → Q (.ref p) H'
def spInit (C : Addr) : Sp := fun vs H Q _ => ∃ p dx ns, vs = .ref p :: ns.map V.str ∧ H p = some (.ins C dx []) ∧ Good ns ∧ ∀ H' t, H' p = some (.ins C dx [("names", .ref t)]) → TupAt H' t ns → (∀ b o, b ≠ p → H b = some o → H' b = some o) → Q .non H'
def spInit1 (C : Addr) : Sp := fun vs H Q _ => ∃ p dx t ns, vs = [.ref p, .ref t] ∧ H p = some (.ins C dx []) ∧ TupAt H t ns ∧ Good ns ∧ ∀ H' t, H' p = some (.ins C dx [("names", .ref t)]) → TupAt H' t ns → (∀ b o, b ≠ p → H b = some o → H' b = some o) → Q .non H'
def spParse (C : Addr) : Sp := fun vs H Q _ => ∃ s ps ns, vs = [.ref C, .str s] ∧ Reads s ps ns ∧ QP C H ns Q

section
variable {P : Program} {w : World} {K : PySem.W.Frag} {mg : Str → Option Value} {base : Heap} {C : Addr}
theorem mk_path {ns : List Str} {H : Hp} {Q : VK} (g : Good ns) (q : QP C H ns Q) : mkP C (spInit C) (ns.map V.str) H Q := by
  intro x dx nx nd ne
  refine ⟨x, dx, ns, rfl, upd_same, g, fun H' t h1 h2 hk => ⟨rfl, ?_⟩⟩
  exact q x H' (fun b o e => hk b o (ne_of_none e nx) (by rw [upd_ne (ne_of_none e nx), upd_ne (ne_of_none e nd)]; exact e)) ⟨dx, t, h1, h2, g⟩

theorem scNamesIn : FnScope ["value", "found"] ["value"] (defScope sNamesIn) := ⟨rfl, rfl, rfl, by decide +kernel, rfl, by decide +kernel, by decide +kernel⟩
theorem cut_head {s : Str} {z : List Nat} (h : tl s = 47 :: z) : L2.cutS s none (some 1) = "/" := by
  unfold L2.cutS
  refine ext_tl ?_
  have hl : s.length = z.length + 1 := by rw [len_tl, h, List.length_cons]
  rw [HT.sIx_none, show (some (1 : Int)) = some ((1 : Nat) : Int) from rfl, HT.sIx_nat, hl]
  have e : s.cps.toList = 47 :: z := h
  rw [e, List.drop_zero]
  have m : min 1 (z.length + 1) - 0 = 1 := by omega
  rw [m]
  exact tl_sl.symm
theorem ok_namesIn {f : Addr} {fd : FuncData} (F : Fun K "names_in" "names_in" sNamesIn f fd) (T : TX K mg C) (G : Gd P w K mg base 2 "names_after" ["before", "string"] spNamesAfter) : FnOk P w K mg base CX0 3 f fd ["value"] spNamesIn := by
  refine F.ok scNamesIn (fun vs H Q E h => ?_) (fun cdv A outer s H vs Q E hr h => ?_)
  · obtain ⟨z, ps, ns, rfl, _⟩ := h
    rfl
  · obtain ⟨z, ps, ns, rfl, R, q⟩ := h
    obtain ⟨tp, hp⟩ := T.cPa
    obtain ⟨tn, hn⟩ := T.cNs
    refine ⟨_, pss_cons (ps_if (PW.pt (pw_or (pt_not (pt_val (pe_callB call_isi (by rfl) T.bIsi (by decide +kernel) (pa_cons (pv 0) (pa_cons (pe_bltn (v := .ty "str") (by rfl) T.bStr (by decide +kernel) rfl) pa_nil)))))
      (pw_or (pt_cmpR op_gt (pe_callB call_len_str (by rfl) T.bLen (by decide +kernel) (pa_cons (pv 0) pa_nil)) (pe_glob (v := .int 200) rfl hp ⟨_, rfl⟩) (nomark _))
       (pw_or1 (pt_cmpR op_ne (pe_slice sl_str (pv 0) po_none (po_some pe_int)) pe_str (nomark _)))))) (pss_one (ps_ret pe_non)) pss_nil)
      (pss_cons (ps_set (i := 1) scNamesIn.nd rfl (Or.inl rfl) (pe_gd G hr (by rfl) (pa_cons (pe_tup pa_nil) (pa_cons (pv 0) pa_nil))))
      (pss_one (ps_ret (pe_ifExp (PW.pt (pw_and (pt_cmpR op_notN (pv 1) pe_non (nomark _)) (pw_and1 (pt_cmpR op_le (pe_callB call_len (by rfl) T.bLen (by decide +kernel) (pa_cons (pv 1) pa_nil)) (pe_glob (v := .int 12) rfl hn ⟨_, rfl⟩) (nomark _))))) (pv 1) pe_non)))), ?_⟩
    obtain ⟨hz, hh⟩ := R.head
    have hl := R.len
    refine ⟨_, rfl, _, _, _, _, _, rfl, .ty "str", .base (.str z), kit_ty (r := true) (by decide +kernel), _, rfl, ?_⟩
    refine iteF ?_
    refine ⟨_, rfl, _, rfl, line_smallE (by omega), _, _, rfl, rfl, _, rfl, ?_⟩
    refine iteG (decide_eq_false (by omega)) ?_
    refine ⟨_, rfl, _, rfl, _, rfl, line_smallE (by omega), ?_⟩
    refine ⟨rfl, _, rfl, ?_⟩
    refine iteG (by rw [cut_head hh, decide_eq_true rfl]; rfl) ?_
    refine ⟨Nat.zero_le _, fun e he => ?_⟩
    refine ⟨_, rfl, e, z, ps, ns, rfl, upd_same, R, fun t H2 s2 h2 => ?_⟩
    have s3 : Same H H2 := (same_upd he).trans s2
    refine ⟨_, rfl, rfl, _, rfl, ?_⟩
    refine iteE rfl ?_
    refine ⟨_, rfl, _, _, rfl, .inr ⟨_, h2.sq, rfl⟩, _, _, rfl, rfl, _, rfl, ?_⟩
    have := R.good.2
    refine iteE (decide_eq_true (by rw [List.length_map]; omega)) ?_
    exact ⟨_, rfl, q t H2 s3 h2⟩

theorem scNameParts : FnScope ["name", "spot"] ["name"] (defScope sNameParts) := ⟨rfl, rfl, rfl, by decide +kernel, rfl, by decide +kernel, by decide +kernel⟩
theorem parts_a (x : Str) (h : x = "" ∨ x = "a" ∨ x = "b") : ¬ ((0 : Int) < Txt.rfind x "." ∧ Txt.rfind x "." < (x.length : Int) - 1) ∧ stemOf x = x ∧ sufOf x = "" := by
  rcases h with h | h | h <;> subst h <;> decide +kernel
theorem parts_b : ((0 : Int) < Txt.rfind "a.b" "." ∧ Txt.rfind "a.b" "." < (("a.b" : Str).length : Int) - 1) ∧ L2.cutS "a.b" none (some (Txt.rfind "a.b" ".")) = stemOf "a.b" ∧ L2.cutS "a.b" (some (Txt.rfind "a.b" ".")) none = sufOf "a.b" := by decide +kernel
theorem ok_nameParts {f : Addr} {fd : FuncData} (F : Fun K "name_parts" "name_parts" sNameParts f fd) (T : TX K mg C) : FnOk P w K mg base CX0 1 f fd ["name"] spNameParts := by
  refine F.ok scNameParts (fun vs H Q E h => ?_) (fun cdv A outer s H vs Q E hr h => ?_)
  · obtain ⟨x, rfl, _⟩ := h
    rfl
  · obtain ⟨x, rfl, hx, q⟩ := h
    refine ⟨_, pss_cons (ps_set (i := 1) scNameParts.nd rfl (Or.inl rfl) (pe_m1 PySem.F.slot_str_rfind PySem.F.type_str_rfind mt_rfind (pv 0) pe_str))
      (pss_one (ps_ret (pe_ifExp (pt_chain op_lt op_lt pe_int (pv 1) (pe_op op_sub (pe_callB call_len_str (by rfl) T.bLen (by decide +kernel) (pa_cons (pv 0) pa_nil)) pe_int))
        (pe_tup (pa_cons (pe_slice sl_str (pv 0) po_none (po_some (pv 1))) (pa_cons (pe_slice sl_str (pv 0) (po_some (pv 1)) po_none) pa_nil))) (pe_tup (pa_cons (pv 0) (pa_cons pe_str pa_nil)))))), ?_⟩
    refine ⟨_, rfl, ⟨_, rfl⟩, _, _, rfl, rfl, ?_⟩
    have hl : x.length ≤ 3 := by
      rcases hx with rfl | hx
      · decide +kernel
      · exact (nm_len hx).2
    have fin : ∀ a b : Str, stemOf x = a → sufOf x = b → ∀ u, H u = Option.none → Q (.ref u) (upd H u (.tup [.str a, .str b])) := fun a b ea eb u hu => by
      rw [ea, eb] at q
      exact q u _ (same_upd hu) upd_same
    refine ⟨_, rfl, _, _, rfl, rfl, _, rfl, ?_⟩
    have rest : (¬ ((0 : Int) < Txt.rfind x "." ∧ Txt.rfind x "." < (x.length : Int) - 1) ∧ stemOf x = x ∧ sufOf x = "") ∨ x = "a.b" := by
      rcases hx with h | h | h | h
      · exact .inl (parts_a x (.inl h))
      · exact .inl (parts_a x (.inr (.inl h)))
      · exact .inl (parts_a x (.inr (.inr h)))
      · exact .inr h
    by_cases h0 : (0 : Int) < Txt.rfind x "."
    · refine iteE (decide_eq_true h0) ?_
      refine ⟨_, rfl, _, rfl, line_smallE (by omega), _, _, rfl, rfl, _, _, rfl, rfl, _, rfl, ?_⟩
      by_cases h1 : Txt.rfind x "." < (x.length : Int) - 1
      · refine iteE (decide_eq_true h1) ?_
        rcases rest with rest | rest
        · exact (rest.1 ⟨h0, h1⟩).elim
        · refine ⟨_, rfl, _, rfl, _, rfl, _, rfl, line_smallE (by omega), ?_⟩
          refine ⟨_, rfl, _, rfl, _, rfl, _, rfl, line_smallE (by omega), (by show 2 ≤ sizeLine; decide), fun u hu => ?_⟩
          subst rest
          exact fin _ _ parts_b.2.1.symm parts_b.2.2.symm u hu
      · refine iteG (decide_eq_false h1) ?_
        rcases rest with rest | rest
        · exact ⟨_, rfl, (by show 2 ≤ sizeLine; decide), fun u hu => fin _ _ rest.2.1 rest.2.2 u hu⟩
        · subst rest
          exact (h1 parts_b.1.2).elim
    · refine iteG (decide_eq_false h0) ?_
      refine ⟨_, rfl, ?_⟩
      refine iteF ?_
      rcases rest with rest | rest
      · exact ⟨_, rfl, (by show 2 ≤ sizeLine; decide), fun u hu => fin _ _ rest.2.1 rest.2.2 u hu⟩
      · subst rest
        exact (h0 parts_b.1.1).elim
end
end Fl

namespace Fl
open PySem L2 TL
section
variable {P : Program} {w : World} {K : PySem.W.Frag} {mg : Str → Option Value} {base : Heap} {C : Addr}
theorem putN (t : Addr) : putF "names" (.ref t) [] = ([("names", V.ref t)] : List (Str × V)) := rfl
theorem scInit : FnScope ["self", "names", "name"] (([("self" : Str)] : List Str) ++ [("names" : Str)]) (defScope sInit) := ⟨rfl, rfl, rfl, by decide +kernel, rfl, by decide +kernel, by decide +kernel⟩
theorem ok_init {f : Addr} {fd : FuncData} (F : Fun K "__init__" "Path.__init__" sInit f fd) (T : TX K mg C) (G : Gd P w K mg base 1 "is_name" ["value"] spIsName) : FnR P w K mg base CX0 2 f (spInit C) := by
  obtain ⟨oc, od, kV, doc, pm, an, cdv, ct, osl, rfl, lk, hcd⟩ := F.ex
  have Z := StX.fn_star (P := P) (w := w) (mg := mg) (base := base) (CX := CX0) (k := 1) (sp := spInit1 C) (ps := ["self"]) (pv := "names") lk hcd scInit StX.cxUp_none
    (StX.bind_star1 (B := fun us => bindArgs (PySem.W.fnOf "__init__" "Path.__init__" (defArgs sInit) (defBody sInit) (defScope sInit) .none kV doc pm an cdv ct) ⟨us, []⟩) (fun _ => rfl) (fun _ _ _ => rfl))
    fun A outer s H vs Q E hr hsp => by
      obtain ⟨p, dx, t, ns, rfl, hp, ht, g, k⟩ := hsp
      obtain ⟨tn, hn⟩ := T.cNs
      refine ⟨_, pss_cons (ps_if (pt_not (pt_val (pe_callB (cr_all rfl) (by rfl) T.bAll (by decide +kernel) (pa_cons (pe_lc (own := [("name", 2)]) (g := gName 2) (tt := tYes) (by rfl) scInit.nd (pi_tup (pv 1)) (blkOk_by (N := ["self", "names", "name"]) (sc := defScope sInit) (by decide +kernel))
          (fun _ _ _ _ _ => pg_name (i := 2) scInit.nd rfl (Or.inl rfl)) (fun _ _ _ _ _ => pts_nil) (fun _ _ _ _ _ => pe_gd G hr (by rfl) (pa_cons (pv 2) pa_nil))) pa_nil)))) (pss_one ps_never) pss_nil)
        (pss_cons (ps_if (pt_cmpR op_gt (pe_callB call_len (by rfl) T.bLen (by decide +kernel) (pa_cons (pv 1) pa_nil)) (pe_glob (v := .int 12) rfl hn ⟨_, rfl⟩) (nomark _)) (pss_one ps_never) pss_nil)
          (pss_one (ps_fld (pv 0) (pv 1) rfl))), ?_⟩
      refine ⟨_, rfl, t, rfl, ⟨_, ht.sq⟩, fun D hD => lc_tup (K := K) (a := t) (xs := ns.map V.str) (fun i H' => Same H H' ∧ H' D = some (.lst ((ns.take i).map fun _ => V.bl true))) ⟨same_upd hD, upd_same⟩
        (fun i H' _ hP => (ht.up hP.1).sq) (fun i x H' hx hP => ?_) fun H' hP => ?_⟩
      · obtain ⟨n, hN, rfl⟩ := map_at hx
        have nm := g.1 n (List.mem_of_getElem? hN)
        refine ⟨rfl, yes_ ?_⟩
        refine ⟨_, rfl, n, rfl, by have := (nm_len nm).2; omega, fun H2 s2 => ⟨_, s2 _ _ hP.2, ?_, same_over (hP.1.trans s2) hD, ?_⟩⟩
        · rw [List.length_map, List.length_take]
          exact line_small (by have := g.2; omega)
        · rw [upd_same, List.take_add_one, hN, List.map_append, name_nm nm]
          rfl
      · rw [List.length_map, List.take_length] at hP
        refine ⟨D, ns.map fun _ => true, rfl, SqL.of (by rw [hP.2, List.map_map]; rfl), _, rfl, ?_⟩
        have e1 : (ns.map fun _ => true).all id = true := by
          rw [List.all_map]; exact List.all_eq_true.mpr fun _ _ => rfl
        refine iteG (by rw [e1]; rfl) ?_
        refine ⟨_, rfl, _, _, rfl, .inr ⟨_, (ht.up hP.1).sq, rfl⟩, _, _, rfl, rfl, _, rfl, ?_⟩
        have gl := g.2
        refine iteG (decide_eq_false (by rw [List.length_map]; omega)) ?_
        refine ⟨_, rfl, _, rfl, p, C, dx, [], rfl, hP.1 _ _ hp, T.cl, T.nN, (by show 0 < 1000; decide), ?_⟩
        refine k _ t (by rw [upd_same, putN]) ?_ fun b o hb e => by rw [upd_ne hb]; exact hP.1 _ _ e
        have ne : t ≠ p := ne_of ht hp (by intro q; cases q)
        show upd _ _ _ t = _
        rw [upd_ne ne]
        exact ht.up hP.1
  refine FnR.imp Z fun vs H Q E h => ?_
  obtain ⟨p, dx, ns, rfl, hp, g, k⟩ := h
  refine ⟨[.ref p], ns.map V.str, rfl, rfl, by rw [List.length_map]; exact line_smallE (by have := g.2; omega), fun t ht => ?_⟩
  have s1 := same_upd (o := .tup (ns.map V.str)) ht
  exact ⟨p, dx, t, ns, rfl, s1 _ _ hp, upd_same, g, fun H' t' h1 h2 h3 => k H' t' h1 h2 fun b o hb e => h3 b o hb (s1 _ _ e)⟩

/-- the class makes its instances -/
structure MkP (P : Program) (w : World) (K : PySem.W.Frag) (mg : Str → Option Value) (base : Heap) (C : Addr) : Prop where
  ex : ∃ f, Mk K C f ∧ FnR P w K mg base CX0 2 f (spInit C)
theorem scParse : FnScope ["cls", "string", "names"] ["cls", "string"] (defScope sParse) := ⟨rfl, rfl, rfl, by decide +kernel, rfl, by decide +kernel, by decide +kernel⟩
theorem ok_parse {f : Addr} {fd : FuncData} (F : Fun K "parse" "Path.parse" sParse f fd) (M : MkP P w K mg base C) (G : Gd P w K mg base 3 "names_in" ["value"] spNamesIn) : FnOk P w K mg base CX0 4 f fd ["cls", "string"] (spParse C) := by
  refine F.ok scParse (fun vs H Q E h => ?_) (fun cdv A outer s H vs Q E hr h => ?_)
  · obtain ⟨z, ps, ns, rfl, _⟩ := h
    rfl
  · obtain ⟨z, ps, ns, rfl, R, q⟩ := h
    obtain ⟨fi, MK, FI⟩ := M.ex
    refine ⟨_, pss_cons (ps_set (i := 2) scParse.nd rfl (Or.inl rfl) (pe_gd G hr (by rfl) (pa_cons (pv 1) pa_nil))) (pss_cons (ps_if (pt_cmpR op_isN (pv 2) pe_non (nomark _)) (pss_one ps_never) pss_nil) (pss_one (ps_ret (pe_mkS1 MK FI hr (pv 0) (pv 2))))), ?_⟩
    refine ⟨_, rfl, z, ps, ns, rfl, R, fun t H2 s2 h2 => ?_⟩
    refine ⟨_, rfl, rfl, _, rfl, ?_⟩
    refine iteF ?_
    exact ⟨_, rfl, rfl, _, rfl, t, _, rfl, h2.sq, mk_path R.good fun p H' s3 hp => q p H' (s2.trans s3) hp⟩
end
end Fl

namespace Fl
open PySem L2 TL
abbrev sText : Stmt := inClass sPath 3
abbrev sParent : Stmt := inClass sPath 4
abbrev sName : Stmt := inClass sPath 5
abbrev sStem : Stmt := inClass sPath 6
abbrev sSuffix : Stmt := inClass sPath 7
abbrev sFdiv : Stmt := inClass sPath 8
abbrev sEq : Stmt := inClass sPath 9
abbrev sLen : Stmt := inClass sPath 10
abbrev sItem : Stmt := inClass sPath 11
abbrev sHas : Stmt := inClass sPath 12
abbrev sBelow : Stmt := inClass sPath 14
abbrev sAfter : Stmt := inClass sPath 15
abbrev sPathOf : Stmt := top 18

/-- a method, a property, a classmethod of the class, with its promise -/
structure Cm (P : Program) (w : World) (K : PySem.W.Frag) (mg : Str → Option Value) (base : Heap) (C : Addr) (k : Nat) (m : Str) (ps : List Str) (sp : Sp) : Prop where
  ex : ∃ f fd, Meth K C m f ∧ FnOk P w K mg base CX0 k f fd ps sp ∧ Binds K fd ps []
structure Cp (P : Program) (w : World) (K : PySem.W.Frag) (mg : Str → Option Value) (base : Heap) (C : Addr) (k : Nat) (m : Str) (sp : Sp) : Prop where
  ex : ∃ p g fd, PropOf K C m p g ∧ FnOk P w K mg base CX0 k g fd ["self"] sp ∧ Binds K fd ["self"] []
structure Cc (P : Program) (w : World) (K : PySem.W.Frag) (mg : Str → Option Value) (base : Heap) (C : Addr) (k : Nat) (m : Str) (sp : Sp) : Prop where
  ex : ∃ mc p g, ClX.CRead K C mc ∧ ClX.CMet K C mc m p g ∧ FnR P w K mg base CX0 k g sp
section
variable {X : Cx} {k : Nat} {C : Addr} {m : Str} {ps : List Str} {sp : Sp} {o e : Expr} {es : List Expr} {ta : TE} {t : TA} {apos pos : Pos}
theorem pe_cm {pl : Sem Bool} (he : PE X o ta) (c : Cls X.K C) (G : Cm X.prog X.w X.K X.mg X.base C k m ps sp) (hr : Room k X.A) (ha : PA X (e :: es) t)
    (hst : starEach (e :: es) X.env = (false, eval e X.env) :: starEach es X.env := by rfl) (hpl : (backTo pos (starEach es X.env)).any (·.1) = false := by rfl)
    (ht : eval (.Call (.Attribute o m apos) (e :: es) [] pos) X.env = (do
      let ov ← eval o X.env
      standAt apos.atName
      let (f, first) ← holding [ov] (getMethod ov m pl)
      callWith pos f first (backTo pos (starEach (e :: es) X.env)) (backToKw pos (keywordEach [] X.env))) := by rfl) :
    PE X (.Call (.Attribute o m apos) (e :: es) [] pos) (tMeth C m sp [] E0 ta t) := by
  obtain ⟨f, fd, hm, F, hb⟩ := G.ex
  exact pe_meth he c hm F hr hb .nil pass0 ha hst hpl ht
theorem pe_cp (he : PE X e ta) (c : Cls X.K C) (G : Cp X.prog X.w X.K X.mg X.base C k m sp) (hr : Room (k + 1) X.A) (hab : attributeBase e m X.env (eval e X.env) = eval e X.env := by rfl) : PE X (.Attribute e m pos) (tProp C sp [] E0 ta) := by
  obtain ⟨p, g, fd, hp, F, hb⟩ := G.ex
  exact pe_prop he c hp F hr hb .nil pass0 hab
theorem pe_cc {pl : Sem Bool} (he : PE X o ta) (G : Cc X.prog X.w X.K X.mg X.base C k m sp) (hr : Room k X.A) (ha : PA X (e :: es) t)
    (hst : starEach (e :: es) X.env = (false, eval e X.env) :: starEach es X.env := by rfl) (hpl : (backTo pos (starEach es X.env)).any (·.1) = false := by rfl)
    (ht : eval (.Call (.Attribute o m apos) (e :: es) [] pos) X.env = (do
      let ov ← eval o X.env
      standAt apos.atName
      let (f, first) ← holding [ov] (getMethod ov m pl)
      callWith pos f first (backTo pos (starEach (e :: es) X.env)) (backToKw pos (keywordEach [] X.env))) := by rfl) :
    PE X (.Call (.Attribute o m apos) (e :: es) [] pos) (ClX.tCMeth C sp E0 ta t) := by
  obtain ⟨mc, p, g, r, cm, F⟩ := G.ex
  exact ClX.pe_cmeth he r cm F hr pass0 ha hst hpl ht
end

def spText (C : Addr) : Sp := fun vs H Q _ => ∃ p ns, vs = [.ref p] ∧ PathAt C H p ns ∧ Qs H (.str (textOf ns)) Q
def spParent (C : Addr) : Sp := fun vs H Q _ => ∃ p ns, vs = [.ref p] ∧ PathAt C H p ns ∧ QP C H ns.dropLast Q
def spName (C : Addr) : Sp := fun vs H Q _ => ∃ p ns, vs = [.ref p] ∧ PathAt C H p ns ∧ Qs H (.str (lastOf ns)) Q
def spStem (C : Addr) : Sp := fun vs H Q _ => ∃ p ns, vs = [.ref p] ∧ PathAt C H p ns ∧ Qs H (.str (stemOf (lastOf ns))) Q
def spSuffix (C : Addr) : Sp := fun vs H Q _ => ∃ p ns, vs = [.ref p] ∧ PathAt C H p ns ∧ Qs H (.str (sufOf (lastOf ns))) Q
def spFdiv (C : Addr) : Sp := fun vs H Q _ => ∃ p ns x, vs = [.ref p, .str x] ∧ PathAt C H p ns ∧ Nm x ∧ ns.length < 12 ∧ QP C H (ns ++ [x]) Q
def spEq (C : Addr) : Sp := fun vs H Q _ => ∃ p q ns ms, vs = [.ref p, .ref q] ∧ PathAt C H p ns ∧ PathAt C H q ms ∧ Q (.bl (decide (ns = ms))) H
def spLen (C : Addr) : Sp := fun vs H Q _ => ∃ p ns, vs = [.ref p] ∧ PathAt C H p ns ∧ Q (.int (ns.length : Nat)) H
def spItem (C : Addr) : Sp := fun vs H Q _ => ∃ p ns i x, vs = [.ref p, .int ((i : Nat) : Int)] ∧ PathAt C H p ns ∧ ns[i]? = some x ∧ Q (.str x) H
def spHas (C : Addr) : Sp := fun vs H Q _ => ∃ p ns x, vs = [.ref p, .str x] ∧ PathAt C H p ns ∧ x.length ≤ 200 ∧ Qs H (.bl (isName x && decide (x ∈ ns))) Q
/-- a value that stands for a path -/
def PV (C : Addr) (H : Hp) (v : V) (ns : List Str) : Prop := (∃ p, v = .ref p ∧ PathAt C H p ns) ∨ ∃ z ps, v = .str z ∧ Reads z ps ns
theorem PV.good {C : Addr} {H : Hp} {v : V} {ns : List Str} (h : PV C H v ns) : Good ns := by
  rcases h with ⟨p, _, h⟩ | ⟨z, ps, _, h⟩
  · exact h.good
  · exact h.good
def spPathOf (C : Addr) : Sp := fun vs H Q _ => ∃ v ns, vs = [v] ∧ PV C H v ns ∧ QP C H ns Q
def spBelow (C : Addr) : Sp := fun vs H Q _ => ∃ p v ns ms, vs = [.ref p, v] ∧ PathAt C H p ns ∧ PV C H v ms ∧ Qs H (.bl (below ns ms)) Q
def spAfter (C : Addr) : Sp := fun vs H Q _ => ∃ p v ns ms, vs = [.ref p, v] ∧ PathAt C H p ns ∧ PV C H v ms ∧ ns.take ms.length = ms ∧ QT H (ns.drop ms.length) Q

section
variable {P : Program} {w : World} {K : PySem.W.Frag} {mg : Str → Option Value} {base : Heap} {C : Addr}
theorem scText : FnScope ["self"] ["self"] (defScope sText) := ⟨rfl, rfl, rfl, by decide +kernel, rfl, by decide +kernel, by decide +kernel⟩
theorem ok_text {f : Addr} {fd : FuncData} (F : Fun K "text" "Path.text" sText f fd) (T : TX K mg C) (G : Gd P w K mg base 1 "place_of" ["names"] spPlace) : FnOk P w K mg base CX0 2 f fd ["self"] (spText C) := by
  refine F.ok scText (fun vs H Q E h => ?_) (fun cdv A outer s H vs Q E hr h => ?_)
  · obtain ⟨p, ns, rfl, _⟩ := h
    rfl
  · obtain ⟨p, ns, rfl, ⟨dx, t, h1, h2, g⟩, q⟩ := h
    refine ⟨_, pss_one (ps_ret (pe_gd G hr (by rfl) (pa_cons (pe_fld (pv 0) rfl) pa_nil))), ?_⟩
    exact ⟨_, rfl, p, C, dx, _, _, rfl, h1, T.cl, T.nN, rfl, t, ns, rfl, h2, g, q⟩
theorem scParent : FnScope ["self", "names"] ["self"] (defScope sParent) := ⟨rfl, rfl, rfl, by decide +kernel, rfl, by decide +kernel, by decide +kernel⟩
theorem ok_parent {f : Addr} {fd : FuncData} (F : Fun K "parent" "Path.parent" sParent f fd) (T : TX K mg C) (M : MkP P w K mg base C) : FnOk P w K mg base CX0 4 f fd ["self"] (spParent C) := by
  refine F.ok scParent (fun vs H Q E h => ?_) (fun cdv A outer s H vs Q E hr h => ?_)
  · obtain ⟨p, ns, rfl, _⟩ := h
    rfl
  · obtain ⟨p, ns, rfl, ⟨dx, t, h1, h2, g⟩, q⟩ := h
    obtain ⟨fi, MK, FI⟩ := M.ex
    refine ⟨_, pss_cons (ps_set (i := 1) scParent.nd rfl (Or.inl rfl) (pe_slice sl_tupA (pe_fld (pv 0) rfl) po_none (po_some (pe_un un_neg pe_int)))) (pss_one (ps_ret (pe_mkS1 MK FI hr (pe_glob (v := .ref C) rfl T.mgP rfl) (pv 1)))), ?_⟩
    refine ⟨_, rfl, p, C, dx, _, _, rfl, h1, T.cl, T.nN, rfl, _, rfl, _, rfl, sl_last h2 fun u H2 s2 hu => ?_⟩
    exact ⟨rfl, _, rfl, u, _, rfl, hu.sq, mk_path g.dropLast fun p' H' s3 hp => q p' H' (s2.trans s3) hp⟩
theorem scName : FnScope ["self"] ["self"] (defScope sName) := ⟨rfl, rfl, rfl, by decide +kernel, rfl, by decide +kernel, by decide +kernel⟩
theorem at_last {ns : List Str} (h : ns ≠ []) : atI (ns.map V.str) (-1) = some (.str (lastOf ns)) := by
  have e : ns = ns.dropLast ++ [lastOf ns] := by
    unfold lastOf
    rw [List.getLastD_eq_getLast?, List.getLast?_eq_some_getLast h]
    exact (List.dropLast_concat_getLast h).symm
  have x := atI_last (ns.dropLast.map V.str) (.str (lastOf ns))
  have e2 : ns.dropLast.map V.str ++ [V.str (lastOf ns)] = ns.map V.str := by
    conv => rhs; rw [e]
    rw [List.map_append]
    rfl
  rw [e2] at x
  exact x
theorem ok_name {f : Addr} {fd : FuncData} (F : Fun K "name" "Path.name" sName f fd) (T : TX K mg C) : FnOk P w K mg base CX0 1 f fd ["self"] (spName C) := by
  refine F.ok scName (fun vs H Q E h => ?_) (fun cdv A outer s H vs Q E hr h => ?_)
  · obtain ⟨p, ns, rfl, _⟩ := h
    rfl
  · obtain ⟨p, ns, rfl, ⟨dx, t, h1, h2, g⟩, q⟩ := h
    refine ⟨_, pss_one (ps_ret (pe_ifExp (pt_cmpR (op_neD hr.units) (pe_fld (pv 0) rfl) (pe_tup pa_nil) (nomark _)) (pe_ix ix_tup (pe_fld (pv 0) rfl) (pe_un un_neg pe_int) (fun _ _ => rfl)) pe_str)), ?_⟩
    refine ⟨_, rfl, p, C, dx, _, _, rfl, h1, T.cl, T.nN, rfl, Nat.zero_le _, fun u hu => ?_⟩
    have s1 : Same H (upd H u (.tup [])) := same_upd hu
    refine ⟨_, _, (h2.up s1).dp, TupAt.dp (ns := []) upd_same, shaped_tup g.1, shaped_tup (fun _ h => by simp at h), _, rfl, ?_⟩
    rw [show PyData.eqv (.tuple (ns.map PyData.str)) (.tuple (([] : List Str).map PyData.str)) = decide (ns = []) from eqv_tup ns []]
    by_cases e : ns = []
    · refine iteG (by rw [decide_eq_true e]; rfl) ?_
      rw [e] at q
      exact q _ s1
    · refine iteE (by rw [decide_eq_false e]; rfl) ?_
      exact ⟨_, rfl, p, C, dx, _, _, rfl, s1 _ _ h1, T.cl, T.nN, rfl, _, rfl, t, _, _, _, rfl, rfl, (h2.up s1).sq, at_last e, q _ s1⟩
theorem scStem : FnScope ["self"] ["self"] (defScope sStem) := ⟨rfl, rfl, rfl, by decide +kernel, rfl, by decide +kernel, by decide +kernel⟩
theorem ok_stem {f : Addr} {fd : FuncData} (F : Fun K "stem" "Path.stem" sStem f fd) (T : TX K mg C) (N : Cp P w K mg base C 1 "name" (spName C)) (G : Gd P w K mg base 1 "name_parts" ["name"] spNameParts) : FnOk P w K mg base CX0 3 f fd ["self"] (spStem C) := by
  refine F.ok scStem (fun vs H Q E h => ?_) (fun cdv A outer s H vs Q E hr h => ?_)
  · obtain ⟨p, ns, rfl, _⟩ := h
    rfl
  · obtain ⟨p, ns, rfl, hp, q⟩ := h
    obtain ⟨dx, t, h1, h2, g⟩ := id hp
    refine ⟨_, pss_one (ps_ret (pe_ix ix_tup (pe_gd G (hr.mono (by decide)) (by rfl) (pa_cons (pe_cp (pv 0) T.cl N hr) pa_nil)) pe_int (fun _ _ => rfl))), ?_⟩
    refine ⟨_, rfl, p, dx, _, rfl, h1, p, ns, rfl, hp, fun H2 s2 => ⟨lastOf ns, rfl, last_cases g, fun u H3 s3 hu => ?_⟩⟩
    exact ⟨u, _, _, _, rfl, rfl, hu.sq, atI_nat (j := 0) rfl, q _ (s2.trans s3)⟩
theorem scSuffix : FnScope ["self"] ["self"] (defScope sSuffix) := ⟨rfl, rfl, rfl, by decide +kernel, rfl, by decide +kernel, by decide +kernel⟩
theorem ok_suffix {f : Addr} {fd : FuncData} (F : Fun K "suffix" "Path.suffix" sSuffix f fd) (T : TX K mg C) (N : Cp P w K mg base C 1 "name" (spName C)) (G : Gd P w K mg base 1 "name_parts" ["name"] spNameParts) : FnOk P w K mg base CX0 3 f fd ["self"] (spSuffix C) := by
  refine F.ok scSuffix (fun vs H Q E h => ?_) (fun cdv A outer s H vs Q E hr h => ?_)
  · obtain ⟨p, ns, rfl, _⟩ := h
    rfl
  · obtain ⟨p, ns, rfl, hp, q⟩ := h
    obtain ⟨dx, t, h1, h2, g⟩ := id hp
    refine ⟨_, pss_one (ps_ret (pe_ix ix_tup (pe_gd G (hr.mono (by decide)) (by rfl) (pa_cons (pe_cp (pv 0) T.cl N hr) pa_nil)) pe_int (fun _ _ => rfl))), ?_⟩
    refine ⟨_, rfl, p, dx, _, rfl, h1, p, ns, rfl, hp, fun H2 s2 => ⟨lastOf ns, rfl, last_cases g, fun u H3 s3 hu => ?_⟩⟩
    exact ⟨u, _, _, _, rfl, rfl, hu.sq, atI_nat (j := 1) rfl, q _ (s2.trans s3)⟩
theorem scFdiv : FnScope ["self", "name"] ["self", "name"] (defScope sFdiv) := ⟨rfl, rfl, rfl, by decide +kernel, rfl, by decide +kernel, by decide +kernel⟩
theorem ok_fdiv {f : Addr} {fd : FuncData} (F : Fun K "__floordiv__" "Path.__floordiv__" sFdiv f fd) (T : TX K mg C) (M : MkP P w K mg base C) : FnOk P w K mg base CX0 4 f fd ["self", "name"] (spFdiv C) := by
  refine F.ok scFdiv (fun vs H Q E h => ?_) (fun cdv A outer s H vs Q E hr h => ?_)
  · obtain ⟨p, ns, x, rfl, _⟩ := h
    rfl
  · obtain ⟨p, ns, x, rfl, ⟨dx, t, h1, h2, g⟩, nm, hl, q⟩ := h
    obtain ⟨fi, MK, FI⟩ := M.ex
    refine ⟨_, pss_one (ps_ret (pe_mkS2 MK FI hr (pe_glob (v := .ref C) rfl T.mgP rfl) (pe_fld (pv 0) rfl) (pv 1))), ?_⟩
    refine ⟨rfl, _, rfl, p, C, dx, _, _, rfl, h1, T.cl, T.nN, rfl, t, _, rfl, h2.sq, _, rfl, ?_⟩
    have z := mk_path (H := H) (g.app (Good.one nm) (by simp only [List.length_singleton]; omega)) q
    rw [List.map_append] at z
    exact z
theorem scEq : FnScope ["self", "other"] ["self", "other"] (defScope sEq) := ⟨rfl, rfl, rfl, by decide +kernel, rfl, by decide +kernel, by decide +kernel⟩
theorem ty_path {H : Hp} (T : TX K mg C) {p dx : Addr} {fs : List (Str × V)} (h : H p = some (.ins C dx fs)) : TyX K H (.ref p) (.ref C) := .base (.ins h T.cl T.cc T.cn T.ct T.cm)
theorem ok_eq {f : Addr} {fd : FuncData} (F : Fun K "__eq__" "Path.__eq__" sEq f fd) (T : TX K mg C) : FnOk P w K mg base CX0 1 f fd ["self", "other"] (spEq C) := by
  refine F.ok scEq (fun vs H Q E h => ?_) (fun cdv A outer s H vs Q E hr h => ?_)
  · obtain ⟨p, q, ns, ms, rfl, _⟩ := h
    rfl
  · obtain ⟨p, r, ns, ms, rfl, ⟨dx, t, h1, h2, g⟩, ⟨dy, u, k1, k2, g2⟩, q⟩ := h
    refine ⟨_, pss_one (ps_ret (pe_and (pe_callB call_isi (by rfl) T.bIsi (by decide +kernel) (pa_cons (pv 1) (pa_cons (pe_glob (v := .ref C) rfl T.mgP rfl) pa_nil))) (pe_one (pe_cmpR (op_eqD hr.units) (pe_fld (pv 0) rfl) (pe_fld (pv 1) rfl) (nomark _))))), ?_⟩
    refine ⟨_, rfl, _, _, _, _, _, rfl, .own C, ty_path T k1, T.kII, _, rfl, ?_⟩
    refine iteT ?_
    refine ⟨_, rfl, p, C, dx, _, _, rfl, h1, T.cl, T.nN, rfl, _, rfl, r, C, dy, _, _, rfl, k1, T.cl, T.nN, rfl, _, _, h2.dp, k2.dp, shaped_tup g.1, shaped_tup g2.1, ?_⟩
    rw [eqv_tup]
    exact q
theorem scLen : FnScope ["self"] ["self"] (defScope sLen) := ⟨rfl, rfl, rfl, by decide +kernel, rfl, by decide +kernel, by decide +kernel⟩
theorem ok_len {f : Addr} {fd : FuncData} (F : Fun K "__len__" "Path.__len__" sLen f fd) (T : TX K mg C) : FnOk P w K mg base CX0 1 f fd ["self"] (spLen C) := by
  refine F.ok scLen (fun vs H Q E h => ?_) (fun cdv A outer s H vs Q E hr h => ?_)
  · obtain ⟨p, ns, rfl, _⟩ := h
    rfl
  · obtain ⟨p, ns, rfl, ⟨dx, t, h1, h2, g⟩, q⟩ := h
    refine ⟨_, pss_one (ps_ret (pe_callB call_len (by rfl) T.bLen (by decide +kernel) (pa_cons (pe_fld (pv 0) rfl) pa_nil))), ?_⟩
    refine ⟨_, rfl, p, C, dx, _, _, rfl, h1, T.cl, T.nN, rfl, _, _, rfl, .inr ⟨_, h2.sq, rfl⟩, ?_⟩
    rw [List.length_map]
    exact q
end
end Fl

namespace Fl
open PySem L2 TL
section
variable {P : Program} {w : World} {K : PySem.W.Frag} {mg : Str → Option Value} {base : Heap} {C : Addr}
theorem scItem : FnScope ["self", "k"] ["self", "k"] (defScope sItem) := ⟨rfl, rfl, rfl, by decide +kernel, rfl, by decide +kernel, by decide +kernel⟩
theorem ok_item {f : Addr} {fd : FuncData} (F : Fun K "__getitem__" "Path.__getitem__" sItem f fd) (T : TX K mg C) (G : Gd P w K mg base 1 "is_integer" ["value", "low", "high"] spIsInt) : FnOk P w K mg base CX0 2 f fd ["self", "k"] (spItem C) := by
  refine F.ok scItem (fun vs H Q E h => ?_) (fun cdv A outer s H vs Q E hr h => ?_)
  · obtain ⟨p, ns, i, x, rfl, _⟩ := h
    rfl
  · obtain ⟨p, ns, i, x, rfl, ⟨dx, t, h1, h2, g⟩, hi, q⟩ := h
    have hlt : i < ns.length := (List.getElem?_eq_some_iff.mp hi).1
    refine ⟨_, pss_cons (ps_if (pt_not (pt_val (pe_gd G hr (by rfl) (pa_cons (pv 1) (pa_cons pe_int (pa_cons (pe_op op_sub (pe_callB call_len (by rfl) T.bLen (by decide +kernel) (pa_cons (pe_fld (pv 0) rfl) pa_nil)) pe_int) pa_nil)))))) (pss_one ps_never) pss_nil)
      (pss_one (ps_ret (pe_ix ix_tup (pe_fld (pv 0) rfl) (pv 1) (fun _ _ => rfl)))), ?_⟩
    refine ⟨_, rfl, _, rfl, p, C, dx, _, _, rfl, h1, T.cl, T.nN, rfl, _, _, rfl, .inr ⟨_, h2.sq, rfl⟩, _, _, rfl, rfl, _, _, _, rfl, _, rfl, ?_⟩
    refine iteG (by rw [List.length_map, decide_eq_true (by omega), decide_eq_true (by omega)]; rfl) ?_
    exact ⟨_, rfl, p, C, dx, _, _, rfl, h1, T.cl, T.nN, rfl, _, rfl, t, _, _, _, rfl, rfl, h2.sq, atI_nat (j := i) (by rw [List.getElem?_map, hi]; rfl), q⟩
theorem scHas : FnScope ["self", "name"] ["self", "name"] (defScope sHas) := ⟨rfl, rfl, rfl, by decide +kernel, rfl, by decide +kernel, by decide +kernel⟩
theorem inV_strs (x : Str) : ∀ ns : List Str, inV (.str x) (ns.map V.str) = decide (x ∈ ns)
  | [] => by simp [inV]
  | n :: ns => by
    have i := inV_strs x ns
    unfold inV at i ⊢
    rw [List.map_cons, List.any_cons, i]
    by_cases e : x = n
    · subst e; simp [eqV]
    · simp [eqV, e, Ne.symm e]
theorem flat_strs (ns : List Str) : (ns.map V.str).all flatV = true := by
  rw [List.all_map]
  exact List.all_eq_true.mpr fun _ _ => rfl
theorem ok_has {f : Addr} {fd : FuncData} (F : Fun K "__contains__" "Path.__contains__" sHas f fd) (T : TX K mg C) (G : Gd P w K mg base 1 "is_name" ["value"] spIsName) : FnOk P w K mg base CX0 2 f fd ["self", "name"] (spHas C) := by
  refine F.ok scHas (fun vs H Q E h => ?_) (fun cdv A outer s H vs Q E hr h => ?_)
  · obtain ⟨p, ns, x, rfl, _⟩ := h
    rfl
  · obtain ⟨p, ns, x, rfl, ⟨dx, t, h1, h2, g⟩, hx, q⟩ := h
    refine ⟨_, pss_one (ps_ret (pe_and (pe_gd G hr (by rfl) (pa_cons (pv 1) pa_nil)) (pe_one (pe_cmpR op_in_seq (pv 1) (pe_fld (pv 0) rfl) (by rfl))))), ?_⟩
    refine ⟨_, rfl, x, rfl, hx, fun H2 s2 => ⟨_, rfl, ?_⟩⟩
    cases e : isName x with
    | false =>
      rw [e] at q
      exact iteF (q _ s2)
    | true =>
      rw [e] at q
      refine iteT ?_
      refine ⟨_, rfl, _, rfl, p, C, dx, _, _, rfl, s2 _ _ h1, T.cl, T.nN, rfl, t, _, rfl, .inr (h2.up s2).sq, rfl, flat_strs ns, ?_⟩
      rw [if_neg Bool.false_ne_true, inV_strs]
      exact q _ s2
theorem scPathOf : FnScope ["value"] ["value"] (defScope sPathOf) := ⟨rfl, rfl, rfl, by decide +kernel, rfl, by decide +kernel, by decide +kernel⟩
theorem ok_pathOf {f : Addr} {fd : FuncData} (F : Fun K "path_of" "path_of" sPathOf f fd) (T : TX K mg C) (G : Cc P w K mg base C 4 "parse" (spParse C)) : FnOk P w K mg base CX0 5 f fd ["value"] (spPathOf C) := by
  refine F.ok scPathOf (fun vs H Q E h => ?_) (fun cdv A outer s H vs Q E hr h => ?_)
  · obtain ⟨v, ns, rfl, _⟩ := h
    rfl
  · obtain ⟨v, ns, rfl, hv, q⟩ := h
    refine ⟨_, pss_one (ps_ret (pe_ifExp (pt_val (pe_callB call_isi (by rfl) T.bIsi (by decide +kernel) (pa_cons (pv 0) (pa_cons (pe_glob (v := .ref C) rfl T.mgP rfl) pa_nil)))) (pv 0) (pe_cc (pe_glob (v := .ref C) rfl T.mgP rfl) G hr (pa_cons (pv 0) pa_nil)))), ?_⟩
    rcases hv with ⟨p, rfl, hp⟩ | ⟨z, ps, rfl, R⟩
    · obtain ⟨dx, t, h1, h2, g⟩ := id hp
      refine ⟨_, rfl, _, _, _, _, _, rfl, .own C, ty_path T h1, T.kII, _, rfl, ?_⟩
      refine iteT ?_
      exact ⟨_, rfl, q p H (Same.refl _) hp⟩
    · refine ⟨_, rfl, _, _, _, _, _, rfl, .own C, .base (.str z), T.kSI, _, rfl, ?_⟩
      refine iteF ?_
      exact ⟨rfl, _, rfl, z, ps, ns, rfl, R, q⟩
theorem scBelow : FnScope ["self", "other", "first"] ["self", "other"] (defScope sBelow) := ⟨rfl, rfl, rfl, by decide +kernel, rfl, by decide +kernel, by decide +kernel⟩
/-- names[:m] -/
theorem sl_take {H : Hp} {Q : VK} {t : Addr} {ns : List Str} {m : Nat} (h : TupAt H t ns) (q : QT H (ns.take m) Q) : rSlA K (.ref t) none (some (m : Int)) H Q := by
  refine ⟨t, _, rfl, h.sq, fun hw => ?_, fun _ p hp => ?_⟩
  · have h2 := hw.2
    rw [HT.sIx_nat, List.length_map] at h2
    refine q t H (Same.refl _) ?_
    rw [List.take_of_length_le (by omega)]
    exact h
  · refine q p _ (same_upd hp) ?_
    unfold TupAt
    rw [upd_same]
    congr 2
    unfold cutV
    rw [HT.sIx_none, HT.sIx_nat, List.drop_zero, List.length_map, List.map_take, Nat.sub_zero, List.take_eq_take_iff, List.length_map]
    omega
/-- names[m:] -/
theorem sl_drop {H : Hp} {Q : VK} {t : Addr} {ns : List Str} {m : Nat} (h : TupAt H t ns) (q : QT H (ns.drop m) Q) : rSlA K (.ref t) (some (m : Int)) none H Q := by
  refine ⟨t, _, rfl, h.sq, fun hw => ?_, fun _ p hp => ?_⟩
  · have h2 := hw.1
    rw [HT.sIx_nat, List.length_map] at h2
    refine q t H (Same.refl _) ?_
    by_cases e : m = 0
    · subst e; exact h
    · have e2 : ns = [] := by
        cases ns with
        | nil => rfl
        | cons a r => rw [List.length_cons] at h2; omega
      subst e2
      rw [List.drop_nil]
      exact h
  · refine q p _ (same_upd hp) ?_
    unfold TupAt
    rw [upd_same]
    congr 2
    unfold cutV
    rw [HT.sIx_none, HT.sIx_nat, List.map_drop, List.length_map]
    by_cases e : m ≤ ns.length
    · rw [Nat.min_eq_left e]
      exact List.take_of_length_le (by rw [List.length_drop, List.length_map]; exact Nat.le_refl _)
    · rw [Nat.min_eq_right (Nat.le_of_lt (Nat.lt_of_not_le e)), Nat.sub_self, List.take_zero]
      exact (List.drop_of_length_le (by rw [List.length_map]; omega)).symm
theorem ok_below {f : Addr} {fd : FuncData} (F : Fun K "is_below" "Path.is_below" sBelow f fd) (T : TX K mg C) (G : Gd P w K mg base 5 "path_of" ["value"] (spPathOf C)) : FnOk P w K mg base CX0 6 f fd ["self", "other"] (spBelow C) := by
  refine F.ok scBelow (fun vs H Q E h => ?_) (fun cdv A outer s H vs Q E hr h => ?_)
  · obtain ⟨p, v, ns, ms, rfl, _⟩ := h
    rfl
  · obtain ⟨p, v, ns, ms, rfl, ⟨dx, t, h1, h2, g⟩, hv, q⟩ := h
    refine ⟨_, pss_cons (ps_set (i := 2) scBelow.nd rfl (Or.inl rfl) (pe_fld (pe_gd G hr (by rfl) (pa_cons (pv 1) pa_nil)) rfl))
      (pss_one (ps_ret (pe_and (pe_cmpR op_lt (pe_callB call_len (by rfl) T.bLen (by decide +kernel) (pa_cons (pv 2) pa_nil)) (pe_callB call_len (by rfl) T.bLen (by decide +kernel) (pa_cons (pe_fld (pv 0) rfl) pa_nil)) (nomark _))
        (pe_one (pe_cmpR (op_eqD hr.units) (pe_slice sl_tupA (pe_fld (pv 0) rfl) po_none (po_some (pe_callB call_len (by rfl) T.bLen (by decide +kernel) (pa_cons (pv 2) pa_nil)))) (pv 2) (nomark _)))))), ?_⟩
    refine ⟨_, rfl, v, ms, rfl, hv, fun r H2 s2 hr2 => ?_⟩
    obtain ⟨dy, u, k1, k2, g2⟩ := hr2
    have h1' := s2 _ _ h1
    have h2' := h2.up s2
    refine ⟨r, C, dy, _, _, rfl, k1, T.cl, T.nN, rfl, ?_⟩
    refine ⟨_, rfl, _, _, rfl, .inr ⟨_, k2.sq, rfl⟩, _, rfl, p, C, dx, _, _, rfl, h1', T.cl, T.nN, rfl, _, _, rfl, .inr ⟨_, h2'.sq, rfl⟩, _, _, rfl, rfl, _, rfl, ?_⟩
    rw [List.length_map, List.length_map]
    by_cases hl : ms.length < ns.length
    · refine iteE (decide_eq_true (by omega)) ?_
      refine ⟨_, rfl, p, C, dx, _, _, rfl, h1', T.cl, T.nN, rfl, _, rfl, _, _, rfl, .inr ⟨_, k2.sq, rfl⟩, _, rfl, ?_⟩
      rw [List.length_map]
      refine sl_take h2' fun z H3 s3 hz => ?_
      refine ⟨_, rfl, _, _, hz.dp, (k2.up s3).dp, shaped_tup (g.take _).1, shaped_tup g2.1, ?_⟩
      rw [eqv_tup]
      unfold below at q
      rw [decide_eq_true hl, Bool.true_and] at q
      exact q _ (s2.trans s3)
    · refine iteG (decide_eq_false (by omega)) ?_
      unfold below at q
      rw [decide_eq_false hl, Bool.false_and] at q
      exact q _ s2
theorem scAfter : FnScope ["self", "other", "first"] ["self", "other"] (defScope sAfter) := ⟨rfl, rfl, rfl, by decide +kernel, rfl, by decide +kernel, by decide +kernel⟩
theorem ok_after {f : Addr} {fd : FuncData} (F : Fun K "after" "Path.after" sAfter f fd) (T : TX K mg C) (G : Gd P w K mg base 5 "path_of" ["value"] (spPathOf C)) : FnOk P w K mg base CX0 6 f fd ["self", "other"] (spAfter C) := by
  refine F.ok scAfter (fun vs H Q E h => ?_) (fun cdv A outer s H vs Q E hr h => ?_)
  · obtain ⟨p, v, ns, ms, rfl, _⟩ := h
    rfl
  · obtain ⟨p, v, ns, ms, rfl, ⟨dx, t, h1, h2, g⟩, hv, ht, q⟩ := h
    refine ⟨_, pss_cons (ps_set (i := 2) scAfter.nd rfl (Or.inl rfl) (pe_fld (pe_gd G hr (by rfl) (pa_cons (pv 1) pa_nil)) rfl))
      (pss_cons (ps_if (pt_cmpR (op_neD hr.units) (pe_slice sl_tupA (pe_fld (pv 0) rfl) po_none (po_some (pe_callB call_len (by rfl) T.bLen (by decide +kernel) (pa_cons (pv 2) pa_nil)))) (pv 2) (nomark _)) (pss_one ps_never) pss_nil)
        (pss_one (ps_ret (pe_slice sl_tupA (pe_fld (pv 0) rfl) (po_some (pe_callB call_len (by rfl) T.bLen (by decide +kernel) (pa_cons (pv 2) pa_nil))) po_none)))), ?_⟩
    refine ⟨_, rfl, v, ms, rfl, hv, fun r H2 s2 hr2 => ?_⟩
    obtain ⟨dy, u, k1, k2, g2⟩ := hr2
    have h1' := s2 _ _ h1
    have h2' := h2.up s2
    refine ⟨r, C, dy, _, _, rfl, k1, T.cl, T.nN, rfl, ?_⟩
    refine ⟨_, rfl, p, C, dx, _, _, rfl, h1', T.cl, T.nN, rfl, _, rfl, _, _, rfl, .inr ⟨_, k2.sq, rfl⟩, _, rfl, ?_⟩
    rw [List.length_map]
    refine sl_take h2' fun z H3 s3 hz => ?_
    refine ⟨_, rfl, _, _, hz.dp, (k2.up s3).dp, shaped_tup (g.take _).1, shaped_tup g2.1, _, rfl, ?_⟩
    refine iteG (by rw [eqv_tup, ht, decide_eq_true rfl]; rfl) ?_
    refine ⟨_, rfl, p, C, dx, _, _, rfl, s3 _ _ h1', T.cl, T.nN, rfl, _, rfl, _, _, rfl, .inr ⟨_, (k2.up s3).sq, rfl⟩, _, rfl, ?_⟩
    rw [List.length_map]
    exact sl_drop (h2'.up s3) fun z' H4 s4 hz' => q z' H4 ((s2.trans s3).trans s4) hz'
end
end Fl

/-! The generator ancestors. -/
namespace Fl
open PySem L2 TL PySem.Spec PyProof.Rows
abbrev sAnc : Stmt := inClass sPath 16
def YlA (C : Addr) (ns : List Str) : Nat → V → Hp → Prop := fun r y H' => ∃ q, y = .ref q ∧ PathAt C H' q (ns.take r)
def spAnc (C : Addr) : SpN := fun x H n Yl => ∃ p ns, x = .ref p ∧ PathAt C H p ns ∧ n = ns.length ∧ Yl = YlA C ns
theorem YlA.up {C : Addr} {ns : List Str} {r : Nat} {y : V} {H H' : Hp} (h : YlA C ns r y H) (s : Same H H') : YlA C ns r y H' := by
  obtain ⟨q, e, h⟩ := h
  exact ⟨q, e, h.up s⟩
section
variable {P : Program} {w : World} {K : PySem.W.Frag} {mg : Str → Option Value} {base : Heap} {C : Addr}
theorem scAnc : GScope ["self", "many", "names"] ["self"] (defScope sAnc) := ⟨rfl, rfl, rfl, by decide +kernel, rfl, by decide +kernel, by decide +kernel⟩
theorem ok_anc {f : Addr} {fd : FuncData} (F : Fun K "ancestors" "Path.ancestors" sAnc f fd) (b : Binds K fd ["self"] []) (T : TX K mg C) (M : MkP P w K mg base C) : GFn2 P w K mg base ["self", "many", "names"] 3 f (spAnc C) := by
  obtain ⟨oc, od, kV, doc, pm, an, cdv, ct, osl, rfl, lk, hcd⟩ := F.ex
  obtain ⟨fi, MK, FI⟩ := M.ex
  refine ⟨fun A outer s H u x n Yl hr e0 rx hsp R hR => ?_, fun x H n Yl hsp => ?_⟩
  · obtain ⟨p, ns, rfl, hp, rfl, rfl⟩ := hsp
    have KX : K.In s.heap := e0.mod.kin.keeps fun b o e => (e0.bs b o e).1
    refine gen_call (kk := 3) (Yl := YlA C ns) (n := ns.length) (vs := [.ref p]) lk hcd scAnc (fun m => rfl) (fun x => ?_) hr e0 (b s [u] KX rfl) (.cons rx .nil) rfl ?_ hR
    · intro h
      have q : ∀ y ∈ (defScope sAnc).names, y.2 ≠ .cell := by decide +kernel
      exact q _ (PySem.mem_of_lookup h) rfl
    · rintro env rfl ge A1 s0 s1 H0 I
      have g := hp.good
      refine gen_body (x := "many") (ix := 1) (lo := (ns.length : Int) - 1) (Sg := fun r σ H => ∃ a b, σ = [some (.ref p), a, b] ∧ PathAt C H p ns) ge scAnc.nd rfl rfl rfl rfl (fun j σ H H' ⟨a, b, e, h⟩ sm => ⟨a, b, e, h.up sm⟩) (fun A s0 H0 hr => ?_) (fun _ => rfl) (fun A s0 H0 pp s σ H hr I hS => ?_) I ⟨_, _, rfl, hp⟩
      · have hr3 : Room 3 (A.deeper (envOfC "Path.ancestors" (defScope sAnc) s.heap.objs.size f cdv)) := hr.deeper _
        refine ⟨_, _, ps_set (i := 2) scAnc.nd rfl (Or.inl rfl) (pe_slice sl_tupA (pe_fld (pv 0) rfl) po_none (po_some (pv 1))), pe_mkS1 MK FI hr3 (pe_glob (v := .ref C) rfl T.mgP rfl) (pv 2), fun r σ H hrn hS => ?_⟩
        obtain ⟨a, b, rfl, dx, t, h1, h2, g⟩ := hS
        have e : (ns.length : Int) - 1 + ((ns.length - (r + 1) : Nat) : Int) * (-1) = (r : Int) := by omega
        rw [e]
        refine ⟨_, rfl, p, C, dx, _, _, rfl, h1, T.cl, T.nN, rfl, _, rfl, _, rfl, sl_take h2 fun z H2 s2 hz => ?_⟩
        exact ⟨rfl, _, rfl, z, _, rfl, hz.sq, mk_path (g.take r) fun q H3 s3 hq => ⟨s2.trans s3, ⟨q, rfl, hq⟩, _, _, rfl, (PathAt.up ⟨dx, t, h1, h2, g⟩ (s2.trans s3))⟩⟩
      · obtain ⟨a, b, rfl, dx, t, h1, h2, _⟩ := hS
        have gl := g.2
        refine range_made (i := (ns.length : Int) - 1) (j := -1) (k := -1) (by rfl) T.bRange (pa_cons (pe_op op_sub (pe_callB call_len (by rfl) T.bLen (by decide +kernel) (pa_cons (pe_fld (pv 0) rfl) pa_nil)) pe_int) (pa_cons (pe_un un_neg pe_int) (pa_cons (pe_un un_neg pe_int) pa_nil))) rfl rfl I ?_ ?_
        · have z := RgC.neg (i := (ns.length : Int) - 1) (j := -1) (by omega) (by omega) (by decide) (by decide)
          rw [show ((ns.length : Int) - 1 - (-1)).toNat = ns.length by omega] at z
          exact z
        · refine ⟨_, rfl, p, C, dx, _, _, rfl, h1, T.cl, T.nN, rfl, _, _, rfl, .inr ⟨_, h2.sq, rfl⟩, _, _, rfl, rfl, _, rfl, _, rfl, ?_, rfl⟩
          rw [List.length_map]
  · obtain ⟨p, ns, rfl, hp, rfl, rfl⟩ := hsp
    exact ⟨line_smallE (by have := hp.good.2; omega), fun r y H H' h s => h.up s⟩
end
end Fl

/-! The law's own small defs. -/
namespace Fl
open PySem L2 TL
abbrev sSource : Stmt := top 20
abbrev sNext : Stmt := top 21
abbrev sPick : Stmt := top 22
abbrev sRow : Stmt := top 23
abbrev sPut : Stmt := top 25
/-- all but what stands at a is as it was -/
def SameX (a : Addr) (H H' : Hp) : Prop := ∀ b o, b ≠ a → H b = some o → H' b = some o
theorem SameX.trans {a : Addr} {H H1 H2 : Hp} (h : SameX a H H1) (k : SameX a H1 H2) : SameX a H H2 := fun b o n e => k b o n (h b o n e)
theorem Same.x {a : Addr} {H H1 : Hp} (h : Same H H1) : SameX a H H1 := fun b o _ e => h b o e
theorem SameX.upd {a : Addr} {H : Hp} {o : HO} : SameX a H (L2.upd H a o) := fun b u n e => by rw [upd_ne n]; exact e
/-- a source of numbers whose counter is at most m -/
def Src (H : Hp) (a : Addr) (m : Nat) : Prop := ∃ c k r : Int, H a = some (.lst [.int c, .int k, .int r]) ∧ 0 ≤ k ∧ k ≤ (m : Int) ∧ 0 ≤ r
theorem Src.le {H : Hp} {a : Addr} {m n : Nat} (h : Src H a m) (l : m ≤ n) : Src H a n := by
  obtain ⟨c, k, r, e, h1, h2, h3⟩ := h
  exact ⟨c, k, r, e, h1, by omega, h3⟩
def spSource (K : PySem.W.Frag) : Sp := fun vs H Q _ => ∃ (a : Addr) (ns : List Int) (k : Nat), vs = [.ref a, .int (k : Int)] ∧ SqL K H a (ns.map V.int) ∧ ns.length ≤ 63 ∧ k ≤ 2 ∧ ∀ s H', Same H H' → H s = none → Src H' s 6 → Q (.ref s) H'
def spNext : Sp := fun vs H Q _ => ∃ (a : Addr) (n : Nat) (m : Int), vs = [.ref a, .int m] ∧ Src H a n ∧ n ≤ 1000 ∧ 1 ≤ m ∧ m ≤ 5 ∧ ∀ v H', 0 ≤ v → v < m → Src H' a (n + 1) → SameX a H H' → Q (.int v) H'
def spPick : Sp := fun vs H Q _ => ∃ (a l : Addr) (n : Nat) (xs : List Str), vs = [.ref a, .ref l] ∧ Src H a n ∧ n ≤ 1000 ∧ a ≠ l ∧ H l = some (.lst (xs.map V.str)) ∧ 1 ≤ xs.length ∧ xs.length ≤ 5 ∧ ∀ x H', x ∈ xs → Src H' a (n + 1) → SameX a H H' → Q (.str x) H'
/-- a row of at most four names at l -/
def RowAt (H : Hp) (l : Addr) (ns : List Str) : Prop := H l = some (.lst (ns.map V.str)) ∧ (∀ n ∈ ns, Nm n) ∧ ns.length ≤ 4
theorem RowAt.good {H : Hp} {l : Addr} {ns : List Str} (h : RowAt H l ns) : Good ns := ⟨h.2.1, by have := h.2.2; omega⟩
theorem RowAt.up {H H' : Hp} {l : Addr} {ns : List Str} (h : RowAt H l ns) (s : Same H H') : RowAt H' l ns := ⟨s _ _ h.1, h.2⟩
def spRow (C : Addr) : Sp := fun vs H Q _ => ∃ l ns, vs = [.ref l] ∧ RowAt H l ns ∧ QP C H ns Q
def spPut (C : Addr) : Sp := fun vs H Q _ => ∃ p t ns ms, vs = [.ref p, .ref t] ∧ PathAt C H p ns ∧ TupAt H t ms ∧ (∀ m ∈ ms, Nm m) ∧ ns.length + ms.length ≤ 12 ∧ QP C H (ns ++ ms) Q

theorem dp_ints {K : PySem.W.Frag} {H : Hp} : ∀ ns : List Int, DpAll K H (ns.map V.int) (ns.map PyData.int)
  | [] => .nil
  | n :: ns => .cons (.int n) (dp_ints ns)
theorem shaped_ints : ∀ ns : List Int, SeqAt.shaped (.list (ns.map PyData.int)) = true := by
  intro ns
  have h1 : PyData.canLayAll0 (ns.map PyData.int) = true := by
    induction ns with
    | nil => simp [PyData.canLayAll0]
    | cons n ns ih => rw [List.map_cons, PyData.canLayAll0, ih]; rfl
  have h2 : PyData.depthAll (ns.map PyData.int) ≤ 1 := by
    induction ns with
    | nil => simp [PyData.depthAll]
    | cons n ns ih =>
      rw [List.map_cons]
      have := ih (by rw [List.map_cons, PyData.canLayAll0, Bool.and_eq_true] at h1; exact h1.2)
      simp only [PyData.depthAll, PyData.depth]
      omega
  unfold SeqAt.shaped
  rw [PyData.canLay0, h1, Bool.true_and]
  exact decide_eq_true (by simp only [PyData.depth]; omega)

section
variable {P : Program} {w : World} {K : PySem.W.Frag} {mg : Str → Option Value} {base : Heap} {C : Addr}
theorem scSource : FnScope ["_law_script", "_law_k", "_law_cell"] ["_law_script", "_law_k"] (defScope sSource) := ⟨rfl, rfl, rfl, by decide +kernel, rfl, by decide +kernel, by decide +kernel⟩
theorem ok_source {f : Addr} {fd : FuncData} (F : Fun K "_law_source" "_law_source" sSource f fd) (T : TX K mg C) : FnOk P w K mg base CX0 1 f fd ["_law_script", "_law_k"] (spSource K) := by
  refine F.ok scSource (fun vs H Q E h => ?_) (fun cdv A outer s H vs Q E hr h => ?_)
  · obtain ⟨a, ns, k, rfl, _⟩ := h
    rfl
  · obtain ⟨a, ns, k, rfl, hS, hl, hk, q⟩ := h
    refine ⟨_, pss_cons (ps_set (i := 2) scSource.nd rfl (Or.inl rfl) (pe_ifExp (pt_cmpR (op_neD hr.units) (pv 0) (pe_lst pa_nil) (nomark _)) (pe_ix ix_list (pv 0) (pe_op op_mod (pv 1) (pe_callB call_len (by rfl) T.bLen (by decide +kernel) (pa_cons (pv 0) pa_nil))) (fun _ _ => rfl)) pe_int))
      (pss_one (ps_ret (pe_lst (pa_cons (pv 2) (pa_cons (pe_op op_mul pe_int (pv 1)) (pa_cons (pe_ifExp (pt_cmpR op_ge (pv 2) (pe_op op_pow pe_int pe_int) (nomark _)) (pe_op op_fdivW (pv 2) (pe_op op_pow pe_int pe_int)) pe_int) pa_nil)))))), ?_⟩
    have fin : ∀ (c : Int) (H1 : Hp), Same H H1 → (tRet (tLst (tCons (tVar 2) (tCons (tOp (rI CMul fun i j => .int (i * j)) (tC (.int 3)) (tVar 1)) (tCons (tIf (tTest (tOp (rI0 fun i j => .bl (decide (j ≤ i))) (tVar 2) (tOp (rI CPow fun i j => .int (i ^ j.toNat)) (tC (.int 10)) (tC (.int 18)))))
        (tOp (rI CDivW fun i j => .int (i / j)) (tVar 2) (tOp (rI CPow fun i j => .int (i ^ j.toNat)) (tC (.int 10)) (tC (.int 18)))) (tC (.int 0))) tNil))))) { nx := fun _ H' => Q .non H', rt := Q } [some (.ref a), some (.int (k : Int)), some (.int c)] H1 := fun c H1 s1 => by
      have e18 : (10 : Int) ^ (18 : Int).toNat = 1000000000000000000 := by decide
      have last : ∀ r : Int, 0 ≤ r → ∀ l, H1 l = none → Q (.ref l) (upd H1 l (.lst [.int c, .int (3 * (k : Int)), .int r])) := fun r h0 l hn => by
        refine q l _ (same_new s1 hn) ?_ ⟨c, 3 * (k : Int), r, upd_same, by omega, by omega, h0⟩
        exact s1.free hn
      refine ⟨_, rfl, _, rfl, _, _, rfl, rfl, .inl ⟨by decide, by decide⟩, _, rfl, _, _, rfl, rfl, ⟨by decide, by decide, by decide⟩, _, _, rfl, rfl, _, rfl, ?_⟩
      by_cases h : (10 : Int) ^ (18 : Int).toNat ≤ c
      · refine iteE (decide_eq_true h) ?_
        refine ⟨_, rfl, _, _, rfl, rfl, ⟨by decide, by decide, by decide⟩, _, _, rfl, rfl, wide_div (b := 60) (by decide) (by decide) (by decide) (by decide), (by show 3 ≤ sizeLine; decide), fun l hn => ?_⟩
        exact last _ (by rw [e18] at h ⊢; omega) l hn
      · refine iteG (decide_eq_false h) ?_
        refine ⟨(by show 3 ≤ sizeLine; decide), fun l hn => ?_⟩
        exact last _ (Int.le_refl _) l hn
    refine ⟨_, rfl, Nat.zero_le _, fun u hu => ?_⟩
    have s1 : Same H (upd H u (.lst [])) := same_upd hu
    have hS1 : SqL K (upd H u (.lst [])) a (ns.map V.int) := s1.seq hS
    refine ⟨_, _, .lst hS1 (dp_ints ns), .lst (SqL.of upd_same) .nil, shaped_ints ns, shaped_ints [], _, rfl, ?_⟩
    cases ns with
    | nil =>
      refine iteG (by decide) ?_
      exact fin 1 _ s1
    | cons n0 ns =>
      refine iteE rfl ?_
      refine ⟨_, rfl, _, rfl, _, rfl, _, _, rfl, .inl ⟨_, hS1, rfl⟩, _, _, rfl, rfl, ?_, ?_⟩
      · rw [List.length_map, List.length_cons]; omega
      · have hm : k % (n0 :: ns).length < (n0 :: ns).length := Nat.mod_lt _ (by simp)
        refine ⟨a, _, _, .int ((n0 :: ns)[k % (n0 :: ns).length]), rfl, rfl, hS1, ?_, fin _ _ s1⟩
        have e : ((k : Int) % (((n0 :: ns).map V.int).length : Int)) = ((k % (n0 :: ns).length : Nat) : Int) := by rw [List.length_map]; omega
        rw [e]
        exact atI_nat (by rw [List.getElem?_map, List.getElem?_eq_getElem hm]; rfl)
end
end Fl

namespace Fl
open PySem L2 TL
section
variable {P : Program} {w : World} {K : PySem.W.Frag} {mg : Str → Option Value} {base : Heap} {C : Addr}
theorem scNext : FnScope ["_law_source_here", "_law_many", "_law_found", "_law_primes", "_law_prime"] ["_law_source_here", "_law_many"] (defScope sNext) := ⟨rfl, rfl, rfl, by decide +kernel, rfl, by decide +kernel, by decide +kernel⟩
def p8 : List Int := [2147483647, 2147483629, 2147483587, 2147483579, 2147483563, 2147483549, 2147483543, 2147483497]
def p3 : List Int := [2147483489, 2147483477, 2147483423]
theorem primes_ok : ∀ p ∈ p8 ++ p3, (0 : Int) < p ∧ p ≤ 2147483647 := by decide
theorem sub3 {c k r : Int} {i : Int} (v : V) (j : Nat) (h : i = (j : Int)) (e : ([.int c, .int k, .int r] : List V)[j]? = some v) : atI ([.int c, .int k, .int r] : List V) i = some v := by
  subst h
  exact atI_nat e
theorem ok_next {f : Addr} {fd : FuncData} (F : Fun K "_law_next" "_law_next" sNext f fd) : FnOk P w K mg base CX0 1 f fd ["_law_source_here", "_law_many"] spNext := by
  refine F.ok scNext (fun vs H Q E h => ?_) (fun cdv A outer s H vs Q E hr h => ?_)
  · obtain ⟨a, n, m, rfl, _⟩ := h
    rfl
  · obtain ⟨a, n, m, rfl, ⟨c, k, r, hS, h0, h1, h2⟩, hn, m1, m5, q⟩ := h
    refine ⟨_, pss_cons (ps_if (pt_cmpR op_gt (pe_ix ix_list (pv 0) pe_int (fun _ _ => rfl)) pe_int (nomark _))
        (pss_cons (ps_set (i := 2) scNext.nd rfl (Or.inl rfl) (pe_op op_mod (pe_ix ix_list (pv 0) pe_int (fun _ _ => rfl)) (pv 1)))
          (pss_cons (ps_asg (pe_op op_fdiv (pe_ix ix_list (pv 0) pe_int (fun _ _ => rfl)) (pv 1)) (pg_sub (pv 0) pe_int set_list (fun _ => rfl))) (pss_one (ps_ret (pv 2))))) pss_nil)
      (pss_cons (ps_asg (pe_op op_add (pe_ix ix_list (pv 0) pe_int (fun _ _ => rfl)) pe_int) (pg_sub (pv 0) pe_int set_list (fun _ => rfl)))
      (pss_cons (ps_set (i := 3) scNext.nd rfl (Or.inl rfl) (pe_lst (pa_cons pe_int (pa_cons pe_int (pa_cons pe_int (pa_cons pe_int (pa_cons pe_int (pa_cons pe_int (pa_cons pe_int (pa_cons pe_int pa_nil))))))))))
      (pss_cons (ps_set (i := 4) scNext.nd rfl (Or.inl rfl) (pe_ix ix_list (pe_op op_cat (pv 3) (pe_lst (pa_cons pe_int (pa_cons pe_int (pa_cons pe_int pa_nil))))) (pe_op op_mod (pe_ix ix_list (pv 0) pe_int (fun _ _ => rfl)) pe_int) (fun _ _ => rfl)))
      (pss_one (ps_ret (pe_op op_mod (pe_op op_fdiv (pe_op op_mod (pe_op op_pow (pe_op op_add (pe_op op_add (pe_op op_mod (pe_ix ix_list (pv 0) pe_int (fun _ _ => rfl)) (pv 4)) (pe_op op_mul pe_int (pe_ix ix_list (pv 0) pe_int (fun _ _ => rfl)))) pe_int) pe_int) (pv 4)) pe_int) (pv 1))))))), ?_⟩
    refine ⟨_, rfl, a, _, _, _, rfl, rfl, SqL.of hS, sub3 _ 2 rfl rfl, _, _, rfl, rfl, _, rfl, ?_⟩
    by_cases hr0 : (0 : Int) < r
    · refine iteE (decide_eq_true hr0) ?_
      refine ⟨_, rfl, a, _, _, _, rfl, rfl, SqL.of hS, sub3 _ 2 rfl rfl, _, rfl, _, _, rfl, rfl, by omega, ?_⟩
      refine ⟨_, rfl, a, _, _, _, rfl, rfl, SqL.of hS, sub3 _ 2 rfl rfl, _, rfl, _, _, rfl, rfl, ⟨by omega, by omega⟩, ?_⟩
      refine ⟨_, rfl, a, _, _, 2, rfl, rfl, hS, rfl, ?_⟩
      refine ⟨_, rfl, ?_⟩
      refine q _ _ (Int.emod_nonneg _ (by omega)) (Int.emod_lt_of_pos _ (by omega)) ⟨c, k, r / m, upd_same, h0, by omega, Int.ediv_nonneg h2 (by omega)⟩ SameX.upd
    · refine iteG (decide_eq_false hr0) ?_
      refine ⟨_, rfl, a, _, _, _, rfl, rfl, SqL.of hS, sub3 _ 1 rfl rfl, _, _, rfl, rfl, ?_⟩
      refine ⟨_, rfl, a, _, _, 1, rfl, rfl, hS, rfl, ?_⟩
      refine ⟨(by show 8 ≤ sizeLine; decide), fun l hl => ?_⟩
      have S1 : upd H a (.lst [.int c, .int (k + 1), .int r]) a = some (.lst [.int c, .int (k + 1), .int r]) := upd_same
      have al : a ≠ l := ne_of_none S1 hl
      have S2 : upd (upd H a (.lst [.int c, .int (k + 1), .int r])) l (.lst (p8.map V.int)) a = some (.lst [.int c, .int (k + 1), .int r]) := by rw [upd_ne al]; exact S1
      refine ⟨_, rfl, (by show 3 ≤ sizeLine; decide), fun l2 hl2 => ?_⟩
      have ll : l ≠ l2 := ne_of_none (o := .lst (p8.map V.int)) upd_same hl2
      have al2 : a ≠ l2 := ne_of_none S2 hl2
      refine ⟨l, l2, p8.map V.int, p3.map V.int, rfl, rfl, by rw [upd_ne ll]; exact upd_same, upd_same, (by show 11 ≤ sizeLine; decide), fun l3 hl3 => ?_⟩
      have al3 : a ≠ l3 := ne_of_none (H := upd (upd (upd H a (.lst [.int c, .int (k + 1), .int r])) l (.lst (p8.map V.int))) l2 (.lst (p3.map V.int))) (o := .lst [.int c, .int (k + 1), .int r]) (by rw [upd_ne al2]; exact S2) hl3
      have S4 : upd (upd (upd (upd H a (.lst [.int c, .int (k + 1), .int r])) l (.lst (p8.map V.int))) l2 (.lst (p3.map V.int))) l3 (.lst (p8.map V.int ++ p3.map V.int)) a = some (.lst [.int c, .int (k + 1), .int r]) := by
        rw [upd_ne al3, upd_ne al2]; exact S2
      refine ⟨_, rfl, a, _, _, _, rfl, rfl, SqL.of S4, sub3 _ 1 rfl rfl, _, _, rfl, rfl, (by show (0 : Int) < 11; decide), ?_⟩
      obtain ⟨j, hj⟩ : ∃ j : Nat, (k + 1) % 11 = (j : Int) := ⟨((k + 1) % 11).toNat, by omega⟩
      have hj11 : j < (p8 ++ p3).length := by
        have : (p8 ++ p3).length = 11 := rfl
        omega
      have hp := primes_ok _ (List.getElem_mem hj11)
      generalize hpe : (p8 ++ p3)[j] = pr at hp
      refine ⟨l3, p8.map V.int ++ p3.map V.int, _, .int pr, rfl, rfl, SqL.of upd_same, ?_, ?_⟩
      · rw [hj]
        refine atI_nat ?_
        rw [← List.map_append, List.getElem?_map, List.getElem?_eq_getElem hj11, hpe]
        rfl
      · have e1 : 0 ≤ c % pr := Int.emod_nonneg _ (by omega)
        have e2 : c % pr < pr := Int.emod_lt_of_pos _ hp.1
        refine ⟨_, rfl, a, _, _, _, rfl, rfl, SqL.of S4, sub3 _ 0 rfl rfl, _, rfl, _, _, rfl, rfl, hp.1, _, rfl, a, _, _, _, rfl, rfl, SqL.of S4, sub3 _ 1 rfl rfl, _, _, rfl, rfl, .inl ⟨by decide, by decide⟩, _, _, rfl, rfl, _, _, rfl, rfl, _, _, rfl, rfl,
          ⟨by decide, by decide, by omega⟩, _, rfl, _, _, rfl, rfl, hp.1, _, _, rfl, rfl, ⟨by decide, by decide⟩, _, rfl, _, _, rfl, rfl, by omega, ?_⟩
        refine q _ _ (Int.emod_nonneg _ (by omega)) (Int.emod_lt_of_pos _ (by omega)) ⟨c, k + 1, r, S4, by omega, by omega, h2⟩ ?_
        intro b o nb e
        have f1 : upd H a (.lst [.int c, .int (k + 1), .int r]) b = some o := by rw [upd_ne nb]; exact e
        have f2 := same_upd (o := .lst (p8.map V.int)) hl _ _ f1
        have f3 := same_upd (o := .lst (p3.map V.int)) hl2 _ _ f2
        exact same_upd (o := .lst (p8.map V.int ++ p3.map V.int)) hl3 _ _ f3
theorem scPick : FnScope ["_law_source_here", "_law_items"] ["_law_source_here", "_law_items"] (defScope sPick) := ⟨rfl, rfl, rfl, by decide +kernel, rfl, by decide +kernel, by decide +kernel⟩
theorem ok_pick {f : Addr} {fd : FuncData} (F : Fun K "_law_pick" "_law_pick" sPick f fd) (T : TX K mg C) (G : Gd P w K mg base 1 "_law_next" ["_law_source_here", "_law_many"] spNext) : FnOk P w K mg base CX0 2 f fd ["_law_source_here", "_law_items"] spPick := by
  refine F.ok scPick (fun vs H Q E h => ?_) (fun cdv A outer s H vs Q E hr h => ?_)
  · obtain ⟨a, l, n, xs, rfl, _⟩ := h
    rfl
  · obtain ⟨a, l, n, xs, rfl, hS, hn, hal, hl, x1, x5, q⟩ := h
    refine ⟨_, pss_one (ps_ret (pe_ix ix_list (pv 1) (pe_gd G hr (by rfl) (pa_cons (pv 0) (pa_cons (pe_callB call_len (by rfl) T.bLen (by decide +kernel) (pa_cons (pv 1) pa_nil)) pa_nil))) (fun _ _ => rfl))), ?_⟩
    refine ⟨_, rfl, _, rfl, _, rfl, _, _, rfl, .inl ⟨_, SqL.of hl, rfl⟩, a, n, _, rfl, hS, hn, by rw [List.length_map]; omega, by rw [List.length_map]; omega, fun v H' v0 v1 hS' sx => ?_⟩
    rw [List.length_map] at v1
    obtain ⟨j, rfl⟩ : ∃ j : Nat, v = (j : Int) := ⟨v.toNat, by omega⟩
    have hj : j < xs.length := by omega
    exact ⟨l, _, _, _, rfl, rfl, SqL.of (sx _ _ (Ne.symm hal) hl), atI_nat (j := j) (by rw [List.getElem?_map, List.getElem?_eq_getElem hj]; rfl), q _ _ (List.getElem_mem hj) hS' sx⟩
theorem scRow : FnScope ["_law_p"] ["_law_p"] (defScope sRow) := ⟨rfl, rfl, rfl, by decide +kernel, rfl, by decide +kernel, by decide +kernel⟩
theorem ok_row {f : Addr} {fd : FuncData} (F : Fun K "_law_path_of_row" "_law_path_of_row" sRow f fd) (T : TX K mg C) (M : MkP P w K mg base C) : FnOk P w K mg base CX0 4 f fd ["_law_p"] (spRow C) := by
  refine F.ok scRow (fun vs H Q E h => ?_) (fun cdv A outer s H vs Q E hr h => ?_)
  · obtain ⟨l, ns, rfl, _⟩ := h
    rfl
  · obtain ⟨l, ns, rfl, R, q⟩ := h
    obtain ⟨fi, MK, FI⟩ := M.ex
    obtain ⟨hl, nm, h4⟩ := id R
    have g := R.good
    refine ⟨_, pss_cons (ps_if (pt_cmpR op_lt (pe_callB call_len (by rfl) T.bLen (by decide +kernel) (pa_cons (pv 0) pa_nil)) pe_int (nomark _))
        (pss_one (ps_ret (pe_ifExp (pt_cmpR op_eq (pe_callB call_len (by rfl) T.bLen (by decide +kernel) (pa_cons (pv 0) pa_nil)) pe_int (nomark _)) (pe_mk0 MK FI hr (by rfl) T.mgP)
          (pe_ifExp (pt_cmpR op_eq (pe_callB call_len (by rfl) T.bLen (by decide +kernel) (pa_cons (pv 0) pa_nil)) pe_int (nomark _)) (StX.pe_makeR MK FI hr (by rfl) T.mgP pass0 (pa_cons (pe_ix ix_list (pv 0) pe_int (fun _ _ => rfl)) pa_nil))
            (StX.pe_makeR MK FI hr (by rfl) T.mgP pass0 (pa_cons (pe_ix ix_list (pv 0) pe_int (fun _ _ => rfl)) (pa_cons (pe_ix ix_list (pv 0) pe_int (fun _ _ => rfl)) pa_nil))))))) pss_nil)
      (pss_cons (ps_if (pt_cmpR op_lt (pe_callB call_len (by rfl) T.bLen (by decide +kernel) (pa_cons (pv 0) pa_nil)) pe_int (nomark _))
        (pss_one (ps_ret (pe_ifExp (pt_cmpR op_eq (pe_callB call_len (by rfl) T.bLen (by decide +kernel) (pa_cons (pv 0) pa_nil)) pe_int (nomark _))
          (StX.pe_makeR MK FI hr (by rfl) T.mgP pass0 (pa_cons (pe_ix ix_list (pv 0) pe_int (fun _ _ => rfl)) (pa_cons (pe_ix ix_list (pv 0) pe_int (fun _ _ => rfl)) (pa_cons (pe_ix ix_list (pv 0) pe_int (fun _ _ => rfl)) pa_nil))))
          (StX.pe_makeR MK FI hr (by rfl) T.mgP pass0 (pa_cons (pe_ix ix_list (pv 0) pe_int (fun _ _ => rfl)) (pa_cons (pe_ix ix_list (pv 0) pe_int (fun _ _ => rfl)) (pa_cons (pe_ix ix_list (pv 0) pe_int (fun _ _ => rfl)) (pa_cons (pe_ix ix_list (pv 0) pe_int (fun _ _ => rfl)) pa_nil)))))))) pss_nil) pss_never), ?_⟩
    have len : ∀ i : Nat, ns.length = i → LenV K (.ref l) H i := fun i e => .inl ⟨_, SqL.of hl, by rw [List.length_map, e]⟩
    have at_ : ∀ (j : Nat) (x : Str), ns[j]? = some x → ∃ p xs i v, V.ref l = .ref p ∧ V.int (j : Int) = .int i ∧ SqL K H p xs ∧ atI xs i = some v ∧ v = .str x := fun j x e => ⟨l, _, _, _, rfl, rfl, SqL.of hl, atI_nat (j := j) (by rw [List.getElem?_map, e]; rfl), rfl⟩
    have mk := mk_path g q
    match ns, len, mk with
    | [], len, mk =>
      refine ⟨_, rfl, _, 0, rfl, len 0 rfl, _, _, rfl, rfl, _, rfl, ?_⟩
      refine iteE (by decide) ?_
      refine ⟨_, rfl, _, 0, rfl, len 0 rfl, rfl, _, rfl, ?_⟩
      exact iteE (by decide) mk
    | [x], len, mk =>
      refine ⟨_, rfl, _, 1, rfl, len 1 rfl, _, _, rfl, rfl, _, rfl, ?_⟩
      refine iteE (by decide) ?_
      refine ⟨_, rfl, _, 1, rfl, len 1 rfl, rfl, _, rfl, ?_⟩
      refine iteG (by decide) ?_
      refine ⟨_, rfl, _, 1, rfl, len 1 rfl, rfl, _, rfl, ?_⟩
      refine iteE (by decide) ?_
      exact ⟨_, rfl, l, _, _, _, rfl, rfl, SqL.of hl, atI_nat (j := 0) rfl, mk⟩
    | [x, y], len, mk =>
      refine ⟨_, rfl, _, 2, rfl, len 2 rfl, _, _, rfl, rfl, _, rfl, ?_⟩
      refine iteE (by decide) ?_
      refine ⟨_, rfl, _, 2, rfl, len 2 rfl, rfl, _, rfl, ?_⟩
      refine iteG (by decide) ?_
      refine ⟨_, rfl, _, 2, rfl, len 2 rfl, rfl, _, rfl, ?_⟩
      refine iteG (by decide) ?_
      exact ⟨_, rfl, l, _, _, _, rfl, rfl, SqL.of hl, atI_nat (j := 0) rfl, _, rfl, l, _, _, _, rfl, rfl, SqL.of hl, atI_nat (j := 1) rfl, mk⟩
    | [x, y, z], len, mk =>
      refine ⟨_, rfl, _, 3, rfl, len 3 rfl, _, _, rfl, rfl, _, rfl, ?_⟩
      refine iteG (by decide) ?_
      refine ⟨_, rfl, _, 3, rfl, len 3 rfl, _, _, rfl, rfl, _, rfl, ?_⟩
      refine iteE (by decide) ?_
      refine ⟨_, rfl, _, 3, rfl, len 3 rfl, rfl, _, rfl, ?_⟩
      refine iteE (by decide) ?_
      exact ⟨_, rfl, l, _, _, _, rfl, rfl, SqL.of hl, atI_nat (j := 0) rfl, _, rfl, l, _, _, _, rfl, rfl, SqL.of hl, atI_nat (j := 1) rfl, _, rfl, l, _, _, _, rfl, rfl, SqL.of hl, atI_nat (j := 2) rfl, mk⟩
    | [x, y, z, u], len, mk =>
      refine ⟨_, rfl, _, 4, rfl, len 4 rfl, _, _, rfl, rfl, _, rfl, ?_⟩
      refine iteG (by decide) ?_
      refine ⟨_, rfl, _, 4, rfl, len 4 rfl, _, _, rfl, rfl, _, rfl, ?_⟩
      refine iteE (by decide) ?_
      refine ⟨_, rfl, _, 4, rfl, len 4 rfl, rfl, _, rfl, ?_⟩
      refine iteG (by decide) ?_
      exact ⟨_, rfl, l, _, _, _, rfl, rfl, SqL.of hl, atI_nat (j := 0) rfl, _, rfl, l, _, _, _, rfl, rfl, SqL.of hl, atI_nat (j := 1) rfl, _, rfl, l, _, _, _, rfl, rfl, SqL.of hl, atI_nat (j := 2) rfl, _, rfl, l, _, _, _, rfl, rfl, SqL.of hl, atI_nat (j := 3) rfl, mk⟩
    | _ :: _ :: _ :: _ :: _ :: _, _, _ => exact absurd h4 (by simp only [List.length_cons]; omega)
/-- the class divides by a text -/
structure DvP (P : Program) (w : World) (K : PySem.W.Frag) (mg : Str → Option Value) (base : Heap) (C : Addr) : Prop where
  ex : ∃ f, FDiv K C f ∧ FnR P w K mg base CX0 4 f (spFdiv C)
theorem scPut : FnScope ["_law_one", "_law_names", "_law_name"] ["_law_one", "_law_names"] (defScope sPut) := ⟨rfl, rfl, rfl, by decide +kernel, rfl, by decide +kernel, by decide +kernel⟩
theorem ok_put {f : Addr} {fd : FuncData} (F : Fun K "_law_put_behind" "_law_put_behind" sPut f fd) (D : DvP P w K mg base C) : FnOk P w K mg base CX0 5 f fd ["_law_one", "_law_names"] (spPut C) := by
  refine F.ok scPut (fun vs H Q E h => ?_) (fun cdv A outer s H vs Q E hr h => ?_)
  · obtain ⟨p, t, ns, ms, rfl, _⟩ := h
    rfl
  · obtain ⟨p, t, ns, ms, rfl, hp, ht, nm, hl, q⟩ := h
    obtain ⟨ff, FD, FR⟩ := D.ex
    refine ⟨_, pss_cons (ps_for PassesOwn.never rfl (pi_tup (pv 1)) (pg_name (i := 2) scPut.nd rfl (Or.inl rfl)) (pss_one (ps_set (i := 0) scPut.nd rfl (Or.inl rfl) (pe_op (op_fdivO FD FR hr) (pv 0) (pv 2))))) (pss_one (ps_ret (pv 0))), ?_⟩
    refine ⟨_, rfl, t, rfl, ⟨_, ht.sq⟩, for_tup (K := K) (a := t) (xs := ms.map V.str) (fun i σ H' => ∃ r v, σ = [some (.ref r), some (.ref t), v] ∧ Same H H' ∧ PathAt C H' r (ns ++ ms.take i)) ⟨p, none, rfl, Same.refl _, by rw [List.take_zero, List.append_nil]; exact hp⟩
      (fun i σ H' _ ⟨_, _, _, sm, _⟩ => (ht.up sm).sq) ?_ ?_⟩
    · rintro i y σ H' hy ⟨r, v, rfl, sm, hr'⟩
      obtain ⟨m, hm, rfl⟩ := map_at hy
      have him : i < ms.length := (List.getElem?_eq_some_iff.mp hm).1
      obtain ⟨dx, u, h1, h2, g⟩ := id hr'
      refine ⟨_, rfl, _, rfl, r, dx, _, m, rfl, rfl, h1, r, _, m, rfl, hr', nm m (List.mem_of_getElem? hm), ?_, fun z H2 s2 hz => ?_⟩
      · rw [List.length_append, List.length_take]; omega
      · refine ⟨z, _, rfl, sm.trans s2, ?_⟩
        rw [List.take_add_one, hm, ← List.append_assoc]
        exact hz
    · rintro σ H' ⟨r, v, rfl, sm, hr'⟩
      rw [List.length_map, List.take_length] at hr'
      exact ⟨_, rfl, q r H' sm hr'⟩
end
end Fl

/-! Whether a path agrees with itself. -/
namespace Fl
open PySem L2 TL
abbrev sOne : Stmt := top 24
/-- the class as the law's defs use it -/
structure PX (P : Program) (w : World) (K : PySem.W.Frag) (mg : Str → Option Value) (base : Heap) (C : Addr) : Prop where
  T : TX K mg C
  mkp : MkP P w K mg base C
  dv : DvP P w K mg base C
  an : ∃ f, Meth K C "ancestors" f ∧ GFn2 P w K mg base ["self", "many", "names"] 3 f (spAnc C)
  eq : ∃ f, NeO K C f ∧ FnR P w K mg base CX0 1 f (spEq C)
  ln : ∃ f, Dun K C "__len__" f ∧ FnR P w K mg base CX0 1 f (spLen C)
  it : ∃ f, Dun K C "__getitem__" f ∧ PySem.W.fnIn K f = true ∧ FnR P w K mg base CX0 2 f (spItem C)
  hs : ∃ f, Dun K C "__contains__" f ∧ FnR P w K mg base CX0 2 f (spHas C)
  parse : Cc P w K mg base C 4 "parse" (spParse C)
  text : Cp P w K mg base C 2 "text" (spText C)
  parent : Cp P w K mg base C 4 "parent" (spParent C)
  name : Cp P w K mg base C 1 "name" (spName C)
  stem : Cp P w K mg base C 3 "stem" (spStem C)
  suffix : Cp P w K mg base C 3 "suffix" (spSuffix C)
  below : Cm P w K mg base C 6 "is_below" ["self", "other"] (spBelow C)
  after : Cm P w K mg base C 6 "after" ["self", "other"] (spAfter C)
theorem nostop0 {K : PySem.W.Frag} : NoStop K E0 := fun _ _ _ h => h.elim
theorem passX {X : Cx} : Passes (CX X.prog X.w) X E0 := by
  rintro pins σ H s e s' I ⟨a, B, H', cls, d, ea, fl, hok, ub, na, os, ag, he⟩
  exact he.elim

section
variable {P : Program} {w : World} {K : PySem.W.Frag} {mg : Str → Option Value} {base : Heap} {C : Addr} {H : Hp} {p : Addr} {ns : List Str} {Q : VK}
/-! ### readings at a path -/
theorem rd_p {sp : Sp} (hp : PathAt C H p ns) (h : sp [.ref p] H Q E0) : ∃ a dx fs, V.ref p = .ref a ∧ H a = some (.ins C dx fs) ∧ sp (.ref a :: []) H Q E0 := by
  obtain ⟨dx, t, h1, _⟩ := hp
  exact ⟨p, dx, _, rfl, h1, h⟩
theorem rd_m {m : Str} {R : Prop} (hp : PathAt C H p ns) (hm : ¬ m = "names") (h : R) : ∃ a dx fs, V.ref p = .ref a ∧ H a = some (.ins C dx fs) ∧ fs.lookup m = none ∧ R := by
  obtain ⟨dx, t, h1, _⟩ := hp
  refine ⟨p, dx, _, rfl, h1, ?_, h⟩
  have e : (m == ("names" : Str)) = false := by simpa using hm
  simp only [List.lookup_cons, e, List.lookup_nil]
theorem rd_ne {q : Addr} {ms : List Str} (hp : PathAt C H p ns) (hq : PathAt C H q ms) (h : Q (.bl (!decide (ns = ms))) H) : rEqO C (spEq C) true (.ref p) (.ref q) H Q := by
  obtain ⟨dx, t, h1, _⟩ := id hp
  obtain ⟨dy, u, k1, _⟩ := id hq
  exact ⟨p, q, dx, dy, _, _, rfl, rfl, h1, k1, p, q, ns, ms, rfl, hp, hq, _, rfl, h⟩
theorem rd_eq {q : Addr} {ms : List Str} (hp : PathAt C H p ns) (hq : PathAt C H q ms) (h : Q (.bl (decide (ns = ms))) H) : rEqO C (spEq C) false (.ref p) (.ref q) H Q := by
  obtain ⟨dx, t, h1, _⟩ := id hp
  obtain ⟨dy, u, k1, _⟩ := id hq
  exact ⟨p, q, dx, dy, _, _, rfl, rfl, h1, k1, p, q, ns, ms, rfl, hp, hq, _, rfl, h⟩
theorem rd_fld (T : TX K mg C) (hp : PathAt C H p ns) (h : ∀ t, TupAt H t ns → Q (.ref t) H) : ∃ a C dx fs v, V.ref p = .ref a ∧ H a = some (.ins C dx fs) ∧ Cls K C ∧ NoAttr K C "names" ∧ fs.lookup ("names" : Str) = some v ∧ Q v H := by
  obtain ⟨dx, t, h1, h2, _⟩ := hp
  exact ⟨p, C, dx, _, _, rfl, h1, T.cl, T.nN, rfl, h t h2⟩
theorem rd_len {xs : List V} (e : xs = [.ref p]) (hp : PathAt C H p ns) (h : Q (.int (ns.length : Nat)) H) : ∃ a dx fs, xs = [.ref a] ∧ H a = some (.ins C dx fs) ∧ spLen C [.ref a] H (fun v H' => ∃ n : Nat, v = .int n ∧ (n : Int) < 2 ^ 63 ∧ Q (.int n) H') E0 := by
  obtain ⟨dx, t, h1, _, g⟩ := id hp
  exact ⟨p, dx, _, e, h1, p, ns, rfl, hp, ns.length, rfl, by have := g.2; omega, h⟩
theorem rd_item {i : Nat} {x : Str} (hp : PathAt C H p ns) (hi : ns[i]? = some x) (h : Q (.str x) H) : ∃ p' dx fs, V.ref p = .ref p' ∧ H p' = some (.ins C dx fs) ∧ spItem C [.ref p, .int ((i : Nat) : Int)] H Q E0 := by
  obtain ⟨dx, t, h1, _⟩ := id hp
  exact ⟨p, dx, _, rfl, h1, p, ns, i, x, rfl, hp, hi, h⟩
theorem rd_div {x : Str} (hp : PathAt C H p ns) (nm : Nm x) (hl : ns.length < 12) (q : QP C H (ns ++ [x]) Q) : ∃ a dx fs z, V.ref p = .ref a ∧ V.str x = .str z ∧ H a = some (.ins C dx fs) ∧ spFdiv C [.ref p, .str x] H Q E0 := by
  obtain ⟨dx, t, h1, _⟩ := id hp
  exact ⟨p, dx, _, x, rfl, rfl, h1, p, ns, x, rfl, hp, nm, hl, q⟩
theorem rd_has {x : Str} (hp : PathAt C H p ns) (hx : x.length ≤ 200) (q : Qs H (.bl (!(isName x && decide (x ∈ ns)))) Q) : ∃ a dx fs, V.ref p = .ref a ∧ H a = some (.ins C dx fs) ∧ spHas C [.ref p, .str x] H (fun v H' => ∃ b, v = .bl b ∧ Q (.bl (!b)) H') E0 := by
  obtain ⟨dx, t, h1, _⟩ := id hp
  exact ⟨p, dx, _, rfl, h1, p, ns, x, rfl, hp, hx, fun H' s => ⟨_, rfl, q H' s⟩⟩

/-- an if whose body is not entered: two ways that meet again -/
theorem skip_if {t : TT} {tr rest : TS} {D : Ends} {σ : L2.St} {H : Hp} (R : Hp → Prop) (h1 : ∀ NX : Hp → Prop, (∀ H', R H' → NX H') → t σ H fun k H1 => if k = true then tr { D with nx := rest D } σ H1 else NX H1) (h2 : ∀ H', R H' → rest D σ H') :
    tSeq (tIfS t tr tNext) rest D σ H := h1 (rest D σ) h2
theorem next_ {n : L2.St → Hp → Prop} {r : VK} {b c : L2.St → Hp → Prop} {σ : L2.St} {H : Hp} (h : n σ H) : tNext { nx := n, rt := r, bk := b, ct := c } σ H := h
def spOne : Sp := fun vs H Q _ => ∃ l ns, vs = [.ref l] ∧ RowAt H l ns ∧ Qs H (.bl true) Q
theorem scOne : FnScope ["_law_row", "_law_one", "_law_above", "_law_n"] ["_law_row"] (defScope sOne) := ⟨rfl, rfl, rfl, by decide +kernel, rfl, by decide +kernel, by decide +kernel⟩
theorem text_len {ns : List Str} (g : Good ns) : (textOf ns).length ≤ 200 := (reads_text g).len
theorem last_mem {ns : List Str} (h : ns ≠ []) : lastOf ns ∈ ns := by
  unfold lastOf
  rw [List.getLastD_eq_getLast?, List.getLast?_eq_some_getLast h]
  exact List.getLast_mem h
theorem last_app {ns : List Str} (h : ns ≠ []) : ns.dropLast ++ [lastOf ns] = ns := by
  unfold lastOf
  rw [List.getLastD_eq_getLast?, List.getLast?_eq_some_getLast h]
  exact List.dropLast_concat_getLast h
theorem last_get {ns : List Str} (h : ns ≠ []) : ns[ns.length - 1]? = some (lastOf ns) := by
  unfold lastOf
  rw [List.getLastD_eq_getLast?, List.getLast?_eq_some_getLast h, List.getElem?_eq_getElem (by have := List.length_pos_iff.mpr h; omega), List.getLast_eq_getElem h]
  rfl
theorem ok_one {f : Addr} {fd : FuncData} (F : Fun K "_law_one_right" "_law_one_right" sOne f fd) (X : PX P w K mg base C) (G : Gd P w K mg base 4 "_law_path_of_row" ["_law_p"] (spRow C)) : FnOk P w K mg base CX0 8 f fd ["_law_row"] spOne := by
  refine F.ok scOne (fun vs H Q E h => ?_) (fun cdv A outer s H vs Q E hr h => ?_)
  · obtain ⟨l, ns, rfl, _⟩ := h
    rfl
  · obtain ⟨l, ns, rfl, R, q⟩ := h
    have T := X.T
    obtain ⟨fe, NE, FE⟩ := X.eq
    obtain ⟨fl, DL, FL⟩ := X.ln
    obtain ⟨fi, DI, fnI, FI⟩ := X.it
    obtain ⟨fh, DH, FH⟩ := X.hs
    obtain ⟨fv, DV, FV⟩ := X.dv.ex
    obtain ⟨fa, MA, FA⟩ := X.an
    have g := R.good
    have hr6 : Room 6 _ := hr.mono (by decide)
    have hr5 : Room 5 _ := hr.mono (by decide)
    have hr4 : Room 4 _ := hr.mono (by decide)
    have hr3 : Room 3 _ := hr.mono (by decide)
    have hr2 : Room 2 _ := hr.mono (by decide)
    refine ⟨_, pss_cons (ps_set (i := 1) scOne.nd rfl (Or.inr rfl) (pe_gd G hr4 (by rfl) (pa_cons (pv 0) pa_nil)))
      (pss_cons (ps_if (PW.pt (pw_or (pt_cmpR (op_neO NE FE hr2) (pe_cc (pe_glob (v := .ref C) rfl T.mgP rfl) X.parse hr4 (pa_cons (pe_cp (pv 1) T.cl X.text hr3) pa_nil)) (pv 1) (nomark _))
          (pw_or1 (pt_cmpR (op_neO NE FE hr2) (pe_cc (pe_glob (v := .ref C) rfl T.mgP rfl) X.parse hr4 (pa_cons (pe_op op_add_str (pe_cp (pv 1) T.cl X.text hr3) pe_str) pa_nil)) (pe_cp (pv 1) T.cl X.parent hr5) (nomark _))))) (pss_one (ps_ret pe_bl)) pss_nil)
      (pss_cons (ps_if (PW.pt (pw_or (pt_cmpR (op_neO NE FE hr2) (pe_cc (pe_glob (v := .ref C) rfl T.mgP rfl) X.parse hr4 (pa_cons (pe_op op_add_str (pe_cp (pv 1) T.cl X.text hr3) pe_str) pa_nil)) (pv 1) (nomark _))
          (pw_or (pt_val (pe_cm (pv 1) T.cl X.below hr6 (pa_cons (pv 1) pa_nil)))
          (pw_or1 (pt_cmpR op_ne (pe_cp (pv 1) T.cl X.name hr2) (pe_op op_add_str (pe_cp (pv 1) T.cl X.stem hr4) (pe_cp (pv 1) T.cl X.suffix hr4)) (nomark _)))))) (pss_one (ps_ret pe_bl)) pss_nil)
      (pss_cons (ps_if (PW.pt (pw_or (pt_cmpR (op_neD hr.units) (pe_cm (pv 1) T.cl X.after hr6 (pa_cons (pv 1) pa_nil)) (pe_tup pa_nil) (nomark _))
          (pw_or (pt_cmpR (op_neD hr.units) (pe_cm (pv 1) T.cl X.after hr6 (pa_cons pe_str pa_nil)) (pe_fld (pv 1) rfl) (nomark _))
          (pw_or1 (pt_cmpR op_ne (pe_callB call_len (by rfl) T.bLen (by decide +kernel) (pa_cons (pe_listG (pgen_meth2 (pv 1) T.cl MA FA hr4) passX nostop0 hr (by rfl) T.bList (by decide +kernel)) pa_nil)) (pe_callB (call_lenO DL FL hr2) (by rfl) T.bLen (by decide +kernel) (pa_cons (pv 1) pa_nil)) (nomark _)))))) (pss_one (ps_ret pe_bl)) pss_nil)
      (pss_cons (ps_if (pt_cmpR (op_neD hr.units) (pe_lc (own := [("_law_n", 3)]) (g := gName 3) (tt := tYes) (by rfl) scOne.nd (pi_range1 (by rfl) T.bRange (pa_cons (pe_callB (call_lenO DL FL hr2) (by rfl) T.bLen (by decide +kernel) (pa_cons (pv 1) pa_nil)) pa_nil))
          (blkOk_by (N := ["_law_row", "_law_one", "_law_above", "_law_n"]) (sc := defScope sOne) (by decide +kernel)) (fun _ _ _ _ _ => pg_name (i := 3) scOne.nd rfl (Or.inl rfl)) (fun _ _ _ _ _ => pts_nil) (fun _ _ _ _ _ => pe_itemO (pv 1) (pv 3) DI fnI FI hr3))
          (pe_callTy call_list_of (by rfl) T.bList (by decide +kernel) (pa_cons (pe_fld (pv 1) rfl) pa_nil)) (nomark _)) (pss_one (ps_ret pe_bl)) pss_nil)
      (pss_cons (ps_if (PW.pt (pw_and (pt_cmpR (op_neD hr.units) (pv 0) (pe_lst pa_nil) (nomark _)) (pw_and1 (PW.pt (pw_or (pt_cmpR (op_neO NE FE hr2) (pe_op (op_fdivO DV FV hr4) (pe_cp (pv 1) T.cl X.parent hr5) (pe_cp (pv 1) T.cl X.name hr2)) (pv 1) (nomark _))
          (pw_or1 (pt_cmpR (op_notInO DH FH hr2) (pe_cp (pv 1) T.cl X.name hr2) (pv 1) (by rfl)))))))) (pss_one (ps_ret pe_bl)) pss_nil)
      (pss_cons (ps_if (PW.pt (pw_and (pt_cmpR (op_neD hr.units) (pv 0) (pe_lst pa_nil) (nomark _)) (pw_and1 (PW.pt (pw_or (pt_cmpR op_ne (pe_itemO (pv 1) (pe_op op_sub (pe_callB (call_lenO DL FL hr2) (by rfl) T.bLen (by decide +kernel) (pa_cons (pv 1) pa_nil)) pe_int) DI fnI FI hr3) (pe_cp (pv 1) T.cl X.name hr2) (nomark _))
          (pw_or1 (pt_not (pt_val (pe_cm (pv 1) T.cl X.below hr6 (pa_cons (pe_cp (pv 1) T.cl X.parent hr5) pa_nil)))))))))) (pss_one (ps_ret pe_bl)) pss_nil)
      (pss_cons (ps_forG PassesOwn.never (fun _ _ z => z) (by rfl) (pv 1) T.cl MA FA hr5 (pg_name (i := 2) scOne.nd rfl (Or.inl rfl))
          (pss_one (ps_if (PW.pt (pw_or (pt_not (pt_val (pe_cm (pv 1) T.cl X.below hr6 (pa_cons (pe_cp (pv 2) T.cl X.text hr3) pa_nil)))) (pw_or1 (pt_val (pe_cm (pv 2) T.cl X.below hr6 (pa_cons (pv 1) pa_nil)))))) (pss_one (ps_ret pe_bl)) pss_nil)))
      (pss_one (ps_ret pe_bl))))))))), ?_⟩
    have ltext := text_len g
    refine ⟨_, rfl, l, ns, rfl, R, fun p H1 s1 hp => ?_⟩
    -- read again from its text
    refine ⟨rfl, _, rfl, rd_p hp ⟨p, ns, rfl, hp, fun H2 s2 => ?_⟩⟩
    have sH := s1.trans s2
    have hp := hp.up s2
    refine ⟨_, _, ns, rfl, reads_text g, fun p2 H3 s3 hp2 => ?_⟩
    have sH := sH.trans s3
    have hp := hp.up s3
    refine ⟨_, rfl, rd_ne hp2 hp ⟨_, rfl, ?_⟩⟩
    refine iteG (by rw [decide_eq_true rfl]; rfl) ?_
    -- with /.. behind it
    refine ⟨rfl, _, rfl, rd_p hp ⟨p, ns, rfl, hp, fun H4 s4 => ?_⟩⟩
    have sH := sH.trans s4
    have hp := hp.up s4
    have l3 : ("/.." : Str).length = 3 := by decide +kernel
    have l2 : ("/." : Str).length = 2 := by decide +kernel
    refine ⟨_, _, rfl, rfl, line_smallE (by omega), ?_⟩
    refine ⟨_, _, ns.dropLast, rfl, reads_dots g, fun p3 H5 s5 hp3 => ?_⟩
    have sH := sH.trans s5
    have hp := hp.up s5
    refine ⟨_, rfl, rd_p hp ⟨p, ns, rfl, hp, fun p4 H6 s6 hp4 => ?_⟩⟩
    have sH := sH.trans s6
    have hp := hp.up s6
    refine rd_ne (hp3.up s6) hp4 ⟨_, rfl, ?_⟩
    refine iteG (by rw [decide_eq_true rfl]; rfl) ?_
    clear hp2 hp3 hp4
    -- with /. behind it
    refine ⟨rfl, _, rfl, rd_p hp ⟨p, ns, rfl, hp, fun H7 s7 => ?_⟩⟩
    have sH := sH.trans s7
    have hp := hp.up s7
    refine ⟨_, _, rfl, rfl, line_smallE (by omega), ?_⟩
    refine ⟨_, _, ns, rfl, reads_dot g, fun p5 H8 s8 hp5 => ?_⟩
    have sH := sH.trans s8
    have hp := hp.up s8
    refine ⟨_, rfl, rd_ne hp5 hp ⟨_, rfl, ?_⟩⟩
    refine iteG (by rw [decide_eq_true rfl]; rfl) ?_
    -- not below itself
    refine ⟨_, rfl, rd_m hp (by decide +kernel) ⟨_, rfl, p, _, ns, ns, rfl, hp, .inl ⟨p, rfl, hp⟩, fun H9 s9 => ?_⟩⟩
    have sH := sH.trans s9
    have hp := hp.up s9
    refine ⟨_, rfl, ?_⟩
    refine iteG (below_self ns) ?_
    -- name, stem, suffix
    refine ⟨_, rfl, rd_p hp ⟨p, ns, rfl, hp, fun H10 s10 => ?_⟩⟩
    have sH := sH.trans s10
    have hp := hp.up s10
    refine ⟨_, rfl, rd_p hp ⟨p, ns, rfl, hp, fun H11 s11 => ?_⟩⟩
    have sH := sH.trans s11
    have hp := hp.up s11
    refine ⟨_, rfl, rd_p hp ⟨p, ns, rfl, hp, fun H12 s12 => ?_⟩⟩
    have sH := sH.trans s12
    have hp := hp.up s12
    have ss := stem_suf (last_cases g)
    refine ⟨_, _, rfl, rfl, ?_, ?_⟩
    · have e : (stemOf (lastOf ns)).length + (sufOf (lastOf ns)).length = (lastOf ns).length := by
        conv => rhs; rw [← ss]
        rw [len_tl, len_tl, len_tl, tl_append, List.length_append]
      rw [e]
      have : (lastOf ns).length ≤ 3 := by
        rcases last_cases g with z | z
        · rw [z]; decide +kernel
        · exact (nm_len z).2
      exact line_smallE (by omega)
    refine ⟨rfl, _, rfl, ?_⟩
    refine iteG (by rw [ss, decide_eq_true rfl]; rfl) ?_
    -- after itself: nothing
    refine ⟨_, rfl, rd_m hp (by decide +kernel) ⟨_, rfl, p, _, ns, ns, rfl, hp, .inl ⟨p, rfl, hp⟩, List.take_length, fun t H13 s13 ht => ?_⟩⟩
    have sH := sH.trans s13
    have hp := hp.up s13
    refine ⟨Nat.zero_le _, fun e he => ?_⟩
    have s14 := same_upd (o := .tup []) he
    have sH := sH.trans s14
    have hp := hp.up s14
    refine ⟨_, _, (ht.up s14).dp, TupAt.dp (ns := []) upd_same, shaped_tup (g.drop _).1, shaped_tup (fun _ h => by simp at h), _, rfl, ?_⟩
    refine iteG (by rw [eqv_tup (ns.drop ns.length) [], List.drop_length]; rfl) ?_
    -- after the root: all
    have R0 : Reads "/" (parts []) [] := by
      have z := reads_text Good.nil
      rw [text_root] at z
      exact z
    refine ⟨_, rfl, rd_m hp (by decide +kernel) ⟨p, _, ns, [], rfl, hp, .inr ⟨_, _, rfl, R0⟩, rfl, fun t2 H15 s15 ht2 => ?_⟩⟩
    have sH := sH.trans s15
    have hp := hp.up s15
    obtain ⟨dx3, t3, hp3, ht3, _⟩ := id hp
    refine ⟨_, rfl, p, C, dx3, _, _, rfl, hp3, T.cl, T.nN, rfl, ?_⟩
    refine ⟨_, _, ht2.dp, ht3.dp, shaped_tup (g.drop _).1, shaped_tup g.1, _, rfl, ?_⟩
    refine iteG (by rw [eqv_tup]; show (!decide (ns = ns)) = false; rw [decide_eq_true rfl]; rfl) ?_
    -- as many ancestors as names
    have gl := g.2
    refine ⟨_, rfl, p, dx3, _, ns.length, YlA C ns, rfl, hp3, rfl, ⟨p, ns, rfl, hp, rfl, rfl⟩, fun ys H16 ao u hu => ?_⟩
    have sH := (sH.trans ao.1).trans (same_upd (o := .lst ys) hu)
    have hp := (hp.up ao.1).up (same_upd (o := .lst ys) hu)
    obtain ⟨dx4, t4, hp4, ht4, _⟩ := id hp
    refine ⟨_, _, rfl, .inl ⟨_, SqL.of upd_same, rfl⟩, ?_⟩
    refine ⟨_, rfl, p, dx4, _, rfl, hp4, p, ns, rfl, hp, ns.length, rfl, by omega, ?_⟩
    refine ⟨rfl, _, rfl, ?_⟩
    refine iteG (by rw [ao.2.1, decide_eq_true rfl]; rfl) ?_
    -- its names by number
    refine ⟨_, rfl, p, dx4, _, rfl, hp4, p, ns, rfl, hp, ns.length, rfl, by omega, ?_⟩
    refine ⟨_, rfl, by omega, by omega, fun D hD => lc_range (lo := 0) (n := ns.length) (fun i H' => Same (upd H16 u (.lst ys)) H' ∧ H' D = some (.lst ((ns.take i).map V.str))) ⟨same_upd hD, upd_same⟩ (fun i H' hi hP => ?_) fun H' hP => ?_⟩
    · refine ⟨rfl, yes_ ?_⟩
      rw [Int.zero_add]
      have hpi := hp.up hP.1
      obtain ⟨dx5, t5, hp5, ht5, _⟩ := id hpi
      refine ⟨_, rfl, _, rfl, p, dx5, _, rfl, hp5, p, ns, i, ns[i], rfl, hpi, List.getElem?_eq_getElem hi, _, hP.2, ?_, same_over hP.1 hD, ?_⟩
      · rw [List.length_map, List.length_take]
        exact line_small (by omega)
      · rw [upd_same, List.take_add_one, List.getElem?_eq_getElem hi, List.map_append]
        rfl
    · rw [List.take_length] at hP
      have sH := sH.trans hP.1
      have hp := hp.up hP.1
      obtain ⟨dx5, t5, hp5, ht5, _⟩ := id hp
      refine ⟨_, rfl, p, C, dx5, _, _, rfl, hp5, T.cl, T.nN, rfl, ?_⟩
      refine ⟨t5, _, rfl, .inr ht5.sq, fun l2 hl2 => ?_⟩
      have s17 := same_upd (o := .lst (ns.map V.str)) hl2
      have sH := sH.trans s17
      have hp := hp.up s17
      refine ⟨_, _, .lst (SqL.of (s17 _ _ hP.2)) (dp_strs ns), .lst (SqL.of upd_same) (dp_strs ns), shaped_lst g.1, shaped_lst g.1, _, rfl, ?_⟩
      refine iteG (by rw [eqv_lst, decide_eq_true rfl]; rfl) ?_
      clear hp5 hp4 hp3
      generalize hHH : upd H' l2 (.lst (ns.map V.str)) = HH at sH hp ⊢
      clear hHH hP hD
      -- put together from its parent and its name
      refine next_ (skip_if (R := fun H' => Same HH H') (fun NX nx => ?_) fun H18 s18 => ?_)
      · refine ⟨_, rfl, Nat.zero_le _, fun e he => ?_⟩
        have s19 := same_upd (o := .lst []) he
        have hp := hp.up s19
        refine ⟨_, _, .lst (SqL.of ((sH.trans s19) _ _ R.1)) (dp_strs ns), .lst (SqL.of upd_same) .nil, shaped_lst g.1, shaped_lst (ns := []) (fun _ h => by simp at h), _, rfl, ?_⟩
        rw [show PyData.eqv (.list (ns.map PyData.str)) (.list []) = decide (ns = []) from eqv_lst ns []]
        by_cases hn : ns = []
        · refine iteG (by rw [decide_eq_true hn]; rfl) ?_
          refine iteF ?_
          exact nx _ s19
        · refine iteE (by rw [decide_eq_false hn]; rfl) ?_
          refine ⟨_, rfl, rd_p hp ⟨p, ns, rfl, hp, fun p6 H20 s20 hp6 => ?_⟩⟩
          have hp := hp.up s20
          refine ⟨_, rfl, rd_p hp ⟨p, ns, rfl, hp, fun H21 s21 => ?_⟩⟩
          have hp := hp.up s21
          have nm := g.1 _ (last_mem hn)
          refine rd_div (hp6.up s21) nm (by rw [List.length_dropLast]; omega) fun p7 H22 s22 hp7 => ?_
          have hp := hp.up s22
          rw [last_app hn] at hp7
          refine ⟨_, rfl, rd_ne hp7 hp ⟨_, rfl, ?_⟩⟩
          refine iteG (by rw [decide_eq_true rfl]; rfl) ?_
          refine ⟨_, rfl, rd_p hp ⟨p, ns, rfl, hp, fun H23 s23 => ?_⟩⟩
          have hp := hp.up s23
          refine ⟨_, rfl, ?_⟩
          obtain ⟨dx8, t8, hp8, ht8, _⟩ := id hp
          refine ⟨p, dx8, _, rfl, hp8, p, ns, lastOf ns, rfl, hp, by have := (nm_len nm).2; omega, fun H24 s24 => ⟨_, rfl, _, rfl, ?_⟩⟩
          refine iteG (by rw [name_nm nm, decide_eq_true (last_mem hn)]; rfl) ?_
          exact nx _ (((((s19.trans s20).trans s21).trans s22).trans s23).trans s24)
      · have sH := sH.trans s18
        have hp := hp.up s18
        clear s18
        -- its last name, below its parent
        refine skip_if (R := fun H' => Same H18 H') (fun NX nx => ?_) fun H30 s30 => ?_
        · refine ⟨_, rfl, Nat.zero_le _, fun e he => ?_⟩
          have s19 := same_upd (o := .lst []) he
          have hp := hp.up s19
          refine ⟨_, _, .lst (SqL.of ((sH.trans s19) _ _ R.1)) (dp_strs ns), .lst (SqL.of upd_same) .nil, shaped_lst g.1, shaped_lst (ns := []) (fun _ h => by simp at h), _, rfl, ?_⟩
          rw [show PyData.eqv (.list (ns.map PyData.str)) (.list []) = decide (ns = []) from eqv_lst ns []]
          by_cases hn : ns = []
          · refine iteG (by rw [decide_eq_true hn]; rfl) ?_
            refine iteF ?_
            exact nx _ s19
          · have hpos : 1 ≤ ns.length := List.length_pos_iff.mpr hn
            refine iteE (by rw [decide_eq_false hn]; rfl) ?_
            obtain ⟨dx8, t8, hp8, ht8, _⟩ := id hp
            refine ⟨_, rfl, _, rfl, p, dx8, _, rfl, hp8, p, ns, rfl, hp, ns.length, rfl, by omega, _, _, rfl, rfl, ?_⟩
            have ei : ((ns.length : Nat) : Int) - 1 = ((ns.length - 1 : Nat) : Int) := by omega
            refine ⟨p, dx8, _, rfl, hp8, p, ns, ns.length - 1, lastOf ns, (by show [V.ref p, V.int (((ns.length : Nat) : Int) - 1)] = _; rw [ei]), hp, last_get hn, ?_⟩
            refine ⟨_, rfl, rd_p hp ⟨p, ns, rfl, hp, fun H20 s20 => ?_⟩⟩
            have hp := hp.up s20
            refine ⟨rfl, _, rfl, ?_⟩
            refine iteG (by rw [decide_eq_true rfl]; rfl) ?_
            refine ⟨_, rfl, rd_m hp (by decide +kernel) ⟨_, rfl, rd_p hp ⟨p, ns, rfl, hp, fun p9 H21 s21 hp9 => ?_⟩⟩⟩
            have hp := hp.up s21
            refine ⟨p, _, ns, ns.dropLast, rfl, hp, .inl ⟨p9, rfl, hp9⟩, fun H22 s22 => ?_⟩
            refine ⟨_, rfl, ?_⟩
            refine iteG (by rw [below_parent hn]; rfl) ?_
            exact nx _ (((s19.trans s20).trans s21).trans s22)
        · have sH := sH.trans s30
          have hp := hp.up s30
          clear s30
          obtain ⟨dx8, t8, hp8, ht8, _⟩ := id hp
          refine ⟨_, rfl, p, dx8, _, ns.length, YlA C ns, rfl, hp8, rfl, ⟨p, ns, rfl, hp, rfl, rfl⟩, fun r σ H' => r ≤ ns.length ∧ (∃ v w, σ = [some (.ref l), some (.ref p), v, w]) ∧ Same H H' ∧ PathAt C H' p ns, ⟨Nat.le_refl _, ⟨_, _, rfl⟩, sH, hp⟩, ?_, ?_⟩
          · rintro r σ H2 ⟨hr', ⟨v, w', rfl⟩, sm, hp⟩ y H3 s3 ⟨a, rfl, ha⟩
            refine ⟨Same.refl _, ?_⟩
            have hp := hp.up s3
            refine ⟨_, rfl, rd_m hp (by decide +kernel) ⟨_, rfl, rd_p ha ⟨a, ns.take r, rfl, ha, fun H4 s4 => ?_⟩⟩⟩
            have hp := hp.up s4
            refine ⟨p, _, ns, ns.take r, rfl, hp, .inr ⟨_, _, rfl, reads_text (g.take r)⟩, fun H5 s5 => ⟨_, rfl, ?_⟩⟩
            have hp := hp.up s5
            have ha := (ha.up s4).up s5
            refine iteG (by rw [below_take (by omega)]; rfl) ?_
            refine ⟨_, rfl, rd_m ha (by decide +kernel) ⟨_, rfl, a, _, ns.take r, ns, rfl, ha, .inl ⟨p, rfl, hp⟩, fun H6 s6 => ⟨_, rfl, ?_⟩⟩⟩
            refine iteG (below_asym (below_take (by omega))) ?_
            exact ⟨(s4.trans s5).trans s6, by omega, ⟨_, _, rfl⟩, (((sm.trans s3).trans s4).trans s5).trans s6, hp.up s6⟩
          · rintro σ H2 H3 ⟨_, ⟨v, w', rfl⟩, sm, _⟩ s3
            exact q _ (sm.trans s3)
end
end Fl

/-! Whether two paths agree; whether is_below is an order. -/
namespace Fl
open PySem L2 TL
abbrev sPair : Stmt := top 26
abbrev sThree : Stmt := top 27
def spPair : Sp := fun vs H Q _ => ∃ l m ns ms, vs = [.ref l, .ref m] ∧ RowAt H l ns ∧ RowAt H m ms ∧ Qs H (.bl true) Q
section
variable {P : Program} {w : World} {K : PySem.W.Frag} {mg : Str → Option Value} {base : Heap} {C : Addr}
theorem dec_bl2 {a b : Bool} : decide (V.bl a = V.bl b) = (a == b) := dec_bl
/-- a path among the ancestors of another -/
theorem rd_in {H : Hp} {b u : Addr} {ns ms : List Str} {ys : List V} {Q : VK} (hu : H u = some (.lst ys)) (hl : ys.length = ns.length) (yl : ∀ i v, ys[i]? = some v → YlA C ns (ns.length - 1 - i) v H) (hb : PathAt C H b ms) (h : ∀ H', Same H H' → Q (.bl (below ns ms)) H') :
    rInO K C (spEq C) (.ref b) (.ref u) H Q := by
  refine ⟨b, u, ys, rfl, rfl, fun v hv => ?_, fun i H' => Same H H' ∧ ∀ j, j < i → j < ns.length → ns.take (ns.length - 1 - j) ≠ ms, ⟨Same.refl _, fun j h => by omega⟩, fun i H' hJ => SqL.of (hJ.1 _ _ hu), fun i v H' hv hJ => ?_, fun H' hJ => ?_⟩
  · obtain ⟨i, hi⟩ := List.mem_iff_getElem?.mp hv
    obtain ⟨r, e, _⟩ := yl i v hi
    exact ⟨r, e⟩
  · obtain ⟨r, rfl, hr⟩ := yl i v hv
    have hi : i < ns.length := by
      have := (List.getElem?_eq_some_iff.mp hv).1
      omega
    have hr := hr.up hJ.1
    have hb := hb.up hJ.1
    obtain ⟨dr, tr, hr1, _⟩ := id hr
    obtain ⟨db, tb, hb1, _⟩ := id hb
    have yes : ns.take (ns.length - 1 - i) = ms → Q (.bl true) H' := fun e => by
      have z := h H' hJ.1
      rw [← e, below_take (by omega)] at z
      exact z
    refine ⟨r, dr, db, _, _, rfl, hr1, hb1, fun e => ?_, r, b, ns.take (ns.length - 1 - i), ms, rfl, hr, hb, _, rfl, ?_⟩
    · subst e
      exact yes (hr.inj hb)
    · by_cases e : ns.take (ns.length - 1 - i) = ms
      · exact .inl ⟨by rw [decide_eq_true e], yes e⟩
      · refine .inr ⟨by rw [decide_eq_false e], hJ.1, fun j hj hjn => ?_⟩
        by_cases q : j = i
        · subst q; exact e
        · exact hJ.2 j (by omega) hjn
  · have z := h H' hJ.1
    have e : below ns ms = false := by
      cases q : below ns ms with
      | false => rfl
      | true =>
        obtain ⟨r, hr, er⟩ := below_any.mp q
        refine (hJ.2 (ns.length - 1 - r) (by rw [hl]; omega) (by omega) ?_).elim
        rw [show ns.length - 1 - (ns.length - 1 - r) = r by omega]
        exact er
    rw [e] at z
    exact z
theorem scPair : FnScope ["_law_near", "_law_far", "_law_one", "_law_other", "_law_whole"] ["_law_near", "_law_far"] (defScope sPair) := ⟨rfl, rfl, rfl, by decide +kernel, rfl, by decide +kernel, by decide +kernel⟩
theorem ok_pair {f : Addr} {fd : FuncData} (F : Fun K "_law_pair_right" "_law_pair_right" sPair f fd) (X : PX P w K mg base C) (G : Gd P w K mg base 4 "_law_path_of_row" ["_law_p"] (spRow C)) (PB : Gd P w K mg base 5 "_law_put_behind" ["_law_one", "_law_names"] (spPut C)) :
    FnOk P w K mg base CX0 8 f fd ["_law_near", "_law_far"] spPair := by
  refine F.ok scPair (fun vs H Q E h => ?_) (fun cdv A outer s H vs Q E hr h => ?_)
  · obtain ⟨l, m, ns, ms, rfl, _⟩ := h
    rfl
  · obtain ⟨l, m, ns, ms, rfl, R1, R2, q⟩ := h
    have T := X.T
    obtain ⟨fe, NE, FE⟩ := X.eq
    obtain ⟨fl, DL, FL⟩ := X.ln
    obtain ⟨fa, MA, FA⟩ := X.an
    have g1 := R1.good
    have g2 := R2.good
    have l1 := R1.2.2
    have l2 := R2.2.2
    have hr6 : Room 6 _ := hr.mono (by decide)
    have hr5 : Room 5 _ := hr.mono (by decide)
    have hr4 : Room 4 _ := hr.mono (by decide)
    have hr3 : Room 3 _ := hr.mono (by decide)
    have hr2 : Room 2 _ := hr.mono (by decide)
    have hr1 : Room 1 _ := hr.mono (by decide)
    refine ⟨_, pss_cons (ps_par (i := 2) (j := 3) (by rfl) scPair.nd rfl rfl (by decide) rfl rfl (pa_cons (pe_gd G hr4 (by rfl) (pa_cons (pv 0) pa_nil)) (pa_cons (pe_gd G hr4 (by rfl) (pa_cons (pv 1) pa_nil)) pa_nil)) (by rfl))
      (pss_cons (ps_if (pt_cmpR op_ne (pe_cm (pv 2) T.cl X.below hr6 (pa_cons (pv 3) pa_nil)) (pe_cmpR (op_inL NE.eq FE hr2) (pv 3) (pe_listG (pgen_meth2 (pv 2) T.cl MA FA hr4) passX nostop0 hr (by rfl) T.bList (by decide +kernel)) (by rfl)) (nomark _)) (pss_one (ps_ret pe_bl)) pss_nil)
      (pss_cons (ps_if (PW.pt (pw_and (pt_val (pe_cm (pv 2) T.cl X.below hr6 (pa_cons (pv 3) pa_nil))) (pw_and1 (PW.pt (pw_or (pt_val (pe_cm (pv 3) T.cl X.below hr6 (pa_cons (pv 2) pa_nil)))
          (pw_or1 (pt_cmpR (op_neO NE FE hr2) (pe_gd PB hr5 (by rfl) (pa_cons (pv 3) (pa_cons (pe_cm (pv 2) T.cl X.after hr6 (pa_cons (pv 3) pa_nil)) pa_nil))) (pv 2) (nomark _)))))))) (pss_one (ps_ret pe_bl)) pss_nil)
      (pss_cons (ps_set (i := 4) scPair.nd rfl (Or.inl rfl) (pe_gd PB hr5 (by rfl) (pa_cons (pv 2) (pa_cons (pe_fld (pv 3) rfl) pa_nil))))
      (pss_cons (ps_if (PW.pt (pw_or (pt_cmpR (op_neD hr.units) (pe_cm (pv 4) T.cl X.after hr6 (pa_cons (pv 2) pa_nil)) (pe_fld (pv 3) rfl) (nomark _))
          (pw_or1 (pt_cmpR op_ne (pe_cm (pv 4) T.cl X.below hr6 (pa_cons (pv 2) pa_nil)) (pe_cmpR op_gt (pe_callB (call_lenO DL FL hr2) (by rfl) T.bLen (by decide +kernel) (pa_cons (pv 3) pa_nil)) pe_int (nomark _)) (nomark _))))) (pss_one (ps_ret pe_bl)) pss_nil)
      (pss_one (ps_ret (pe_and (pe_cmpR (op_eqO NE.eq FE hr1) (pe_cc (pe_glob (v := .ref C) rfl T.mgP rfl) X.parse hr4 (pa_cons (pe_op op_add_str (pe_cp (pv 2) T.cl X.text hr3) (pe_cp (pv 3) T.cl X.text hr3)) pa_nil)) (pv 4) (nomark _))
        (pe_one (pe_cmpR op_eq (pe_cmpR (op_eqO NE.eq FE hr1) (pv 2) (pv 3) (nomark _)) (pe_cmpR op_eq (pe_cp (pv 2) T.cl X.text hr3) (pe_cp (pv 3) T.cl X.text hr3) (nomark _)) (nomark _)))))))))), ?_⟩
    refine ⟨_, rfl, l, ns, rfl, R1, fun a H1 s1 ha => ?_⟩
    refine ⟨_, rfl, m, ms, rfl, R2.up s1, fun b H2 s2 hb => ?_⟩
    have sH := s1.trans s2
    have ha := ha.up s2
    refine ⟨_, _, rfl, ?_⟩
    -- below goes by the ancestors
    refine ⟨_, rfl, rd_m ha (by decide +kernel) ⟨_, rfl, a, _, ns, ms, rfl, ha, .inl ⟨b, rfl, hb⟩, fun H3 s3 => ?_⟩⟩
    have sH := sH.trans s3
    have ha := ha.up s3
    have hb := hb.up s3
    obtain ⟨dxa, ta, ha1, ha2, _⟩ := id ha
    have gl := g1.2
    refine ⟨_, rfl, _, rfl, a, dxa, _, ns.length, YlA C ns, rfl, ha1, rfl, ⟨a, ns, rfl, ha, rfl, rfl⟩, fun ys H4 ao u hu => ?_⟩
    have s5 := ao.1.trans (same_upd (o := .lst ys) hu)
    have sH := sH.trans s5
    have ha := ha.up s5
    have hb := hb.up s5
    have yl : ∀ i v, ys[i]? = some v → YlA C ns (ns.length - 1 - i) v (upd H4 u (.lst ys)) := fun i v e => (ao.2.2 i v e).up (same_upd hu)
    have hly := ao.2.1
    refine rd_in upd_same hly yl hb fun H6 s6 => ?_
    have sH := sH.trans s6
    have ha := ha.up s6
    have hb := hb.up s6
    clear ha1 ha2
    refine ⟨rfl, _, rfl, ?_⟩
    refine iteG (by rw [decide_eq_true rfl]; rfl) ?_
    -- put together from its beginning and what is behind
    refine next_ (skip_if (R := fun H' => Same H6 H') (fun NX nx => ?_) fun H7 s7 => ?_)
    · refine ⟨_, rfl, rd_m ha (by decide +kernel) ⟨_, rfl, a, _, ns, ms, rfl, ha, .inl ⟨b, rfl, hb⟩, fun H8 s8 => ⟨_, rfl, ?_⟩⟩⟩
      have ha := ha.up s8
      have hb := hb.up s8
      cases hbe : below ns ms with
      | false =>
        refine iteF ?_
        refine iteF ?_
        exact nx _ s8
      | true =>
        obtain ⟨b1, b2⟩ := below_iff.mp hbe
        refine iteT ?_
        refine ⟨_, rfl, rd_m hb (by decide +kernel) ⟨_, rfl, b, _, ms, ns, rfl, hb, .inl ⟨a, rfl, ha⟩, fun H9 s9 => ⟨_, rfl, ?_⟩⟩⟩
        have ha := ha.up s9
        have hb := hb.up s9
        refine iteG (below_asym hbe) ?_
        refine ⟨_, rfl, _, rfl, rd_m ha (by decide +kernel) ⟨_, rfl, a, _, ns, ms, rfl, ha, .inl ⟨b, rfl, hb⟩, b2, fun t H10 s10 ht => ?_⟩⟩
        have ha := ha.up s10
        have hb := hb.up s10
        refine ⟨b, t, ms, ns.drop ms.length, rfl, hb, ht, (g1.drop _).1, by rw [List.length_drop]; omega, fun c H11 s11 hc => ?_⟩
        have ha := ha.up s11
        rw [below_rest hbe] at hc
        refine ⟨_, rfl, rd_ne hc ha ⟨_, rfl, ?_⟩⟩
        refine iteG (by rw [decide_eq_true rfl]; rfl) ?_
        exact nx _ (((s8.trans s9).trans s10).trans s11)
    · have sH := sH.trans s7
      have ha := ha.up s7
      have hb := hb.up s7
      -- the whole
      obtain ⟨dxb, tb, hb1, hb2, _⟩ := id hb
      refine ⟨_, rfl, _, rfl, b, C, dxb, _, _, rfl, hb1, T.cl, T.nN, rfl, ?_⟩
      refine ⟨a, tb, ns, ms, rfl, ha, hb2, g2.1, by omega, fun c H8 s8 hc => ?_⟩
      have sH := sH.trans s8
      have ha := ha.up s8
      have hb := hb.up s8
      have gw : Good (ns ++ ms) := hc.good
      refine ⟨_, rfl, rd_m hc (by decide +kernel) ⟨_, rfl, c, _, ns ++ ms, ns, rfl, hc, .inl ⟨a, rfl, ha⟩, List.take_left, fun t H9 s9 ht => ?_⟩⟩
      have sH := sH.trans s9
      have ha := ha.up s9
      have hb := hb.up s9
      have hc := hc.up s9
      obtain ⟨dxb2, tb2, hb3, hb4, _⟩ := id hb
      refine ⟨_, rfl, b, C, dxb2, _, _, rfl, hb3, T.cl, T.nN, rfl, ?_⟩
      refine ⟨_, _, ht.dp, hb4.dp, shaped_tup (gw.drop _).1, shaped_tup g2.1, _, rfl, ?_⟩
      refine iteG (by rw [eqv_tup, List.drop_left, decide_eq_true rfl]; rfl) ?_
      refine ⟨_, rfl, rd_m hc (by decide +kernel) ⟨_, rfl, c, _, ns ++ ms, ns, rfl, hc, .inl ⟨a, rfl, ha⟩, fun H10 s10 => ?_⟩⟩
      have sH := sH.trans s10
      have ha := ha.up s10
      have hb := hb.up s10
      have hc := hc.up s10
      obtain ⟨dxb5, tb5, hb5, _⟩ := id hb
      refine ⟨_, rfl, b, dxb5, _, rfl, hb5, b, ms, rfl, hb, ms.length, rfl, by omega, _, _, rfl, rfl, ?_⟩
      refine ⟨rfl, _, rfl, ?_⟩
      have e0 : decide (0 < ms.length) = decide ((0 : Int) < (ms.length : Int)) := decide_eq_decide.mpr ⟨fun h => by omega, fun h => by omega⟩
      refine iteG (by rw [below_app, e0, decide_eq_true rfl]; rfl) ?_
      -- the texts
      have t1 := text_len g1
      have t2 := text_len g2
      refine ⟨rfl, _, rfl, rd_p ha ⟨a, ns, rfl, ha, fun H11 s11 => ?_⟩⟩
      have sH := sH.trans s11
      have ha := ha.up s11
      have hb := hb.up s11
      have hc := hc.up s11
      refine ⟨_, rfl, rd_p hb ⟨b, ms, rfl, hb, fun H12 s12 => ?_⟩⟩
      have sH := sH.trans s12
      have ha := ha.up s12
      have hb := hb.up s12
      have hc := hc.up s12
      refine ⟨_, _, rfl, rfl, line_smallE (by omega), ?_⟩
      refine ⟨_, _, ns ++ ms, rfl, reads_app g1 g2 (by omega), fun d H13 s13 hd => ?_⟩
      have sH := sH.trans s13
      have ha := ha.up s13
      have hb := hb.up s13
      have hc := hc.up s13
      refine ⟨_, rfl, rd_eq hd hc ⟨_, rfl, ?_⟩⟩
      refine iteE (decide_eq_true rfl) ?_
      refine ⟨_, rfl, _, rfl, rd_eq ha hb ?_⟩
      refine ⟨_, rfl, rd_p ha ⟨a, ns, rfl, ha, fun H14 s14 => ?_⟩⟩
      have sH := sH.trans s14
      have ha := ha.up s14
      have hb := hb.up s14
      refine ⟨_, rfl, rd_p hb ⟨b, ms, rfl, hb, fun H15 s15 => ?_⟩⟩
      have sH := sH.trans s15
      refine ⟨rfl, ?_⟩
      refine ⟨rfl, ?_⟩
      have e1 : decide (V.str (textOf ns) = V.str (textOf ms)) = decide (ns = ms) := decide_eq_decide.mpr ⟨fun h => text_inj g1 g2 (by injection h), fun h => by rw [h]⟩
      show Q (.bl (decide (V.bl (decide (ns = ms)) = V.bl (decide (V.str (textOf ns) = V.str (textOf ms)))))) H15
      rw [e1, decide_eq_true rfl]
      exact q _ sH
end
end Fl

/-! Whether is_below is an order. -/
namespace Fl
open PySem L2 TL
theorem PathAt.updL {C : Addr} {H : Hp} {p D : Addr} {ns : List Str} {xs : List V} {o : HO} (h : PathAt C H p ns) (hD : H D = some (.lst xs)) : PathAt C (upd H D o) p ns := by
  obtain ⟨dx, t, h1, h2, g⟩ := h
  refine ⟨dx, t, by rw [upd_ne (ne_of h1 hD (by intro q; cases q))]; exact h1, ?_, g⟩
  unfold TupAt at h2 ⊢
  rw [upd_ne (ne_of h2 hD (by intro q; cases q))]
  exact h2
/-- three rows in a list -/
def RowsAt (H : Hp) (L : Addr) (ls : List Addr) : Prop := H L = some (.lst (ls.map V.ref)) ∧ ls.length = 3 ∧ ∀ l ∈ ls, ∃ ns, RowAt H l ns
theorem RowsAt.up {H H' : Hp} {L : Addr} {ls : List Addr} (h : RowsAt H L ls) (s : Same H H') : RowsAt H' L ls := ⟨s _ _ h.1, h.2.1, fun l hl => let ⟨ns, r⟩ := h.2.2 l hl; ⟨ns, r.up s⟩⟩
theorem ref_at {ls : List Addr} {i : Nat} {v : V} (h : (ls.map V.ref)[i]? = some v) : ∃ n, ls[i]? = some n ∧ v = .ref n := by
  rw [List.getElem?_map] at h
  cases e : ls[i]? with
  | none => rw [e] at h; cases h
  | some n => rw [e] at h; exact ⟨n, rfl, (Option.some.inj h).symm⟩
def spThree : Sp := fun vs H Q _ => ∃ L ls, vs = [.ref L] ∧ RowsAt H L ls ∧ Qs H (.bl true) Q
section
variable {P : Program} {w : World} {K : PySem.W.Frag} {mg : Str → Option Value} {base : Heap} {C : Addr}
theorem scThree : FnScope ["_law_rows", "_law_one", "_law_two", "_law_three", "_law_row"] ["_law_rows"] (defScope sThree) := ⟨rfl, rfl, rfl, by decide +kernel, rfl, by decide +kernel, by decide +kernel⟩
theorem ok_three {f : Addr} {fd : FuncData} (F : Fun K "_law_three_right" "_law_three_right" sThree f fd) (X : PX P w K mg base C) (G : Gd P w K mg base 4 "_law_path_of_row" ["_law_p"] (spRow C)) : FnOk P w K mg base CX0 8 f fd ["_law_rows"] spThree := by
  refine F.ok scThree (fun vs H Q E h => ?_) (fun cdv A outer s H vs Q E hr h => ?_)
  · obtain ⟨L, ls, rfl, _⟩ := h
    rfl
  · obtain ⟨L, ls, rfl, R, q⟩ := h
    have T := X.T
    obtain ⟨fe, NE, FE⟩ := X.eq
    have hr6 : Room 6 _ := hr.mono (by decide)
    have hr4 : Room 4 _ := hr.mono (by decide)
    have hr1 : Room 1 _ := hr.mono (by decide)
    refine ⟨_, pss_cons (ps_asg (pe_lc (own := [("_law_row", 4)]) (g := gName 4) (tt := tYes) (by rfl) scThree.nd (pi_list (pv 0)) (blkOk_by (N := ["_law_rows", "_law_one", "_law_two", "_law_three", "_law_row"]) (sc := defScope sThree) (by decide +kernel)) (fun _ _ _ _ _ => pg_name (i := 4) scThree.nd rfl (Or.inl rfl)) (fun _ _ _ _ _ => pts_nil)
          (fun _ _ _ _ _ => pe_gd G hr4 (by rfl) (pa_cons (pv 4) pa_nil))) (pg_unl (by rfl) (pgs_cons (pg_name (i := 1) scThree.nd rfl (Or.inl rfl)) (pgs_cons (pg_name (i := 2) scThree.nd rfl (Or.inl rfl)) (pgs_cons (pg_name (i := 3) scThree.nd rfl (Or.inl rfl)) pgs_nil)))))
      (pss_cons (ps_if (PW.pt (pw_and (pt_val (pe_cm (pv 1) T.cl X.below hr6 (pa_cons (pv 2) pa_nil))) (pw_and (pt_val (pe_cm (pv 2) T.cl X.below hr6 (pa_cons (pv 3) pa_nil))) (pw_and1 (pt_not (pt_val (pe_cm (pv 1) T.cl X.below hr6 (pa_cons (pv 3) pa_nil)))))))) (pss_one (ps_ret pe_bl)) pss_nil)
      (pss_cons (ps_if (PW.pt (pw_or (pt_not (PW.pt (pw_and (pt_val (pe_cm (pv 1) T.cl X.below hr6 (pa_cons (pv 2) pa_nil))) (pw_and1 (pt_val (pe_cm (pv 1) T.cl X.below hr6 (pa_cons (pv 3) pa_nil))))))) (pw_or1 (pt_cmpR (op_eqO NE.eq FE hr1) (pv 2) (pv 3) (nomark _))))) (pss_one (ps_ret pe_bl)) pss_nil)
      (pss_one (ps_ret (pe_cmpR op_ne (pe_cm (pv 2) T.cl X.below hr6 (pa_cons (pv 3) pa_nil)) (pe_cm (pv 3) T.cl X.below hr6 (pa_cons (pv 2) pa_nil)) (nomark _)))))), ?_⟩
    refine ⟨_, rfl, L, rfl, ⟨_, SqL.of R.1⟩, fun D hD => lc_list (K := K) (a := L) (xs := ls.map V.ref) (fun i H' => Same H H' ∧ ∃ ps : List Addr, H' D = some (.lst (ps.map V.ref)) ∧ ps.length = i ∧ ∀ j p l ns, ps[j]? = some p → ls[j]? = some l → RowAt H l ns → PathAt C H' p ns)
      ⟨same_upd hD, ([] : List Addr), upd_same, rfl, fun j p l ns h => by rw [List.getElem?_nil] at h; cases h⟩ (fun i H' _ hP => SqL.of (hP.1 _ _ R.1)) (fun i x H' hx hP => ?_) fun H' hP => ?_⟩
    · obtain ⟨l, hl, rfl⟩ := ref_at hx
      obtain ⟨sm, ps, h1, h2, h3⟩ := hP
      obtain ⟨ns, hn⟩ := R.2.2 l (List.mem_of_getElem? hl)
      have hi : i < ls.length := (List.getElem?_eq_some_iff.mp hl).1
      have h3' := R.2.1
      refine ⟨rfl, yes_ ?_⟩
      refine ⟨_, rfl, l, ns, rfl, hn.up sm, fun p H2 s2 hp => ?_⟩
      have hD2 := s2 _ _ h1
      refine ⟨_, hD2, by rw [List.length_map]; exact line_small (by omega), same_over (sm.trans s2) hD, ps ++ [p], by rw [upd_same, List.map_append]; rfl, by rw [List.length_append, h2]; rfl, fun j p' l' ns' hj hl' hn' => ?_⟩
      by_cases hjl : j < ps.length
      · rw [List.getElem?_append_left hjl] at hj
        exact ((h3 j p' l' ns' hj hl' hn').up s2).updL hD2
      · rw [List.getElem?_append_right (by omega)] at hj
        have ej : j = ps.length := by
          have := (List.getElem?_eq_some_iff.mp hj).1
          simp only [List.length_singleton] at this
          omega
        subst ej
        rw [Nat.sub_self] at hj
        have ep : p = p' := Option.some.inj hj
        subst ep
        rw [h2, hl] at hl'
        cases hl'
        have en : ns = ns' := by
          have z := hn.1.symm.trans hn'.1
          have e2 : ns.map V.str = ns'.map V.str := by injection z with z; injection z
          exact List.map_inj_right (fun a b h => by injection h) |>.mp e2
        subst en
        exact hp.updL hD2
    · obtain ⟨sm, ps, h1, h2, h3⟩ := hP
      have hlen := R.2.1
      rw [List.length_map, hlen] at h2
      obtain ⟨p1, p2, p3, rfl⟩ : ∃ p1 p2 p3, ps = [p1, p2, p3] := by
        match ps, h2 with
        | [a, b, c], _ => exact ⟨a, b, c, rfl⟩
      obtain ⟨l1, l2, l3, rfl⟩ : ∃ l1 l2 l3, ls = [l1, l2, l3] := by
        match ls, hlen with
        | [a, b, c], _ => exact ⟨a, b, c, rfl⟩
      obtain ⟨a, ra⟩ := R.2.2 l1 (by simp)
      obtain ⟨b, rb⟩ := R.2.2 l2 (by simp)
      obtain ⟨c, rc⟩ := R.2.2 l3 (by simp)
      have ha : PathAt C H' p1 a := h3 0 p1 l1 a rfl rfl ra
      have hb : PathAt C H' p2 b := h3 1 p2 l2 b rfl rfl rb
      have hc : PathAt C H' p3 c := h3 2 p3 l3 c rfl rfl rc
      refine ⟨D, _, rfl, SqL.of h1, rfl, _, _, rfl, _, _, rfl, _, _, rfl, rfl, ?_⟩
      -- an order
      dsimp only
      refine skip_if (R := fun H2 => Same H' H2) (fun NX nx => ?_) fun H7 s7 => ?_
      · refine ⟨_, rfl, rd_m ha (by decide +kernel) ⟨_, rfl, p1, _, a, b, rfl, ha, .inl ⟨p2, rfl, hb⟩, fun H8 s8 => ⟨_, rfl, ?_⟩⟩⟩
        have ha := ha.up s8
        have hb := hb.up s8
        have hc := hc.up s8
        cases hab : below a b with
        | false => exact iteF (iteF (nx _ s8))
        | true =>
          refine iteT ?_
          refine ⟨_, rfl, rd_m hb (by decide +kernel) ⟨_, rfl, p2, _, b, c, rfl, hb, .inl ⟨p3, rfl, hc⟩, fun H9 s9 => ⟨_, rfl, ?_⟩⟩⟩
          have ha := ha.up s9
          have hc := hc.up s9
          cases hbc : below b c with
          | false => exact iteF (iteF (nx _ (s8.trans s9)))
          | true =>
            refine iteT ?_
            refine ⟨_, rfl, rd_m ha (by decide +kernel) ⟨_, rfl, p1, _, a, c, rfl, ha, .inl ⟨p3, rfl, hc⟩, fun H10 s10 => ⟨_, rfl, ?_⟩⟩⟩
            refine iteG (by rw [below_trans hab hbc]; rfl) ?_
            exact nx _ ((s8.trans s9).trans s10)
      · have sH := sm.trans s7
        have ha := ha.up s7
        have hb := hb.up s7
        have hc := hc.up s7
        refine ⟨_, rfl, rd_m ha (by decide +kernel) ⟨_, rfl, p1, _, a, b, rfl, ha, .inl ⟨p2, rfl, hb⟩, fun H8 s8 => ⟨_, rfl, ?_⟩⟩⟩
        have sH := sH.trans s8
        have ha := ha.up s8
        have hb := hb.up s8
        have hc := hc.up s8
        cases hab : below a b with
        | false => exact iteF (iteT (iteT (q _ sH)))
        | true =>
          refine iteT ?_
          refine ⟨_, rfl, rd_m ha (by decide +kernel) ⟨_, rfl, p1, _, a, c, rfl, ha, .inl ⟨p3, rfl, hc⟩, fun H9 s9 => ⟨_, rfl, ?_⟩⟩⟩
          have sH := sH.trans s9
          have hb := hb.up s9
          have hc := hc.up s9
          cases hac : below a c with
          | false => exact iteT (iteT (q _ sH))
          | true =>
            refine iteF ?_
            refine ⟨_, rfl, _, rfl, rd_eq hb hc ⟨_, rfl, ?_⟩⟩
            by_cases ebc : b = c
            · refine iteE (decide_eq_true ebc) ?_
              exact q _ sH
            · refine iteG (decide_eq_false ebc) ?_
              refine ⟨_, rfl, rd_m hb (by decide +kernel) ⟨_, rfl, p2, _, b, c, rfl, hb, .inl ⟨p3, rfl, hc⟩, fun H10 s10 => ?_⟩⟩
              have hb := hb.up s10
              have hc := hc.up s10
              refine ⟨_, rfl, rd_m hc (by decide +kernel) ⟨_, rfl, p3, _, c, b, rfl, hc, .inl ⟨p2, rfl, hb⟩, fun H11 s11 => ?_⟩⟩
              refine ⟨rfl, ?_⟩
              show Q (.bl (!decide (V.bl (below b c) = V.bl (below c b)))) H11
              rw [below_total hab hac ebc, decide_eq_false (fun h => by
                have z : (!below c b) = below c b := by injection h
                cases q : below c b <;> rw [q] at z <;> cases z)]
              exact q _ ((sH.trans s10).trans s11)
end
end Fl

/-! The law. -/
namespace Fl
open PySem L2 TL
abbrev sLaw : Stmt := top 28
def forBody : Stmt → List Stmt
  | .For _ _ b _ _ => b
  | _ => []
def asgVal : Stmt → Expr
  | .Assign _ e _ => e
  | _ => .Name "" ⟨0, 0, 0, 0⟩
def lcScope : Expr → Scope
  | .ListComp _ _ sc _ => sc
  | _ => { kind := .function, names := [], isGenerator := false, isCoroutine := false }
def atS (l : List Stmt) (i : Nat) : Stmt := l.getD i (.Pass ⟨0, 0, 0, 0⟩)
/-- the block of the outer comprehension -/
def outSc0 : Scope := lcScope (asgVal (atS (forBody (atS (forBody (atS (defBody sLaw) 0)) 1)) 0))
/-- .. as it is read within the def: the captured name is a cell of the frame -/
def outSc : Scope := { outSc0 with names := outSc0.names.map fun (n, k) => if k = .free then (n, .cell) else (n, k) }
abbrev NL : List Str := ["_law_script", "_law_k", "_law_source_here", "_law_turn", "_law_rows", "_law_near", "_law_far", "_law_m", "_law_n", "_law_row"]
def spLaw (K : PySem.W.Frag) : Sp := fun vs H Q _ => ∃ (a : Addr) (ns : List Int), vs = [.ref a] ∧ SqL K H a (ns.map V.int) ∧ ns.length ≤ 63 ∧ ∀ H', Q (.bl true) H'
section
variable {P : Program} {w : World} {K : PySem.W.Frag} {mg : Str → Option Value} {base : Heap} {C : Addr}
theorem Src.upd {H : Hp} {a D : Addr} {m : Nat} {o : HO} (h : Src H a m) (n : a ≠ D) : Src (L2.upd H D o) a m := by
  obtain ⟨c, k, r, e, h1⟩ := h
  exact ⟨c, k, r, by rw [upd_ne n]; exact e, h1⟩
theorem Src.up {H H' : Hp} {a : Addr} {m : Nat} (h : Src H a m) (s : Same H H') : Src H' a m := by
  obtain ⟨c, k, r, e, h1⟩ := h
  exact ⟨c, k, r, s _ _ e, h1⟩
theorem Src.new {H : Hp} {a D : Addr} {m : Nat} (h : Src H a m) (n : H D = none) : a ≠ D := by
  obtain ⟨c, k, r, e, h1⟩ := h
  exact ne_of_none e n
theorem row_ne {H : Hp} {a l : Addr} {m : Nat} {ns : List Str} (h : Src H a m) (r : RowAt H l ns) : l ≠ a := by
  rintro rfl
  obtain ⟨c, k, q, e, h1⟩ := h
  have z := e.symm.trans r.1
  match ns with
  | [] => cases z
  | _ :: _ => cases z
theorem same_x {H H1 H2 : Hp} {s : Addr} (a : Same H H1) (hs : H s = none) (x : SameX s H1 H2) : Same H H2 := fun b o e => x b o (ne_of_none e hs) (a b o e)
theorem scLaw : FnScope NL ["_law_script"] (defScope sLaw) := ⟨rfl, rfl, rfl, by decide +kernel, rfl, by decide +kernel, by decide +kernel⟩
theorem ok_law {f : Addr} {fd : FuncData} (F : Fun K "law" "law" sLaw f fd) (T : TX K mg C) (GS : Gd P w K mg base 1 "_law_source" ["_law_script", "_law_k"] (spSource K)) (GN : Gd P w K mg base 1 "_law_next" ["_law_source_here", "_law_many"] spNext)
    (GP : Gd P w K mg base 2 "_law_pick" ["_law_source_here", "_law_items"] spPick) (G1 : Gd P w K mg base 8 "_law_one_right" ["_law_row"] spOne) (G2 : Gd P w K mg base 8 "_law_pair_right" ["_law_near", "_law_far"] spPair) (G3 : Gd P w K mg base 8 "_law_three_right" ["_law_rows"] spThree) :
    FnOk P w K mg base CX0 9 f fd ["_law_script"] (spLaw K) := by
  refine F.ok scLaw (fun vs H Q E h => ?_) (fun cdv A outer s H vs Q E hr h => ?_)
  · obtain ⟨a, ns, rfl, _⟩ := h
    rfl
  · obtain ⟨a, ns, rfl, hS, hlen, q⟩ := h
    have hr2 : Room 2 _ := hr.mono (by decide)
    have hr1 : Room 1 _ := hr.mono (by decide)
    refine ⟨_, pss_cons (ps_for PassesOwn.never rfl (pi_range1 (by rfl) T.bRange (pa_cons (pe_callB (call_max2 rfl) (by rfl) T.bMax (by decide +kernel) (pa_cons pe_int (pa_cons (pe_callB (call_min2 rfl) (by rfl) T.bMin (by decide +kernel) (pa_cons pe_int (pa_cons (pe_callB call_len (by rfl) T.bLen (by decide +kernel) (pa_cons (pv 0) pa_nil)) pa_nil))) pa_nil))) pa_nil)) (pg_name (i := 1) scLaw.nd rfl (Or.inl rfl))
        (pss_cons (ps_set (i := 2) scLaw.nd rfl (Or.inr rfl) (pe_gd GS hr1 (by rfl) (pa_cons (pv 0) (pa_cons (pv 1) pa_nil))))
        (pss_one (ps_for PassesOwn.never rfl (pi_range1 (by rfl) T.bRange (pa_cons pe_int pa_nil)) (pg_name (i := 3) scLaw.nd rfl (Or.inl rfl))
          (pss_cons (ps_setLc (i := 4) (own := [("_law_m", 7)]) (g := gName 7) (tt := tYes) (by rfl) scLaw.nd rfl rfl (sw_true rfl rfl rfl (by decide +kernel)) (pi_range1 (by rfl) T.bRange (pa_cons pe_int pa_nil)) (blkOk_by (N := NL) (sc := defScope sLaw) (by decide +kernel))
              (fun _ _ _ _ _ => pg_name (i := 7) scLaw.nd rfl (Or.inl rfl)) (fun _ _ _ _ _ => pts_nil)
              (fun _ _ _ _ _ => pe_lc (own := [("_law_n", 8)]) (g := gName 8) (tt := tYes) (by rfl) scLaw.nd (pi_range1 (by rfl) T.bRange (pa_cons (pe_gd GN hr1 (by rfl) (pa_cons (pv 2) (pa_cons pe_int pa_nil))) pa_nil)) (blkOk_by (N := NL) (sc := outSc) (by decide +kernel))
                (fun _ _ _ _ _ => pg_name (i := 8) scLaw.nd rfl (Or.inl rfl)) (fun _ _ _ _ _ => pts_nil)
                (fun _ _ _ _ _ => pe_gd GP hr2 (by rfl) (pa_cons (pv 2) (pa_cons (pe_lst (pa_cons pe_str (pa_cons pe_str (pa_cons pe_str pa_nil)))) pa_nil)))))
          (pss_cons (ps_if (PW.pt (pw_or (pt_cmpR (op_neD hr.units) (pe_lc (own := [("_law_row", 9)]) (g := gName 9) (by rfl) scLaw.nd (pi_list (pv 4)) (blkOk_by (N := NL) (sc := defScope sLaw) (by decide +kernel)) (fun _ _ _ _ _ => pg_name (i := 9) scLaw.nd rfl (Or.inl rfl))
                (fun _ _ _ _ _ => pts_one (pt_not (pt_val (pe_gd G1 hr (by rfl) (pa_cons (pv 9) pa_nil))))) (fun _ _ _ _ _ => pv 9)) (pe_lst pa_nil) (nomark _))
              (pw_or1 (pt_not (pt_val (pe_gd G3 hr (by rfl) (pa_cons (pv 4) pa_nil))))))) (pss_one (ps_ret pe_bl)) pss_nil)
          (pss_one (ps_for PassesOwn.never rfl (pi_list (pv 4)) (pg_name (i := 5) scLaw.nd rfl (Or.inl rfl))
            (pss_one (ps_for PassesOwn.never rfl (pi_list (pv 4)) (pg_name (i := 6) scLaw.nd rfl (Or.inl rfl))
              (pss_one (ps_if (pt_not (pt_val (pe_gd G2 hr (by rfl) (pa_cons (pv 5) (pa_cons (pv 6) pa_nil))))) (pss_one (ps_ret pe_bl)) pss_nil))))))))))))
      (pss_one (ps_ret pe_bl)), ?_⟩
    have hl63 : (ns.map V.int).length ≤ 63 := by rw [List.length_map]; exact hlen
    refine ⟨_, rfl, _, _, rfl, .inl ⟨_, hS, rfl⟩, _, _, rfl, _, _, rfl, _, rfl, by repeat' split <;> omega, by repeat' split <;> omega, for_range (lo := 0) (fun k σ H' => ∃ v1 v2 v3 v4 v5 v6, σ = [some (.ref a), v1, v2, v3, v4, v5, v6, none, none, none] ∧ Same H H')
      ⟨_, _, _, _, _, _, rfl, Same.refl _⟩ ?_ ?_⟩
    · rintro k σ H1 hk ⟨v1, v2, v3, v4, v5, v6, rfl, sH1⟩
      have hk2 : k ≤ 2 := by
        revert hk
        repeat' split
        all_goals omega
      refine ⟨_, rfl, _, rfl, a, ns, k, (by show [V.ref a, V.int (0 + (k : Int))] = _; rw [Int.zero_add]), sH1.seq hS, hlen, hk2, fun s H2 s2 hs0 hsrc => ?_⟩
      have hs : H s = none := sH1.free hs0
      have sH2 := sH1.trans s2
      refine ⟨6, rfl, by decide, by decide, for_range (lo := 0) (n := 6) (fun t σ H' => ∃ v3 v4 v5 v6, σ = [some (.ref a), some (.int (0 + (k : Int))), some (.ref s), v3, v4, v5, v6, none, none, none] ∧ Same H H' ∧ Src H' s (6 + 15 * t))
        ⟨_, _, _, _, rfl, sH2, hsrc⟩ ?_ ?_⟩
      · rintro t σ H3 ht ⟨w3, w4, w5, w6, rfl, sH3, src⟩
        refine ⟨3, rfl, by decide, by decide, fun D hD => ?_⟩
        have sD : s ≠ D := src.new hD
        have hDH : H D = none := sH3.free hD
        refine lc_range (lo := 0) (n := 3) (fun i H' => Same H H' ∧ Src H' s (6 + 15 * t + 5 * i) ∧ ∃ ls : List Addr, H' D = some (.lst (ls.map V.ref)) ∧ ls.length = i ∧ ∀ l ∈ ls, l ≠ D ∧ ∃ ns, RowAt H' l ns)
          ⟨same_over sH3 hDH, src.upd sD, ([] : List Addr), upd_same, rfl, fun l h => by cases h⟩ ?_ ?_
        · rintro i H4 hi ⟨sm, sr, ls, hL, hlen3, hrows⟩
          refine ⟨rfl, yes_ ?_⟩
          refine ⟨_, rfl, s, 6 + 15 * t + 5 * i, 5, rfl, sr, by omega, by decide, by decide, fun v H5 v0 v5 sr5 sx5 => ?_⟩
          refine ⟨v, rfl, by omega, by omega, fun D2 hD2 => ?_⟩
          have sD2 : s ≠ D2 := sr5.new hD2
          have hL5 := sx5 _ _ (Ne.symm sD) hL
          have dD2 : D ≠ D2 := ne_of_none hL5 hD2
          refine lc_range (lo := 0) (n := v.toNat) (fun j H' => SameX s H5 H' ∧ Src H' s (6 + 15 * t + 5 * i + 1 + j) ∧ ∃ xs : List Str, H' D2 = some (.lst (xs.map V.str)) ∧ xs.length = j ∧ ∀ x ∈ xs, Nm x)
            ⟨Fl.Same.x (same_upd hD2), sr5.upd sD2, ([] : List Str), upd_same, rfl, fun x h => by cases h⟩ ?_ ?_
          · rintro j H6 hj ⟨sx6, sr6, xs, hx, hxl, hnm⟩
            refine ⟨rfl, yes_ ?_⟩
            refine ⟨_, rfl, (by show 3 ≤ sizeLine; decide), fun l hl => ?_⟩
            have sl : s ≠ l := sr6.new hl
            refine ⟨s, l, 6 + 15 * t + 5 * i + 1 + j, [("a" : Str), ("b" : Str), ("a.b" : Str)], rfl, sr6.upd sl, by omega, sl, upd_same, by decide, by decide, fun x H7 hxm sr7 sx7 => ?_⟩
            have hx7 := sx7 _ _ (Ne.symm sD2) (same_upd (o := .lst [.str "a", .str "b", .str "a.b"]) hl _ _ hx)
            refine ⟨_, hx7, by rw [List.length_map]; exact line_small (by omega), fun b o nb e => ?_, sr7.upd sD2, xs ++ [x], by rw [upd_same, List.map_append]; rfl, by rw [List.length_append, hxl]; rfl, fun y hy => ?_⟩
            · rw [upd_ne (ne_of_none e hD2)]
              exact sx7 _ _ nb (same_upd (o := .lst [.str "a", .str "b", .str "a.b"]) hl _ _ (sx6 _ _ nb e))
            · rcases List.mem_append.mp hy with hy | hy
              · exact hnm y hy
              · rw [List.mem_singleton.mp hy]
                rcases List.mem_cons.mp hxm with e | hxm
                · exact .inl e
                · rcases List.mem_cons.mp hxm with e | hxm
                  · exact .inr (.inl e)
                  · exact .inr (.inr (List.mem_singleton.mp hxm))
          · rintro H6 ⟨sx6, sr6, xs, hx, hxl, hnm⟩
            have hL6 := sx6 _ _ (Ne.symm sD) hL5
            have sm6 := same_x (same_x sm hs sx5) hs sx6
            refine ⟨_, hL6, by rw [List.length_map]; exact line_small (by omega), same_over sm6 hDH, (sr6.upd sD).le (by omega), ls ++ [D2], by rw [upd_same, List.map_append]; rfl, by rw [List.length_append, hlen3]; rfl, fun l hl => ?_⟩
            rcases List.mem_append.mp hl with hl | hl
            · obtain ⟨nD, ns', r⟩ := hrows l hl
              have nl := row_ne sr r
              exact ⟨nD, ns', by rw [upd_ne nD]; exact sx6 _ _ nl (sx5 _ _ nl r.1), r.2⟩
            · rw [List.mem_singleton.mp hl]
              exact ⟨Ne.symm dD2, xs, by rw [upd_ne (Ne.symm dD2)]; exact hx, hnm, by omega⟩
        · rintro H5 ⟨sm, sr, ls, hL, hlen3, hrows⟩
          have rows : RowsAt H5 D ls := ⟨hL, hlen3, fun l hl => (hrows l hl).2⟩
          clear hrows
          refine ⟨_, rfl, D, rfl, ⟨_, SqL.of hL⟩, fun D3 hD3 => lc_list (K := K) (a := D) (xs := ls.map V.ref) (fun i H' => Same H5 H' ∧ H' D3 = some (.lst [])) ⟨same_upd hD3, upd_same⟩ (fun i H' _ hP => SqL.of (hP.1 _ _ hL)) (fun i x H6 hx hP => ?_) fun H6 hP => ?_⟩
          · obtain ⟨l, hl, rfl⟩ := ref_at hx
            obtain ⟨ns', r⟩ := rows.2.2 l (List.mem_of_getElem? hl)
            refine ⟨rfl, ?_⟩
            refine ⟨_, rfl, l, ns', rfl, r.up hP.1, fun H7 s7 => ⟨_, rfl, ?_⟩⟩
            exact iteG rfl ⟨hP.1.trans s7, s7 _ _ hP.2⟩
          · refine ⟨Nat.zero_le _, fun e he => ?_⟩
            have s7 := hP.1.trans (same_upd (o := .lst []) he)
            refine ⟨_, _, .lst (SqL.of (same_upd (o := .lst []) he _ _ hP.2)) .nil, .lst (SqL.of upd_same) .nil, shaped_lst (ns := []) (fun _ h => by simp at h), shaped_lst (ns := []) (fun _ h => by simp at h), _, rfl, ?_⟩
            refine iteG (by decide) ?_
            refine ⟨_, rfl, D, ls, rfl, rows.up s7, fun H8 s8 => ⟨_, rfl, ?_⟩⟩
            refine iteG rfl ?_
            have s9 := s7.trans s8
            refine ⟨_, rfl, D, rfl, ⟨_, SqL.of (s9 _ _ hL)⟩, for_list (K := K) (a := D) (xs := ls.map V.ref) (fun i σ H' => ∃ u5 u6, σ = [some (.ref a), some (.int (0 + (k : Int))), some (.ref s), some (.int (0 + (t : Int))), some (.ref D), u5, u6, none, none, none] ∧ Same H5 H') ⟨_, _, rfl, s9⟩
              (fun i σ H' _ ⟨_, _, _, s'⟩ => SqL.of (s' _ _ hL)) ?_ ?_⟩
            · rintro i x σ H10 hx ⟨u5, u6, rfl, s10⟩
              obtain ⟨l, hl, rfl⟩ := ref_at hx
              obtain ⟨n1, r1⟩ := rows.2.2 l (List.mem_of_getElem? hl)
              refine ⟨_, rfl, D, rfl, ⟨_, SqL.of (s10 _ _ hL)⟩, for_list (K := K) (a := D) (xs := ls.map V.ref) (fun i σ H' => ∃ u6, σ = [some (.ref a), some (.int (0 + (k : Int))), some (.ref s), some (.int (0 + (t : Int))), some (.ref D), some (.ref l), u6, none, none, none] ∧ Same H5 H') ⟨_, rfl, s10⟩
                (fun i σ H' _ ⟨_, _, s'⟩ => SqL.of (s' _ _ hL)) ?_ ?_⟩
              · rintro i2 x2 σ H11 hx2 ⟨z6, rfl, s11⟩
                obtain ⟨l2, hl2, rfl⟩ := ref_at hx2
                obtain ⟨n2, r2⟩ := rows.2.2 l2 (List.mem_of_getElem? hl2)
                refine ⟨_, rfl, _, rfl, l, l2, n1, n2, rfl, r1.up s11, r2.up s11, fun H12 s12 => ⟨_, rfl, ?_⟩⟩
                refine iteG rfl ?_
                exact ⟨_, rfl, s11.trans s12⟩
              · rintro σ H11 ⟨z6, rfl, s11⟩
                exact ⟨_, _, rfl, s11⟩
            · rintro σ H10 ⟨u5, u6, rfl, s10⟩
              exact ⟨_, _, _, _, rfl, sm.trans s10, (sr.up s10).le (by omega)⟩
      · rintro σ H3 ⟨w3, w4, w5, w6, rfl, sH3, _⟩
        exact ⟨_, _, _, _, _, _, rfl, sH3⟩
    · rintro σ H1 _
      exact q _
end
end Fl

/-! What the top has written; the walk. -/
namespace Fl
open PySem L2 TL
theorem kit_same {K : PySem.W.Frag} (C : Addr) : PySem.W.kitOne K (.ref C) (.ref C) = some true := by
  unfold PySem.W.kitOne
  rw [if_pos (by simp)]
theorem kit_str {K : PySem.W.Frag} {C : Addr} (hd : PySem.W.hasDictIn K C = true) (ty : PySem.W.typeIn K (.ref C) = some (.type "type")) (sb : PySem.W.subIn K (.type "str") (.ref C) = some false) : PySem.W.kitOne K (.type "str") (.ref C) = some false := by
  obtain ⟨cd, hc, _⟩ := PySem.W.any_some hd
  unfold PySem.W.kitOne PySem.W.kitCls
  rw [if_neg (by simp)]
  show (if ((PySem.W.clsIn K C).isSome && PySem.W.typeIn K (.ref C) == some (.type "type")) = true then PySem.W.subIn K (.type "str") (.ref C) else none) = some false
  rw [hc, ty, if_pos (by simp)]
  exact sb
theorem gd_mk {P : Program} {w : World} {K : PySem.W.Frag} {mg : Str → Option Value} {base : Heap} {k : Nat} {name qual : Str} {st : Stmt} {f : Addr} {fd : FuncData} {ps : List Str} {sp : Sp} (F : Fun K name qual st f fd) (b : Binds K fd ps []) (hm : mg name = some (.ref f)) (ok : FnOk P w K mg base CX0 k f fd ps sp) : Gd P w K mg base k name ps sp := ⟨f, fd, ok, hm, F.kp, b⟩
theorem raw0 {P : Program} {w : World} {K : PySem.W.Frag} {mg : Str → Option Value} {base : Heap} {k : Nat} {f : Addr} {fd : FuncData} {ps : List Str} {sp : Sp} (ok : FnOk P w K mg base CX0 k f fd ps sp) (b : Binds K fd ps []) : FnR P w K mg base CX0 k f sp := FnR.imp (ok.raw b .nil) fun vs H Q E h => by rw [List.append_nil]; exact h
theorem all_mk {l : PySem.W.OpenLaw} {w : World} {K : PySem.W.Frag} {h : Heap} {mg : Str → Option Value} {fa : Addr} {C fu0 fu1 fu2 fu3 fu4 fu5 fu6 fu7 fu8 fu9 fu10 fu11 fu12 fu13 fu14 fu15 fm0 fm1 fm2 fm3 fm4 fm5 fm6 fm7 fm8 fp0 rp0 fp1 rp1 fp2 rp2 fp3 rp3 fp4 rp4 fx0 rx0 : Addr} (X : K.In h) (G : h.Ns mainGlobals mg) (hfa : mg "law" = some (.ref fa))
    {odu0 anu0 : Option Addr} {slu0 : Array (Option Value)} {ocu0 kVu0 dcu0 pmu0 cdu0 ctu0 : Value}
    {odu1 anu1 : Option Addr} {slu1 : Array (Option Value)} {ocu1 kVu1 dcu1 pmu1 cdu1 ctu1 : Value}
    {odu2 anu2 : Option Addr} {slu2 : Array (Option Value)} {ocu2 kVu2 dcu2 pmu2 cdu2 ctu2 : Value}
    {odu3 anu3 : Option Addr} {slu3 : Array (Option Value)} {ocu3 kVu3 dcu3 pmu3 cdu3 ctu3 : Value}
    {odu4 anu4 : Option Addr} {slu4 : Array (Option Value)} {ocu4 kVu4 dcu4 pmu4 cdu4 ctu4 : Value}
    {odu5 anu5 : Option Addr} {slu5 : Array (Option Value)} {ocu5 kVu5 dcu5 pmu5 cdu5 ctu5 : Value}
    {odu6 anu6 : Option Addr} {slu6 : Array (Option Value)} {ocu6 kVu6 dcu6 pmu6 cdu6 ctu6 : Value}
    {odu7 anu7 : Option Addr} {slu7 : Array (Option Value)} {ocu7 kVu7 dcu7 pmu7 cdu7 ctu7 : Value}
    {odu8 anu8 : Option Addr} {slu8 : Array (Option Value)} {ocu8 kVu8 dcu8 pmu8 cdu8 ctu8 : Value}
    {odu9 anu9 : Option Addr} {slu9 : Array (Option Value)} {ocu9 kVu9 dcu9 pmu9 cdu9 ctu9 : Value}
    {odu10 anu10 : Option Addr} {slu10 : Array (Option Value)} {ocu10 kVu10 dcu10 pmu10 cdu10 ctu10 : Value}
    {odu11 anu11 : Option Addr} {slu11 : Array (Option Value)} {ocu11 kVu11 dcu11 pmu11 cdu11 ctu11 : Value}
    {odu12 anu12 : Option Addr} {slu12 : Array (Option Value)} {ocu12 kVu12 dcu12 pmu12 cdu12 ctu12 : Value}
    {odu13 anu13 : Option Addr} {slu13 : Array (Option Value)} {ocu13 kVu13 dcu13 pmu13 cdu13 ctu13 : Value}
    {odu14 anu14 : Option Addr} {slu14 : Array (Option Value)} {ocu14 kVu14 dcu14 pmu14 cdu14 ctu14 : Value}
    {odu15 anu15 : Option Addr} {slu15 : Array (Option Value)} {ocu15 kVu15 dcu15 pmu15 cdu15 ctu15 : Value}
    {odm0 anm0 : Option Addr} {slm0 : Array (Option Value)} {ocm0 kVm0 dcm0 pmm0 cdm0 ctm0 : Value}
    {odm1 anm1 : Option Addr} {slm1 : Array (Option Value)} {ocm1 kVm1 dcm1 pmm1 cdm1 ctm1 : Value}
    {odm2 anm2 : Option Addr} {slm2 : Array (Option Value)} {ocm2 kVm2 dcm2 pmm2 cdm2 ctm2 : Value}
    {odm3 anm3 : Option Addr} {slm3 : Array (Option Value)} {ocm3 kVm3 dcm3 pmm3 cdm3 ctm3 : Value}
    {odm4 anm4 : Option Addr} {slm4 : Array (Option Value)} {ocm4 kVm4 dcm4 pmm4 cdm4 ctm4 : Value}
    {odm5 anm5 : Option Addr} {slm5 : Array (Option Value)} {ocm5 kVm5 dcm5 pmm5 cdm5 ctm5 : Value}
    {odm6 anm6 : Option Addr} {slm6 : Array (Option Value)} {ocm6 kVm6 dcm6 pmm6 cdm6 ctm6 : Value}
    {odm7 anm7 : Option Addr} {slm7 : Array (Option Value)} {ocm7 kVm7 dcm7 pmm7 cdm7 ctm7 : Value}
    {odm8 anm8 : Option Addr} {slm8 : Array (Option Value)} {ocm8 kVm8 dcm8 pmm8 cdm8 ctm8 : Value}
    {tp0 : List Value}
    {odp0 anp0 : Option Addr} {slp0 : Array (Option Value)} {ocp0 kVp0 dcp0 pmp0 cdp0 ctp0 : Value}
    {tp1 : List Value}
    {odp1 anp1 : Option Addr} {slp1 : Array (Option Value)} {ocp1 kVp1 dcp1 pmp1 cdp1 ctp1 : Value}
    {tp2 : List Value}
    {odp2 anp2 : Option Addr} {slp2 : Array (Option Value)} {ocp2 kVp2 dcp2 pmp2 cdp2 ctp2 : Value}
    {tp3 : List Value}
    {odp3 anp3 : Option Addr} {slp3 : Array (Option Value)} {ocp3 kVp3 dcp3 pmp3 cdp3 ctp3 : Value}
    {tp4 : List Value}
    {odp4 anp4 : Option Addr} {slp4 : Array (Option Value)} {ocp4 kVp4 dcp4 pmp4 cdp4 ctp4 : Value}
    {tx0 : List Value}
    {odx0 anx0 : Option Addr} {slx0 : Array (Option Value)} {ocx0 kVx0 dcx0 pmx0 cdx0 ctx0 : Value}
    {tNs tPa tNa tSg : Tok} {zS : Str} {fo ro : Option Value}
    (aC : PySem.W.nsIn K mainGlobals "Path" = some (some (.ref C)))
    (au0 : PySem.W.nsIn K mainGlobals "is_integer" = some (some (.ref fu0)))
    (lu0 : K.lookup fu0 = some ⟨ocu0, odu0, .func (PySem.W.fnOf "is_integer" "is_integer" (defArgs sIsInt) (defBody sIsInt) (defScope sIsInt) .none kVu0 dcu0 pmu0 anu0 cdu0 ctu0), slu0⟩)
    (cu0 : PySem.W.codeIn K cdu0 "is_integer" = true)
    (ku0 : PySem.W.keepIn K (.ref fu0) = true)
    (au1 : PySem.W.nsIn K mainGlobals "is_name" = some (some (.ref fu1)))
    (lu1 : K.lookup fu1 = some ⟨ocu1, odu1, .func (PySem.W.fnOf "is_name" "is_name" (defArgs sIsName) (defBody sIsName) (defScope sIsName) .none kVu1 dcu1 pmu1 anu1 cdu1 ctu1), slu1⟩)
    (cu1 : PySem.W.codeIn K cdu1 "is_name" = true)
    (ku1 : PySem.W.keepIn K (.ref fu1) = true)
    (au2 : PySem.W.nsIn K mainGlobals "place_of" = some (some (.ref fu2)))
    (lu2 : K.lookup fu2 = some ⟨ocu2, odu2, .func (PySem.W.fnOf "place_of" "place_of" (defArgs sPlace) (defBody sPlace) (defScope sPlace) .none kVu2 dcu2 pmu2 anu2 cdu2 ctu2), slu2⟩)
    (cu2 : PySem.W.codeIn K cdu2 "place_of" = true)
    (ku2 : PySem.W.keepIn K (.ref fu2) = true)
    (au3 : PySem.W.nsIn K mainGlobals "names_after" = some (some (.ref fu3)))
    (lu3 : K.lookup fu3 = some ⟨ocu3, odu3, .func (PySem.W.fnOf "names_after" "names_after" (defArgs sNamesAfter) (defBody sNamesAfter) (defScope sNamesAfter) .none kVu3 dcu3 pmu3 anu3 cdu3 ctu3), slu3⟩)
    (cu3 : PySem.W.codeIn K cdu3 "names_after" = true)
    (ku3 : PySem.W.keepIn K (.ref fu3) = true)
    (au4 : PySem.W.nsIn K mainGlobals "names_in" = some (some (.ref fu4)))
    (lu4 : K.lookup fu4 = some ⟨ocu4, odu4, .func (PySem.W.fnOf "names_in" "names_in" (defArgs sNamesIn) (defBody sNamesIn) (defScope sNamesIn) .none kVu4 dcu4 pmu4 anu4 cdu4 ctu4), slu4⟩)
    (cu4 : PySem.W.codeIn K cdu4 "names_in" = true)
    (ku4 : PySem.W.keepIn K (.ref fu4) = true)
    (au5 : PySem.W.nsIn K mainGlobals "name_parts" = some (some (.ref fu5)))
    (lu5 : K.lookup fu5 = some ⟨ocu5, odu5, .func (PySem.W.fnOf "name_parts" "name_parts" (defArgs sNameParts) (defBody sNameParts) (defScope sNameParts) .none kVu5 dcu5 pmu5 anu5 cdu5 ctu5), slu5⟩)
    (cu5 : PySem.W.codeIn K cdu5 "name_parts" = true)
    (ku5 : PySem.W.keepIn K (.ref fu5) = true)
    (au6 : PySem.W.nsIn K mainGlobals "path_of" = some (some (.ref fu6)))
    (lu6 : K.lookup fu6 = some ⟨ocu6, odu6, .func (PySem.W.fnOf "path_of" "path_of" (defArgs sPathOf) (defBody sPathOf) (defScope sPathOf) .none kVu6 dcu6 pmu6 anu6 cdu6 ctu6), slu6⟩)
    (cu6 : PySem.W.codeIn K cdu6 "path_of" = true)
    (ku6 : PySem.W.keepIn K (.ref fu6) = true)
    (au7 : PySem.W.nsIn K mainGlobals "_law_source" = some (some (.ref fu7)))
    (lu7 : K.lookup fu7 = some ⟨ocu7, odu7, .func (PySem.W.fnOf "_law_source" "_law_source" (defArgs sSource) (defBody sSource) (defScope sSource) .none kVu7 dcu7 pmu7 anu7 cdu7 ctu7), slu7⟩)
    (cu7 : PySem.W.codeIn K cdu7 "_law_source" = true)
    (ku7 : PySem.W.keepIn K (.ref fu7) = true)
    (au8 : PySem.W.nsIn K mainGlobals "_law_next" = some (some (.ref fu8)))
    (lu8 : K.lookup fu8 = some ⟨ocu8, odu8, .func (PySem.W.fnOf "_law_next" "_law_next" (defArgs sNext) (defBody sNext) (defScope sNext) .none kVu8 dcu8 pmu8 anu8 cdu8 ctu8), slu8⟩)
    (cu8 : PySem.W.codeIn K cdu8 "_law_next" = true)
    (ku8 : PySem.W.keepIn K (.ref fu8) = true)
    (au9 : PySem.W.nsIn K mainGlobals "_law_pick" = some (some (.ref fu9)))
    (lu9 : K.lookup fu9 = some ⟨ocu9, odu9, .func (PySem.W.fnOf "_law_pick" "_law_pick" (defArgs sPick) (defBody sPick) (defScope sPick) .none kVu9 dcu9 pmu9 anu9 cdu9 ctu9), slu9⟩)
    (cu9 : PySem.W.codeIn K cdu9 "_law_pick" = true)
    (ku9 : PySem.W.keepIn K (.ref fu9) = true)
    (au10 : PySem.W.nsIn K mainGlobals "_law_path_of_row" = some (some (.ref fu10)))
    (lu10 : K.lookup fu10 = some ⟨ocu10, odu10, .func (PySem.W.fnOf "_law_path_of_row" "_law_path_of_row" (defArgs sRow) (defBody sRow) (defScope sRow) .none kVu10 dcu10 pmu10 anu10 cdu10 ctu10), slu10⟩)
    (cu10 : PySem.W.codeIn K cdu10 "_law_path_of_row" = true)
    (ku10 : PySem.W.keepIn K (.ref fu10) = true)
    (au11 : PySem.W.nsIn K mainGlobals "_law_one_right" = some (some (.ref fu11)))
    (lu11 : K.lookup fu11 = some ⟨ocu11, odu11, .func (PySem.W.fnOf "_law_one_right" "_law_one_right" (defArgs sOne) (defBody sOne) (defScope sOne) .none kVu11 dcu11 pmu11 anu11 cdu11 ctu11), slu11⟩)
    (cu11 : PySem.W.codeIn K cdu11 "_law_one_right" = true)
    (ku11 : PySem.W.keepIn K (.ref fu11) = true)
    (au12 : PySem.W.nsIn K mainGlobals "_law_put_behind" = some (some (.ref fu12)))
    (lu12 : K.lookup fu12 = some ⟨ocu12, odu12, .func (PySem.W.fnOf "_law_put_behind" "_law_put_behind" (defArgs sPut) (defBody sPut) (defScope sPut) .none kVu12 dcu12 pmu12 anu12 cdu12 ctu12), slu12⟩)
    (cu12 : PySem.W.codeIn K cdu12 "_law_put_behind" = true)
    (ku12 : PySem.W.keepIn K (.ref fu12) = true)
    (au13 : PySem.W.nsIn K mainGlobals "_law_pair_right" = some (some (.ref fu13)))
    (lu13 : K.lookup fu13 = some ⟨ocu13, odu13, .func (PySem.W.fnOf "_law_pair_right" "_law_pair_right" (defArgs sPair) (defBody sPair) (defScope sPair) .none kVu13 dcu13 pmu13 anu13 cdu13 ctu13), slu13⟩)
    (cu13 : PySem.W.codeIn K cdu13 "_law_pair_right" = true)
    (ku13 : PySem.W.keepIn K (.ref fu13) = true)
    (au14 : PySem.W.nsIn K mainGlobals "_law_three_right" = some (some (.ref fu14)))
    (lu14 : K.lookup fu14 = some ⟨ocu14, odu14, .func (PySem.W.fnOf "_law_three_right" "_law_three_right" (defArgs sThree) (defBody sThree) (defScope sThree) .none kVu14 dcu14 pmu14 anu14 cdu14 ctu14), slu14⟩)
    (cu14 : PySem.W.codeIn K cdu14 "_law_three_right" = true)
    (ku14 : PySem.W.keepIn K (.ref fu14) = true)
    (au15 : PySem.W.nsIn K mainGlobals "law" = some (some (.ref fu15)))
    (lu15 : K.lookup fu15 = some ⟨ocu15, odu15, .func (PySem.W.fnOf "law" "law" (defArgs sLaw) (defBody sLaw) (defScope sLaw) .none kVu15 dcu15 pmu15 anu15 cdu15 ctu15), slu15⟩)
    (cu15 : PySem.W.codeIn K cdu15 "law" = true)
    (ku15 : PySem.W.keepIn K (.ref fu15) = true)
    (am0 : PySem.W.findIn K (.ref C) "__init__" = some (some (.ref fm0)))
    (im0 : PySem.W.isFn K (.ref fm0) = true)
    (lm0 : K.lookup fm0 = some ⟨ocm0, odm0, .func (PySem.W.fnOf "__init__" "Path.__init__" (defArgs sInit) (defBody sInit) (defScope sInit) .none kVm0 dcm0 pmm0 anm0 cdm0 ctm0), slm0⟩)
    (cm0 : PySem.W.codeIn K cdm0 "Path.__init__" = true)
    (km0 : PySem.W.keepIn K (.ref fm0) = true)
    (am1 : PySem.W.findIn K (.ref C) "__floordiv__" = some (some (.ref fm1)))
    (im1 : PySem.W.isFn K (.ref fm1) = true)
    (lm1 : K.lookup fm1 = some ⟨ocm1, odm1, .func (PySem.W.fnOf "__floordiv__" "Path.__floordiv__" (defArgs sFdiv) (defBody sFdiv) (defScope sFdiv) .none kVm1 dcm1 pmm1 anm1 cdm1 ctm1), slm1⟩)
    (cm1 : PySem.W.codeIn K cdm1 "Path.__floordiv__" = true)
    (km1 : PySem.W.keepIn K (.ref fm1) = true)
    (am2 : PySem.W.findIn K (.ref C) "__eq__" = some (some (.ref fm2)))
    (im2 : PySem.W.isFn K (.ref fm2) = true)
    (lm2 : K.lookup fm2 = some ⟨ocm2, odm2, .func (PySem.W.fnOf "__eq__" "Path.__eq__" (defArgs sEq) (defBody sEq) (defScope sEq) .none kVm2 dcm2 pmm2 anm2 cdm2 ctm2), slm2⟩)
    (cm2 : PySem.W.codeIn K cdm2 "Path.__eq__" = true)
    (km2 : PySem.W.keepIn K (.ref fm2) = true)
    (am3 : PySem.W.findIn K (.ref C) "__len__" = some (some (.ref fm3)))
    (im3 : PySem.W.isFn K (.ref fm3) = true)
    (lm3 : K.lookup fm3 = some ⟨ocm3, odm3, .func (PySem.W.fnOf "__len__" "Path.__len__" (defArgs sLen) (defBody sLen) (defScope sLen) .none kVm3 dcm3 pmm3 anm3 cdm3 ctm3), slm3⟩)
    (cm3 : PySem.W.codeIn K cdm3 "Path.__len__" = true)
    (km3 : PySem.W.keepIn K (.ref fm3) = true)
    (am4 : PySem.W.findIn K (.ref C) "__getitem__" = some (some (.ref fm4)))
    (im4 : PySem.W.isFn K (.ref fm4) = true)
    (lm4 : K.lookup fm4 = some ⟨ocm4, odm4, .func (PySem.W.fnOf "__getitem__" "Path.__getitem__" (defArgs sItem) (defBody sItem) (defScope sItem) .none kVm4 dcm4 pmm4 anm4 cdm4 ctm4), slm4⟩)
    (cm4 : PySem.W.codeIn K cdm4 "Path.__getitem__" = true)
    (km4 : PySem.W.keepIn K (.ref fm4) = true)
    (am5 : PySem.W.findIn K (.ref C) "__contains__" = some (some (.ref fm5)))
    (im5 : PySem.W.isFn K (.ref fm5) = true)
    (lm5 : K.lookup fm5 = some ⟨ocm5, odm5, .func (PySem.W.fnOf "__contains__" "Path.__contains__" (defArgs sHas) (defBody sHas) (defScope sHas) .none kVm5 dcm5 pmm5 anm5 cdm5 ctm5), slm5⟩)
    (cm5 : PySem.W.codeIn K cdm5 "Path.__contains__" = true)
    (km5 : PySem.W.keepIn K (.ref fm5) = true)
    (am6 : PySem.W.findIn K (.ref C) "is_below" = some (some (.ref fm6)))
    (im6 : PySem.W.isFn K (.ref fm6) = true)
    (lm6 : K.lookup fm6 = some ⟨ocm6, odm6, .func (PySem.W.fnOf "is_below" "Path.is_below" (defArgs sBelow) (defBody sBelow) (defScope sBelow) .none kVm6 dcm6 pmm6 anm6 cdm6 ctm6), slm6⟩)
    (cm6 : PySem.W.codeIn K cdm6 "Path.is_below" = true)
    (km6 : PySem.W.keepIn K (.ref fm6) = true)
    (am7 : PySem.W.findIn K (.ref C) "after" = some (some (.ref fm7)))
    (im7 : PySem.W.isFn K (.ref fm7) = true)
    (lm7 : K.lookup fm7 = some ⟨ocm7, odm7, .func (PySem.W.fnOf "after" "Path.after" (defArgs sAfter) (defBody sAfter) (defScope sAfter) .none kVm7 dcm7 pmm7 anm7 cdm7 ctm7), slm7⟩)
    (cm7 : PySem.W.codeIn K cdm7 "Path.after" = true)
    (km7 : PySem.W.keepIn K (.ref fm7) = true)
    (am8 : PySem.W.findIn K (.ref C) "ancestors" = some (some (.ref fm8)))
    (im8 : PySem.W.isFn K (.ref fm8) = true)
    (lm8 : K.lookup fm8 = some ⟨ocm8, odm8, .func (PySem.W.fnOf "ancestors" "Path.ancestors" (defArgs sAnc) (defBody sAnc) (defScope sAnc) .none kVm8 dcm8 pmm8 anm8 cdm8 ctm8), slm8⟩)
    (cm8 : PySem.W.codeIn K cdm8 "Path.ancestors" = true)
    (km8 : PySem.W.keepIn K (.ref fm8) = true)
    (ap0 : PySem.W.findIn K (.ref C) "text" = some (some (.ref rp0)))
    (gp0 : PySem.W.specialIn K (.ref rp0) "__get__" = some (some (.builtin "property.__get__")))
    (qp0 : PySem.W.takesIn K (.ref rp0) = some true)
    (ep0 : PySem.W.recIn K rp0 "property" = some (.ref fp0 :: tp0))
    (lp0 : K.lookup fp0 = some ⟨ocp0, odp0, .func (PySem.W.fnOf "text" "Path.text" (defArgs sText) (defBody sText) (defScope sText) .none kVp0 dcp0 pmp0 anp0 cdp0 ctp0), slp0⟩)
    (cp0 : PySem.W.codeIn K cdp0 "Path.text" = true)
    (kp0 : PySem.W.keepIn K (.ref fp0) = true)
    (ap1 : PySem.W.findIn K (.ref C) "parent" = some (some (.ref rp1)))
    (gp1 : PySem.W.specialIn K (.ref rp1) "__get__" = some (some (.builtin "property.__get__")))
    (qp1 : PySem.W.takesIn K (.ref rp1) = some true)
    (ep1 : PySem.W.recIn K rp1 "property" = some (.ref fp1 :: tp1))
    (lp1 : K.lookup fp1 = some ⟨ocp1, odp1, .func (PySem.W.fnOf "parent" "Path.parent" (defArgs sParent) (defBody sParent) (defScope sParent) .none kVp1 dcp1 pmp1 anp1 cdp1 ctp1), slp1⟩)
    (cp1 : PySem.W.codeIn K cdp1 "Path.parent" = true)
    (kp1 : PySem.W.keepIn K (.ref fp1) = true)
    (ap2 : PySem.W.findIn K (.ref C) "name" = some (some (.ref rp2)))
    (gp2 : PySem.W.specialIn K (.ref rp2) "__get__" = some (some (.builtin "property.__get__")))
    (qp2 : PySem.W.takesIn K (.ref rp2) = some true)
    (ep2 : PySem.W.recIn K rp2 "property" = some (.ref fp2 :: tp2))
    (lp2 : K.lookup fp2 = some ⟨ocp2, odp2, .func (PySem.W.fnOf "name" "Path.name" (defArgs sName) (defBody sName) (defScope sName) .none kVp2 dcp2 pmp2 anp2 cdp2 ctp2), slp2⟩)
    (cp2 : PySem.W.codeIn K cdp2 "Path.name" = true)
    (kp2 : PySem.W.keepIn K (.ref fp2) = true)
    (ap3 : PySem.W.findIn K (.ref C) "stem" = some (some (.ref rp3)))
    (gp3 : PySem.W.specialIn K (.ref rp3) "__get__" = some (some (.builtin "property.__get__")))
    (qp3 : PySem.W.takesIn K (.ref rp3) = some true)
    (ep3 : PySem.W.recIn K rp3 "property" = some (.ref fp3 :: tp3))
    (lp3 : K.lookup fp3 = some ⟨ocp3, odp3, .func (PySem.W.fnOf "stem" "Path.stem" (defArgs sStem) (defBody sStem) (defScope sStem) .none kVp3 dcp3 pmp3 anp3 cdp3 ctp3), slp3⟩)
    (cp3 : PySem.W.codeIn K cdp3 "Path.stem" = true)
    (kp3 : PySem.W.keepIn K (.ref fp3) = true)
    (ap4 : PySem.W.findIn K (.ref C) "suffix" = some (some (.ref rp4)))
    (gp4 : PySem.W.specialIn K (.ref rp4) "__get__" = some (some (.builtin "property.__get__")))
    (qp4 : PySem.W.takesIn K (.ref rp4) = some true)
    (ep4 : PySem.W.recIn K rp4 "property" = some (.ref fp4 :: tp4))
    (lp4 : K.lookup fp4 = some ⟨ocp4, odp4, .func (PySem.W.fnOf "suffix" "Path.suffix" (defArgs sSuffix) (defBody sSuffix) (defScope sSuffix) .none kVp4 dcp4 pmp4 anp4 cdp4 ctp4), slp4⟩)
    (cp4 : PySem.W.codeIn K cdp4 "Path.suffix" = true)
    (kp4 : PySem.W.keepIn K (.ref fp4) = true)
    (ax0 : PySem.W.findCls K (.ref C) (.type "type") "parse" = some (.get (.builtin "classmethod.__get__") (.ref rx0) .none (.ref C)))
    (ex0 : PySem.W.recIn K rx0 "classmethod" = some (.ref fx0 :: tx0))
    (nx0 : PySem.W.fnIn K fx0 = true)
    (lx0 : K.lookup fx0 = some ⟨ocx0, odx0, .func (PySem.W.fnOf "parse" "Path.parse" (defArgs sParse) (defBody sParse) (defScope sParse) .none kVx0 dcx0 pmx0 anx0 cdx0 ctx0), slx0⟩)
    (cx0 : PySem.W.codeIn K cdx0 "Path.parse" = true)
    (kx0 : PySem.W.keepIn K (.ref fx0) = true)
    (rdC : PySem.W.readsIn K C (.type "type") = true)
    (gaC : PySem.W.specialIn K (.ref C) "__getattribute__" = some (some (.builtin "type.__getattribute__")))
    (pg : PySem.W.plainGet K C Str.empty = true)
    (hd : PySem.W.hasDictIn K C = true)
    (po : PySem.W.plainOver K C = true)
    (sa : PySem.W.findIn K (.ref C) "__setattr__" = some (some (.builtin "object.__setattr__")))
    (mk : PySem.W.makesIn K C = true)
    (kc : PySem.W.keepIn K (.ref C) = true)
    (nN : PySem.W.findIn K (.ref C) "names" = some none)
    (bIsi : PySem.W.nsIn K mainGlobals "isinstance" = some none)
    (bInt : PySem.W.nsIn K mainGlobals "int" = some none)
    (bStr : PySem.W.nsIn K mainGlobals "str" = some none)
    (bBool : PySem.W.nsIn K mainGlobals "bool" = some none)
    (bLen : PySem.W.nsIn K mainGlobals "len" = some none)
    (bAll : PySem.W.nsIn K mainGlobals "all" = some none)
    (bMax : PySem.W.nsIn K mainGlobals "max" = some none)
    (bMin : PySem.W.nsIn K mainGlobals "min" = some none)
    (bList : PySem.W.nsIn K mainGlobals "list" = some none)
    (bRange : PySem.W.nsIn K mainGlobals "range" = some none)
    (cNs : PySem.W.nsIn K mainGlobals "MAX_NAMES" = some (some (.int 12 tNs)))
    (cPa : PySem.W.nsIn K mainGlobals "MAX_PATH" = some (some (.int 200 tPa)))
    (cNa : PySem.W.nsIn K mainGlobals "MAX_NAME" = some (some (.int 12 tNa)))
    (cSg : PySem.W.nsIn K mainGlobals "NAME_SIGNS" = some (some (.str zS tSg)))
    (hS : zS = signsS)
    (cc : PySem.W.findIn K (.ref C) "__class__" = some (some (.builtin "object.__class__")))
    (cn : PySem.W.specialIn K (.builtin "object.__class__") "__get__" = some (some (.builtin "getset_descriptor.__get__")))
    (ct : PySem.W.takesIn K (.builtin "object.__class__") = some true)
    (cm : PySem.W.mroIn K C (.type "object") = some true)
    (kTy : PySem.W.typeIn K (.ref C) = some (.type "type"))
    (ne : PySem.W.findIn K (.ref C) "__ne__" = some (some (.builtin "object.__ne__")))
    (sf : PySem.W.selfFirst K C = true)
    (rf : PySem.W.findIn K (.ref C) "__rfloordiv__" = some none)
    (s1 : PySem.W.findIn K (.type "str") "__floordiv__" = some fo)
    (s2 : PySem.W.findIn K (.type "str") "__rfloordiv__" = some ro)
    (sb : PySem.W.subIn K (.type "str") (.ref C) = some false)
    (fi : PySem.W.fnIn K fm4 = true) :
    ∃ fd : FuncData, (∀ (s : Shared) (v : Value), BindsTo s fd ⟨[v], []⟩ [("_law_script", v)]) ∧ ∀ base : Heap, K.In base → base.Ns mainGlobals mg → FnOk l.prog w K mg base CX0 9 fa fd ["_law_script"] (spLaw K) := by
  have e := hfa.symm.trans (PySem.W.mg_of X G au15)
  cases e
  subst hS
  have T : TX K mg C := ⟨⟨pg, hd, po, sa⟩, nN, PySem.W.mg_of X G aC, kc, PySem.W.mg_none_of X G bIsi, PySem.W.mg_none_of X G bInt, PySem.W.mg_none_of X G bStr, PySem.W.mg_none_of X G bBool, PySem.W.mg_none_of X G bLen, PySem.W.mg_none_of X G bAll, PySem.W.mg_none_of X G bMax, PySem.W.mg_none_of X G bMin, PySem.W.mg_none_of X G bList, PySem.W.mg_none_of X G bRange, ⟨_, PySem.W.mg_of X G cNs⟩, ⟨_, PySem.W.mg_of X G cPa⟩, ⟨_, PySem.W.mg_of X G cNa⟩, ⟨_, PySem.W.mg_of X G cSg⟩, cc, cn, ct, cm, kit_same C, kit_str hd kTy sb⟩
  have Fu0 := fun_mk (st := sIsInt) lu0 cu0 ku0
  have bu0 := Fu0.binds (ps := ["value", "low", "high"]) fun _ _ _ _ _ _ us hl => match us, hl with | [_, _, _], _ => rfl
  have Fu1 := fun_mk (st := sIsName) lu1 cu1 ku1
  have bu1 := Fu1.binds (ps := ["value"]) fun _ _ _ _ _ _ us hl => match us, hl with | [_], _ => rfl
  have Fu2 := fun_mk (st := sPlace) lu2 cu2 ku2
  have bu2 := Fu2.binds (ps := ["names"]) fun _ _ _ _ _ _ us hl => match us, hl with | [_], _ => rfl
  have Fu3 := fun_mk (st := sNamesAfter) lu3 cu3 ku3
  have bu3 := Fu3.binds (ps := ["before", "string"]) fun _ _ _ _ _ _ us hl => match us, hl with | [_, _], _ => rfl
  have Fu4 := fun_mk (st := sNamesIn) lu4 cu4 ku4
  have bu4 := Fu4.binds (ps := ["value"]) fun _ _ _ _ _ _ us hl => match us, hl with | [_], _ => rfl
  have Fu5 := fun_mk (st := sNameParts) lu5 cu5 ku5
  have bu5 := Fu5.binds (ps := ["name"]) fun _ _ _ _ _ _ us hl => match us, hl with | [_], _ => rfl
  have Fu6 := fun_mk (st := sPathOf) lu6 cu6 ku6
  have bu6 := Fu6.binds (ps := ["value"]) fun _ _ _ _ _ _ us hl => match us, hl with | [_], _ => rfl
  have Fu7 := fun_mk (st := sSource) lu7 cu7 ku7
  have bu7 := Fu7.binds (ps := ["_law_script", "_law_k"]) fun _ _ _ _ _ _ us hl => match us, hl with | [_, _], _ => rfl
  have Fu8 := fun_mk (st := sNext) lu8 cu8 ku8
  have bu8 := Fu8.binds (ps := ["_law_source_here", "_law_many"]) fun _ _ _ _ _ _ us hl => match us, hl with | [_, _], _ => rfl
  have Fu9 := fun_mk (st := sPick) lu9 cu9 ku9
  have bu9 := Fu9.binds (ps := ["_law_source_here", "_law_items"]) fun _ _ _ _ _ _ us hl => match us, hl with | [_, _], _ => rfl
  have Fu10 := fun_mk (st := sRow) lu10 cu10 ku10
  have bu10 := Fu10.binds (ps := ["_law_p"]) fun _ _ _ _ _ _ us hl => match us, hl with | [_], _ => rfl
  have Fu11 := fun_mk (st := sOne) lu11 cu11 ku11
  have bu11 := Fu11.binds (ps := ["_law_row"]) fun _ _ _ _ _ _ us hl => match us, hl with | [_], _ => rfl
  have Fu12 := fun_mk (st := sPut) lu12 cu12 ku12
  have bu12 := Fu12.binds (ps := ["_law_one", "_law_names"]) fun _ _ _ _ _ _ us hl => match us, hl with | [_, _], _ => rfl
  have Fu13 := fun_mk (st := sPair) lu13 cu13 ku13
  have bu13 := Fu13.binds (ps := ["_law_near", "_law_far"]) fun _ _ _ _ _ _ us hl => match us, hl with | [_, _], _ => rfl
  have Fu14 := fun_mk (st := sThree) lu14 cu14 ku14
  have bu14 := Fu14.binds (ps := ["_law_rows"]) fun _ _ _ _ _ _ us hl => match us, hl with | [_], _ => rfl
  have Fu15 := fun_mk (st := sLaw) lu15 cu15 ku15
  have bu15 := Fu15.binds (ps := ["_law_script"]) fun _ _ _ _ _ _ us hl => match us, hl with | [_], _ => rfl
  have Fm0 := fun_mk (st := sInit) lm0 cm0 km0
  have Fm1 := fun_mk (st := sFdiv) lm1 cm1 km1
  have bm1 := Fm1.binds (ps := ["self", "name"]) fun _ _ _ _ _ _ us hl => match us, hl with | [_, _], _ => rfl
  have Fm2 := fun_mk (st := sEq) lm2 cm2 km2
  have bm2 := Fm2.binds (ps := ["self", "other"]) fun _ _ _ _ _ _ us hl => match us, hl with | [_, _], _ => rfl
  have Fm3 := fun_mk (st := sLen) lm3 cm3 km3
  have bm3 := Fm3.binds (ps := ["self"]) fun _ _ _ _ _ _ us hl => match us, hl with | [_], _ => rfl
  have Fm4 := fun_mk (st := sItem) lm4 cm4 km4
  have bm4 := Fm4.binds (ps := ["self", "k"]) fun _ _ _ _ _ _ us hl => match us, hl with | [_, _], _ => rfl
  have Fm5 := fun_mk (st := sHas) lm5 cm5 km5
  have bm5 := Fm5.binds (ps := ["self", "name"]) fun _ _ _ _ _ _ us hl => match us, hl with | [_, _], _ => rfl
  have Fm6 := fun_mk (st := sBelow) lm6 cm6 km6
  have bm6 := Fm6.binds (ps := ["self", "other"]) fun _ _ _ _ _ _ us hl => match us, hl with | [_, _], _ => rfl
  have Fm7 := fun_mk (st := sAfter) lm7 cm7 km7
  have bm7 := Fm7.binds (ps := ["self", "other"]) fun _ _ _ _ _ _ us hl => match us, hl with | [_, _], _ => rfl
  have Fm8 := fun_mk (st := sAnc) lm8 cm8 km8
  have bm8 := Fm8.binds (ps := ["self"]) fun _ _ _ _ _ _ us hl => match us, hl with | [_], _ => rfl
  have Fp0 := fun_mk (st := sText) lp0 cp0 kp0
  have bp0 := Fp0.binds (ps := ["self"]) fun _ _ _ _ _ _ us hl => match us, hl with | [_], _ => rfl
  have Fp1 := fun_mk (st := sParent) lp1 cp1 kp1
  have bp1 := Fp1.binds (ps := ["self"]) fun _ _ _ _ _ _ us hl => match us, hl with | [_], _ => rfl
  have Fp2 := fun_mk (st := sName) lp2 cp2 kp2
  have bp2 := Fp2.binds (ps := ["self"]) fun _ _ _ _ _ _ us hl => match us, hl with | [_], _ => rfl
  have Fp3 := fun_mk (st := sStem) lp3 cp3 kp3
  have bp3 := Fp3.binds (ps := ["self"]) fun _ _ _ _ _ _ us hl => match us, hl with | [_], _ => rfl
  have Fp4 := fun_mk (st := sSuffix) lp4 cp4 kp4
  have bp4 := Fp4.binds (ps := ["self"]) fun _ _ _ _ _ _ us hl => match us, hl with | [_], _ => rfl
  have Fx0 := fun_mk (st := sParse) lx0 cx0 kx0
  have bx0 := Fx0.binds (ps := ["cls", "string"]) fun _ _ _ _ _ _ us hl => match us, hl with | [_, _], _ => rfl
  refine ⟨PySem.W.fnOf "law" "law" (defArgs sLaw) (defBody sLaw) (defScope sLaw) .none kVu15 dcu15 pmu15 anu15 cdu15 ctu15, fun s v => .of_eq rfl, fun base _ _ => ?_⟩
  have gII := gd_mk Fu0 bu0 (PySem.W.mg_of X G au0) (P := l.prog) (w := w) (base := base) (ok_isInt Fu0 T)
  have gIN := gd_mk Fu1 bu1 (PySem.W.mg_of X G au1) (P := l.prog) (w := w) (base := base) (ok_isName Fu1 T)
  have gPl := gd_mk Fu2 bu2 (PySem.W.mg_of X G au2) (P := l.prog) (w := w) (base := base) (ok_place Fu2)
  have gNA := gd_mk Fu3 bu3 (PySem.W.mg_of X G au3) (P := l.prog) (w := w) (base := base) (ok_namesAfter Fu3 gIN)
  have gNI := gd_mk Fu4 bu4 (PySem.W.mg_of X G au4) (P := l.prog) (w := w) (base := base) (ok_namesIn Fu4 T gNA)
  have gNP := gd_mk Fu5 bu5 (PySem.W.mg_of X G au5) (P := l.prog) (w := w) (base := base) (ok_nameParts Fu5 T)
  have M : MkP l.prog w K mg base C := ⟨⟨_, ⟨mk, am0, im0, kc⟩, ok_init Fm0 T gIN⟩⟩
  have cP : Cc l.prog w K mg base C 4 "parse" (spParse C) := ⟨⟨_, _, _, ⟨rdC, gaC⟩, ⟨ax0, ⟨_, ex0⟩, nx0⟩, raw0 (ok_parse Fx0 M gNI) bx0⟩⟩
  have gPO := gd_mk Fu6 bu6 (PySem.W.mg_of X G au6) (P := l.prog) (w := w) (base := base) (ok_pathOf Fu6 T cP)
  have pT : Cp l.prog w K mg base C 2 "text" (spText C) := ⟨⟨_, _, _, ⟨ap0, gp0, qp0, ⟨_, ep0⟩⟩, ok_text Fp0 T gPl, bp0⟩⟩
  have pP : Cp l.prog w K mg base C 4 "parent" (spParent C) := ⟨⟨_, _, _, ⟨ap1, gp1, qp1, ⟨_, ep1⟩⟩, ok_parent Fp1 T M, bp1⟩⟩
  have pN : Cp l.prog w K mg base C 1 "name" (spName C) := ⟨⟨_, _, _, ⟨ap2, gp2, qp2, ⟨_, ep2⟩⟩, ok_name Fp2 T, bp2⟩⟩
  have pS : Cp l.prog w K mg base C 3 "stem" (spStem C) := ⟨⟨_, _, _, ⟨ap3, gp3, qp3, ⟨_, ep3⟩⟩, ok_stem Fp3 T pN gNP, bp3⟩⟩
  have pX : Cp l.prog w K mg base C 3 "suffix" (spSuffix C) := ⟨⟨_, _, _, ⟨ap4, gp4, qp4, ⟨_, ep4⟩⟩, ok_suffix Fp4 T pN gNP, bp4⟩⟩
  have mB : Cm l.prog w K mg base C 6 "is_below" ["self", "other"] (spBelow C) := ⟨⟨_, _, ⟨am6, im6, km6⟩, ok_below Fm6 T gPO, bm6⟩⟩
  have mA : Cm l.prog w K mg base C 6 "after" ["self", "other"] (spAfter C) := ⟨⟨_, _, ⟨am7, im7, km7⟩, ok_after Fm7 T gPO, bm7⟩⟩
  have D : DvP l.prog w K mg base C := ⟨⟨_, ⟨sf, am1, im1, rf, ⟨_, s1⟩, ⟨_, s2⟩, sb⟩, raw0 (ok_fdiv Fm1 T M) bm1⟩⟩
  have Z : PX l.prog w K mg base C := ⟨T, M, D, ⟨_, ⟨am8, im8, km8⟩, ok_anc Fm8 bm8 T M⟩, ⟨_, ⟨⟨am2, im2⟩, ne, po⟩, raw0 (ok_eq Fm2 T) bm2⟩, ⟨_, ⟨am3, im3⟩, raw0 (ok_len Fm3 T) bm3⟩, ⟨_, ⟨am4, im4⟩, fi, raw0 (ok_item Fm4 T gII) bm4⟩, ⟨_, ⟨am5, im5⟩, raw0 (ok_has Fm5 T gIN) bm5⟩, cP, pT, pP, pN, pS, pX, mB, mA⟩
  have gSo := gd_mk Fu7 bu7 (PySem.W.mg_of X G au7) (P := l.prog) (w := w) (base := base) (ok_source Fu7 T)
  have gNx := gd_mk Fu8 bu8 (PySem.W.mg_of X G au8) (P := l.prog) (w := w) (base := base) (ok_next Fu8)
  have gPk := gd_mk Fu9 bu9 (PySem.W.mg_of X G au9) (P := l.prog) (w := w) (base := base) (ok_pick Fu9 T gNx)
  have gRo := gd_mk Fu10 bu10 (PySem.W.mg_of X G au10) (P := l.prog) (w := w) (base := base) (ok_row Fu10 T M)
  have gOn := gd_mk Fu11 bu11 (PySem.W.mg_of X G au11) (P := l.prog) (w := w) (base := base) (ok_one Fu11 Z gRo)
  have gPu := gd_mk Fu12 bu12 (PySem.W.mg_of X G au12) (P := l.prog) (w := w) (base := base) (ok_put Fu12 D)
  have gPa := gd_mk Fu13 bu13 (PySem.W.mg_of X G au13) (P := l.prog) (w := w) (base := base) (ok_pair Fu13 Z gRo gPu)
  have gTh := gd_mk Fu14 bu14 (PySem.W.mg_of X G au14) (P := l.prog) (w := w) (base := base) (ok_three Fu14 Z gRo)
  exact ok_law Fu15 T gSo gNx gPk gOn gPa gTh
theorem walk {l : PySem.W.OpenLaw} {q : Program} {loose : List Str} {XP : (Str → Option Value) → Heap → Prop} {YP : World → Heap → Prop} {d : DefRec} {K : Params → PySem.W.Frag} (hn : l.most = some 63) (hdf : d.params.defaults = [])
    (hY : ∀ (w : World) (h : Heap), YP w h → (K w.params).In h)
    (F : ∀ (w : World) (mg : Str → Option Value) (fa : Addr) (h : Heap), (K w.params).In h → h.Ns mainGlobals mg → mg d.name = some (.ref fa) →
      ∃ fd : FuncData, (∀ (s : Shared) (u : Value), BindsTo s fd ⟨[u], []⟩ [("_law_script", u)]) ∧ ∀ base : Heap, (K w.params).In base → base.Ns mainGlobals mg → FnOk l.prog w (K w.params) mg base CX0 9 fa fd ["_law_script"] (spLaw (K w.params))) :
    PySem.W.WalkO q loose XP YP l.row.toRowW d [] (fun f vs => PySem.call f vs) :=
  L2.walk_of (n := 63) (k := 9) (x := "_law_script") (CX := fun _ => CX0) (sp := fun w => spLaw (K w.params)) hn (by decide) hdf ⟨rfl, by decide, by decide⟩ hY F (fun _ _ a ns hl _ hS => ⟨a, ns, rfl, hS, hl, fun _ => rfl⟩) fun _ _ _ _ _ z => z
end Fl

open PySem PySem.W PyProof.Rows in
set_option maxRecDepth 100000 in
set_option maxHeartbeats 0 in
theorem PySem.Challenge.cw_filelayer_k09_whole_algebra_of_paths_holds : PySem.Challenge.rw_filelayer_k09_whole_algebra_of_paths.Holds := by
  w_on; o_law; k_head; (case hw => w_witness2)
  k_fill
  refine Fl.walk (l := PySem.Challenge.rw_filelayer_k09_whole_algebra_of_paths) rfl rfl (fun w h Y => PySem.W.kIn_of Y) ?F
  case F =>
    intro w mg fa h KX G hmg
    refine' Fl.all_mk KX G hmg ?aC ?au0 ?lu0 ?cu0 ?ku0 ?au1 ?lu1 ?cu1 ?ku1 ?au2 ?lu2 ?cu2 ?ku2 ?au3 ?lu3 ?cu3 ?ku3 ?au4 ?lu4 ?cu4 ?ku4 ?au5 ?lu5 ?cu5 ?ku5 ?au6 ?lu6 ?cu6 ?ku6 ?au7 ?lu7 ?cu7 ?ku7 ?au8 ?lu8 ?cu8 ?ku8 ?au9 ?lu9 ?cu9 ?ku9 ?au10 ?lu10 ?cu10 ?ku10 ?au11 ?lu11 ?cu11 ?ku11 ?au12 ?lu12 ?cu12 ?ku12 ?au13 ?lu13 ?cu13 ?ku13 ?au14 ?lu14 ?cu14 ?ku14 ?au15 ?lu15 ?cu15 ?ku15 ?am0 ?im0 ?lm0 ?cm0 ?km0 ?am1 ?im1 ?lm1 ?cm1 ?km1 ?am2 ?im2 ?lm2 ?cm2 ?km2 ?am3 ?im3 ?lm3 ?cm3 ?km3 ?am4 ?im4 ?lm4 ?cm4 ?km4 ?am5 ?im5 ?lm5 ?cm5 ?km5 ?am6 ?im6 ?lm6 ?cm6 ?km6 ?am7 ?im7 ?lm7 ?cm7 ?km7 ?am8 ?im8 ?lm8 ?cm8 ?km8 ?ap0 ?gp0 ?qp0 ?ep0 ?lp0 ?cp0 ?kp0 ?ap1 ?gp1 ?qp1 ?ep1 ?lp1 ?cp1 ?kp1 ?ap2 ?gp2 ?qp2 ?ep2 ?lp2 ?cp2 ?kp2 ?ap3 ?gp3 ?qp3 ?ep3 ?lp3 ?cp3 ?kp3 ?ap4 ?gp4 ?qp4 ?ep4 ?lp4 ?cp4 ?kp4 ?ax0 ?ex0 ?nx0 ?lx0 ?cx0 ?kx0 ?rdC ?gaC ?pg ?hd ?po ?sa ?mk ?kc ?nN ?bIsi ?bInt ?bStr ?bBool ?bLen ?bAll ?bMax ?bMin ?bList ?bRange ?cNs ?cPa ?cNa ?cSg ?hS ?cc ?cn ?ct ?cm ?kTy ?ne ?sf ?rf ?s1 ?s2 ?sb ?fi
    (case aC => k_is)
    (case au0 => k_is)
    (case lu0 => k_is)
    (case cu0 => k_is)
    (case ku0 => k_is)
    (case au1 => k_is)
    (case lu1 => k_is)
    (case cu1 => k_is)
    (case ku1 => k_is)
    (case au2 => k_is)
    (case lu2 => k_is)
    (case cu2 => k_is)
    (case ku2 => k_is)
    (case au3 => k_is)
    (case lu3 => k_is)
    (case cu3 => k_is)
    (case ku3 => k_is)
    (case au4 => k_is)
    (case lu4 => k_is)
    (case cu4 => k_is)
    (case ku4 => k_is)
    (case au5 => k_is)
    (case lu5 => k_is)
    (case cu5 => k_is)
    (case ku5 => k_is)
    (case au6 => k_is)
    (case lu6 => k_is)
    (case cu6 => k_is)
    (case ku6 => k_is)
    (case au7 => k_is)
    (case lu7 => k_is)
    (case cu7 => k_is)
    (case ku7 => k_is)
    (case au8 => k_is)
    (case lu8 => k_is)
    (case cu8 => k_is)
    (case ku8 => k_is)
    (case au9 => k_is)
    (case lu9 => k_is)
    (case cu9 => k_is)
    (case ku9 => k_is)
    (case au10 => k_is)
    (case lu10 => k_is)
    (case cu10 => k_is)
    (case ku10 => k_is)
    (case au11 => k_is)
    (case lu11 => k_is)
    (case cu11 => k_is)
    (case ku11 => k_is)
    (case au12 => k_is)
    (case lu12 => k_is)
    (case cu12 => k_is)
    (case ku12 => k_is)
    (case au13 => k_is)
    (case lu13 => k_is)
    (case cu13 => k_is)
    (case ku13 => k_is)
    (case au14 => k_is)
    (case lu14 => k_is)
    (case cu14 => k_is)
    (case ku14 => k_is)
    (case au15 => k_is)
    (case lu15 => k_is)
    (case cu15 => k_is)
    (case ku15 => k_is)
    (case am0 => k_is)
    (case im0 => k_is)
    (case lm0 => k_is)
    (case cm0 => k_is)
    (case km0 => k_is)
    (case am1 => k_is)
    (case im1 => k_is)
    (case lm1 => k_is)
    (case cm1 => k_is)
    (case km1 => k_is)
    (case am2 => k_is)
    (case im2 => k_is)
    (case lm2 => k_is)
    (case cm2 => k_is)
    (case km2 => k_is)
    (case am3 => k_is)
    (case im3 => k_is)
    (case lm3 => k_is)
    (case cm3 => k_is)
    (case km3 => k_is)
    (case am4 => k_is)
    (case im4 => k_is)
    (case lm4 => k_is)
    (case cm4 => k_is)
    (case km4 => k_is)
    (case am5 => k_is)
    (case im5 => k_is)
    (case lm5 => k_is)
    (case cm5 => k_is)
    (case km5 => k_is)
    (case am6 => k_is)
    (case im6 => k_is)
    (case lm6 => k_is)
    (case cm6 => k_is)
    (case km6 => k_is)
    (case am7 => k_is)
    (case im7 => k_is)
    (case lm7 => k_is)
    (case cm7 => k_is)
    (case km7 => k_is)
    (case am8 => k_is)
    (case im8 => k_is)
    (case lm8 => k_is)
    (case cm8 => k_is)
    (case km8 => k_is)
    (case ap0 => k_is)
    (case gp0 => k_is)
    (case qp0 => k_is)
    (case ep0 => k_is)
    (case lp0 => k_is)
    (case cp0 => k_is)
    (case kp0 => k_is)
    (case ap1 => k_is)
    (case gp1 => k_is)
    (case qp1 => k_is)
    (case ep1 => k_is)
    (case lp1 => k_is)
    (case cp1 => k_is)
    (case kp1 => k_is)
    (case ap2 => k_is)
    (case gp2 => k_is)
    (case qp2 => k_is)
    (case ep2 => k_is)
    (case lp2 => k_is)
    (case cp2 => k_is)
    (case kp2 => k_is)
    (case ap3 => k_is)
    (case gp3 => k_is)
    (case qp3 => k_is)
    (case ep3 => k_is)
    (case lp3 => k_is)
    (case cp3 => k_is)
    (case kp3 => k_is)
    (case ap4 => k_is)
    (case gp4 => k_is)
    (case qp4 => k_is)
    (case ep4 => k_is)
    (case lp4 => k_is)
    (case cp4 => k_is)
    (case kp4 => k_is)
    (case ax0 => k_is)
    (case ex0 => k_is)
    (case nx0 => k_is)
    (case lx0 => k_is)
    (case cx0 => k_is)
    (case kx0 => k_is)
    (case rdC => k_is)
    (case gaC => k_is)
    (case pg => k_is)
    (case hd => k_is)
    (case po => k_is)
    (case sa => k_is)
    (case mk => k_is)
    (case kc => k_is)
    (case nN => k_is)
    (case bIsi => k_is)
    (case bInt => k_is)
    (case bStr => k_is)
    (case bBool => k_is)
    (case bLen => k_is)
    (case bAll => k_is)
    (case bMax => k_is)
    (case bMin => k_is)
    (case bList => k_is)
    (case bRange => k_is)
    (case cNs => k_is)
    (case cPa => k_is)
    (case cNa => k_is)
    (case cSg => k_is)
    (case hS => decide +kernel)
    (case cc => k_is)
    (case cn => k_is)
    (case ct => k_is)
    (case cm => k_is)
    (case kTy => k_is)
    (case ne => k_is)
    (case sf => k_is)
    (case rf => k_is)
    (case s1 => k_is)
    (case s2 => k_is)
    (case sb => k_is)
    (case fi => k_is)
