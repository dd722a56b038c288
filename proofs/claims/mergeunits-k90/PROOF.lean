import PyProof.Rows.All
import Wide.All
import OpenK.AllK
import Wide.FinOn
import HandS.ForMost
import HandS.GenCall
import HandS.GenList
import KE.GoesEnum
import HandS.TupAny
import PySem.Challenge.RW_mergeunits_k90_whole_orders_by_the_rule
import HandS.IsInst
import HandS.AnyAll
import HandS.Walk
import HandS.Steps
import PyProof.NeKinds
import HandS.EndTab
import HandS.Lambda
import KE.SortKeyHeap
import KE.SortData
import HandS.SortKw
import HandS.Style
import PyProof.SumAny
import HandS.SortInts
section
set_option Elab.async false
set_option maxRecDepth 100000
/-! sleepers: a run that wakes none of the sleeping generators leaves them as they are -/
namespace Gz
open PySem

/-- waking it stops the run -/
def bomb : Resume → Sem Fin := fun _ => .unsupported "asleep"
def okSt : GenState → Prop
  | .suspended _ _ _ _ fs _ => splitAtGen fs = none
  | _ => True
def StRel (O : Option GenState) (st stB : GenState) : Prop := (st = stB ∧ okSt st) ∨ ∃ k l c p fs cl cl', st = .suspended k l c p fs cl ∧ stB = .suspended bomb l c p fs cl' ∧ O = some st
def GRel (G0 G GB : Array GenState) : Prop := G.size = GB.size ∧ ∀ (g : Nat) st stB, G[g]? = some st → GB[g]? = some stB → StRel G0[g]? st stB
/-- what no run touches -/
def Still (stB : GenState) : Prop := (∃ l c p fs cl, stB = .suspended bomb l c p fs cl) ∨ stB = .running ∨ stB = .finished
def Keep (GB GB' G G' : Array GenState) : Prop := ∀ (g : Nat) stB, GB[g]? = some stB → Still stB → GB'[g]? = some stB ∧ G'[g]? = G[g]?
def EndOk : End → Prop
  | .ret _ => True
  | .susp _ _ _ _ _ _ fs => splitAtGen fs = none

theorem no_bomb {M : Model} {Γ : Ctx} {p : Pos} {t : Sem Fin} {fs : List Frame} {s s' : Shared} {e : End} (h : Runs M Γ p t fs s e s') : ∀ w : String, t = .unsupported w → False := by
  induction h with
  | segRet _ _ ih _ => exact ih
  | segGen _ _ ih _ => exact ih
  | segSuspOut _ _ ih => exact ih
  | segSuspGen _ _ _ _ ih _ => exact ih
  | _ => intro w z; cases z

theorem seen_rel {O : Option GenState} {st stB : GenState} (h : StRel O st stB) : st.seen = stB.seen := by
  rcases h with ⟨rfl, _⟩ | ⟨k, l, c, p, fs, cl, cl', rfl, rfl, _⟩
  · rfl
  · rfl
theorem split_append {F : Frame} {fs : List Frame} : ∀ {gs : List Frame}, splitAtGen gs = none → splitAtGen (F :: fs) = none → splitAtGen (gs ++ F :: fs) = none
  | [], _, h => h
  | .gen .. :: _, h, _ => by simp [splitAtGen] at h
  | .ret k h' g l c p kp :: r, h, h2 => by
    have z : (splitAtGen r).map _ = none := h
    have z' : splitAtGen r = none := by simpa using z
    show (splitAtGen (r ++ F :: fs)).map _ = none
    rw [split_append z' h2]; rfl
theorem split_ret {fs : List Frame} {k h g l c p kp} (z : splitAtGen (.ret k h g l c p kp :: fs) = none) : splitAtGen fs = none := by
  have z' : (splitAtGen fs).map _ = none := z
  simpa using z'

theorem GRel.get {G0 G GB : Array GenState} (h : GRel G0 G GB) {g : Nat} {stB : GenState} (e : GB[g]? = some stB) : ∃ st, G[g]? = some st ∧ StRel G0[g]? st stB := by
  obtain ⟨hs, hr⟩ := h
  have hlt : g < GB.size := (Array.getElem?_eq_some_iff.mp e).1
  have hlt' : g < G.size := by omega
  exact ⟨G[g], Array.getElem?_eq_getElem hlt', hr g _ _ (Array.getElem?_eq_getElem hlt') e⟩
theorem GRel.set {G0 G GB : Array GenState} (h : GRel G0 G GB) (g : Nat) {x : GenState} (hx : okSt x) : GRel G0 (G.setIfInBounds g x) (GB.setIfInBounds g x) := by
  obtain ⟨hs, hr⟩ := h
  refine ⟨by rw [Array.size_setIfInBounds, Array.size_setIfInBounds]; exact hs, fun i st stB e1 e2 => ?_⟩
  rw [Array.getElem?_setIfInBounds] at e1 e2
  by_cases z : g = i
  · rw [if_pos z] at e1 e2
    split at e1
    · split at e2
      · cases e1; cases e2
        exact .inl ⟨rfl, hx⟩
      · cases e2
    · cases e1
  · rw [if_neg z] at e1 e2
    exact hr i st stB e1 e2
theorem GRel.push {G0 G GB : Array GenState} (h : GRel G0 G GB) {x : GenState} (hx : okSt x) : GRel G0 (G.push x) (GB.push x) := by
  obtain ⟨hs, hr⟩ := h
  refine ⟨by rw [Array.size_push, Array.size_push, hs], fun i st stB e1 e2 => ?_⟩
  rw [Array.getElem?_push] at e1 e2
  by_cases z : i = GB.size
  · rw [if_pos (by rw [hs]; exact z)] at e1
    rw [if_pos z] at e2
    cases e1; cases e2
    exact .inl ⟨rfl, hx⟩
  · rw [if_neg (by rw [hs]; exact z)] at e1
    rw [if_neg z] at e2
    exact hr i st stB e1 e2
theorem Keep.refl (GB G : Array GenState) : Keep GB GB G G := fun _ _ e _ => ⟨e, rfl⟩
theorem Keep.trans {A B C G H I : Array GenState} (x : Keep A B G H) (y : Keep B C H I) : Keep A C G I := fun g st e hs => by
  obtain ⟨e1, e2⟩ := x g st e hs
  obtain ⟨e3, e4⟩ := y g st e1 hs
  exact ⟨e3, e4.trans e2⟩
theorem Keep.push {GB G : Array GenState} (hs : G.size = GB.size) (x : GenState) : Keep GB (GB.push x) G (G.push x) := fun g st e _ => by
  have hlt : g < GB.size := (Array.getElem?_eq_some_iff.mp e).1
  exact ⟨by rw [Array.getElem?_push, if_neg (Nat.ne_of_lt hlt)]; exact e, by rw [Array.getElem?_push, if_neg (by omega)]⟩
/-- an entry that is not still is set -/
theorem Keep.set {GB G : Array GenState} {g : Nat} {st x : GenState} (e : GB[g]? = some st) (hn : ¬ Still st) : Keep GB (GB.setIfInBounds g x) G (G.setIfInBounds g x) := fun i st' e' hs => by
  have z : g ≠ i := fun z => by
    rw [z] at e
    rw [e] at e'
    cases e'
    exact hn hs
  exact ⟨by rw [Array.getElem?_setIfInBounds_ne z]; exact e', by rw [Array.getElem?_setIfInBounds_ne z]⟩
/-- a whole turn of g: set to running, a run, set to its end -/
theorem Keep.turn {GB G B1 G1 : Array GenState} {g : Nat} {st x : GenState} (e : GB[g]? = some st) (hn : ¬ Still st) (k : Keep (GB.setIfInBounds g .running) B1 (G.setIfInBounds g .running) G1) : Keep GB (B1.setIfInBounds g x) G (G1.setIfInBounds g x) := fun i st' e' hs => by
  have z : g ≠ i := fun z => by
    rw [z] at e
    rw [e] at e'
    cases e'
    exact hn hs
  obtain ⟨k1, k2⟩ := k i st' (by rw [Array.getElem?_setIfInBounds_ne z]; exact e') hs
  rw [Array.getElem?_setIfInBounds_ne z] at k2
  exact ⟨by rw [Array.getElem?_setIfInBounds_ne z]; exact k1, by rw [Array.getElem?_setIfInBounds_ne z]; exact k2⟩
theorem ok_end {e : End} (h : EndOk e) : okSt e.genState := by
  cases e with
  | ret r => trivial
  | susp v g l k c p fs => exact h
/-- THE SIMULATION: what runs over bombs runs over the sleepers -/
theorem sim {G0 : Array GenState} {M : Model} {Γ : Ctx} {p : Pos} {t : Sem Fin} {fs : List Frame} {s s' : Shared} {e : End} (h : Runs M Γ p t fs s e s') :
    splitAtGen fs = none → ∀ G, GRel G0 G s.gens → ∃ G', Runs M Γ p t fs { s with gens := G } e { s' with gens := G' } ∧ GRel G0 G' s'.gens ∧ Keep s.gens s'.gens G G' ∧ EndOk e := by
  induction h with
  | done => intro _ G r; exact ⟨G, .done, r, Keep.refl _ _, trivial⟩
  | raise => intro _ G r; exact ⟨G, .raise, r, Keep.refl _ _, trivial⟩
  | again hq _ ih => intro hf G r; obtain ⟨G', a, b⟩ := ih hf G r; exact ⟨G', .again hq a, b⟩
  | rule _ ih => intro hf G r; obtain ⟨G', a, b⟩ := ih hf G r; exact ⟨G', .rule a, b⟩
  | «at» _ ih => intro hf G r; obtain ⟨G', a, b⟩ := ih hf G r; exact ⟨G', .at a, b⟩
  | load ho _ ih => intro hf G r; obtain ⟨G', a, b⟩ := ih hf G r; exact ⟨G', .load ho a, b⟩
  | update ho _ ih => intro hf G r; obtain ⟨G', a, b⟩ := ih hf G r; exact ⟨G', .update ho a, b⟩
  | loadIfAlive _ ih => intro hf G r; obtain ⟨G', a, b⟩ := ih hf G r; exact ⟨G', .loadIfAlive a, b⟩
  | point _ ih => intro hf G r; obtain ⟨G', a, b⟩ := ih hf G r; exact ⟨G', .point a, b⟩
  | alloc _ ih => intro hf G r; obtain ⟨G', a, b⟩ := ih hf G r; exact ⟨G', .alloc a, b⟩
  | fresh _ ih => intro hf G r; obtain ⟨G', a, b⟩ := ih hf G r; exact ⟨G', .fresh a, b⟩
  | ask _ ih => intro hf G r; obtain ⟨G', a, b⟩ := ih hf G r; exact ⟨G', .ask a, b⟩
  | choose hn _ ih => intro hf G r; obtain ⟨G', a, b⟩ := ih hf G r; exact ⟨G', .choose hn a, b⟩
  | os _ ih => intro hf G r; obtain ⟨G', a, b⟩ := ih hf G r; exact ⟨G', .os a, b⟩
  | handled _ ih => intro hf G r; obtain ⟨G', a, b⟩ := ih hf G r; exact ⟨G', .handled a, b⟩
  | genState hg _ ih =>
    intro hf G r
    obtain ⟨st, e1, e2⟩ := r.get hg
    obtain ⟨G', a, b⟩ := ih hf G r
    refine ⟨G', .genState e1 ?_, b⟩
    rw [seen_rel e2]; exact a
  | stack _ ih => intro hf G r; obtain ⟨G', a, b⟩ := ih hf G r; exact ⟨G', .stack a, b⟩
  | thread _ ih => intro hf G r; obtain ⟨G', a, b⟩ := ih hf G r; exact ⟨G', .thread a, b⟩
  | newGen _ ih =>
    intro hf G r
    obtain ⟨G', a, b, c, d⟩ := ih hf (G.push _) (r.push (x := .fresh _) trivial)
    have z : G.size = _ := r.1
    rw [← z] at a
    exact ⟨G', .newGen a, b, (Keep.push r.1 _).trans c, d⟩
  | call _ _ ih1 ih2 =>
    intro hf G r
    obtain ⟨G1, a1, b1, c1, _⟩ := ih1 rfl G r
    obtain ⟨G2, a2, b2, c2, d2⟩ := ih2 rfl G1 b1
    exact ⟨G2, .call a1 a2, b2, c1.trans c2, d2⟩
  | callSusp _ ih =>
    intro hf G r
    obtain ⟨G', a, b, c, d⟩ := ih rfl G r
    exact ⟨G', .callSusp a, b, c, split_append d rfl⟩
  | yield => intro _ G r; exact ⟨G, .yield, r, Keep.refl _ _, rfl⟩
  | resumeFresh hg _ hq _ ih1 ih2 =>
    intro hf G r
    obtain ⟨st, e1, e2⟩ := r.get hg
    obtain ⟨rfl, _⟩ := e2.resolve_right (fun ⟨_, _, _, _, _, _, _, _, z, _⟩ => by cases z)
    obtain ⟨G1, a1, b1, c1, d1⟩ := ih1 rfl _ (r.set _ (x := .running) trivial)
    obtain ⟨G2, a2, b2, c2, d2⟩ := ih2 rfl _ (b1.set _ (ok_end d1))
    refine ⟨G2, .resumeFresh e1 a1 hq a2, b2, (Keep.turn hg (fun z => ?_) c1).trans c2, d2⟩
    rcases z with ⟨_, _, _, _, _, z⟩ | z | z <;> cases z
  | resumeSuspended hg h1 hq _ ih1 ih2 =>
    intro hf G r
    obtain ⟨st, e1, e2⟩ := r.get hg
    rcases e2 with ⟨rfl, hok⟩ | ⟨_, _, _, _, _, _, _, _, z, _⟩
    · obtain ⟨G1, a1, b1, c1, d1⟩ := ih1 hok _ (r.set _ (x := .running) trivial)
      obtain ⟨G2, a2, b2, c2, d2⟩ := ih2 rfl _ (b1.set _ (ok_end d1))
      refine ⟨G2, .resumeSuspended e1 a1 hq a2, b2, (Keep.turn hg (fun z => ?_) c1).trans c2, d2⟩
      rcases z with ⟨_, _, _, _, _, z⟩ | z | z
      · cases z
        exact (no_bomb h1 _ rfl).elim
      · cases z
      · cases z
    · cases z
      exact (no_bomb h1 _ rfl).elim
  | resumeJustStarted hg hv _ ih =>
    intro hf G r
    obtain ⟨st, e1, e2⟩ := r.get hg
    obtain ⟨rfl, _⟩ := e2.resolve_right (fun ⟨_, _, _, _, _, _, _, _, z, _⟩ => by cases z)
    obtain ⟨G', a, b⟩ := ih hf G r
    exact ⟨G', .resumeJustStarted e1 hv a, b⟩
  | resumeThrowFresh hg _ ih =>
    intro hf G r
    obtain ⟨st, e1, e2⟩ := r.get hg
    obtain ⟨rfl, _⟩ := e2.resolve_right (fun ⟨_, _, _, _, _, _, _, _, z, _⟩ => by cases z)
    obtain ⟨G', a, b, c, d⟩ := ih hf _ (r.set _ (x := .finished) trivial)
    refine ⟨G', .resumeThrowFresh e1 a, b, (Keep.set hg (fun z => ?_)).trans c, d⟩
    rcases z with ⟨_, _, _, _, _, z⟩ | z | z <;> cases z
  | resumeRunning hg _ ih =>
    intro hf G r
    obtain ⟨st, e1, e2⟩ := r.get hg
    have es : st = .running := by
      rcases e2 with ⟨z, _⟩ | ⟨_, _, _, _, _, _, _, _, z, _⟩
      · exact z
      · cases z
    subst es
    obtain ⟨G', a, b⟩ := ih hf G r
    exact ⟨G', .resumeRunning e1 a, b⟩
  | resumeFinished hg _ ih =>
    intro hf G r
    obtain ⟨st, e1, e2⟩ := r.get hg
    have es : st = .finished := by
      rcases e2 with ⟨z, _⟩ | ⟨_, _, _, _, _, _, _, _, z, _⟩
      · exact z
      · cases z
    subst es
    obtain ⟨G', a, b⟩ := ih hf G r
    exact ⟨G', .resumeFinished e1 a, b⟩
  | segRet _ _ ih1 ih2 =>
    intro hf G r
    obtain ⟨G1, a1, b1, c1, _⟩ := ih1 rfl G r
    obtain ⟨G2, a2, b2, c2, d2⟩ := ih2 (split_ret hf) G1 b1
    exact ⟨G2, .segRet a1 a2, b2, c1.trans c2, d2⟩
  | segGen _ _ _ _ => intro hf; simp [splitAtGen] at hf
  | segSuspOut hs _ ih =>
    intro hf G r
    obtain ⟨G1, a1, b1, c1, d1⟩ := ih rfl G r
    exact ⟨G1, .segSuspOut hs a1, b1, c1, split_append d1 hs⟩
  | segSuspGen hs _ _ _ _ _ => intro hf; rw [hs] at hf; cases hf

/-- the same for what is wanted behind a tree -/
theorem wp_sim {G0 : Array GenState} {M : Model} {Γ : Ctx} {α : Type} (t : Sem α) : ∀ (Q : α → Pos → Shared → Prop) (E : Value → Pos → Shared → Prop) (p : Pos) (s : Shared) (G : Array GenState), GRel G0 G s.gens → Sem.wp M Γ t Q E p s →
    Sem.wp M Γ t (fun a p' s' => ∃ GB, Q a p' { s' with gens := GB } ∧ GRel G0 s'.gens GB ∧ Keep s.gens GB G s'.gens) (fun e p' s' => ∃ GB, E e p' { s' with gens := GB } ∧ GRel G0 s'.gens GB ∧ Keep s.gens GB G s'.gens) p { s with gens := G } := by
  induction t with
  | pure a => intro Q E p s G r h; exact ⟨s.gens, h, r, Keep.refl _ _⟩
  | raise e => intro Q E p s G r h; exact ⟨s.gens, h, r, Keep.refl _ _⟩
  | unsupported _ => intro Q E p s G r h; exact h
  | finish _ => intro Q E p s G r h; exact h
  | rule _ k ih => intro Q E p s G r h; exact ih () Q E p s G r h
  | «at» p' k ih => intro Q E p s G r h; exact ih () Q E p' s G r h
  | load a _ k ih => intro Q E p s G r h; obtain ⟨o, ho, h⟩ := h; exact ⟨o, ho, ih o Q E p s G r h⟩
  | update a _ f k ih => intro Q E p s G r h; exact ⟨h.1, ih () Q E p { s with heap := s.heap.update a f } G r h.2⟩
  | loadIfAlive a k ih => intro Q E p s G r h; exact ih _ Q E p s G r h
  | point _ k ih => intro Q E p s G r h; exact ih () Q E p s G r h
  | register _ _ => intro Q E p s G r h; exact h
  | alloc o k ih => intro Q E p s G r h; exact ih _ Q E p { s with heap := s.heap.push o } G r h
  | fresh k ih => intro Q E p s G r h; exact ih _ Q E p { s with toks := s.toks + 1 } G r h
  | ask k ih => intro Q E p s G r h; exact ih _ Q E p s G r h
  | choose src m k ih => intro Q E p s G r h; exact ⟨h.1, ih _ Q E p { s with drawn := s.drawn.bump src } G r h.2⟩
  | os q _ k ih => intro Q E p s G r h; exact ih _ Q E p { s with os := (Os.step s.os q).1 } G r h
  | call c hd _ _ k ih =>
    intro Q E p s G r h
    obtain ⟨res, s1, hr, h⟩ := h
    obtain ⟨G1, a1, b1, c1, _⟩ := sim hr rfl G r
    refine ⟨res, _, a1, ?_⟩
    have q := ih res Q E p s1 G1 b1 h
    exact Sem.wp_mono M _ _ (fun a p' s' ⟨GB, x, y, z⟩ => ⟨GB, x, y, c1.trans z⟩) (fun a p' s' ⟨GB, x, y, z⟩ => ⟨GB, x, y, c1.trans z⟩) _ _ q
  | handled own k ih => intro Q E p s G r h; exact ih _ Q E p s G r h
  | genState g k ih =>
    intro Q E p s G r h
    obtain ⟨st, hs, h⟩ := h
    obtain ⟨st', e1, e2⟩ := r.get hs
    refine ⟨st', e1, ?_⟩
    rw [seen_rel e2]
    exact ih _ Q E p s G r h
  | newGen c k ih =>
    intro Q E p s G r h
    have q := ih _ Q E p { s with gens := s.gens.push (.fresh c) } (G.push (.fresh c)) (r.push trivial) h
    have z : G.size = s.gens.size := r.1
    show Sem.wp M Γ (k G.size) _ _ p { s with gens := G.push (.fresh c) }
    rw [z]
    exact Sem.wp_mono M _ _ (fun a p' s' ⟨GB, x, y, w⟩ => ⟨GB, x, y, (Keep.push z _).trans w⟩) (fun a p' s' ⟨GB, x, y, w⟩ => ⟨GB, x, y, (Keep.push z _).trans w⟩) _ _ q
  | resume g res l k ih =>
    intro Q E p s G r h
    obtain ⟨gr, s1, hw, h⟩ := h
    have go : ∃ G1, Wakes M Γ p g res { s with gens := G } gr { s1 with gens := G1 } ∧ GRel G0 G1 s1.gens ∧ Keep s.gens s1.gens G G1 := by
      unfold Wakes at hw ⊢
      split at hw
      · exact hw.elim
      · rename_i c hg
        obtain ⟨st, e1, e2⟩ := r.get hg
        obtain ⟨rfl, _⟩ := e2.resolve_right (fun ⟨_, _, _, _, _, _, _, _, z, _⟩ => by cases z)
        have ns : ¬ Still (.fresh c) := fun z => by rcases z with ⟨_, _, _, _, _, z⟩ | z | z <;> cases z
        show ∃ G1, (match G[g]? with | _ => _) ∧ _
        rw [e1]
        dsimp only
        split at hw
        · obtain ⟨e₁, s₁, hr, hq, rfl, rfl⟩ := hw
          obtain ⟨G1, a1, b1, c1, d1⟩ := sim hr rfl _ (r.set g (x := .running) trivial)
          exact ⟨_, ⟨e₁, _, a1, hq, rfl, rfl⟩, b1.set g (ok_end d1), Keep.turn hg ns c1⟩
        · obtain ⟨rfl, rfl⟩ := hw
          exact ⟨G, ⟨rfl, rfl⟩, r, Keep.refl _ _⟩
        · obtain ⟨rfl, rfl⟩ := hw
          exact ⟨_, ⟨rfl, rfl⟩, r.set g trivial, Keep.set hg ns⟩
      · rename_i k₀ l₀ c₀ p₀ fs cl hg
        obtain ⟨st, e1, e2⟩ := r.get hg
        obtain ⟨e₁, s₁, hr, hq, rfl, rfl⟩ := hw
        rcases e2 with ⟨rfl, hok⟩ | ⟨_, _, _, _, _, _, _, _, z, _⟩
        · have ns : ¬ Still (.suspended k₀ l₀ c₀ p₀ fs cl) := fun z => by
            rcases z with ⟨_, _, _, _, _, z⟩ | z | z
            · cases z
              exact no_bomb hr _ rfl
            · cases z
            · cases z
          show ∃ G1, (match G[g]? with | _ => _) ∧ _
          rw [e1]
          dsimp only
          obtain ⟨G1, a1, b1, c1, d1⟩ := sim hr hok _ (r.set g (x := .running) trivial)
          exact ⟨_, ⟨e₁, _, a1, hq, rfl, rfl⟩, b1.set g (ok_end d1), Keep.turn hg ns c1⟩
        · cases z
          exact (no_bomb hr _ rfl).elim
      · rename_i hg
        obtain ⟨st, e1, e2⟩ := r.get hg
        obtain ⟨rfl, _⟩ := e2.resolve_right (fun ⟨_, _, _, _, _, _, _, _, z, _⟩ => by cases z)
        obtain ⟨rfl, rfl⟩ := hw
        show ∃ G1, (match G[g]? with | _ => _) ∧ _
        rw [e1]
        exact ⟨G, ⟨rfl, rfl⟩, r, Keep.refl _ _⟩
      · rename_i hg
        obtain ⟨st, e1, e2⟩ := r.get hg
        obtain ⟨rfl, _⟩ := e2.resolve_right (fun ⟨_, _, _, _, _, _, _, _, z, _⟩ => by cases z)
        obtain ⟨rfl, rfl⟩ := hw
        show ∃ G1, (match G[g]? with | _ => _) ∧ _
        rw [e1]
        exact ⟨G, ⟨rfl, rfl⟩, r, Keep.refl _ _⟩
    obtain ⟨G1, a1, b1, c1⟩ := go
    refine ⟨gr, _, a1, ?_⟩
    have q := ih gr Q E p s1 G1 b1 h
    exact Sem.wp_mono M _ _ (fun a p' s' ⟨GB, x, y, z⟩ => ⟨GB, x, y, c1.trans z⟩) (fun a p' s' ⟨GB, x, y, z⟩ => ⟨GB, x, y, c1.trans z⟩) _ _ q
  | yield _ _ _ _ => intro Q E p s G r h; exact h
  | stack k ih => intro Q E p s G r h; exact ih _ Q E p s G r h
  | fork _ _ => intro Q E p s G r h; exact h
  | thread k ih => intro Q E p s G r h; exact ih _ Q E p s G r h
  | await _ _ _ _ _ => intro Q E p s G r h; exact h
end Gz
end
section
set_option Elab.async false
set_option maxRecDepth 100000
/-! the machine's own runs, yields inside a delegating generator among them -/
namespace Gz
open PySem
section
variable (P : Program) (w : World)
/-- a row of the machine that the scheduler does as it is told: calm, or a yield that shows nothing -/
def Fine (s : Shared) (t : Thread) : Prop := t.calm = true ∨ ∃ v g l k fs b rest, t.cur = .yield v g l k ∧ splitAtGen t.stack = some (fs, b, rest) ∧ (s.asleep → closingShows s fs t.code g = false)
inductive Go : Shared → Thread → Shared → Thread → Prop
  | here {s t} : Go s t s t
  | next {s t s1 t1 s2 t2} : Fine s t → stepK (denote table) P w s t = .go s1 t1 → Go s1 t1 s2 t2 → Go s t s2 t2
end
section
variable {P : Program} {w : World}
theorem Go.trans {s t s1 t1 s2 t2} (a : Go P w s t s1 t1) (b : Go P w s1 t1 s2 t2) : Go P w s t s2 t2 := by
  induction a with
  | here => exact b
  | next f h _ ih => exact .next f h (ih b)
theorem go_one {s t s1 t1 s2 t2} (h : (model P w).step s t = .go s1 t1) (g : Go P w s1 t1 s2 t2) : Go P w s t s2 t2 := by
  have hs : stepI (denote table) P w s t = .go s1 t1 := h
  cases hl : t.loud with
  | true => rw [stepI_loud _ _ _ hl] at hs; cases hs
  | false =>
    rw [stepI_quiet _ _ _ hl] at hs
    refine .next (.inl ?_) hs g
    rw [Thread.calm_eq, hl]
    cases hr : t.refused with
    | false => rfl
    | true =>
      obtain ⟨what, e⟩ := stepK_refused (denote table) P w (s := s) hr
      rw [e] at hs; cases hs
theorem go_runN : ∀ {n : Nat} {s t s1 t1}, (model P w).runN n s t = .running s1 t1 → Go P w s t s1 t1
  | 0, _, _, _, _, h => by
    have h' : Run.running _ _ = Run.running _ _ := h
    cases h'
    exact .here
  | n + 1, s, t, s1, t1, h => by
    rw [runN_succ] at h
    cases hs : (model P w).step s t with
    | go s2 t2 => rw [hs] at h; exact go_one hs (go_runN h)
    | halt o s2 => rw [hs] at h; cases h
theorem go_runs {Γ : Ctx} {p : Pos} {t : Sem Fin} {fs base : List Frame} {s s' : Shared} {e : End} (h : Runs (model P w) Γ p t fs s e s') (hf : Γ.Fits base) :
    ∃ t' c' p' pre', Go P w s ⟨t, Γ.code, p, fs ++ base⟩ s' ⟨t', c', p', pre' ++ base⟩ ∧ Exits e t' c' p' pre' := by
  obtain ⟨n, t', c', p', pre', hn, hx⟩ := (runs_reach h base hf).runN
  exact ⟨t', c', p', pre', go_runN hn, hx⟩

/-- what the kit shows of a tree, on the machine -/
theorem go_wp {α : Type} (t : Sem α) : ∀ (Q : α → Pos → Shared → Prop) (E : Value → Pos → Shared → Prop) (p : Pos) (s : Shared) (st : List Frame) (c : Code), Sem.wp (model P w) (Ctx.of c st) t Q E p s →
    ∀ (K : α → Sem Fin) (H : Value → Sem Fin) (gd : Bool → Bool) (lv : List Value → List Value),
      (∃ a p' s', Q a p' s' ∧ Go P w s ⟨t.wrap K H gd lv, c, p, st⟩ s' ⟨K a, c, p', st⟩) ∨ (∃ e p' s', E e p' s' ∧ Go P w s ⟨t.wrap K H gd lv, c, p, st⟩ s' ⟨H e, c, p', st⟩) := by
  have lift : ∀ {Q : α → Pos → Shared → Prop} {E : Value → Pos → Shared → Prop} {s s1 : Shared} {th th1 : Thread} {K : α → Sem Fin} {H : Value → Sem Fin} {c : Code} {st : List Frame}, Go P w s th s1 th1 →
      ((∃ a p' s', Q a p' s' ∧ Go P w s1 th1 s' ⟨K a, c, p', st⟩) ∨ (∃ e p' s', E e p' s' ∧ Go P w s1 th1 s' ⟨H e, c, p', st⟩)) →
      (∃ a p' s', Q a p' s' ∧ Go P w s th s' ⟨K a, c, p', st⟩) ∨ (∃ e p' s', E e p' s' ∧ Go P w s th s' ⟨H e, c, p', st⟩) := fun g h => by
    rcases h with ⟨a, p', s', q, g'⟩ | ⟨a, p', s', q, g'⟩
    · exact .inl ⟨a, p', s', q, g.trans g'⟩
    · exact .inr ⟨a, p', s', q, g.trans g'⟩
  induction t with
  | pure a => intro Q E p s st c h K H gd lv; exact .inl ⟨a, p, s, h, .here⟩
  | raise e => intro Q E p s st c h K H gd lv; exact .inr ⟨e, p, s, h, .here⟩
  | unsupported _ => intro Q E p s st c h; exact h.elim
  | finish _ => intro Q E p s st c h; exact h.elim
  | rule tg k ih => intro Q E p s st c h K H gd lv; exact lift (go_one (step_rule _ _ _ _ _ tg _) .here) (ih () Q E p s st c h K H gd lv)
  | «at» p' k ih => intro Q E p s st c h K H gd lv; exact lift (go_one (step_at _ _ _ _ _ p' _) .here) (ih () Q E p' s st c h K H gd lv)
  | load a pt k ih => intro Q E p s st c h K H gd lv; obtain ⟨o, ho, h⟩ := h; exact lift (go_one (step_load _ _ _ _ _ pt _ ho) .here) (ih o Q E p s st c h K H gd lv)
  | update a pt f k ih => intro Q E p s st c h K H gd lv; exact lift (go_one (step_update _ _ _ _ _ pt f _ h.1) .here) (ih () Q E p _ st c h.2 K H gd lv)
  | loadIfAlive a k ih => intro Q E p s st c h K H gd lv; exact lift (go_one (step_loadIfAlive _ _ _ _ _ a _) .here) (ih _ Q E p s st c h K H gd lv)
  | point l k ih => intro Q E p s st c h K H gd lv; exact lift (go_one (step_point _ _ _ _ _ (lv l) _) .here) (ih () Q E p s st c h K H gd lv)
  | register _ _ => intro Q E p s st c h; exact h.elim
  | alloc o k ih => intro Q E p s st c h K H gd lv; exact lift (go_one (step_alloc _ _ _ _ _ o _) .here) (ih _ Q E p _ st c h K H gd lv)
  | fresh k ih => intro Q E p s st c h K H gd lv; exact lift (go_one (step_fresh _ _ _ _ _ _) .here) (ih _ Q E p _ st c h K H gd lv)
  | ask k ih => intro Q E p s st c h K H gd lv; exact lift (go_one (step_ask _ _ _ _ _ _) .here) (ih _ Q E p s st c h K H gd lv)
  | choose src m k ih => intro Q E p s st c h K H gd lv; exact lift (go_one (step_choose _ _ _ _ _ src _ h.1) .here) (ih _ Q E p _ st c h.2 K H gd lv)
  | os q l k ih => intro Q E p s st c h K H gd lv; exact lift (go_one (step_os _ _ _ _ _ q (lv l) _) .here) (ih _ Q E p _ st c h K H gd lv)
  | call c' hd g l k ih =>
    intro Q E p s st c h K H gd lv
    obtain ⟨r, s1, hr, h⟩ := h
    obtain ⟨t', c1, p1, pre, g1, hx⟩ := go_runs hr ((Ctx.fits_of c st).enter c' (fun x => (k x).wrap K H gd lv) hd (gd g) (lv l) p [])
    obtain ⟨rfl, rfl⟩ := hx
    refine lift (go_one (step_call _ _ _ _ _ c' hd (gd g) (lv l) _) (g1.trans (go_one (step_leaf_ret _ _ _ _ _ r _ hd (gd g) (lv l) c p []) .here))) (ih r Q E p s1 st c h K H gd lv)
  | handled own k ih =>
    intro Q E p s st c h K H gd lv
    refine lift (go_one (step_handled _ _ _ _ _ own _) .here) (ih _ Q E p s st c ?_ K H gd lv)
    cases own <;> exact h
  | genState g k ih => intro Q E p s st c h K H gd lv; obtain ⟨x, hs, h⟩ := h; exact lift (go_one (step_genState _ _ _ _ _ _ hs) .here) (ih _ Q E p s st c h K H gd lv)
  | newGen c' k ih => intro Q E p s st c h K H gd lv; exact lift (go_one (step_newGen _ _ _ _ _ c' _) .here) (ih _ Q E p _ st c h K H gd lv)
  | resume g r l k ih =>
    intro Q E p s st c h K H gd lv
    obtain ⟨res, s1, hw, h⟩ := h
    have fin := ih res Q E p s1 st c h K H gd lv
    unfold Wakes at hw
    split at hw
    · exact hw.elim
    · rename_i c' hg
      split at hw
      · obtain ⟨e₁, s₁, hr, hq, rfl, rfl⟩ := hw
        obtain ⟨t', c1, p1, pre, g1, hx⟩ := go_runs hr ((Ctx.fits_of c st).wake c' g (fun x => (k x).wrap K H gd lv) (lv l) p)
        exact lift (go_one (step_resume_fresh _ _ _ _ _ (lv l) _ hg) (g1.trans (go_one (step_exit_gen _ g _ (lv l) c p st hx hq) .here))) fin
      · rename_i v hv
        obtain ⟨rfl, rfl⟩ := hw
        exact lift (go_one (step_resume_justStarted _ _ _ _ _ (lv l) _ hg (fun z => hv (by rw [z]))) .here) fin
      · obtain ⟨rfl, rfl⟩ := hw
        exact lift (go_one (step_resume_throwFresh _ _ _ _ _ _ (lv l) _ hg) .here) fin
    · rename_i k₀ l₀ c₀ p₀ fs cl hg
      obtain ⟨e₁, s₁, hr, hq, rfl, rfl⟩ := hw
      obtain ⟨t', c1, p1, pre, g1, hx⟩ := go_runs hr ((Ctx.fits_of c st).wake c₀ g (fun x => (k x).wrap K H gd lv) (lv l) p)
      exact lift (go_one (step_resume_suspended _ _ _ _ _ r (lv l) _ hg) (g1.trans (go_one (step_exit_gen _ g _ (lv l) c p st hx hq) .here))) fin
    · rename_i hg
      obtain ⟨rfl, rfl⟩ := hw
      exact lift (go_one (step_resume_running _ _ _ _ _ r (lv l) _ hg) .here) fin
    · rename_i hg
      obtain ⟨rfl, rfl⟩ := hw
      exact lift (go_one (step_resume_finished _ _ _ _ _ r (lv l) _ hg) .here) fin
  | yield _ _ _ _ => intro Q E p s st c h; exact h.elim
  | stack k ih => intro Q E p s st c h K H gd lv; exact lift (go_one (step_stack _ _ _ _ _ _) .here) (ih _ Q E p s st c h K H gd lv)
  | fork _ _ => intro Q E p s st c h; exact h.elim
  | thread k ih => intro Q E p s st c h K H gd lv; exact lift (go_one (step_thread _ _ _ _ _ _) .here) (ih _ Q E p s st c h K H gd lv)
  | await _ _ _ _ _ => intro Q E p s st c h; exact h.elim
end
end Gz
end
section
set_option Elab.async false
set_option maxRecDepth 100000
/-! the scheduler walks along with such a run -/
namespace Gz
open PySem
section
variable {P : Program} {w : World}
theorem yield_parts {s : Shared} {v : Value} {g : Bool} {l : List Value} {k : Resume → Sem Fin} {c : Code} {p : Pos} {st : List Frame} {fs b rest} (hb : splitAtGen st = some (fs, b, rest)) (hc : closingShows s fs c g = false) (hr : s.asleep) :
    sstep (denote table) P w (.single s ⟨.yield v g l k, c, p, st⟩) = (step (denote table) P w s ⟨.yield v g l k, c, p, st⟩).lift := by
  have h1 : (Config.single s ⟨.yield v g l k, c, p, st⟩).collect? w.params = none := by
    simp [Config.collect?, Config.single, (nothing_to_collect _ _ _ s _ hr.1).1]
  have h2 : (Config.single s ⟨.yield v g l k, c, p, st⟩).collectable = [] := by
    simp [Config.collectable, Config.single, (nothing_to_collect w.params _ _ s _ hr.1).2]
  have hm : (Config.single s ⟨.yield v g l k, c, p, st⟩).moves w.params.profile = [.run 0] := by
    simp [Config.moves, Config.single, movesFrom, Thread.moves, Thread.atomic, Thread.rests, Thread.tells]
  have hp : (Config.single s ⟨.yield v g l k, c, p, st⟩).pick w = .ok (.run 0, .single s ⟨.yield v g l k, c, p, st⟩) := by
    simp only [Config.pick, h1, h2, Config.pickThread, hm]
    cases w.params.lifetimes <;> simp
  have hl : ∀ others, lifeStep (denote table) P w others s ⟨.yield v g l k, c, p, st⟩ = step (denote table) P w s ⟨.yield v g l k, c, p, st⟩ := fun others => by
    cases hsp : Thread.special ⟨.yield v g l k, c, p, st⟩ with
    | false => exact lifeStep_eq_step _ _ _ others s _ hsp hr.2
    | true => simp [lifeStep, hsp, collectorTurn?, hb, hc, Thread.atItsEnd, stepCounting, hr.2]
  have hrun : (Config.single s ⟨.yield v g l k, c, p, st⟩).run (denote table) P w 0 = (step (denote table) P w s ⟨.yield v g l k, c, p, st⟩).lift := by
    simp only [Config.run, Config.single]
    simp [hl, others_single, frozenBadly, ThreadState.insideWrite, Thread.finalizes]
    split <;> simp_all [Step.lift, Config.single]
  simp only [sstep, hp, Config.move, hrun]
theorem sstep_fine {s : Shared} {t : Thread} (h : Fine s t) (hr : s.asleep) :
    sstep (denote table) P w (.single s t) = (step (denote table) P w s t).lift ∨ step (denote table) P w s t = .halt (.unsupported "lifetime:generator-with-cleanup-left-suspended") s := by
  rcases h with h | ⟨v, g, l, k, fs, b, rest, hcur, hb, hc⟩
  · exact sstep_single _ _ _ s t h hr
  · obtain ⟨cur, c, p, st⟩ := t
    have e : cur = .yield v g l k := hcur
    subst e
    exact .inl (yield_parts hb (hc hr) hr)
theorem fine_forget {s s' : Shared} {t t' : Thread} (hs : s.forget = s'.forget) (ht : t.forget = t'.forget) (h : Fine s t) : Fine s' t' := by
  have hh := (Shared.forget_eq hs).1
  rcases h with h | ⟨v, g, l, k, fs, b, rest, hcur, hb, hc⟩
  · left
    rw [← Thread.calm_forget, ← ht, Thread.calm_forget]; exact h
  · right
    obtain ⟨cur, c, p, st⟩ := t
    obtain ⟨cur', c', p', st'⟩ := t'
    simp only [Thread.forget, Thread.mk.injEq] at ht
    obtain ⟨e1, e2, e3, e4⟩ := ht
    subst e1 e2 e3
    have q := splitAtGen_forgetAll st
    rw [e4, splitAtGen_forgetAll] at q
    have hb' : splitAtGen st = some (fs, b, rest) := hb
    rw [hb'] at q
    cases q2 : splitAtGen st' with
    | none => rw [q2] at q; cases q
    | some x =>
      obtain ⟨fs', b', rest'⟩ := x
      rw [q2] at q
      simp only [Option.map_some, Option.some.injEq, Prod.mk.injEq] at q
      obtain ⟨q3, rfl, _⟩ := q
      refine ⟨v, g, l, k, fs', b', rest', hcur, rfl, ?_⟩
      have a1 : fs'.any Frame.guarded = fs.any Frame.guarded := by rw [← any_guarded_forgetAll fs', q3, any_guarded_forgetAll]
      have a2 : ∀ v, delegateShows s' v = delegateShows s v := fun v => by unfold delegateShows; rw [hh]
      intro ha'
      have ha : s.asleep := by unfold Shared.asleep at ha' ⊢; rw [hh]; exact ha'
      have hc' : closingShows s fs c g = false := hc ha
      show closingShows s' fs' c g = false
      unfold closingShows at hc' ⊢
      rw [a1]
      simp only [a2]
      exact hc'
theorem go_sched {s s' : Shared} {t t' : Thread} (h : Go P w s t s' t') : s.asleep → ∀ sR tR, sR.forget = s.forget → tR.forget = t.forget →
    ∃ n sR' tR', (∀ m, schedN (denote table) P w (n + m) (.single sR tR) = schedN (denote table) P w m (.single sR' tR')) ∧ (∀ m, runN (denote table) P w (n + m) sR tR = runN (denote table) P w m sR' tR') ∧ sR'.forget = s'.forget ∧ tR'.forget = t'.forget ∧ sR'.asleep := by
  induction h with
  | here =>
    intro ha sR tR hs ht
    have hh := (Shared.forget_eq hs).1
    exact ⟨0, sR, tR, fun m => by rw [Nat.zero_add], fun m => by rw [Nat.zero_add], hs, ht, by unfold Shared.asleep; rw [hh]; exact ha⟩
  | @next s t s1 t1 s2 t2 f hk _ ih =>
    intro ha sR tR hs ht
    have hh := (Shared.forget_eq hs).1
    have haR : sR.asleep := by unfold Shared.asleep; rw [hh]; exact ha
    have q1 := stepK_forget (denote table) P w s t
    rw [hk] at q1
    have q2 := step_same (denote table) P w hs ht
    rw [← q1] at q2
    cases hR : step (denote table) P w sR tR with
    | halt o s3 => rw [hR] at q2; cases q2
    | go sR1 tR1 =>
      rw [hR] at q2
      simp only [Step.forget, Step.go.injEq] at q2
      obtain ⟨e1, e2⟩ := q2
      have hs1 : s1.asleep := by
        have z : (sR1).asleep := by
          unfold Shared.asleep
          rw [step_life (denote table) P w sR sR1 tR tR1 hR]
          exact haR
        unfold Shared.asleep at z ⊢
        rw [← (Shared.forget_eq e1).1]
        exact z
      obtain ⟨n, sR', tR', r1, r2, r3⟩ := ih hs1 sR1 tR1 e1 e2
      have ss := (sstep_fine (P := P) (w := w) (fine_forget hs.symm ht.symm f) haR).resolve_right (by rw [hR]; exact fun z => by cases z)
      rw [hR] at ss
      refine ⟨n + 1, sR', tR', fun m => ?_, fun m => ?_, r3⟩
      · have e : n + 1 + m = (n + m) + 1 := by omega
        rw [e]
        show (match sstep (denote table) P w (.single sR tR) with | .go c' => schedN (denote table) P w (n + m) c' | .halt o s => .halted o s) = _
        rw [ss]
        exact r1 m
      · have e : n + 1 + m = (n + m) + 1 := by omega
        rw [e]
        show (match step (denote table) P w sR tR with | .go s' t' => runN (denote table) P w (n + m) s' t' | .halt o s' => .halted o s') = _
        rw [hR]
        exact r2 m
/-- to the end -/
theorem go_ends {s s' : Shared} {t : Thread} {r : Result} {c : Code} {p : Pos} (h : Go P w s t s' ⟨leafOf r, c, p, []⟩) (ha : s.asleep) (hl : leftWithCleanup s'.gens = false) :
    ∃ n sR', runN (denote table) P w n s t = .halted (outcomeOf r) sR' ∧ schedN (denote table) P w n (.single s t) = .halted (outcomeOf r) sR' ∧ sR'.forget = s'.forget := by
  obtain ⟨n, sR', tR', r1, r2, r3, r4, r5⟩ := go_sched h ha s t rfl rfl
  obtain ⟨cur, c', p', st⟩ := tR'
  simp only [Thread.forget, Thread.mk.injEq] at r4
  obtain ⟨e1, e2, e3, e4⟩ := r4
  have e4' : st = [] := by
    cases st with
    | nil => rfl
    | cons f fs =>
      have z : Frame.forget f :: forgetAll fs = [] := e4
      cases z
  subst e1 e2 e3 e4'
  have hl' : leftWithCleanup sR'.gens = false := by rw [leftWithCleanup_of_forget_eq r3]; exact hl
  have hst : step (denote table) P w sR' ⟨leafOf r, c', p', []⟩ = .halt (outcomeOf r) sR' := by
    have e : step (denote table) P w sR' ⟨leafOf r, c', p', []⟩ = finish (outcomeOf r) sR' := by cases r <;> rfl
    rw [e]
    unfold finish
    rw [if_neg (by rw [hl']; exact Bool.false_ne_true)]
  have hcalm : (⟨leafOf r, c', p', []⟩ : Thread).calm = true := by cases r <;> rfl
  have ss := (sstep_single (denote table) P w sR' ⟨leafOf r, c', p', []⟩ hcalm r5).resolve_right (by
    rw [hst]
    intro z
    injection z with z1 _
    cases r <;> cases z1)
  refine ⟨n + 1, sR', ?_, ?_, r3⟩
  · rw [r2 1]
    show (match step (denote table) P w sR' _ with | .go s' t' => runN (denote table) P w 0 s' t' | .halt o s' => .halted o s') = _
    rw [hst]
  · rw [r1 1]
    show (match sstep (denote table) P w (.single sR' _) with | .go c' => schedN (denote table) P w 0 c' | .halt o s => .halted o s) = _
    rw [ss, hst]
    rfl
end
end Gz
end
section
set_option Elab.async false
set_option maxRecDepth 100000
/-! trees and codes on the machine -/
namespace Gz
open PySem
theorem wrap_id {α : Type} (t : Sem α) : t.wrap .pure .raise id id = t := by
  induction t <;> simp only [Sem.wrap, id, *]
theorem of_ret (c c0 : Code) (k : Result → Sem Fin) (h : Option Value) (g : Bool) (l kp : List Value) (p : Pos) (st : List Frame) : Ctx.of c (.ret k h g l c0 p kp :: st) = (Ctx.of c0 st).enter c h p := by
  have e1 : topHandled (ownFrames (.ret k h g l c0 p kp :: st)) = markOver h (topHandled (ownFrames st)) none := by
    rw [ownFrames_ret, topHandled_ret, past_noGen (splitAtGen_ownFrames st)]
  show Ctx.mk c (topHandled (.ret k h g l c0 p kp :: st)) (topHandled (ownFrames (.ret k h g l c0 p kp :: st))) _ (topHandled.go true (.ret k h g l c0 p kp :: st)) = _
  rw [e1, topHandled_ret]
  rfl
theorem of_gen (c c0 : Code) (g : Nat) (k : GenResult → Sem Fin) (l : List Value) (p : Pos) (st : List Frame) : Ctx.of c (.gen g k l c0 p :: st) = (Ctx.of c0 st).wake c p := by
  show Ctx.mk c (topHandled (.gen g k l c0 p :: st)) (topHandled (ownFrames (.gen g k l c0 p :: st))) _ (topHandled.go true (.gen g k l c0 p :: st)) = _
  rw [ownFrames_gen]
  rfl
section
variable (P : Program) (w : World)
def Out {α : Type} (Q : α → Shared → Prop) (E : Value → Shared → Prop) (s : Shared) (t : Thread) (K : α → Sem Fin) (H : Value → Sem Fin) (c : Code) (st : List Frame) : Prop :=
  (∃ a p' s', Q a s' ∧ Go P w s t s' ⟨K a, c, p', st⟩) ∨ (∃ e p' s', E e s' ∧ Go P w s t s' ⟨H e, c, p', st⟩)
/-- the tree t, on the machine, wherever it stands -/
def wpS (A : Around) {α : Type} (t : Sem α) (Q : α → Shared → Prop) (E : Value → Shared → Prop) (s : Shared) : Prop :=
  ∀ (c : Code) (p : Pos) (st : List Frame), (Ctx.of c st).In A → ∀ (K : α → Sem Fin) (H : Value → Sem Fin) (gd : Bool → Bool) (lv : List Value → List Value), Out P w Q E s ⟨t.wrap K H gd lv, c, p, st⟩ K H c st
/-- the code c, on the machine, until it hands back r -/
def codeS (A : Around) (c : Code) (R : Result → Shared → Prop) (s : Shared) : Prop :=
  ∀ (p : Pos) (st : List Frame), (Ctx.of c st).Below A → ∃ r s' c' p', R r s' ∧ Go P w s ⟨denote table c, c, p, st⟩ s' ⟨leafOf r, c', p', st⟩
end
section
variable {P : Program} {w : World} {A : Around} {α β : Type} {Q : β → Shared → Prop} {E : Value → Shared → Prop} {s : Shared}
theorem Out.lift {Q : α → Shared → Prop} {s s1 : Shared} {t t1 : Thread} {K : α → Sem Fin} {H : Value → Sem Fin} {c : Code} {st : List Frame} (g : Go P w s t s1 t1) (h : Out P w Q E s1 t1 K H c st) : Out P w Q E s t K H c st := by
  rcases h with ⟨a, p', s', q, g'⟩ | ⟨a, p', s', q, g'⟩
  · exact .inl ⟨a, p', s', q, g.trans g'⟩
  · exact .inr ⟨a, p', s', q, g.trans g'⟩
theorem wpS_of {t : Sem β} (h : wpAny (model P w) A t Q E s) : wpS P w A t Q E s := fun c p st hI K H gd lv =>
  go_wp t (fun a _ s' => Q a s') (fun e _ s' => E e s') p s st c (h (Ctx.of c st) p hI) K H gd lv
theorem codeS_of {c : Code} {R : Result → Shared → Prop} (h : codeAny (model P w) A c R s) : codeS P w A c R s := fun p st hB => by
  obtain ⟨r, s', hr, q⟩ := h (Ctx.of c st) p rfl hB
  obtain ⟨t', c', p', pre, g, hx⟩ := go_runs (fs := []) hr (Ctx.fits_of c st)
  obtain ⟨rfl, rfl⟩ := hx
  exact ⟨r, s', c', p', q, g⟩
theorem wpS_pure {a : β} (h : Q a s) : wpS P w A (.pure a) Q E s := fun c p st _ K H gd lv => .inl ⟨a, p, s, h, .here⟩
theorem wpS_raise {e : Value} (h : E e s) : wpS P w A (.raise e : Sem β) Q E s := fun c p st _ K H gd lv => .inr ⟨e, p, s, h, .here⟩
theorem wpS_mono {t : Sem β} {Q' : β → Shared → Prop} {E' : Value → Shared → Prop} (h : wpS P w A t Q E s) (hQ : ∀ a s, Q a s → Q' a s) (hE : ∀ e s, E e s → E' e s) : wpS P w A t Q' E' s := fun c p st hI K H gd lv => by
  rcases h c p st hI K H gd lv with ⟨a, p', s', q, g⟩ | ⟨a, p', s', q, g⟩
  · exact .inl ⟨a, p', s', hQ _ _ q, g⟩
  · exact .inr ⟨a, p', s', hE _ _ q, g⟩
theorem wpS_wrap {m : Sem α} {K0 : α → Sem β} {H0 : Value → Sem β} {g0 : Bool → Bool} {l0 : List Value → List Value} (h : wpS P w A m (fun a s' => wpS P w A (K0 a) Q E s') (fun e s' => wpS P w A (H0 e) Q E s') s) :
    wpS P w A (m.wrap K0 H0 g0 l0) Q E s := fun c p st hI K H gd lv => by
  rw [Sem.wrap_wrap]
  rcases h c p st hI (fun a => (K0 a).wrap K H gd lv) (fun e => (H0 e).wrap K H gd lv) (fun g => gd (g0 g)) (fun l => lv (l0 l)) with ⟨a, p', s', q, g⟩ | ⟨a, p', s', q, g⟩
  · exact .lift g (q c p' st hI K H gd lv)
  · exact .lift g (q c p' st hI K H gd lv)
theorem wpS_bind {m : Sem α} {f : α → Sem β} (h : wpS P w A m (fun a s' => wpS P w A (f a) Q E s') E s) : wpS P w A (m >>= f) Q E s := by
  rw [Sem.bind_eq_wrap']
  exact wpS_wrap (wpS_mono h (fun _ _ z => z) fun _ _ z => wpS_raise z)
theorem wpS_tryCatch {m : Sem β} {f : Value → Sem β} (h : wpS P w A m Q (fun e s' => wpS P w A (f e) Q E s') s) : wpS P w A (m.tryCatch f) Q E s := by
  rw [Sem.tryCatch_eq_wrap]
  exact wpS_wrap (wpS_mono h (fun _ _ z => wpS_pure z) fun _ _ z => z)
theorem wpS_attempt {m : Sem α} {Q : Except Value α → Shared → Prop} (h : wpS P w A m (fun a s' => Q (.ok a) s') (fun e s' => Q (.error e) s') s) : wpS P w A m.attempt Q E s := by
  unfold Sem.attempt
  refine wpS_tryCatch ?_
  rw [Sem.bind_eq_wrap]
  exact wpS_wrap (wpS_mono h (fun _ _ z => wpS_pure z) fun _ _ z => wpS_raise (wpS_pure z))
theorem wpS_onRaise {m : Sem β} {f : Value → Sem Unit} (h : wpS P w A m Q (fun e s' => wpS P w A (f e) (fun _ s'' => E e s'') E s') s) : wpS P w A (m.onRaise f) Q E s := by
  rw [Sem.onRaise_eq_wrap]
  refine wpS_wrap (wpS_mono h (fun _ _ z => wpS_pure z) fun e s' z => ?_)
  rw [Sem.bind_eq_wrap]
  exact wpS_wrap (wpS_mono z (fun _ _ y => wpS_raise y) fun _ _ y => wpS_raise y)
theorem wpS_keep {m : Sem β} {vs : List Value} (h : wpS P w A m Q E s) : wpS P w A (m.keep vs) Q E s := by
  rw [Sem.keep_eq_wrap]
  exact wpS_wrap (wpS_mono h (fun _ _ z => wpS_pure z) fun _ _ z => wpS_raise z)
theorem wpS_holding {m : Sem β} {vs : List Value} (h : wpS P w A m Q E s) : wpS P w A (holding vs m) Q E s := by
  unfold holding
  split
  · exact h
  · exact wpS_keep h
theorem wpS_of_in1 {t : Sem β} (h : wpS P w A.in1 t Q E s) : wpS P w A t Q E s := fun c p st hI =>
  h c p st ⟨hI.1, hI.2.1, hI.2.2.1, hI.2.2.2.1, Nat.le_succ_of_le hI.2.2.2.2⟩
/-- a code is called -/
theorem wpS_node {c' : Code} {h : Option Value} {g : Bool} {l : List Value} {k : Result → Sem β} {R : Result → Shared → Prop} (hc : codeS P w (A.mark h) c' R s) (hk : ∀ r s', R r s' → wpS P w A (k r) Q E s') (hn : h ≠ some byPass := by intro x; cases x) :
    wpS P w A (.call c' h g l k) Q E s := fun c p st hI K H gd lv => by
  obtain ⟨r, s', c1, p1, q, g1⟩ := hc p (.ret (fun x => (k x).wrap K H gd lv) h (gd g) (lv l) c p [] :: st) (by rw [of_ret]; exact hI.enter c' h p hn)
  exact .lift (go_one (step_call _ _ _ _ _ c' h (gd g) (lv l) _) (g1.trans (go_one (step_leaf_ret _ _ _ _ _ r _ h (gd g) (lv l) c p []) .here))) (hk r s' q c p st hI K H gd lv)
theorem wpS_run {c' : Code} {Q : Flow → Shared → Prop} (hc : codeS P w A c' (fun r s' => match r with | .ok f => Q f s' | .error e => E e s') s) : wpS P w A (run c') Q E s := by
  unfold run
  refine wpS_node (A := A) (h := none) (by first | exact hc | (rw [show A.mark none = A from rfl]; exact hc)) fun r s' q => ?_
  cases r with
  | ok f => exact wpS_pure q
  | error e => exact wpS_raise q
theorem wpS_runValue {c' : Code} {Q : Value → Shared → Prop} (hc : codeS P w A c' (fun r s' => match r with | .ok (.ret v) => Q v s' | .ok _ => False | .error e => E e s') s) : wpS P w A (runValue c') Q E s := by
  unfold runValue
  refine wpS_bind (wpS_run ?_)
  intro p st hB
  obtain ⟨r, s', c1, p1, q, g⟩ := hc p st hB
  refine ⟨r, s', c1, p1, ?_, g⟩
  cases r with
  | error e => exact q
  | ok f =>
    cases f with
    | ret v => exact wpS_pure q
    | next => exact q.elim
    | brk => exact q.elim
    | cont => exact q.elim
theorem wpS_call {f : Value} {pos : List Value} {kw : List (Str × Value)} {Q : Value → Shared → Prop} (hc : codeS P w A (.call f ⟨pos, kw⟩) (fun r s' => match r with | .ok (.ret v) => Q v s' | .ok _ => False | .error e => E e s') s) :
    wpS P w A (call f pos kw) Q E s := wpS_runValue hc
theorem codeS_mono {c : Code} {R R' : Result → Shared → Prop} (h : codeS P w A c R s) (hR : ∀ r s, R r s → R' r s) : codeS P w A c R' s := fun p st hB => by
  obtain ⟨r, s', c', p', q, g⟩ := h p st hB
  exact ⟨r, s', c', p', hR _ _ q, g⟩
theorem codeS_tree {c : Code} {R : Result → Shared → Prop} (h : wpS P w (A.under c) (denote table c) (fun fin s' => match fin with | .done f => R (.ok f) s' | .again c' => c'.quiet = true ∧ codeS P w A c' R s') (fun e s' => R (.error e) s') s) :
    codeS P w A c R s := fun p st hB => by
  have q := h c p st hB.in .pure .raise id id
  rw [wrap_id] at q
  rcases q with ⟨a, p', s', q, g⟩ | ⟨e, p', s', q, g⟩
  · cases a with
    | done f => exact ⟨.ok f, s', c, p', q, g⟩
    | again c' =>
      obtain ⟨q1, q2⟩ := q
      obtain ⟨r, s2, c2, p2, q3, g2⟩ := q2 p' st hB
      exact ⟨r, s2, c2, p2, q3, g.trans (go_one (step_again (M := model P w) _ _ _ _ c' q1) g2)⟩
  · exact ⟨.error e, s', c, p', q, g⟩
theorem codeS_loop {c : Code} {R : Result → Shared → Prop} (hq : c.quiet = true) (I : Nat → Shared → Prop)
    (turn : ∀ n s, I n s → wpS P w (A.under c) (denote table c) (fun fin s' => match fin with | .done f => R (.ok f) s' | .again c' => (c' = c ∧ ∃ m, m < n ∧ I m s') ∨ (c'.quiet = true ∧ codeS P w A c' R s')) (fun e s' => R (.error e) s') s) :
    ∀ (n : Nat) (s : Shared), I n s → codeS P w A c R s := by
  intro n
  induction n using Nat.strongRecOn with
  | ind n ih =>
    intro s h
    refine codeS_tree (wpS_mono (turn n s h) (fun fin s' hf => ?_) fun _ _ z => z)
    cases fin with
    | done f => exact hf
    | again c' =>
      rcases hf with ⟨rfl, m, hm, hI⟩ | hf
      · exact ⟨hq, ih m hm s' hI⟩
      · exact hf
end
end Gz
end
section
set_option Elab.async false
set_option maxRecDepth 100000
/-! the kit's judgements, over sleeping generators, on the machine -/
namespace Gz
open PySem PySem.Spec PyProof.Rows L2
def bombOf : GenState → GenState
  | .suspended _ l c p fs _ => .suspended bomb l c p fs false
  | x => x
/-- what a run that wakes no sleeper does to the table of generators -/
structure GStep (G G' : Array GenState) : Prop where
  size : G.size ≤ G'.size
  stay : ∀ (g : Nat) st, G[g]? = some st → (∀ c, st ≠ .fresh c) → G'[g]? = some st
  new : ∀ (g : Nat) st, G'[g]? = some st → st.bare = true ∨ G[g]? = some st
theorem GStep.refl (G : Array GenState) : GStep G G := ⟨Nat.le_refl _, fun _ _ h _ => h, fun _ _ h => .inr h⟩
theorem GStep.trans {A B C : Array GenState} (x : GStep A B) (y : GStep B C) : GStep A C := ⟨Nat.le_trans x.size y.size, fun g st h n => y.stay g st (x.stay g st h n) n, fun g st h => by
  rcases y.new g st h with z | z
  · exact .inl z
  · exact x.new g st z⟩
theorem GStep.bare {G G' : Array GenState} (x : GStep G G') (h : AllBare G) : AllBare G' := fun y hy => by
  obtain ⟨i, hi, rfl⟩ := Array.mem_iff_getElem.mp hy
  rcases x.new i _ (Array.getElem?_eq_getElem hi) with z | z
  · exact z
  · exact h _ (Array.mem_of_getElem? z)
theorem bare_bomb (G : Array GenState) : AllBare (G.map bombOf) := fun y hy => by
  obtain ⟨x, _, rfl⟩ := Array.mem_map.mp hy
  cases x <;> rfl
theorem rel_bomb (G : Array GenState) : GRel G G (G.map bombOf) := by
  refine ⟨by simp, fun g st stB e1 e2 => ?_⟩
  rw [Array.getElem?_map, e1] at e2
  cases e2
  cases st with
  | suspended k l c p fs cl => exact .inr ⟨k, l, c, p, fs, cl, false, rfl, rfl, e1⟩
  | fresh c => exact .inl ⟨rfl, trivial⟩
  | running => exact .inl ⟨rfl, trivial⟩
  | finished => exact .inl ⟨rfl, trivial⟩
theorem gstep_of {G G' GB : Array GenState} (hz : G.size ≤ G'.size) (r : GRel G G' GB) (k : Keep (G.map bombOf) GB G G') (hb : AllBare GB) : GStep G G' := by
  refine ⟨hz, fun g st e n => ?_, fun g st e => ?_⟩
  · have e' : (G.map bombOf)[g]? = some (bombOf st) := by rw [Array.getElem?_map, e]; rfl
    have hs : Still (bombOf st) := by
      cases st with
      | suspended k l c p fs cl => exact .inl ⟨l, c, p, fs, false, rfl⟩
      | fresh c => exact absurd rfl (n c)
      | running => exact .inr (.inl rfl)
      | finished => exact .inr (.inr rfl)
    rw [(k g _ e' hs).2]; exact e
  · have hlt : g < GB.size := by rw [← r.1]; exact (Array.getElem?_eq_some_iff.mp e).1
    rcases r.2 g st GB[g] e (Array.getElem?_eq_getElem hlt) with ⟨z, _⟩ | ⟨_, _, _, _, _, _, _, _, _, z⟩
    · left
      rw [z]; exact hb _ (Array.getElem_mem hlt)
    · exact .inr z
section
variable {P : Program} {w : World} {A : Around} {α : Type} {s : Shared}
theorem asleep {t : Sem α} {Q : α → Shared → Prop} {E : Value → Shared → Prop} (h : wpAny (model P w) A t (fun a s' => AllBare s'.gens ∧ Q a { s' with gens := #[] }) (fun e s' => AllBare s'.gens ∧ E e { s' with gens := #[] }) { s with gens := s.gens.map bombOf }) :
    wpAny (model P w) A t (fun a s' => Q a { s' with gens := #[] } ∧ GStep s.gens s'.gens) (fun e s' => E e { s' with gens := #[] } ∧ GStep s.gens s'.gens) s := by
  have main : wpAny (model P w) A t (fun a s' => Q a { s' with gens := #[] } ∧ (s.gens.size ≤ s'.gens.size → GStep s.gens s'.gens)) (fun a s' => E a { s' with gens := #[] } ∧ (s.gens.size ≤ s'.gens.size → GStep s.gens s'.gens)) s := fun Γ p hΓ => by
    have q := wp_sim (G0 := s.gens) t _ _ p { s with gens := s.gens.map bombOf } s.gens (rel_bomb s.gens) (h Γ p hΓ)
    refine Sem.wp_mono _ _ _ (fun a p' s' ⟨GB, ⟨b, x⟩, y, z⟩ => ⟨x, fun hz => gstep_of hz y z b⟩) (fun a p' s' ⟨GB, ⟨b, x⟩, y, z⟩ => ⟨x, fun hz => gstep_of hz y z b⟩) _ _ q
  refine GenW.wpAny_gsz (n := s.gens.size) (Nat.le_refl _) (wpAny_mono main (fun a s' q hz => ⟨q.1, q.2 hz⟩) fun a s' q hz => ⟨q.1, q.2 hz⟩)
theorem up {t : Sem α} {Q : α → Shared → Prop} (h : wpAny (model P w) A t (fun a s' => AllBare s'.gens ∧ Q a { s' with gens := #[] }) (fun _ _ => False) { s with gens := s.gens.map bombOf }) :
    wpS P w A t (fun a s' => Q a { s' with gens := #[] } ∧ GStep s.gens s'.gens) (fun _ _ => False) s := by
  refine wpS_mono (wpS_of (asleep (E := fun _ _ => False) (wpAny_mono h (fun _ _ z => z) fun _ _ z => z.elim))) (fun _ _ z => z) fun _ _ z => z.1
end

/-- the invariant, whatever sleeps -/
abbrev InvG (X : Cx) (pins : List (Addr × Obj)) (σ : L2.St) (H : Hp) (s : Shared) : Prop := Inv X pins σ H { s with gens := #[] }
section
variable {X : Cx} {pins : List (Addr × Obj)} {σ : L2.St} {H : Hp} {s : Shared}
theorem inv_at {s : Shared} (I : InvG X pins σ H s) {G : Array GenState} (hb : AllBare G) : Inv X pins σ H { s with gens := G } := ⟨I.ok, I.os, hb, I.base, I.loc, I.cell, I.free, I.freeC, I.pin, I.hok, I.len⟩
theorem inv_g (I : Inv X pins σ H s) : InvG X pins σ H s := ⟨I.ok, I.os, AllBare.empty, I.base, I.loc, I.cell, I.free, I.freeC, I.pin, I.hok, I.len⟩
theorem inv_b (I : InvG X pins σ H s) : Inv X pins σ H { s with gens := s.gens.map bombOf } := inv_at (s := s) I (bare_bomb _)

/-- the ends, over sleepers; s0: the state ahead -/
def EG (X : Cx) (pins : List (Addr × Obj)) (σ : L2.St) (Q : VK) (s0 : Shared) (u : Value) (s' : Shared) : Prop := (∃ v H', InvG X pins σ H' s' ∧ RelV v u ∧ Q v H') ∧ GStep s0.gens s'.gens
def TGd (X : Cx) (pins : List (Addr × Obj)) (σ : L2.St) (Q : Bool → Hp → Prop) (s0 : Shared) (b : Bool) (s' : Shared) : Prop := (∃ H', InvG X pins σ H' s' ∧ Q b H') ∧ GStep s0.gens s'.gens
def AG (X : Cx) (pins : List (Addr × Obj)) (σ : L2.St) (Q : List V → Hp → Prop) (s0 : Shared) (us : List Value) (s' : Shared) : Prop := (∃ vs H', InvG X pins σ H' s' ∧ Vals vs us ∧ Q vs H') ∧ GStep s0.gens s'.gens
def SG (X : Cx) (pins : List (Addr × Obj)) (D : Ends) (s0 : Shared) (f : Flow) (s' : Shared) : Prop := SP X pins D f { s' with gens := #[] } ∧ GStep s0.gens s'.gens
abbrev noE : Value → Shared → Prop := fun _ _ => False
structure ES (X : Cx) (e : Expr) (t : TE) : Prop where
  run : ∀ (pins : List (Addr × Obj)) (s : Shared) (σ : L2.St) (H : Hp) (Q : VK), InvG X pins σ H s → t σ H Q → wpS X.prog X.w X.A (eval e X.env) (EG X pins σ Q s) noE s
structure TSt (X : Cx) (e : Expr) (t : TT) : Prop where
  run : ∀ (pins : List (Addr × Obj)) (s : Shared) (σ : L2.St) (H : Hp) (Q : Bool → Hp → Prop), InvG X pins σ H s → t σ H Q → wpS X.prog X.w X.A (isTrue e X.env (eval e X.env)) (TGd X pins σ Q s) noE s
structure WSt (X : Cx) (e : Expr) (t : TT) : Prop where
  run : ∀ (whole : Sem Value) (pins : List (Addr × Obj)) (s : Shared) (σ : L2.St) (H : Hp) (Q : Bool → Hp → Prop), InvG X pins σ H s → t σ H Q → wpS X.prog X.w X.A (isTrue e X.env whole) (TGd X pins σ Q s) noE s
structure SS (X : Cx) (st : Stmt) (t : TS) : Prop where
  run : ∀ (pins : List (Addr × Obj)) (s : Shared) (σ : L2.St) (H : Hp) (D : Ends), InvG X pins σ H s → t D σ H → wpS X.prog X.w X.A (exec st X.env) (SG X pins D s) noE s
structure SSs (X : Cx) (st : List Stmt) (t : TS) : Prop where
  run : ∀ (pins : List (Addr × Obj)) (s : Shared) (σ : L2.St) (H : Hp) (D : Ends), InvG X pins σ H s → t D σ H → wpS X.prog X.w X.A (execs st X.env) (SG X pins D s) noE s
theorem WSt.pt {e : Expr} {t : TT} (h : WSt X e t) : TSt X e t := ⟨h.run _⟩
theorem sp_bare {D : Ends} {f : Flow} {s' : Shared} (h : SP X pins D f s') : AllBare s'.gens ∧ SP X pins D f { s' with gens := #[] } := by
  cases f with
  | next => obtain ⟨σ', H', I, q⟩ := h; exact ⟨I.bare, σ', H', inv_g I, q⟩
  | brk => obtain ⟨σ', H', I, q⟩ := h; exact ⟨I.bare, σ', H', inv_g I, q⟩
  | cont => obtain ⟨σ', H', I, q⟩ := h; exact ⟨I.bare, σ', H', inv_g I, q⟩
  | ret u => obtain ⟨v, σ', H', I, r, q⟩ := h; exact ⟨I.bare, v, σ', H', inv_g I, r, q⟩
/-- any kit judgement whose end is the invariant's -/
theorem up_e {A : Around} {t : Sem Value} {Q : VK} {s : Shared} (h : wpAny (model X.prog X.w) A t (EP X pins σ Q) noE { s with gens := s.gens.map bombOf }) : wpS X.prog X.w A t (EG X pins σ Q s) noE s :=
  up (Q := fun u s' => ∃ v H', Inv X pins σ H' s' ∧ RelV v u ∧ Q v H') (wpAny_mono h (fun _ _ ⟨v, H', I, r, q⟩ => ⟨I.bare, v, H', inv_g I, r, q⟩) fun _ _ z => z)
theorem ES.of {e : Expr} {t : TE} (h : PE X.nox e t) : ES X e t := ⟨fun pins s σ H Q I hw => up_e (wpAny_mono (h.run pins _ σ H Q ((inv_b I).wish _) hw) (fun _ _ ⟨v, H', I', r, q⟩ => ⟨v, H', I'.unwish, r, q⟩) fun _ _ z => z)⟩
theorem TSt.of {e : Expr} {t : TT} (h : PT X.nox e t) : TSt X e t := ⟨fun pins s σ H Q I hw =>
  up (Q := fun b s' => ∃ H', Inv X pins σ H' s' ∧ Q b H') (wpAny_mono (h.run pins _ σ H Q ((inv_b I).wish _) hw) (fun _ _ ⟨H', I', q⟩ => ⟨I'.bare, H', inv_g I'.unwish, q⟩) fun _ _ z => z)⟩
theorem WSt.of {e : Expr} {t : TT} (h : PW X.nox e t) : WSt X e t := ⟨fun wh pins s σ H Q I hw =>
  up (Q := fun b s' => ∃ H', Inv X pins σ H' s' ∧ Q b H') (wpAny_mono (h.run wh pins _ σ H Q ((inv_b I).wish _) hw) (fun _ _ ⟨H', I', q⟩ => ⟨I'.bare, H', inv_g I'.unwish, q⟩) fun _ _ z => z)⟩
theorem SS.of {st : Stmt} {t : TS} (h : PS X.nox st t) : SS X st t := ⟨fun pins s σ H D I hw =>
  up (Q := fun f s' => SP X pins D f s') (wpAny_mono (h.run pins _ σ H D ((inv_b I).wish _) hw) (fun _ _ z => sp_bare z.unwish) fun _ _ z => z)⟩
theorem SSs.of {st : List Stmt} {t : TS} (h : PSs X.nox st t) : SSs X st t := ⟨fun pins s σ H D I hw =>
  up (Q := fun f s' => SP X pins D f s') (wpAny_mono (h.run pins _ σ H D ((inv_b I).wish _) hw) (fun _ _ z => sp_bare z.unwish) fun _ _ z => z)⟩
/-- the state ahead may be an earlier one -/
theorem EG.from {Q : VK} {s0 s1 : Shared} {u : Value} {s' : Shared} (g : GStep s0.gens s1.gens) (h : EG X pins σ Q s1 u s') : EG X pins σ Q s0 u s' := ⟨h.1, g.trans h.2⟩
theorem TGd.from {Q : Bool → Hp → Prop} {s0 s1 : Shared} {u : Bool} {s' : Shared} (g : GStep s0.gens s1.gens) (h : TGd X pins σ Q s1 u s') : TGd X pins σ Q s0 u s' := ⟨h.1, g.trans h.2⟩
theorem SG.from {D : Ends} {s0 s1 : Shared} {u : Flow} {s' : Shared} (g : GStep s0.gens s1.gens) (h : SG X pins D s1 u s') : SG X pins D s0 u s' := ⟨h.1, g.trans h.2⟩
end
theorem thnS {α : Type} {t : Sem α} {Q Q' : α → Shared → Prop} {P : Program} {w : World} {A : Around} {E : Value → Shared → Prop} {s : Shared} (h : wpS P w A t Q E s) (hQ : ∀ a s, Q a s → Q' a s) : wpS P w A t Q' E s := wpS_mono h hQ fun _ _ x => x
end Gz
end
section
set_option Elab.async false
set_option maxRecDepth 100000
set_option autoImplicit false
/-! calls and statements whose parts run generators -/
namespace Gz
open PySem PySem.Spec L2
open PyProof.Rows hiding St
/-! ### small trees -/
section
variable {P : Program} {w : World} {A : Around} {β : Type} {Q : β → Shared → Prop} {E : Value → Shared → Prop} {s : Shared}
theorem wpS_at {p : Pos} {f : Unit → Sem β} (h : wpS P w A (f ()) Q E s) : wpS P w A (standAt p >>= f) Q E s := wpS_bind (wpS_of (wpAny_standAt (wpS_mono h (fun _ _ z => z) fun _ _ z => z)))
theorem wpS_eq {α : Type} {m : Sem α} {a : α} {f : α → Sem β} (e : m = pure a) (h : wpS P w A (f a) Q E s) : wpS P w A (m >>= f) Q E s := by
  rw [e]
  exact wpS_bind (wpS_pure h)
end

/-! ### a def's promise, where generators run below -/
def CS (P : Program) (w : World) (outer : List Env) (H : Hp) (Q : VK) (s : Shared) (r : Result) (s' : Shared) : Prop := match r with
  | .ok (.ret u) => CE outer P w H { s with gens := #[] } Q u { s' with gens := #[] } ∧ GStep s.gens s'.gens
  | _ => False
structure FnS (P : Program) (w : World) (K : PySem.W.Frag) (mg : Str → Option Value) (base : Heap) (k : Nat) (f : Addr) (fd : FuncData) (ps : List Str) (sp : Sp) : Prop where
  len : ∀ vs H Q, sp vs H Q E0 → vs.length = ps.length
  run : ∀ (A : Around) (outer : List Env) (s : Shared) (H : Hp) (args : Args) (us : List Value) (vs : List V) (Q : VK), Room k A → Env0 P w K mg base A outer { s with gens := #[] } H → (∀ G, BindsTo { s with gens := G } fd args (ps.zip us)) → Vals vs us → sp vs H Q E0 →
    codeS P w A (.call (.ref f) args) (CS P w outer H Q s) s
theorem FnS.mono {P : Program} {w : World} {K : PySem.W.Frag} {mg : Str → Option Value} {base : Heap} {j k : Nat} {f : Addr} {fd : FuncData} {ps : List Str} {sp : Sp} (F : FnS P w K mg base j f fd ps sp) (h : j ≤ k) : FnS P w K mg base k f fd ps sp :=
  ⟨F.len, fun A outer s H args us vs Q hr => F.run A outer s H args us vs Q (hr.mono h)⟩
theorem env0_gens {P : Program} {w : World} {K : PySem.W.Frag} {mg : Str → Option Value} {base : Heap} {A : Around} {outer : List Env} {s : Shared} {H : Hp} (e : Env0 P w K mg base A outer { s with gens := #[] } H) {G : Array GenState} (hb : AllBare G) :
    Env0 P w K mg base A outer { s with gens := G } H := ⟨e.frames, e.mod, e.bs, e.bsz, e.funs, e.frf, e.hok, hb⟩
/-- a code, over sleepers -/
theorem code_asleep {P : Program} {w : World} {A : Around} {c : Code} {R : Result → Shared → Prop} {s : Shared} (h : codeAny (model P w) A c (fun r s' => AllBare s'.gens ∧ R r { s' with gens := #[] }) { s with gens := s.gens.map bombOf }) :
    codeS P w A c (fun r s' => R r { s' with gens := #[] } ∧ GStep s.gens s'.gens) s := fun p st hB => by
  obtain ⟨r, s', hr, b, q⟩ := h (Ctx.of c st) p rfl hB
  obtain ⟨G', a1, b1, c1, _⟩ := sim (G0 := s.gens) hr rfl s.gens (rel_bomb s.gens)
  obtain ⟨t', c', p', pre, g, hx⟩ := go_runs (fs := []) a1 (Ctx.fits_of c st)
  obtain ⟨rfl, rfl⟩ := hx
  have hz : s.gens.size ≤ G'.size := GenW.runs_gsz a1
  exact ⟨r, { s' with gens := G' }, c', p', ⟨q, gstep_of hz b1 c1 b⟩, g⟩
theorem FnS.ofOk {P : Program} {w : World} {K : PySem.W.Frag} {mg : Str → Option Value} {base : Heap} {k : Nat} {f : Addr} {fd : FuncData} {ps : List Str} {sp : Sp} (F : FnOk P w K mg base CX0 k f fd ps sp) : FnS P w K mg base k f fd ps sp := by
  refine ⟨fun vs H Q h => F.len vs H Q E0 h, fun A outer s H args us vs Q hr e0 hb r h => ?_⟩
  have q := F.run A outer { s with gens := s.gens.map bombOf } H args us vs Q E0 hr (env0_gens e0 (bare_bomb _)) (hb _) r h
  refine codeS_mono (code_asleep (R := fun r s' => match r with | .ok (.ret u) => CE outer P w H { s with gens := #[] } Q u s' | _ => False) (codeAny_mono q fun r s' hq => ?_)) fun r s' hq => ?_
  · cases r with
    | error e => exact False.elim hq
    | ok fl =>
      cases fl with
      | ret u =>
        obtain ⟨v, H', a1, a2, a3, a4, a5, a6⟩ := hq
        exact ⟨a2, v, H', a1, AllBare.empty, a3, a4, a5, a6⟩
      | next => exact False.elim hq
      | brk => exact False.elim hq
      | cont => exact False.elim hq
  · obtain ⟨h1, h2⟩ := hq
    cases r with
    | error e => exact False.elim h1
    | ok fl =>
      cases fl with
      | ret u => exact ⟨h1, h2⟩
      | next => exact False.elim h1
      | brk => exact False.elim h1
      | cont => exact False.elim h1
/-- the body's code -/
theorem codeS_body {P : Program} {w : World} {A : Around} {body : List Stmt} {env : Env} {R : Result → Shared → Prop} {s : Shared}
    (h : wpS P w (A.deeper env) (execs body env) (fun f s' => R (.ok (.ret (match f with | .ret v => v | _ => .none))) s') noE s) : codeS P w A (.func body env) R s := by
  refine codeS_tree ?_
  show wpS P w (A.deeper env) (point >>= fun _ => (execs body env).onRaise (leaving env) >>= fun f => (match f with | .ret v => ret v | _ => ret .none)) _ _ s
  refine wpS_bind (wpS_of (wpAny_point (wpS_bind (wpS_onRaise (wpS_mono h (fun f s' q => ?_) fun _ _ z => False.elim z)))))
  cases f <;> exact wpS_pure q
/-- THE RULE: a def by its body, where generators run below -/
theorem fnS_of {P : Program} {w : World} {K : PySem.W.Frag} {mg : Str → Option Value} {base : Heap} {k : Nat} {f : Addr} {name qual : Str} {params : Arguments} {body : List Stmt} {scope : Scope} {dV kV doc pm cdv ct oc : Value} {an od : Option Addr}
    {osl : Array (Option Value)} {N ps : List Str} {sp : Sp} (lk : K.lookup f = some ⟨oc, od, .func (PySem.W.fnOf name qual params body scope dV kV doc pm an cdv ct), osl⟩) (hcd : PySem.W.codeIn K cdv qual = true) (S : FnScope N ps scope)
    (len : ∀ vs H Q, sp vs H Q E0 → vs.length = ps.length)
    (hbody : ∀ (A : Around) (outer : List Env) (s : Shared) (H : Hp) (vs : List V) (Q : VK), Room k (A.deeper (envOfC qual scope s.heap.objs.size f cdv)) → sp vs H Q E0 →
      ∃ t, SSs (cxOf CX0 P w K mg base N qual scope f cdv A outer s H E0).nox body t ∧ t { nx := fun _ H' => Q .non H', rt := Q } (start N vs) H) :
    FnS P w K mg base (k + 1) f (PySem.W.fnOf name qual params body scope dV kV doc pm an cdv ct) ps sp := by
  refine ⟨len, fun A outer s H args us vs Q hr e0' hb r hsp => ?_⟩
  have hl := len _ _ _ hsp
  have e0 := env0_gens e0' (bare_bomb s.gens)
  have KX : K.In s.heap := e0.mod.kin.keeps fun b o e => (e0.bs b o e).1
  have lim : s.heap.NoLimit := e0.mod.nolimit.keeps fun b o e => (e0.bs b o e).1
  have hkind : ∀ y ∈ ps.zip us, scope.names.lookup y.1 = some .local ∨ (scope.names.lookup y.1 = some .cell ∧ ((cellsFrom (s.heap.objs.size + 1) scope.names []).lookup y.1).isSome = true) := fun ⟨n, v⟩ hy => by
    rcases S.par n (List.of_mem_zip hy).1 with q | q
    · exact .inl q
    · exact .inr ⟨q, PySem.W.cellsFrom_some _ _ _ (.inl q)⟩
  generalize hsB : ({ s with gens := s.gens.map bombOf } : Shared) = sB at e0
  have hheap : sB.heap = s.heap := by rw [← hsB]
  obtain ⟨t, ht, hq⟩ := hbody A outer sB H vs Q (hr.deeper _) hsp
  -- the frame is laid
  have lay : wpAny (model P w) A.in1 (denote table (.call (.ref f) args)) (fun fin s' => AllBare s'.gens ∧ fin = .again (.func body (envOfC qual scope sB.heap.objs.size f cdv)) ∧ Inv (cxOf CX0 P w K mg base N qual scope f cdv A outer sB H E0) [] (start N vs) H { s' with gens := #[] }) noE sB := by
    show wpAny _ A.in1 (callAny (.ref f) args) _ _ sB
    simp only [callAny]
    refine wpAny_bind (wpAny_load (by rw [hheap]; exact KX _ _ lk) ?_)
    obtain ⟨c, oc', vs', tq, hc, hoc, hdc, hq'⟩ := PySem.W.codeRec_of (h := sB.heap) (by rw [hheap]; exact KX) hcd
    have hc' : cdv = .ref c := hc
    simp only [callFunction, PySem.W.fnOf, S.co, S.gen, hc']
    refine wpAny_bind (m := field (.ref c) 1) (wpAny_field hoc hdc hq' (wpAny_bind (wpAny_pure ?_)))
    have hbb : BindsTo sB (PySem.W.fnOf name qual params body scope dV kV doc pm an cdv ct) args (ps.zip us) := by rw [← hsB]; exact hb _
    have hbb' := hbb (model P w) A.in1 noE
    simp only [PySem.W.fnOf, hc'] at hbb'
    refine wpAny_bind (hbb' _ ?_)
    refine wpAny_bind ?_
    refine wpAny_newFunctionEnv_cells S.kind (by rw [hheap]; exact hkind) fun env he s1 x => ?_
    subst he
    rw [← hc'] at x ⊢
    refine wpAny_bind (wpAny_enterFrame (lim.keeps (by rw [← hheap]; exact x.toInCall.keep)) hr.depth ?_)
    refine wpAny_pure ?_
    have I : Inv (cxOf CX0 P w K mg base N qual scope f cdv A outer sB H E0) [] (start N vs) H s1 := inv_start S hr.hd e0 hl r x
    exact ⟨I.bare, rfl, inv_g I⟩
  refine codeS_tree ?_
  show wpS P w A.in1 _ _ _ s
  rw [← hsB] at lay
  refine wpS_mono (up (Q := fun fin s' => fin = .again (.func body (envOfC qual scope sB.heap.objs.size f cdv)) ∧ Inv (cxOf CX0 P w K mg base N qual scope f cdv A outer sB H E0) [] (start N vs) H s') (by rw [← hsB]; exact lay)) (fun fin s1 hf => ?_) fun _ _ z => False.elim z
  obtain ⟨⟨rfl, I⟩, g1⟩ := hf
  refine ⟨rfl, codeS_body ?_⟩
  have osB : sB.os = s.os := by rw [← hsB]
  refine wpS_mono (ht.run [] s1 (start N vs) H _ (I.wish _) hq) (fun fl s2 hs => ?_) fun _ _ z => False.elim z
  obtain ⟨hs, g2⟩ := hs
  have fin : ∀ {σ' : L2.St} {H' : Hp} {v : V} {u : Value}, Inv (cxOf CX0 P w K mg base N qual scope f cdv A outer sB H E0).nox [] σ' H' { s2 with gens := #[] } → RelV v u → Q v H' → CE outer P w H { s with gens := #[] } Q u { s2 with gens := #[] } :=
    fun {σ' H' v u} J rv q => ⟨v, H', J.os.trans osB, AllBare.empty, by have z := J.base; rw [show (cxOf CX0 P w K mg base N qual scope f cdv A outer sB H E0).nox.s_0.heap = s.heap from hheap] at z; exact z, J.hok, rv, q⟩
  cases fl with
  | ret u =>
    obtain ⟨v, σ', H', J, rv, q⟩ := hs
    exact ⟨fin J rv q, g1.trans g2⟩
  | next =>
    obtain ⟨σ', H', J, q⟩ := hs
    exact ⟨fin (v := V.non) (u := Value.none) J rfl q, g1.trans g2⟩
  | brk =>
    obtain ⟨_, _, _, q⟩ := hs
    exact False.elim q
  | cont =>
    obtain ⟨_, _, _, q⟩ := hs
    exact False.elim q
/-- a def of the text -/
theorem fun_okS {P : Program} {w : World} {K : PySem.W.Frag} {mg : Str → Option Value} {base : Heap} {x qual : Str} {st : Stmt} {f : Addr} {fd : FuncData} {N ps : List Str} {k : Nat} {sp : Sp} (F : Fun K x qual st f fd) (S : FnScope N ps (defScope st)) (len : ∀ vs H Q, sp vs H Q E0 → vs.length = ps.length)
    (hbody : ∀ (cdv : Value) (A : Around) (outer : List Env) (s : Shared) (H : Hp) (vs : List V) (Q : VK), Room k (A.deeper (envOfC qual (defScope st) s.heap.objs.size f cdv)) → sp vs H Q E0 →
      ∃ t, SSs (cxOf CX0 P w K mg base N qual (defScope st) f cdv A outer s H E0).nox (defBody st) t ∧ t { nx := fun _ H' => Q .non H', rt := Q } (start N vs) H) : FnS P w K mg base (k + 1) f fd ps sp := by
  obtain ⟨oc, od, kV, doc, pm, an, cdv, ct, osl, rfl, lk, hcd⟩ := F.ex
  exact fnS_of lk hcd S len fun A outer s H vs Q hr hsp => hbody cdv A outer s H vs Q hr hsp
end Gz
end
section
set_option Elab.async false
set_option maxRecDepth 100000
set_option autoImplicit false
/-! expressions and statements whose parts run generators -/
namespace Gz
open PySem PySem.Spec L2
open PyProof.Rows hiding St
section
variable {X : Cx} {pins : List (Addr × Obj)} {σ : L2.St} {H : Hp} {s : Shared}
/-- back to the true table -/
theorem up_st {A : Around} {α : Type} {t : Sem α} {R : α → L2.St → Hp → Prop} (I : InvG X pins σ H s) (h : ∀ s1, Inv X.nox pins σ H s1 → s1 = { s with gens := s.gens.map bombOf } → wpAny (model X.prog X.w) A t (fun a s' => ∃ σ' H', Inv X.nox pins σ' H' s' ∧ R a σ' H') noE s1) :
    wpS X.prog X.w A t (fun a s' => (∃ σ' H', InvG X pins σ' H' s' ∧ R a σ' H') ∧ GStep s.gens s'.gens) noE s :=
  up (Q := fun a s' => ∃ σ' H', Inv X pins σ' H' s' ∧ R a σ' H') (wpAny_mono (h _ ((inv_b I).wish _) rfl) (fun _ _ ⟨σ', H', I', q⟩ => ⟨I'.bare, σ', H', inv_g I'.unwish, q⟩) fun _ _ z => z)

/-! ### blocks -/
section
variable {st : Stmt} {rest : List Stmt} {t u : TS} {e : Expr} {te : TE} {pos : Pos}
theorem sss_cons (h1 : SS X st t) (h2 : SSs X rest u) : SSs X (st :: rest) (tSeq t u) := by
  refine ⟨fun pins s σ H D I h => ?_⟩
  rw [execs_cons]
  refine wpS_bind (thnS (h1.run pins s σ H { D with nx := u D } I h) fun f s1 q => ?_)
  obtain ⟨q, g⟩ := q
  cases f with
  | next =>
    obtain ⟨σ', H', I', q⟩ := q
    exact thnS (h2.run pins s1 σ' H' D I' q) fun f s2 q2 => q2.from g
  | ret v => exact wpS_pure ⟨q, g⟩
  | brk => exact wpS_pure ⟨q, g⟩
  | cont => exact wpS_pure ⟨q, g⟩
theorem sss_one (h1 : SS X st t) : SSs X [st] t := by
  refine ⟨fun pins s σ H D I h => ?_⟩
  rw [execs_cons]
  refine wpS_bind (thnS (h1.run pins s σ H D I h) fun f s1 q => ?_)
  cases f with
  | next => exact wpS_pure q
  | ret v => exact wpS_pure q
  | brk => exact wpS_pure q
  | cont => exact wpS_pure q
theorem inv_quiet (I : InvG X pins σ H s) : interactive X.env = false := Inv.quiet I
/-- an expression for its effect -/
theorem ss_expr (he : ES X e te) (hs : swapsWith e none pos.line X.env = pure false := by rfl) : SS X (.Expr e pos) (tDrop te) := by
  refine ⟨fun pins s σ H D I h => ?_⟩
  rw [exec_Expr X.env e pos (inv_quiet I) hs]
  refine wpS_at (wpS_bind (thnS (he.run pins s σ H _ I h) fun v s1 q => ?_))
  obtain ⟨⟨x, H1, I1, r1, q1⟩, g⟩ := q
  refine thnS (up_st (R := fun f σ' H' => f = Flow.next ∧ D.nx σ' H') I1 fun s2 I2 _ => wpAny_dropValue ⟨σ, H1, I2, rfl, q1⟩) fun f s2 q2 => ?_
  obtain ⟨⟨σ', H', I', rfl, q'⟩, g'⟩ := q2
  exact ⟨⟨σ', H', I', q'⟩, g.trans g'⟩
theorem ss_ret (he : ES X e te) : SS X (.Return (some e) pos) (tRet te) := by
  refine ⟨fun pins s σ H D I h => ?_⟩
  rw [exec_Return_some]
  refine wpS_at (wpS_bind (thnS (he.run pins s σ H _ I h) fun v s1 q => wpS_pure ?_))
  obtain ⟨⟨x, H1, I1, r1, q1⟩, g⟩ := q
  exact ⟨⟨x, σ, H1, I1, r1, q1⟩, g⟩
theorem ss_if {c : Expr} {a b : List Stmt} {tc : TT} (hc : TSt X c tc) (ha : SSs X a t) (hb : SSs X b u) : SS X (.If c a b pos) (tIfS tc t u) := by
  refine ⟨fun pins s σ H D I h => ?_⟩
  rw [exec_If]
  refine wpS_at (wpS_bind (thnS (hc.run pins s σ H _ I h) fun d s1 q => ?_))
  obtain ⟨⟨H1, I1, q1⟩, g⟩ := q
  cases d with
  | true =>
    rw [if_pos rfl] at q1 ⊢
    exact thnS (ha.run pins s1 σ H1 D I1 q1) fun f s2 q2 => q2.from g
  | false =>
    rw [if_neg Bool.false_ne_true] at q1 ⊢
    exact thnS (hb.run pins s1 σ H1 D I1 q1) fun f s2 q2 => q2.from g
/-- name = e -/
theorem ss_set {i : Nat} {x : Str} {pos' : Pos} (hN : X.N.Nodup) (hi : X.N[i]? = some x) (hx : Loc X.env.scope x) (he : ES X e te) (hs : swapsWith e (some (.Name x pos')) pos.line X.env = pure false := by rfl)
    (hf : X.fn x = true ∨ X.env.scope.names.lookup x = some .local := by first | exact .inl rfl | exact .inr rfl | assumption) : SS X (.Assign [.Name x pos'] e pos) (tAsg te (gName i)) := by
  refine ⟨fun pins s σ H D I h => ?_⟩
  rw [exec_Assign_Name X.env x pos' e pos hs]
  refine wpS_at (wpS_bind (thnS (he.run pins s σ H _ I h) fun v s1 q => ?_))
  obtain ⟨⟨y, H1, I1, r1, q1⟩, g⟩ := q
  refine thnS (up_st (R := fun f σ' H' => f = Flow.next ∧ D.nx σ' H') I1 fun s2 I2 _ => ?_) fun f s2 q2 => ?_
  · exact wpAny_bind (wpAny_standAt (wpAny_bind (wpAny_bindName (store_ok (X := X.nox) I2 hN hi hx r1 (fun s3 I3 => wpAny_pure ⟨_, H1, I3, rfl, q1⟩) hf))))
  · obtain ⟨⟨σ', H', I', rfl, q'⟩, g'⟩ := q2
    exact ⟨⟨σ', H', I', q'⟩, g.trans g'⟩
/-- target = e -/
theorem ss_asg {tg : Expr} {g : TG} (he : ES X e te) (hg : PG X.nox tg g) (hs : swapsWithSole [tg] e pos.line X.env = pure false := by rfl) (hw : swappedStores [tg] e X.env = pure none := by rfl)
    (h1 : (assignEach [tg] X.env).map (·.2) = [assign tg X.env] := by rfl) : SS X (.Assign [tg] e pos) (tAsg te g) := by
  refine ⟨fun pins s σ H D I h => ?_⟩
  rw [exec_Assign_arm]
  refine wpS_at (wpS_eq hs ?_)
  rw [if_neg (by decide)]
  refine wpS_bind (thnS (he.run pins s σ H _ I h) fun v s1 q => wpS_eq hw ?_)
  obtain ⟨⟨x, H1, I1, r1, q1⟩, g1⟩ := q
  rw [h1]
  refine thnS (up_st (R := fun f σ' H' => f = Flow.next ∧ D.nx σ' H') I1 fun s2 I2 _ => ?_) fun f s2 q2 => ?_
  · show wpAny _ _ (assignAll v [assign tg X.env] >>= fun _ => pure Flow.next) _ _ _
    refine wpAny_bind (wpAny_mono (hg.run pins s2 σ H1 x v _ I2 r1 q1) (fun _ s3 ⟨σ3, H3, I3, q3⟩ => wpAny_pure ⟨σ3, H3, I3, rfl, q3⟩) fun _ _ z => z)
  · obtain ⟨⟨σ', H', I', rfl, q'⟩, g'⟩ := q2
    exact ⟨⟨σ', H', I', q'⟩, g1.trans g'⟩
/-- name op= e -/
theorem ss_aug {i : Nat} {x : Str} {op : Operator} {ti : TIp} {pos' : Pos} (hN : X.N.Nodup) (hi : X.N[i]? = some x) (hx : X.env.scope.names.lookup x = some .local) (he : ES X e te) (ho : PIp X.nox op ti) : SS X (.AugAssign (.Name x pos') op e pos) (tAug i te ti) := by
  refine ⟨fun pins s σ H D I h => ?_⟩
  rw [exec_AugAssign_Name]
  obtain ⟨v, e1, h⟩ := h
  refine wpS_at (wpS_bind ?_)
  refine thnS (up_st (R := fun u σ' H' => σ' = σ ∧ H' = H ∧ RelV v u) I fun s2 I2 _ => ?_) fun u s2 q2 => ?_
  · obtain ⟨m, hn, hl⟩ := I2.loc
    obtain ⟨u, r, l⟩ := hl i x v hi e1 (.inl hx)
    rcases l with ⟨hk, hm⟩ | ⟨hk, _⟩
    · exact wpAny_loadName_local I2.ok.kind hk hn hm ⟨σ, H, I2, rfl, rfl, r⟩
    · rcases hk with hk | hk
      · have hk' : X.env.scope.names.lookup x = some .cell := hk
        rw [hx] at hk'; cases hk'
      · have hk' : X.env.scope.names.lookup x = some .free := hk
        rw [hx] at hk'; cases hk'
  obtain ⟨⟨σ', H', I1, rfl, rfl, r⟩, g0⟩ := q2
  refine wpS_bind (wpS_holding (thnS (he.run pins s2 σ' H' _ I1 h) fun w s3 q3 => ?_))
  obtain ⟨⟨y, H3, I3, r3, q3⟩, g3⟩ := q3
  refine thnS (up_st (R := fun f σ' H' => f = Flow.next ∧ D.nx σ' H') I3 fun s4 I4 _ => ?_) fun f s4 q4 => ?_
  · refine wpAny_bind (wpAny_standAt (wpAny_bind (wpAny_operate' (wpAny_mono (ho pins s4 σ' H3 v y u w _ I4 r r3 q3) (fun z s5 ⟨zv, H5, I5, r5, q5⟩ => ?_) fun _ _ z => z))))
    exact wpAny_bind (wpAny_standAt (wpAny_bind (wpAny_bindName (store_ok (X := X.nox) I5 hN hi (.inl hx) r5 (fun s6 I6 => wpAny_pure ⟨_, H5, I6, rfl, q5⟩) (.inr hx)))))
  · obtain ⟨⟨σ', H', I', rfl, q'⟩, g'⟩ := q4
    exact ⟨⟨σ', H', I', q'⟩, (g0.trans g3).trans g'⟩
end

/-! ### tests -/
section
variable {a b : Expr} {rest : List Expr} {pos : Pos} {tA tU : TT} {ta tb : TE}
theorem tst_not (ha : TSt X a tA) : TSt X (.UnaryOp .Not a pos) (tNot tA) := by
  refine ⟨fun pins s σ H Q I h => ?_⟩
  show wpS _ _ _ (isTrue a X.env (eval a X.env) >>= fun c => pure (!c)) _ _ s
  exact wpS_bind (thnS (ha.run pins s σ H (fun c H1 => Q (!c) H1) I h) fun c s1 q => wpS_pure q)
theorem wst_or1 (ha : TSt X a tA) : WSt X (.BoolOp .Or [a] pos) tA := by
  refine ⟨fun wh pins s σ H Q I h => ?_⟩
  show wpS _ _ _ (isTrue a X.env (eval a X.env) >>= fun c => match BoolOp.Or, c with | .And, false => pure false | .Or, true => pure true | _, _ => allTrue .Or [] X.env) _ _ s
  refine wpS_bind (thnS (ha.run pins s σ H Q I h) fun c s1 q => ?_)
  cases c with
  | true => exact wpS_pure q
  | false => exact wpS_of (wpAny_pure (a := false) q)
theorem wst_or (ha : TSt X a tA) (hb : WSt X (.BoolOp .Or (b :: rest) pos) tU) : WSt X (.BoolOp .Or (a :: b :: rest) pos) (tOr tA tU) := by
  refine ⟨fun wh pins s σ H Q I h => ?_⟩
  show wpS _ _ _ (isTrue a X.env (eval a X.env) >>= fun c => match BoolOp.Or, c with | .And, false => pure false | .Or, true => pure true | _, _ => allTrue .Or (b :: rest) X.env) _ _ s
  refine wpS_bind (thnS (ha.run pins s σ H _ I h) fun c s1 q => ?_)
  obtain ⟨⟨H1, I1, q1⟩, g⟩ := q
  cases c with
  | true => exact wpS_pure ⟨⟨H1, I1, q1⟩, g⟩
  | false => exact thnS (hb.run wh pins s1 σ H1 Q I1 q1) fun _ _ z => z.from g
/-- an expression that gives True or False, as a test -/
theorem tst_val {e : Expr} {t : TE} (h : ES X e t) (he : ∀ whole, isTrue e X.env whole = (do let v ← whole; standAt e.pos; holding [v] (truthy v)) := by intro _; rfl) : TSt X e (tB t) := by
  refine ⟨fun pins s σ H Q I hw => ?_⟩
  rw [he]
  refine wpS_bind (thnS (h.run pins s σ H _ I hw) fun v s1 q => ?_)
  obtain ⟨⟨x, H1, I1, r1, d, rfl, q1⟩, g⟩ := q
  cases r1
  refine wpS_at (wpS_holding (wpS_of (wpAny_truthy_bool ⟨⟨H1, I1, q1⟩, g⟩)))
/-- a comparison -/
theorem es_two {f : Value → Value → Sem Value} {r : R2} {Q : VK} (ha : ES X a ta) (hb : ES X b tb) (ho : OpR X.nox f r) (I : InvG X pins σ H s) (h : tOp r ta tb σ H Q) {γ : Type} {K : Value → Value → Value → Sem γ} {R : γ → Shared → Prop}
    (hK : ∀ v u c s3, EG X pins σ Q s c s3 → wpS X.prog X.w X.A (K v u c) R noE s3) :
    wpS X.prog X.w X.A (eval a X.env >>= fun v => holding [v] (eval b X.env) >>= fun u => standAt pos >>= fun _ => operate [v, u] (f v u) >>= fun c => K v u c) R noE s := by
  refine wpS_bind (thnS (ha.run pins s σ H _ I h) fun v s1 q => ?_)
  obtain ⟨⟨x, H1, I1, r1, q1⟩, g1⟩ := q
  refine wpS_bind (wpS_holding (thnS (hb.run pins s1 σ H1 _ I1 q1) fun u s2 q => ?_))
  obtain ⟨⟨y, H2, I2, r2, q2⟩, g2⟩ := q
  refine wpS_at (wpS_bind (thnS (up_e (X := X) (pins := pins) (σ := σ) (Q := Q) (s := s2) ?_) fun c s3 q => ?_))
  · exact wpAny_operate' (wpAny_mono (ho pins _ σ H2 x y v u Q ((inv_b I2).wish _) r1 r2 q2) (fun _ _ ⟨v, H', I', r, q⟩ => ⟨v, H', I'.unwish, r, q⟩) fun _ _ z => z)
  · exact hK v u c s3 ⟨q.1, (g1.trans g2).trans q.2⟩
theorem tst_cmp {op : CmpOp} {r : R2} (ho : OpR X.nox (compareOp op) r) (ha : ES X a ta) (hb : ES X b tb) (hm : behindInMarks op b = false) : TSt X (.Compare a [op] [b] pos) (tTest (tOp r ta tb)) := by
  refine ⟨fun pins s σ H Q I h => ?_⟩
  rw [isTrue_Compare1]
  simp only [markedBehindIn_of_false hm]
  refine es_two ha hb ho I h fun v u c s3 q => ?_
  obtain ⟨⟨z, H3, I3, r3, k, e, q3⟩, g⟩ := q
  subst e
  cases r3
  exact wpS_holding (wpS_of (wpAny_truthy_bool ⟨⟨H3, I3, q3⟩, g⟩))
end

/-! ### the call of such a def -/
section
variable {k : Nat} {f : Addr} {fd : FuncData} {ps : List Str} {sp : Sp} {dvs : List V} {ds : List Value} {x : Str} {p pos : Pos} {e : Expr} {es : List Expr} {t : TA}
theorem evalArgs_S {P : Program} {w : World} {A : Around} {f : Value} {z : Sem Value} {rest : List (Bool × Sem Value)} {Q : Args → Shared → Prop} {s : Shared} (h : wpS P w A (spliced ((false, z) :: rest)) (fun us s1 => Q ⟨us, []⟩ s1) noE s) :
    wpS P w A (evalArgs f true ((false, z) :: rest) []) Q noE s := by
  unfold evalArgs
  show wpS P w A (spliced ((false, z) :: rest) >>= _) _ _ s
  refine wpS_bind (thnS h fun us s1 hq => ?_)
  exact wpS_holding (wpS_bind (wpS_pure (wpS_bind (wpS_pure (wpS_pure hq)))))
theorem callWith_S {P : Program} {w : World} {A : Around} {env : Env} {f : Value} {rest : List Expr} {K : PySem.W.Frag} {Q : Value → Shared → Prop} (hk : PySem.W.keepIn K f = true)
    (h : wpS P w A (spliced (backTo pos (starEach (e :: rest) env))) (fun us s1 => K.In s1.heap ∧ wpS P w A (call f us) Q noE s1) noE s)
    (he : starEach (e :: rest) env = (false, eval e env) :: starEach rest env := by rfl) (hpl : (backTo pos (starEach rest env)).any (·.1) = false := by rfl) : wpS P w A (callWith pos f [] (backTo pos (starEach (e :: rest) env)) []) Q noE s := by
  have hp : ((backTo pos (starEach (e :: rest) env)).any (·.1) || ([] : List (Option Str × Sem Value)).any (·.1.isNone)) = false := by
    rw [he]
    show ((false || (backTo pos (starEach rest env)).any (·.1)) || false) = false
    rw [hpl]; rfl
  rw [he] at h hp ⊢
  unfold callWith
  refine wpS_bind (wpS_holding (evalArgs_S (thnS h fun us s1 hq => ?_)))
  obtain ⟨hK, hc⟩ := hq
  refine wpS_at ?_
  obtain ⟨kk, hk', L⟩ := PySem.W.keeps_K hk s1.heap hK
  simp only [hp]
  have tail : ∀ {t : Sem Value}, wpS P w A t Q noE s1 → wpS P w A (t >>= fun r => holding [r] point >>= fun _ => pure r) Q noE s1 := fun {t} ht =>
    wpS_bind (thnS ht fun r s2 hr => wpS_bind (wpS_holding (wpS_of (wpAny_point (wpS_pure hr)))))
  have marked : ∀ mk : Value, wpS P w A (callMarked mk f us []) Q noE s1 := fun mk => by
    unfold callMarked
    exact wpS_keep hc
  refine wpS_bind (wpS_of (L A _ noE s1 (fun _ _ z => z) ?_))
  rcases hk' with rfl | rfl | rfl <;> dsimp only <;> first | exact tail hc | (split <;> first | exact tail hc | exact tail (marked _))
/-- f(..) -/
theorem es_call (F : FnS X.prog X.w X.K X.mg X.base k f fd ps sp) (hr : Room k X.A) (hg : Gl X x) (hm : X.mg x = some (.ref f)) (hk : PySem.W.keepIn X.K (.ref f) = true) (hb : Binds X.K fd ps ds) (hd : Vals dvs ds)
    (ha : PA X.nox (e :: es) t) (hdb : (x == ("__debug__" : Str)) = false := by decide) (he : starEach (e :: es) X.env = (false, eval e X.env) :: starEach es X.env := by rfl) (hpl : (backTo pos (starEach es X.env)).any (·.1) = false := by rfl) :
    ES X (.Call (.Name x p) (e :: es) [] pos) (tCall sp dvs E0 t) := by
  refine ⟨fun pins s σ H Q I h => ?_⟩
  rw [arm_eval_Call_Name']
  refine wpS_bind (thnS (up_st (R := fun u σ' H' => u = .ref f ∧ σ' = σ ∧ H' = H) I fun s2 I2 _ => ld_glob (X := X.nox) I2 hg hm ⟨σ, H, I2, rfl, rfl, rfl⟩ hdb) fun u s1 q => ?_)
  obtain ⟨⟨σ', H', I1, rfl, rfl, rfl⟩, g1⟩ := q
  refine callWith_S hk ?_ he hpl
  refine thnS (up (Q := fun us s' => ∃ vs H1, Inv X pins σ' H1 s' ∧ Vals vs us ∧ sp (vs ++ dvs) H1 Q E0) (wpAny_mono (ha.run pos pins _ σ' H' _ ((inv_b I1).wish _) h) (fun _ _ ⟨vs, H1, I', r, q⟩ => ⟨I'.bare, vs, H1, inv_g I'.unwish, r, q⟩) fun _ _ z => z)) fun us s2 q => ?_
  obtain ⟨⟨vs, H2, I2, r2, q2⟩, g2⟩ := q
  refine ⟨I2.kIn, wpS_call ?_⟩
  have rr : Vals (vs ++ dvs) (us ++ ds) := r2.append hd
  have hl : (us ++ ds).length = ps.length := by rw [← rr.length]; exact F.len _ _ _ q2
  have e0 : Env0 X.prog X.w X.K X.mg X.base X.A X.stack { s2 with gens := #[] } H2 := Inv.env0 I2
  refine codeS_mono (F.run X.A X.stack s2 H2 ⟨us, []⟩ (us ++ ds) (vs ++ dvs) Q hr e0 (fun G => hb _ us I2.kIn hl) rr q2) fun r s3 hq => ?_
  cases r with
  | error e => exact hq.elim
  | ok fl =>
    cases fl with
    | ret u => exact ⟨Inv.after I2 hq.1, (g1.trans g2).trans hq.2⟩
    | next => exact hq.elim
    | brk => exact hq.elim
    | cont => exact hq.elim
end
end
end Gz
end
section
set_option Elab.async false
set_option maxRecDepth 100000
set_option autoImplicit false
/-! loops whose turns run generators -/
namespace Gz
open PySem PySem.Spec L2
open PyProof.Rows hiding St
section
variable {X : Cx} {pins : List (Addr × Obj)} {σ : L2.St} {H : Hp} {s : Shared}
/-- an iterator has come -/
def IG (X : Cx) (pins : List (Addr × Obj)) (σ : L2.St) (tg : Expr) (R : It → Hp → Prop) (s0 : Shared) (itv : Value) (s2 : Shared) : Prop := PIE X pins σ tg R itv { s2 with gens := #[] } ∧ GStep s0.gens s2.gens
structure IS (X : Cx) (tg iter : Expr) (wi : TI) : Prop where
  run : ∀ (pins : List (Addr × Obj)) (s : Shared) (σ : L2.St) (H : Hp) (R : It → Hp → Prop), InvG X pins σ H s → wi σ H R →
    wpS X.prog X.w X.A (eval iter X.env) (fun v s1 => wpS X.prog X.w X.A (pyIter v) (IG X pins σ tg R s) noE s1) noE s
theorem pie_g {tg : Expr} {R : It → Hp → Prop} {itv : Value} {s2 : Shared} (h : PIE X.nox pins σ tg R itv s2) : AllBare s2.gens ∧ PIE X pins σ tg R itv { s2 with gens := #[] } := by
  obtain ⟨it, fp, tn, J, H', e, I, T, q⟩ := h
  exact ⟨I.bare, it, fp, tn, J, H', e, inv_g I.unwish, T, q⟩
/-- over a list that such an expression gives -/
theorem is_list {tg l : Expr} {tl : TE} (hl : ES X l tl) : IS X tg l (iList X.K tl) := by
  refine ⟨fun pins s σ H R I h => ?_⟩
  refine thnS (hl.run pins s σ H _ I h) fun v s1 q => ?_
  obtain ⟨⟨x, H1, I1, r1, q1⟩, g⟩ := q
  refine thnS (up (Q := fun itv s2 => PIE X pins σ tg R itv s2) ?_) fun itv s2 q2 => ⟨q2.1, g.trans q2.2⟩
  obtain ⟨a, e, ⟨xs, hq⟩, q⟩ := q1
  subst e
  cases r1
  have I2 := (inv_b I1).wish (X := X) (fun _ _ => False)
  obtain ⟨its, rv, p, hz⟩ := I2.list hq
  refine wpAny_pyIter_list p.isList (pie_g (X := X) ?_)
  refine ⟨s1.heap.objs.size, [s1.heap.objs.size], _, _, H1, rfl, I2.kept (t' := s1.toks) fun b o e => Heap.get?_push_of_some _ e, turn_list a _, ⟨_, Heap.get?_push_size _ rfl, rfl, rfl⟩, fun b hb => ?_, q⟩
  have e : b = s1.heap.objs.size := by simpa using hb
  subst e
  exact I2.fpOk (Nat.le_refl _) (I2.hok.fresh (Nat.le_refl _))
/-- the true state beside the one with bombs -/
structure Sl (G0 : Array GenState) (s sB : Shared) : Prop where
  eq : ∃ GB, sB = { s with gens := GB }
  rel : GRel G0 s.gens sB.gens
  keep : Keep (G0.map bombOf) sB.gens G0 s.gens
  size : G0.size ≤ s.gens.size
theorem sl_start (s : Shared) : Sl s.gens s { s with gens := s.gens.map bombOf } := ⟨⟨_, rfl⟩, rel_bomb _, Keep.refl _ _, Nat.le_refl _⟩
theorem sl_wp {P : Program} {w : World} {A : Around} {α : Type} {G0 : Array GenState} {t : Sem α} {Q : α → Shared → Prop} {E : Value → Shared → Prop} {s sB : Shared} (S : Sl G0 s sB) (h : wpAny (model P w) A t Q E sB) :
    wpS P w A t (fun a s' => ∃ sB', Q a sB' ∧ Sl G0 s' sB') (fun e s' => ∃ sB', E e sB' ∧ Sl G0 s' sB') s := by
  obtain ⟨⟨GB, rfl⟩, r, k, z⟩ := S
  have main : wpAny (model P w) A t (fun a s' => s.gens.size ≤ s'.gens.size → ∃ sB', Q a sB' ∧ Sl G0 s' sB') (fun a s' => s.gens.size ≤ s'.gens.size → ∃ sB', E a sB' ∧ Sl G0 s' sB') s := fun Γ p hΓ =>
    Sem.wp_mono _ _ _ (fun a p' s' ⟨GB', x, y, y2⟩ hz => ⟨_, x, ⟨GB', rfl⟩, y, k.trans y2, Nat.le_trans z hz⟩) (fun a p' s' ⟨GB', x, y, y2⟩ hz => ⟨_, x, ⟨GB', rfl⟩, y, k.trans y2, Nat.le_trans z hz⟩) _ _
      (wp_sim (G0 := G0) t _ _ p { s with gens := GB } s.gens r (h Γ p hΓ))
  exact wpS_of (GenW.wpAny_gsz (n := s.gens.size) (Nat.le_refl _) main)
theorem sl_wp0 {P : Program} {w : World} {A : Around} {α : Type} {G0 : Array GenState} {t : Sem α} {Q : α → Shared → Prop} {s sB : Shared} (S : Sl G0 s sB) (h : wpAny (model P w) A t Q noE sB) : wpS P w A t (fun a s' => ∃ sB', Q a sB' ∧ Sl G0 s' sB') noE s :=
  wpS_mono (sl_wp S h) (fun _ _ z => z) fun _ _ ⟨_, z, _⟩ => z
theorem Sl.end {G0 : Array GenState} {s sB : Shared} (S : Sl G0 s sB) (hb : AllBare sB.gens) : GStep G0 s.gens := gstep_of S.size S.rel S.keep hb
theorem Sl.g {G0 : Array GenState} {s sB : Shared} {H : Hp} (S : Sl G0 s sB) (I : Inv X pins σ H sB) : InvG X pins σ H s := by
  obtain ⟨GB, rfl⟩ := S.eq
  exact inv_g (s := { s with gens := GB }) I
/-- the kit's own -/
theorem IS.of {tg iter : Expr} {wi : TI} (h : PI X.nox tg iter wi) : IS X tg iter wi := by
  refine ⟨fun pins s σ H R I hw => ?_⟩
  refine thnS (sl_wp0 (sl_start s) (h.run pins _ σ H R ((inv_b I).wish _) hw)) fun v s1 ⟨sB, q, S⟩ => ?_
  refine thnS (sl_wp0 S q) fun itv s2 ⟨sB2, q2, S2⟩ => ?_
  obtain ⟨b, q3⟩ := pie_g q2
  refine ⟨?_, S2.end b⟩
  obtain ⟨GB, rfl⟩ := S2.eq
  exact q3
/-- for: the turns' body may run generators -/
theorem ss_for {tg iter : Expr} {body : List Stmt} {wi : TI} {g : TG} {tb : TS} {pos : Pos} (hc : X.calm = true) (hi : IS X tg iter wi) (hg : PG X.nox tg g) (hb : SSs X body tb)
    (hs : ∀ x, foldedSetIterable iter X.env x = pure x := by intro _; rfl) : SS X (.For tg iter body [] pos) (tFor wi g tb) := by
  refine ⟨fun pins s σ H D I h => ?_⟩
  rw [exec_For]
  refine wpS_at (wpS_bind (thnS (hi.run pins s σ H _ I h) fun v s1 h1 => ?_))
  refine wpS_eq (hs v) (wpS_at (wpS_bind (wpS_holding (thnS h1 fun itv s2 h2 => ?_))))
  obtain ⟨⟨it, fp, tn, J, H2, e, I2, T, st2, f2, W, ⟨m0, w0⟩, turn⟩, g2⟩ := h2
  subst e
  have stat : ∀ {H' : Hp}, (∀ b ∈ fp, H' b = none) → ∀ b ∈ fp, FpOk X pins H' b := fun hn b hb => ⟨hn b hb, (f2 b hb).2⟩
  unfold runOwn
  refine wpS_onRaise (wpS_run ?_)
  refine codeS_mono (R := fun r s' => match r with | .ok f => SG X pins D s f s' | .error _ => False) (codeS_loop rfl (fun n s' => ∃ i σ' H', InvG X pins σ' H' s' ∧ tn i s'.heap ∧ (∀ b ∈ fp, H' b = none) ∧ W i n σ' H' ∧ GStep s.gens s'.gens) ?_ m0 s2 ⟨0, σ, H2, I2, st2, fun b hb => (f2 b hb).1, w0, g2⟩) fun r s' q => by
    cases r with
    | ok f => exact q
    | error e => exact False.elim q
  rintro n s3 ⟨i, σ3, H3, I3, st3, fr3, w3, g3⟩
  show wpS X.prog X.w X.A ((forTurn tg (.ref it) body [] X.env).onRaise _) _ _ s3
  refine wpS_onRaise (E := fun _ _ => False) (wpS_mono (E := noE) ?_ (fun _ _ z => z) fun _ _ z => False.elim z) |> fun q => wpS_mono q (fun _ _ z => z) fun _ _ z => False.elim z
  unfold forTurn
  refine wpS_at (wpS_bind (wpS_onRaise ?_))
  rcases turn i n σ3 H3 w3 with ⟨stop, qn⟩ | ⟨go, N, hN, step⟩
  · refine wpS_mono (sl_wp0 (sl_start s3) (T.done X rfl rfl rfl hc i pins _ σ3 H3 noE (inv_b I3) (stat fr3) st3 stop)) (fun r s4 ⟨sB, ⟨hr, I4⟩, S⟩ => ?_) fun _ _ z => False.elim z
    subst hr
    refine wpS_pure (.inr ⟨rfl, codeS_of (codeAny_block (wpAny_execs_nil ?_))⟩)
    exact ⟨⟨σ3, H3, S.g I4, qn⟩, g3.trans (S.end I4.bare)⟩
  · refine wpS_mono (sl_wp0 (sl_start s3) (T.item X rfl rfl rfl hc i pins _ σ3 H3 noE (inv_b I3) (stat fr3) st3 go)) (fun r s4 ⟨sB, ⟨u, hr, h4⟩, S⟩ => ?_) fun _ _ z => False.elim z
    subst hr
    refine wpS_bind (thnS (sl_wp0 S h4) fun _ s5 ⟨sB5, ⟨x, H5, I5, r5, y5, st5, fr5⟩, S5⟩ => ?_)
    have I5g := S5.g I5
    have g5 := g3.trans (S5.end I5.bare)
    have st5' : tn (i + 1) s5.heap := by
      obtain ⟨GB, e⟩ := S5.eq
      rw [e] at st5; exact st5
    have I5' : InvG X (pins ++ pinsAt fp s5.heap) σ3 H5 s5 := Inv.pinned I5g (stat fr5) (T.obj _ _ st5')
    refine wpS_bind (thnS (up_st (R := fun _ σ' H' => (step x H5 y5 : g x σ3 H5 _) = (step x H5 y5) ∧ tb { D with nx := N, ct := N, bk := D.nx } σ' H') I5' fun s1 I1 _ => wpAny_mono (hg.run _ s1 σ3 H5 x u _ I1 r5 (step x H5 y5)) (fun _ s6 ⟨σ6, H6, I6, q6⟩ => ⟨σ6, H6, I6, rfl, q6⟩) fun _ _ z => z) fun _ s6 q6 => ?_)
    obtain ⟨⟨σ6, H6, I6, _, q6⟩, g6⟩ := q6
    refine wpS_bind (thnS (hb.run _ s6 σ6 H6 _ I6 q6) fun f s7 q7 => ?_)
    obtain ⟨q7, g7⟩ := q7
    have g8 := (g5.trans g6).trans g7
    have again : ∀ {σ7 : L2.St} {H7 : Hp}, InvG X (pins ++ pinsAt fp s5.heap) σ7 H7 s7 → N σ7 H7 → ∃ m, m < n ∧ ∃ i σ' H', InvG X pins σ' H' s7 ∧ tn i s7.heap ∧ (∀ b ∈ fp, H' b = none) ∧ W i m σ' H' ∧ GStep s.gens s7.gens := fun {σ7 H7} I7 n7 => by
      obtain ⟨m', hm, w7⟩ := hN σ7 H7 n7
      refine ⟨m', hm, i + 1, σ7, H7, Inv.unpinned I7, T.keep _ _ _ st5' fun b hb o e => (I7.pin (b, o) (List.mem_append_right _ (List.mem_append_right _ (mem_pinsAt hb e)))).1, fun b hb => ?_, w7, g8⟩
      obtain ⟨o, e, d⟩ := T.obj _ _ st5' b hb
      exact (I7.pin (b, o) (List.mem_append_right _ (List.mem_append_right _ (mem_pinsAt hb e)))).2.1
    cases f with
    | next => obtain ⟨σ7, H7, I7, n7⟩ := q7; exact wpS_pure (.inl ⟨rfl, again I7 n7⟩)
    | cont => obtain ⟨σ7, H7, I7, n7⟩ := q7; exact wpS_pure (.inl ⟨rfl, again I7 n7⟩)
    | brk => obtain ⟨σ7, H7, I7, q7⟩ := q7; exact wpS_pure ⟨⟨σ7, H7, Inv.unpinned I7, q7⟩, g8⟩
    | ret v => obtain ⟨x7, σ7, H7, I7, r7, q7⟩ := q7; exact wpS_pure ⟨⟨x7, σ7, H7, Inv.unpinned I7, r7, q7⟩, g8⟩
end
end Gz
end
section
set_option Elab.async false
set_option maxRecDepth 100000
set_option autoImplicit false
/-! list comprehensions whose tests run generators -/
namespace Gz
open PySem PySem.Spec L2
open PyProof.Rows hiding St
/-- what the block's code is to reach -/
def CPost (D C : Addr) (Q : Value → Shared → Prop) (r : Result) (s' : Shared) : Prop := match r with
  | .ok _ => ∃ m, s'.heap.Ns C m ∧ ∀ h', Heap.SameBut C s'.heap h' → Q (.ref D) { s' with heap := h' }
  | .error _ => False
section
variable {P : Program} {w : World} {A : Around} {env : Env} {elt tg iter : Expr} {ifs : List Expr} {scope : Scope} {pos pos' : Pos}
theorem comp_front {Q : Value → Shared → Prop} {cl : List (Str × Addr)} {s : Shared} (hs : ∀ x, foldedSetIterable iter env x = pure x) (hclos : closureFor scope env = pure cl) (hkind : scope.kind = .function) (hnames : ∀ x ∈ scope.names, x.2 = .local → scope.names.lookup x.1 = some .local)
    (h : wpS P w A (eval iter env) (fun x s1 => wpS P w A (pyIter x) (fun it s2 =>
      codeS P w A (.compStart (.ListComp elt [⟨tg, iter, ifs, 0⟩] scope pos) 0 it (.ref s2.heap.objs.size) (compEnvC scope (cellsFrom (s2.heap.objs.size + 1 + 1) scope.names cl) (s2.heap.objs.size + 1) env)) (CPost s2.heap.objs.size (s2.heap.objs.size + 1) Q)
        { s2 with heap := pushCells ((s2.heap.push { cls := .type "list", data := .seq ([] : List Value).toArray }).push { cls := .type "dict", data := .dict #[] }) scope.names }) noE s1) noE s) :
    wpS P w A (comprehension (.ListComp elt [⟨tg, iter, ifs, 0⟩] scope pos) scope env pos' (newList []) false (eval iter env)) Q noE s := by
  unfold comprehension
  rw [hclos]
  refine wpS_bind (thnS h fun x s1 h1 => wpS_at ?_)
  show wpS P w A (foldedSetIterable iter env x >>= _) _ _ _
  refine wpS_eq (hs x) (wpS_bind (wpS_holding (thnS h1 fun it s2 h2 => ?_)))
  show wpS P w A (newList [] >>= _) _ _ _
  refine wpS_bind (wpS_of (wpAny_newObj_type ?_ (by show 0 ≤ sizeLine; decide)))
  refine wpS_bind (wpS_pure (wpS_bind (wpS_of (newEnv_comp ?_))))
  have e1 : (s2.heap.push { cls := .type "list", data := .seq ([] : List Value).toArray }).objs.size = s2.heap.objs.size + 1 := Heap.size_push ..
  simp only [e1]
  refine wpS_holding (wpS_bind (wpS_attempt (wpS_holding (wpS_run ?_))))
  refine codeS_mono h2 fun r s' hr => ?_
  cases r with
  | error e => exact False.elim hr
  | ok f =>
    obtain ⟨m, hn, hr⟩ := hr
    have hv : ∀ x ∈ (scope.names.filter fun x => (x.2 == .local || x.2 == .cell) && x.1 != (".0" : Str)).reverse, x.2 = .local → Env.kindOf (compEnvC scope (cellsFrom (s2.heap.objs.size + 1 + 1) scope.names cl) (s2.heap.objs.size + 1) env) x.1 = some .local := fun x hx hl =>
      lookup_relabel_local (hnames x (List.mem_filter.mp (List.mem_reverse.mp hx)).1 hl)
    refine wpS_bind (wpS_holding (wpS_of (wpAny_comp_letGo (cenv := compEnvC scope (cellsFrom (s2.heap.objs.size + 1 + 1) scope.names cl) (s2.heap.objs.size + 1) env) hkind _ s' m hv hn fun h' m' _ hs' => ?_)))
    exact wpS_pure (hr h' hs')
/-- the loop's code -/
theorem comp_start {R : Result → Shared → Prop} {it acc : Value} {s : Shared} (h : codeS P w A (.compLoop (.ListComp elt [⟨tg, iter, ifs, 0⟩] scope pos) 0 it acc env) R s) (hi : wpAny (model P w) A (pyIter it) (fun it' s' => it' = it ∧ s' = s) noE s) :
    codeS P w A (.compStart (.ListComp elt [⟨tg, iter, ifs, 0⟩] scope pos) 0 it acc env) R s := by
  refine codeS_tree ?_
  show wpS P w A ((compStart (.ListComp elt [⟨tg, iter, ifs, 0⟩] scope pos) 0 it acc env).onRaise _) _ _ s
  refine wpS_onRaise (wpS_mono (E := noE) ?_ (fun _ _ z => z) fun _ _ z => False.elim z)
  unfold compStart
  show wpS P w A (ask >>= _) _ _ s
  refine wpS_bind (wpS_of (wpAny_askSetting ?_))
  show wpS P w A (if _ then _ else _) _ _ s
  split
  · exact wpS_pure ⟨rfl, h⟩
  · refine wpS_bind (wpS_of (wpAny_rule ?_))
    show wpS P w A (standAt iter.pos >>= fun _ => pyIter it >>= fun it' => again (.compLoop (.ListComp elt [⟨tg, iter, ifs, 0⟩] scope pos) 0 it' acc env)) _ _ s
    refine wpS_at (wpS_bind (thnS (wpS_of hi) fun it' s' ⟨e1, e2⟩ => ?_))
    subst e1 e2
    exact wpS_pure ⟨rfl, h⟩
theorem comp_loop {R : Result → Shared → Prop} {it acc : Value} (I : Nat → Shared → Prop)
    (turn : ∀ n s, I n s → wpS P w A (pyNext it) (fun r s1 => match r with
      | none => R (.ok .next) s1
      | some v => wpS P w A (letOwnedTupleGo tg it v) (fun _ s2 => wpS P w A (assign tg env v) (fun _ s3 =>
          wpS P w A (forIn ifs true fun c r => if r = true then do let ok ← isTrue c env (eval c env); pure (ForInStep.yield ok) else pure (ForInStep.yield r)) (fun ok s4 =>
            if ok = true then wpS P w A (eval elt env) (fun x s5 => wpS P w A (call (.builtin "list.append") [acc, x]) (fun _ s6 => ∃ m, m < n ∧ I m s6) noE s5) noE s4
            else ∃ m, m < n ∧ I m s4) noE s3) noE s2) noE s1) noE s) (n : Nat) (s : Shared) (h : I n s) :
    codeS P w A (.compLoop (.ListComp elt [⟨tg, iter, ifs, 0⟩] scope pos) 0 it acc env) R s := by
  refine codeS_loop rfl I (fun n s hI => ?_) n s h
  show wpS P w A ((compTurn (.ListComp elt [⟨tg, iter, ifs, 0⟩] scope pos) 0 it acc env).onRaise _) _ _ s
  refine wpS_onRaise (wpS_mono (E := noE) ?_ (fun _ _ z => z) fun _ _ z => False.elim z)
  rw [compTurn_list]
  refine wpS_at (wpS_bind (thnS (turn n s hI) fun r s1 h1 => ?_))
  cases r with
  | none => exact wpS_pure h1
  | some v =>
    refine wpS_bind (thnS h1 fun _ s2 h2 => wpS_bind (thnS h2 fun _ s3 h3 => wpS_bind (thnS h3 fun ok s4 h4 => ?_)))
    cases ok with
    | false => exact wpS_pure (.inl ⟨rfl, h4⟩)
    | true => exact wpS_bind (wpS_bind (thnS h4 fun x s5 h5 => wpS_bind (thnS h5 fun _ s6 h6 => wpS_pure (wpS_pure (.inl ⟨rfl, h6⟩)))))
end
section
variable {X : Cx}
/-- a clause's tests, that may run generators -/
structure TsS (X : Cx) (ifs : List Expr) (t : TT) : Prop where
  run : ∀ (pins : List (Addr × Obj)) (s : Shared) (σ : L2.St) (H : Hp) (Q : Bool → Hp → Prop), InvG X pins σ H s → t σ H Q →
    wpS X.prog X.w X.A (forIn ifs true fun c r => if r = true then do let ok ← isTrue c X.env (eval c X.env); pure (ForInStep.yield ok) else pure (ForInStep.yield r)) (TGd X pins σ Q s) noE s
theorem tss_one {c : Expr} {t : TT} (h : TSt X c t) : TsS X [c] t := ⟨fun pins s σ H Q I hw => by
  simp only [List.forIn_cons, List.forIn_nil, if_true]
  exact wpS_bind (wpS_bind (thnS (h.run pins s σ H Q I hw) fun b s1 q => wpS_pure (wpS_pure q)))⟩
theorem tss_of {ifs : List Expr} {t : TT} (h : PTs X ifs t) (hx : X.xe = fun _ _ => False) : TsS X ifs t := ⟨fun pins s σ H Q I hw => by
  have q := h.run pins _ σ H Q (inv_b I) hw
  rw [hx] at q
  exact up (Q := fun b s' => ∃ H', Inv X pins σ H' s' ∧ Q b H') (wpAny_mono q (fun _ _ ⟨H', I', q⟩ => ⟨I'.bare, H', inv_g I', q⟩) fun _ _ z => z)⟩
/-- the state with no generators told -/
abbrev nog (s : Shared) : Shared := { s with gens := #[] }
/-- one step of a block's -/
theorem blk_up {pins : List (Addr × Obj)} {σ : L2.St} {H : Hp} {s : Shared} {A : Around} {α : Type} {t : Sem α} {R : α → L2.St → Hp → Prop} (I : InvG X pins σ H s) (h : ∀ s1, Inv X pins σ H s1 → wpAny (model X.prog X.w) A t (fun a s' => ∃ σ' H', Inv X pins σ' H' s' ∧ R a σ' H') noE s1) :
    wpS X.prog X.w A t (fun a s' => (∃ σ' H', InvG X pins σ' H' s' ∧ R a σ' H') ∧ GStep s.gens s'.gens) noE s :=
  up (Q := fun a s' => ∃ σ' H', Inv X pins σ' H' s' ∧ R a σ' H') (wpAny_mono (h _ (inv_b I)) (fun _ _ ⟨σ', H', I', q⟩ => ⟨I'.bare, σ', H', inv_g I', q⟩) fun _ _ z => z)
/-- [elt for target in iter if test]: the test may run generators -/
theorem es_lc {elt tg iter : Expr} {ifs : List Expr} {scope : Scope} {own : List (Str × Nat)} {pos : Pos} {wi : TI} {g : TG} {tt : TT} {te : TE} (hc : X.calm = true) (hN : X.N.Nodup) (hi : IS X tg iter wi) (ok : BlkOk X.N X.env.scope scope own)
    (hg : ∀ (s : Shared) (H : Hp) (C : Addr) (cl : List (Str × Addr)) (fp : List Addr), PG (X.blk s H scope (compEnvC scope cl C X.env) fp) tg g) (ht : ∀ (s : Shared) (H : Hp) (C : Addr) (cl : List (Str × Addr)) (fp : List Addr), TsS (X.blk s H scope (compEnvC scope cl C X.env) fp) ifs tt)
    (he : ∀ (s : Shared) (H : Hp) (C : Addr) (cl : List (Str × Addr)) (fp : List Addr), PE (X.blk s H scope (compEnvC scope cl C X.env) fp) elt te) (hs : ∀ x, foldedSetIterable iter X.env x = pure x := by intro _; rfl) :
    ES X (.ListComp elt [⟨tg, iter, ifs, 0⟩] scope pos) (tLc wi g tt te (own.map (·.2))) := by
  refine ⟨fun pins s σ H Q I h => ?_⟩
  have hfree : ∀ y ∈ scope.names, y.2 = .free → ∃ c, X.env.cells.lookup y.1 = some c := fun y hy e => by
    rcases ok.free y hy e with k | k
    · exact I.ok.has _ (.inl k)
    · exact I.ok.has _ (.inr k)
  rw [eval_ListComp]
  refine comp_front hs (closure_ok hfree) ok.kind (fun y hy e => by rw [ok.uniq y hy, e]) (thnS (hi.run pins s σ H _ I h) fun xv s1 hx => thnS hx fun itv s2 h2 => ?_)
  obtain ⟨⟨it, fp, tn, J, H2, e, I2, T, st2, f2, q⟩, g2⟩ := h2
  subst e
  generalize hD : s2.heap.objs.size = D
  have hDn : H2 D = none := I2.hok.fresh (Nat.le_of_eq hD)
  obtain ⟨W, ⟨m0, w0⟩, turn⟩ := q D hDn
  generalize hs3 : ({ s2 with heap := s2.heap.push { cls := .type "list", data := .seq ([] : List Value).toArray } } : Shared) = s3
  have h3 : s3.heap = s2.heap.push { cls := .type "list", data := .seq ([] : List Value).toArray } := by rw [← hs3]
  have I3 : Inv X pins σ (upd H2 D (.lst [])) (nog s3) := by
    rw [← hs3]
    refine I2.laid (t' := s2.toks) (fun b o e => Heap.get?_push_of_some _ e) (Nat.le_of_eq hD) ⟨Nat.zero_le _, [], 0, .nil, ?_⟩
    rw [← hD]
    exact Heap.get?_push_size _ rfl
  have z3 : s3.heap.objs.size = D + 1 := by rw [h3, Heap.size_push, hD]
  have sz : ∀ b ∈ fp, b < s2.heap.objs.size := fun b hb => by
    obtain ⟨o, e, _⟩ := T.obj _ _ st2 b hb
    exact Heap.lt_size e
  have f3 : ∀ b ∈ fp, FpOk X pins (upd H2 D (.lst [])) b ∧ b < (nog s3).heap.objs.size := fun b hb => by
    have hlt := sz b hb
    refine ⟨⟨?_, (f2 b hb).2⟩, ?_⟩
    · rw [upd_ne (by rw [← hD]; exact Nat.ne_of_lt hlt)]
      exact (f2 b hb).1
    · show b < s3.heap.objs.size
      rw [z3, ← hD]; exact Nat.lt_succ_of_lt hlt
  have st3 : tn 0 s3.heap := T.keep _ _ _ st2 fun b _ o e => by rw [h3]; exact Heap.get?_push_of_some _ e
  have I4 := block_start I3 ok hN f3
  have eC : (nog s3).heap.objs.size = D + 1 := z3
  rw [eC] at I4
  have pg := hg (nog s3) (upd H2 D (.lst [])) (D + 1) (cellsFrom (D + 1 + 1) scope.names (cloFrom X.env.cells scope.names [])) fp
  have pt := ht (nog s3) (upd H2 D (.lst [])) (D + 1) (cellsFrom (D + 1 + 1) scope.names (cloFrom X.env.cells scope.names [])) fp
  have pe := he (nog s3) (upd H2 D (.lst [])) (D + 1) (cellsFrom (D + 1 + 1) scope.names (cloFrom X.env.cells scope.names [])) fp
  have nfp : ∀ b ∈ fp, (upd H2 D (.lst [])) b = none := fun b hb => (f3 b hb).1.1
  generalize hce : compEnvC scope (cellsFrom (D + 1 + 1) scope.names (cloFrom X.env.cells scope.names [])) (D + 1) X.env = ce at I4 pg pt pe ⊢
  have cL : ce.locals = D + 1 := by subst hce; rfl
  generalize hH3 : upd H2 D (.lst []) = H3 at I3 I4 pg pt pe w0 nfp f3
  have e34 : ({ s2 with heap := pushCells ((s2.heap.push { cls := .type "list", data := .seq ([] : List Value).toArray }).push { cls := .type "dict", data := .dict #[] }) scope.names } : Shared) = { s3 with heap := pushCells (s3.heap.push { cls := .type "dict", data := .dict #[] }) scope.names } := by
    rw [← hs3]
  rw [e34]
  have gs3 : s3.gens = s2.gens := by rw [← hs3]
  generalize hs4 : ({ s3 with heap := pushCells (s3.heap.push { cls := .type "dict", data := .dict #[] }) scope.names } : Shared) = s4
  have I4' : InvG (X.blk (nog s3) H3 scope ce fp) [] (wipe σ (own.map (·.2))) H3 s4 := by rw [← hs4]; exact I4
  have g4 : GStep s.gens s4.gens := by
    have e : s4.gens = s2.gens := by rw [← hs4]; exact gs3
    rw [e]; exact g2
  have st4 : tn 0 s4.heap := T.keep _ _ _ st3 fun b _ o e => by rw [← hs4]; exact pushCells_keeps _ _ _ _ (Heap.get?_push_of_some _ e)
  have stat : ∀ {σ' : L2.St} {H' : Hp} {s' : Shared}, Inv (X.blk (nog s3) H3 scope ce fp) [] σ' H' s' → (∀ b ∈ fp, H' b = none) → ∀ b ∈ fp, FpOk (X.blk (nog s3) H3 scope ce fp) [] H' b := fun {σ' H' s'} I' hn b hb =>
    ⟨hn b hb, (I'.ok.exf b hb).1, I'.ok.exfs b hb, .inl hb, fun x c e => (I'.ok.exf b hb).2 x c e, fun p hp => absurd (show p ∈ ([] : List (Addr × Obj)) ++ [] from hp) (by simp)⟩
  refine comp_start ?_ (T.self X.A 0 _ _ _ st4 ⟨rfl, rfl⟩)
  refine comp_loop (fun n s' => ∃ i H', InvG (X.blk (nog s3) H3 scope ce fp) [] (wipe σ (own.map (·.2))) H' s' ∧ tn i s'.heap ∧ (∀ b ∈ fp, H' b = none) ∧ W i n H' ∧ GStep s.gens s'.gens) ?_ m0 s4 ⟨0, H3, I4', st4, nfp, w0, g4⟩
  rintro n s5 ⟨i, H5, I5, st5, n5, w5, g5⟩
  rcases turn i n H5 w5 with ⟨stop, qq⟩ | ⟨go, Nx, hNx, step⟩
  · have td := T.done (X.blk (nog s3) H3 scope ce fp) rfl rfl rfl hc i [] _ _ H5 noE (inv_b I5) (stat I5 n5) st5 stop
    refine thnS (sl_wp0 (sl_start s5) td) fun r s6 ⟨sB, ⟨hr, I6⟩, S⟩ => ?_
    subst hr
    have I6g := S.g I6
    have I7 : InvG X pins σ H5 s6 := I3.call' (ch := fp) I6g.os I6g.base I6g.hok I6g.bare fun b hb => ⟨(f3 b hb).1.2.2.2.1, (f3 b hb).1.2.1, (f3 b hb).1.2.2.2.2.1, (f3 b hb).1.2.2.2.2.2⟩
    have nC : H5 (D + 1) = none := by
      have z : H5 ce.locals = none := I6g.free
      rw [cL] at z
      exact z
    obtain ⟨m, hn, _⟩ := I6g.loc
    have hn : s6.heap.Ns ce.locals m := hn
    rw [cL] at hn
    obtain ⟨f0, f1, f2', f3', f4, f5⟩ := I3.fpOk (b := D + 1) (Nat.le_of_eq z3) nC
    exact ⟨m, hn, fun h' sb => ⟨⟨.ref D, H5, Inv.turned (t' := s6.toks) I7 (fun b o hb e => (sb.2 b hb).trans e) f0 f1 f3' f4 f5, rfl, qq⟩, g5.trans (S.end I6.bare)⟩⟩
  · have ti := T.item (X.blk (nog s3) H3 scope ce fp) rfl rfl rfl hc i [] _ _ H5 noE (inv_b I5) (stat I5 n5) st5 go
    refine thnS (sl_wp0 (sl_start s5) ti) fun r s6 ⟨sB, ⟨u, hr, h6⟩, S⟩ => ?_
    subst hr
    refine thnS (sl_wp0 S h6) fun _ s7 ⟨sB7, ⟨x, H7, I7, r7, y7, st7, n7⟩, S7⟩ => ?_
    have I7g := S7.g I7
    have g7 := g5.trans (S7.end I7.bare)
    have st7' : tn (i + 1) s7.heap := by
      obtain ⟨GB, e⟩ := S7.eq
      rw [e] at st7; exact st7
    have I7' : InvG (X.blk (nog s3) H3 scope ce fp) ([] ++ pinsAt fp s7.heap) (wipe σ (own.map (·.2))) H7 s7 := Inv.pinned I7g (stat I7g n7) (T.obj _ _ st7')
    refine thnS (blk_up (X := X.blk (nog s3) H3 scope ce fp) (R := fun _ σ' H' => wipe σ' (own.map (·.2)) = wipe σ (own.map (·.2)) ∧ tt σ' H' fun b H3 => if b = true then te σ' H3 fun y H4 => ∃ acc, H4 D = some (.lst acc) ∧ acc.length < sizeLine ∧ Nx (upd H4 D (.lst (acc ++ [y]))) else Nx H3) I7'
      fun s1 I1 => pg.run _ s1 _ H7 x u _ I1 r7 (step x H7 y7)) fun _ s8 q8 => ?_
    obtain ⟨⟨σ8, H8, I8, hw8, q8⟩, g8⟩ := q8
    refine thnS (pt.run _ s8 σ8 H8 _ I8 q8) fun b s9 ⟨⟨H9, I9, q9⟩, g9⟩ => ?_
    have g10 := (g7.trans g8).trans g9
    have fin : ∀ {s' : Shared} {H' : Hp}, InvG (X.blk (nog s3) H3 scope ce fp) ([] ++ pinsAt fp s7.heap) σ8 H' s' → Nx H' → GStep s.gens s'.gens → ∃ m, m < n ∧ ∃ i H', InvG (X.blk (nog s3) H3 scope ce fp) [] (wipe σ (own.map (·.2))) H' s' ∧ tn i s'.heap ∧ (∀ b ∈ fp, H' b = none) ∧ W i m H' ∧ GStep s.gens s'.gens := fun {s' H'} I' nx gg => by
      obtain ⟨m', hm, w'⟩ := hNx H' nx
      have pin' : ∀ b ∈ fp, ∀ o, s7.heap.get? b = some o → s'.heap.get? b = some o ∧ H' b = none := fun b hb o e =>
        let z := I'.pin (b, o) (List.mem_append_right _ (List.mem_append_right _ (mem_pinsAt hb e)))
        ⟨z.1, z.2.1⟩
      have hl : (wipe σ (own.map (·.2))).length = σ8.length := by rw [← hw8, wipe_length]
      refine ⟨m', hm, i + 1, H', (Inv.unpinned (pins := []) I').weak hl (fun j v e => ?_), T.keep _ _ _ st7' fun b hb o e => (pin' b hb o e).1, fun b hb => ?_, w', gg⟩
      · rw [← hw8] at e
        exact (wipe_some e).1
      · obtain ⟨o, e, _⟩ := T.obj _ _ st7' b hb
        exact (pin' b hb o e).2
    cases b with
    | false =>
      simp only [Bool.false_eq_true, if_false] at q9 ⊢
      exact fin I9 q9 g10
    | true =>
      simp only [if_true] at q9 ⊢
      refine thnS (blk_up (X := X.blk (nog s3) H3 scope ce fp) (R := fun z σ' H' => σ' = σ8 ∧ ∃ yv, RelV yv z ∧ ∃ acc, H' D = some (.lst acc) ∧ acc.length < sizeLine ∧ Nx (upd H' D (.lst (acc ++ [yv])))) I9
        fun s1 I1 => wpAny_mono (pe.run _ s1 σ8 H9 _ I1 q9) (fun z s10 ⟨yv, H10, I10, r10, q10⟩ => ⟨σ8, H10, I10, rfl, yv, r10, q10⟩) fun _ _ z => z) fun z s10 q10 => ?_
      obtain ⟨⟨σ', H10, I10, rfl, yv, r10, acc, hD10, hz10, nx⟩, g11⟩ := q10
      refine thnS (blk_up (X := X.blk (nog s3) H3 scope ce fp) (R := fun _ σ'' H' => σ'' = σ' ∧ H' = upd H10 D (.lst (acc ++ [yv]))) I10 fun s1 I1 => app_ok (X := X.blk (nog s3) H3 scope ce fp) I1 hD10 hz10 r10 fun s11 I11 => ⟨σ', _, I11, rfl, rfl⟩) fun _ s11 q11 => ?_
      obtain ⟨⟨σ'', H11, I11, rfl, rfl⟩, g12⟩ := q11
      exact fin I11 nx ((g10.trans g11).trans g12)
end
end Gz
end
section
set_option Elab.async false
set_option maxRecDepth 100000
set_option autoImplicit false
/-! two such values at once -/
namespace Gz
open PySem PySem.Spec L2
open PyProof.Rows hiding St
section
variable {X : Cx}
structure AS (X : Cx) (es : List Expr) (t : TA) : Prop where
  run : ∀ (pos : Pos) (pins : List (Addr × Obj)) (s : Shared) (σ : L2.St) (H : Hp) (Q : List V → Hp → Prop), InvG X pins σ H s → t σ H Q → wpS X.prog X.w X.A (spliced (backTo pos (starEach es X.env))) (AG X pins σ Q s) noE s
theorem as_nil : AS X [] tNil := ⟨fun _ _ _ _ H Q I h => wpS_of (Calls.spliced_nil ⟨⟨[], H, I, .nil, h⟩, GStep.refl _⟩)⟩
theorem as_cons {e : Expr} {es : List Expr} {te : TE} {t : TA} (ha : ES X e te) (hr : AS X es t) (hs : starEach (e :: es) X.env = (false, eval e X.env) :: starEach es X.env := by rfl) : AS X (e :: es) (tCons te t) := by
  refine ⟨fun pos pins s σ H Q I h => ?_⟩
  rw [hs]
  show wpS _ _ _ (spliced ((false, eval e X.env) :: backTo pos (starEach es X.env))) _ _ s
  rw [spliced]
  refine wpS_bind (thnS (ha.run pins s σ H _ I h) fun u s1 q => ?_)
  obtain ⟨⟨x, H1, I1, r1, q1⟩, g1⟩ := q
  simp only [Bool.false_eq_true, if_false]
  refine wpS_bind (wpS_pure (wpS_bind (wpS_holding (thnS (hr.run pos pins s1 σ H1 _ I1 q1) fun us s2 q => wpS_pure ?_))))
  obtain ⟨⟨xs, H2, I2, r2, q2⟩, g2⟩ := q
  exact ⟨⟨x :: xs, H2, I2, .cons r1 r2, q2⟩, g1.trans g2⟩
/-- a, b = x, y: two plain local names -/
theorem ss_par {i j : Nat} {x y : Str} {a b : Expr} {ta : TA} {px py pt : Pos} {kt k2 : Nat} {pt2 pos : Pos} (hc : X.calm = true) (hN : X.N.Nodup) (hi : X.N[i]? = some x) (hj : X.N[j]? = some y) (hij : i ≠ j)
    (hx : X.env.scope.names.lookup x = some .local) (hy : X.env.scope.names.lookup y = some .local) (ha : AS X [a, b] ta)
    (hw : swappedStores [.Tuple [.Name x px, .Name y py] kt pt] (.Tuple [a, b] k2 pt2) X.env = pure (some [x, y]))
    (hs : swapsWithSole [.Tuple [.Name x px, .Name y py] kt pt] (.Tuple [a, b] k2 pt2) pos.line X.env = pure false := by rfl) :
    SS X (.Assign [.Tuple [.Name x px, .Name y py] kt pt] (.Tuple [a, b] k2 pt2) pos) (tPar i j ta) := by
  refine ⟨fun pins s σ H D I h => ?_⟩
  rw [exec_Assign_arm]
  refine wpS_at (wpS_eq hs ?_)
  rw [if_neg (by decide)]
  refine wpS_bind ?_
  show wpS _ _ _ (standAt pt2 >>= fun _ => spliced (backTo pt2 (starEach [a, b] X.env)) >>= fun vs => newTuple vs) _ _ s
  refine wpS_at (wpS_bind (thnS (ha.run _ pins s σ H _ I h) fun us s1 q => ?_))
  obtain ⟨⟨vs, H1, I1, r1, v, w, e1, q1⟩, g1⟩ := q
  subst e1
  obtain ⟨u1, u2, rfl, rv, rw'⟩ : ∃ u1 u2, us = [u1, u2] ∧ RelV v u1 ∧ RelV w u2 := by
    cases r1 with
    | cons p q =>
      cases q with
      | cons p' q' =>
        cases q'
        exact ⟨_, _, rfl, p, p'⟩
  refine wpS_of (wpAny_newObj_type ?_ (by show 2 ≤ sizeLine; decide))
  refine wpS_eq hw ?_
  have I2 : InvG X pins σ H1 { s1 with heap := s1.heap.push { cls := .type "tuple", data := .seq [u1, u2].toArray } } := I1.kept (t' := s1.toks) fun b o e => Heap.get?_push_of_some _ e
  refine thnS (up_st (R := fun f σ' H' => f = Flow.next ∧ D.nx σ' H') I2 fun s2 I2' es2 => ?_) fun f s2 q2 => ?_
  · have ht : IsTup s2.heap s1.heap.objs.size #[u1, u2] := by rw [es2]; exact IsTup.new s1.heap _
    show wpAny _ _ (rule "assign.swapped-stores" >>= fun _ => unpackItems (.ref s1.heap.objs.size) 2 none >>= fun items => assignInOrder [fun v => bindName X.env y v, fun v => bindName X.env x v] items.reverse >>= fun _ => pure Flow.next) _ _ _
    refine wpAny_bind (wpAny_rule (wpAny_bind (unpackItems_tuple (items := #[u1, u2]) (I2'.ok.hd hc) ht fun h' hx' => ?_)))
    have I3 := I2'.kept (h' := h') (t' := s2.toks) fun b o e => hx' b o (Nat.ne_of_lt (Heap.lt_size e)) e
    show wpAny _ _ (assignInOrder [fun v => bindName X.env y v, fun v => bindName X.env x v] [u2, u1] >>= fun _ => pure Flow.next) _ _ _
    refine wpAny_bind (assignInOrder_cons (wpAny_bindName (store_ok (X := X.nox) I3 hN hj (.inl hy) rw' (fun s2 I4 => ?_) (.inr hy))))
    refine assignInOrder_cons (wpAny_bindName (store_ok (X := X.nox) I4 hN hi (.inl hx) rv (fun s3 I5 => assignInOrder_nil (wpAny_pure ?_)) (.inr hx)))
    rw [List.set_comm _ _ (Ne.symm hij)] at I5
    exact ⟨_, H1, I5, rfl, q1⟩
  · obtain ⟨⟨σ', H', I', rfl, q'⟩, g'⟩ := q2
    exact ⟨⟨σ', H', I', q'⟩, g1.trans g'⟩
end
end Gz
end
section
set_option Elab.async false
set_option maxRecDepth 100000
set_option autoImplicit false
/-! the code of a generator, on the machine -/
namespace Gz
open PySem PySem.Spec L2
open PyProof.Rows hiding St
section
variable (P : Program) (w : World)
/-- the generator's code t over its own frames fs, woken around A, until it hands out a value (Y: the value, the state, how it sleeps) or ends (R) -/
def GRun (A : Around) (R : Shared → Prop) (Y : Value → Shared → GenState → Prop) (c : Code) (t : Sem Fin) (fs : List Frame) (s : Shared) : Prop :=
  ∀ (p : Pos) (g : Nat) (k : GenResult → Sem Fin) (l : List Value) (c0 : Code) (p0 : Pos) (st : List Frame), (Ctx.of c0 st).In A →
    (∃ s', R s' ∧ Go P w s ⟨t, c, p, fs ++ .gen g k l c0 p0 :: st⟩ (s'.setGen g .finished) ⟨k (.returned .none), c0, p0, st⟩) ∨
    (∃ s' v gs, Y v s' gs ∧ Go P w s ⟨t, c, p, fs ++ .gen g k l c0 p0 :: st⟩ (s'.setGen g gs) ⟨k (.yielded v), c0, p0, st⟩)
def GOn (A : Around) (R : Shared → Prop) (Y : Value → Shared → GenState → Prop) (gs : GenState) (s : Shared) : Prop := match gs with
  | .fresh c => GRun P w A R Y c (denote table c) [] s
  | .suspended kk _ c _ fs _ => GRun P w A R Y c (kk (.send .none)) fs s
  | _ => False
end
section
variable {P : Program} {w : World} {A : Around} {R : Shared → Prop} {Y : Value → Shared → GenState → Prop} {c : Code} {fs : List Frame} {s : Shared} {α : Type}
theorem grun_go {t t1 : Sem Fin} {c1 : Code} {fs1 : List Frame} {s1 : Shared} (h : GRun P w A R Y c1 t1 fs1 s1) (hg : ∀ (p : Pos) (F : Frame) (st : List Frame), ∃ p1, Go P w s ⟨t, c, p, fs ++ F :: st⟩ s1 ⟨t1, c1, p1, fs1 ++ F :: st⟩) : GRun P w A R Y c t fs s := fun p g k l c0 p0 st hI => by
  obtain ⟨p1, g1⟩ := hg p (.gen g k l c0 p0) st
  rcases h p1 g k l c0 p0 st hI with ⟨s', q, g2⟩ | ⟨s', v, gs, q, g2⟩
  · exact .inl ⟨s', q, g1.trans g2⟩
  · exact .inr ⟨s', v, gs, q, g1.trans g2⟩
theorem in_over {c0 : Code} {st : List Frame} (hI : (Ctx.of c0 st).In A) (g : Nat) (k : GenResult → Sem Fin) (l : List Value) (p0 : Pos) : (Ctx.of c (fs ++ .gen g k l c0 p0 :: st)).In (A.over c fs) := by
  rw [Ctx.of_append, of_gen]
  exact (hI.wake c p0).over fs
theorem grun_wrap {m : Sem α} {K : α → Sem Fin} {H : Value → Sem Fin} {gd : Bool → Bool} {lv : List Value → List Value} (h : wpS P w (A.over c fs) m (fun a s' => GRun P w A R Y c (K a) fs s') noE s) : GRun P w A R Y c (m.wrap K H gd lv) fs s := fun p g k l c0 p0 st hI => by
  rcases h c p (fs ++ .gen g k l c0 p0 :: st) (in_over hI g k l p0) K H gd lv with ⟨a, p', s', q, g1⟩ | ⟨e, p', s', q, g1⟩
  · rcases q p' g k l c0 p0 st hI with ⟨s2, q2, g2⟩ | ⟨s2, v, gs, q2, g2⟩
    · exact .inl ⟨s2, q2, g1.trans g2⟩
    · exact .inr ⟨s2, v, gs, q2, g1.trans g2⟩
  · exact q.elim
theorem grun_bind {m : Sem α} {K : α → Sem Fin} (h : wpS P w (A.over c fs) m (fun a s' => GRun P w A R Y c (K a) fs s') noE s) : GRun P w A R Y c (m >>= K) fs s := by
  rw [Sem.bind_eq_wrap']
  exact grun_wrap h
/-- .. within a wrapped tree -/
theorem grun_wbind {β : Type} {m : Sem α} {f : α → Sem β} {K : β → Sem Fin} {H : Value → Sem Fin} {gd : Bool → Bool} {lv : List Value → List Value} (h : wpS P w (A.over c fs) m (fun a s' => GRun P w A R Y c ((f a).wrap K H gd lv) fs s') noE s) :
    GRun P w A R Y c ((m >>= f).wrap K H gd lv) fs s := by
  rw [Sem.bind_eq_wrap', Sem.wrap_wrap]
  exact grun_wrap h
theorem grun_at {p' : Pos} {k : Unit → Sem Fin} (h : GRun P w A R Y c (k ()) fs s) : GRun P w A R Y c (.at p' k) fs s :=
  grun_go h fun p F st => ⟨p', go_one (step_at _ _ _ _ _ p' k) .here⟩
theorem grun_call {c' : Code} {h : Option Value} {g : Bool} {l : List Value} {k : Result → Sem Fin} (hc : ∀ p, GRun P w A R Y c' (denote table c') (.ret k h g l c p [] :: fs) s) : GRun P w A R Y c (.call c' h g l k) fs s := fun p g1 k1 l1 c0 p0 st hI => by
  rcases hc p p g1 k1 l1 c0 p0 st hI with ⟨s', q, g2⟩ | ⟨s', v, gs, q, g2⟩
  · exact .inl ⟨s', q, go_one (step_call _ _ _ _ _ c' h g l k) g2⟩
  · exact .inr ⟨s', v, gs, q, go_one (step_call _ _ _ _ _ c' h g l k) g2⟩
theorem grun_leaf {k : Result → Sem Fin} {h : Option Value} {g : Bool} {l kp : List Value} {c1 : Code} {p1 : Pos} (r : Result) (hk : GRun P w A R Y c1 (k r) fs s) : GRun P w A R Y c (leafOf r) (.ret k h g l c1 p1 kp :: fs) s :=
  grun_go hk fun p F st => ⟨p1, go_one (step_leaf_ret _ _ _ _ _ r k h g l c1 p1 kp) .here⟩
theorem grun_again {c' : Code} (hq : c'.quiet = true) (h : GRun P w A R Y c' (denote table c') fs s) : GRun P w A R Y c (.pure (.again c')) fs s :=
  grun_go h fun p F st => ⟨p, go_one (step_again (M := model P w) _ _ _ _ c' hq) .here⟩
theorem grun_end {f : Flow} (hf : (End.ret (.ok f)).result = .returned .none) (h : R s) : GRun P w A R Y c (leafOf (.ok f)) [] s := fun p g k l c0 p0 st _ => by
  refine .inl ⟨s, h, go_one (step_leaf_gen (M := model P w) s c p st (.ok f) g k l c0 p0) ?_⟩
  rw [hf]
  exact .here
theorem grun_yield {v : Value} {g0 : Bool} {l0 : List Value} {kk : Resume → Sem Fin} (hfs : splitAtGen fs = none) (hc : s.asleep → closingShows s fs c g0 = false) (h : ∀ p, Y v s (.suspended kk l0 c p fs (g0 || fs.any Frame.guarded))) :
    GRun P w A R Y c (.yield v g0 l0 kk) fs s := fun p g k l c0 p0 st _ => by
  have hb : splitAtGen (fs ++ .gen g k l c0 p0 :: st) = some (fs, (g, k, c0, p0), st) := by rw [splitAtGen_append_none _ hfs, splitAtGen_gen]; simp
  refine .inr ⟨s, v, _, h p, .next (.inr ⟨v, g0, l0, kk, fs, _, _, rfl, hb, hc⟩) ?_ .here⟩
  show step (denote table) P w s ⟨.yield v g0 l0 kk, c, p, fs ++ .gen g k l c0 p0 :: st⟩ = _
  simp only [PySem.step, hb]
  rfl
theorem grun_mono {t : Sem Fin} {R' : Shared → Prop} {Y' : Value → Shared → GenState → Prop} (h : GRun P w A R Y c t fs s) (hR : ∀ s, R s → R' s) (hY : ∀ v s gs, Y v s gs → Y' v s gs) : GRun P w A R' Y' c t fs s := fun p g k l c0 p0 st hI => by
  rcases h p g k l c0 p0 st hI with ⟨s', q, g1⟩ | ⟨s', v, gs, q, g1⟩
  · exact .inl ⟨s', hR _ q, g1⟩
  · exact .inr ⟨s', v, gs, hY _ _ _ q, g1⟩
/-- the wake itself -/
theorem wpS_resume {β : Type} {g : Nat} {gs : GenState} {l : List Value} {k : GenResult → Sem β} {Q : β → Shared → Prop} {E : Value → Shared → Prop} (hg : s.gens[g]? = some gs) (hgo : GOn P w A R Y gs (s.setGen g .running))
    (hR : ∀ s', R s' → wpS P w A (k (.returned .none)) Q E (s'.setGen g .finished)) (hY : ∀ v s' gs', Y v s' gs' → wpS P w A (k (.yielded v)) Q E (s'.setGen g gs')) : wpS P w A (.resume g (.send .none) l k) Q E s := fun c p st hI K H gd lv => by
  cases gs with
  | fresh c' =>
    refine .lift (go_one (step_resume_fresh _ _ _ _ _ (lv l) _ hg) .here) ?_
    rcases hgo p g (fun x => (k x).wrap K H gd lv) (lv l) c p st hI with ⟨s', q, g1⟩ | ⟨s', v, gs, q, g1⟩
    · exact .lift g1 (hR s' q c p st hI K H gd lv)
    · exact .lift g1 (hY v s' gs q c p st hI K H gd lv)
  | suspended kk l1 c' p' fs cl =>
    refine .lift (go_one (step_resume_suspended _ _ _ _ _ (.send .none) (lv l) _ hg) .here) ?_
    rcases hgo p' g (fun x => (k x).wrap K H gd lv) (lv l) c p st hI with ⟨s', q, g1⟩ | ⟨s', v, gs, q, g1⟩
    · exact .lift g1 (hR s' q c p st hI K H gd lv)
    · exact .lift g1 (hY v s' gs q c p st hI K H gd lv)
  | running => exact hgo.elim
  | finished => exact hgo.elim

/-! ### the generator object -/
/-- a generator's object that nobody sleeps over -/
def GObj (h : Heap) (a : Addr) (g : Nat) : Prop := ∃ o nm qn, h.get? a = some o ∧ o.cls = .type "generator" ∧ o.data = .fields #[.int g 0, nm, qn] ∧ (o.slots = #[] ∨ o.slots = #[some (.int 0 0)])
theorem GObj.typeIs {h : Heap} {a : Addr} {g : Nat} {s : Shared} (x : GObj h a g) (e : s.heap = h) : s.TypeIs (.ref a) "generator" := by
  obtain ⟨o, _, _, ho, hc, _⟩ := x
  exact ⟨o, by rw [e]; exact ho, hc⟩
theorem gnum_ok {M : Model} {A : Around} {E : Value → Shared → Prop} {a : Addr} {g : Nat} {Q : Nat → Shared → Prop} (hg : GObj s.heap a g) (h : Q g s) : wpAny M A (Builtin.Generator.genNumber (.ref a)) Q E s := by
  obtain ⟨o, nm, qn, ho, _, hd, hsl⟩ := hg
  unfold Builtin.Generator.genNumber
  refine wpAny_bind (wpAny_load ho ?_)
  have fin : wpAny M A (pure ((g : Int).toNat)) Q E s := by rw [Int.toNat_natCast]; exact wpAny_pure h
  rcases hsl with e | e
  · rw [e, hd]
    exact fin
  · rw [e, hd]
    exact fin
/-- the code of a call to a built-in, by its entry -/
theorem codeS_builtin {id : String} {args : Args} {b : Builtin} {A : Around} {RR : Result → Shared → Prop} {s : Shared} (hp : plainId id = true) (hb : entryFor table id = some b)
    (h : wpS P w A.in1 (checkBuiltinCall id args) (fun _ s1 => wpS P w A.in1 (b args) (fun fin s' => match fin with | .done f => RR (.ok f) s' | .again c' => c'.quiet = true ∧ codeS P w A c' RR s') (fun e s' => RR (.error e) s') s1) (fun e s' => RR (.error e) s') s) :
    codeS P w A (.call (.builtin id) args) RR s := by
  refine codeS_tree ?_
  show wpS P w A.in1 (checkBuiltinCall id args >>= fun _ => again (.builtin id args)) _ _ s
  refine wpS_bind (wpS_mono h (fun _ s1 h1 => wpS_pure (And.intro (plainId_quiet hp _) (codeS_tree ?_))) fun _ _ z => z)
  rw [Around.under_plainId hp]
  show wpS P w _ (match entryFor table id with | some b => b args | none => _) _ _ s1
  rw [hb]
  exact h1
theorem wpS_call_entry {A : Around} {E : Value → Shared → Prop} {s : Shared} {T : String} {name : Str} {id : String} {b : Builtin} {self : Value} {rest : List Value} {Q : Value → Shared → Prop} (h : Slot T name id) (hT : s.TypeIs self T)
    (hb : entryFor table id = some b) (ha : argsOk id ⟨self :: rest, []⟩) (hc : wpS P w A.in1 (b ⟨self :: rest, []⟩) (fun fin s' => ∃ v, fin = .done (.ret v) ∧ Q v s') E s) :
    wpS P w A (call (.builtin id) (self :: rest)) Q E s :=
  wpS_call (codeS_builtin h.plain hb (wpS_of (h.check _ _ _ _ _ _ _ _ hT ha (wpS_mono hc (fun fin s' h' => by obtain ⟨v, rfl, hv⟩ := h'; exact hv) fun _ _ h' => h'))))
/-- the next value of a generator, by its special method -/
theorem wake_S {a : Addr} {g : Nat} {gs : GenState} {Q : Option Value → Shared → Prop} {E : Value → Shared → Prop} (hh : A.handled = none) (hl : s.heap.NoLimit) (hroom : A.depth < recursionLimit) (hg : GObj s.heap a g) (hgs : s.gens[g]? = some gs)
    (hgo : GOn P w A.in1 R Y gs (s.setGen g .running)) (hY : ∀ v s1 gs', Y v s1 gs' → Q (some v) (s1.setGen g gs'))
    (hR : ∀ s1, R s1 → ∀ e h', StopX e h' → (∃ o, e = .ref o ∧ s1.heap.objs.size ≤ o ∧ ∃ ob, h'.get? o = some ob ∧ ob.cls = .type "StopIteration") → (∀ b o, s1.heap.get? b = some o → h'.get? b = some o) → s1.heap.objs.size ≤ h'.objs.size → E e { s1.setGen g .finished with heap := h' }) :
    wpS P w A (callSpecial? (.ref a) "__next__") Q E s := by
  simp only [callSpecial?]
  have hT := hg.typeIs (s := s) rfl
  refine wpS_bind (wpS_of (wpAny_specialOf (name := Str.ofString "__next__") hT slot_gen_next.lookup ?_))
  simp only [slot_gen_next.bind]
  refine wpS_holding (wpS_bind (wpS_pure (wpS_bind (wpS_mono (Q := fun v s' => Q (some v) s') ?_ (fun v s' z => wpS_pure z) fun _ _ z => z))))
  refine wpS_call_entry slot_gen_next hT entry_gen_next (args_gen_next _) ?_
  show wpS P w A.in1 (Builtin.Generator.genWake (.ref a) (.send .none)) _ _ s
  unfold Builtin.Generator.genWake
  refine wpS_bind (wpS_holding (wpS_of (gnum_ok hg (wpS_bind (wpS_of (wpAny_genState hgs ?_))))))
  cases gs with
  | running => exact hgo.elim
  | finished => exact hgo.elim
  | _ =>
    refine wpS_bind (wpS_of (wpAny_roomToWake hl hroom ?_))
    show wpS P w A.in1 (.resume g (.send .none) [] _) _ _ s
    refine wpS_resume hgs hgo (fun s1 hr => ?_) fun v s1 gs' hy => ?_
    · refine wpS_of ?_
      show wpAny _ A.in1 (newExc (.type "StopIteration") [] >>= _) _ _ _
      refine wpAny_bind ?_
      simp only [newExc, newTuple]
      refine wpAny_bind (wpAny_newObj_type ?_ (by size_fits))
      refine wpAny_bind (m := firstArgMember _ _) (wpAny_of_eq (a := Value.none) (by first | rfl | (simp only [firstArgMember]; rfl)) ?_)
      refine wpAny_newObj_type ?_ (by size_fits)
      simp only [raiseNew]
      refine wpAny_bind (wpAny_bind (wpAny_handled ?_))
      first | rw [show A.in1.handled = none from hh] | rw [hh]
      refine wpAny_throw ?_
      refine hR s1 hr _ _ ⟨_, _, _, rfl, Heap.get?_push_size _ rfl, rfl, rfl, ?_⟩ ⟨_, rfl, ?_, _, Heap.get?_push_size _ rfl, rfl⟩ (fun b o e => Heap.get?_push_of_some _ (Heap.get?_push_of_some _ e)) ?_
      · first
          | rfl
          | (rw [Array.getElem?_append_left (by decide)]; rfl)
          | kernel_rfl
      · rw [Heap.size_push]; exact Nat.le_succ _
      · rw [Heap.size_push, Heap.size_push]; exact Nat.le_succ_of_le (Nat.le_succ _)
    · exact wpS_pure ⟨v, rfl, hY v s1 gs' hy⟩
end
end Gz
end
section
set_option Elab.async false
set_option maxRecDepth 100000
set_option autoImplicit false
/-! statements of a generator's body, on the machine -/
namespace Gz
open PySem PySem.Spec L2
open PyProof.Rows hiding St
section
variable {P : Program} {w : World} {A : Around} {R : Shared → Prop} {Y : Value → Shared → GenState → Prop} {c : Code} {fs : List Frame} {s : Shared} {env : Env} {K : Flow → Sem Fin} {J : Value → Sem Fin} {gd : Bool → Bool} {lv : List Value → List Value}
theorem grun_cons {st : Stmt} {rest : List Stmt} (h : GRun P w A R Y c ((exec st env).wrap (fun f => match f with | .next => (execs rest env).wrap K J gd lv | f => K f) J gd lv) fs s) :
    GRun P w A R Y c ((execs (st :: rest) env).wrap K J gd lv) fs s := by
  rw [execs_cons_wrap]
  exact h
/-- past a place -/
theorem grun_stand {α : Type} {q : Pos} {f : Unit → Sem α} {KK : α → Sem Fin} (h : GRun P w A R Y c ((f ()).wrap KK J gd lv) fs s) : GRun P w A R Y c ((standAt q >>= f).wrap KK J gd lv) fs s := grun_at (p' := q) h
/-- yield e -/
theorem grun_stYield {e : Expr} {yp pos : Pos} (hfs : splitAtGen fs = none) (hgd : gd false = false) (hfg : fs.any Frame.guarded = false)
    (h : wpS P w (A.over c fs) (eval e env) (fun v s' => ∀ (kk : Resume → Sem Fin) (l : List Value) (p : Pos), (∀ A1 R1 Y1 s1, GRun P w A1 R1 Y1 c (K .next) fs s1 → GRun P w A1 R1 Y1 c (kk (.send .none)) fs s1) → Y v s' (.suspended kk l c p fs false)) noE s)
    (hco : env.scope.isCoroutine = false := by rfl) (hi : interactive env = false := by rfl) : GRun P w A R Y c ((exec (.Expr (.Yield (some e) yp) pos) env).wrap K J gd lv) fs s := by
  rw [exec_Expr env _ pos hi rfl]
  show GRun P w A R Y c (.at pos fun _ => ((eval e env >>= fun v => (standAt yp >>= fun _ => yieldOut env v)) >>= fun x => dropValue (.Yield (some e) yp) pos x).wrap K J gd lv) fs s
  have hy : ∀ v, yieldOut env v = yieldValue v := fun v => by simp only [yieldOut, hco, Bool.false_eq_true, if_false]
  simp only [hy]
  refine grun_at ?_
  rw [Sem.bind_eq_wrap', Sem.bind_eq_wrap', Sem.wrap_wrap, Sem.wrap_wrap]
  refine grun_wrap (wpS_mono h (fun v s' h' => ?_) fun _ _ z => z)
  refine grun_at (grun_yield hfs (fun _ => ?_) fun p => ?_)
  · show closingShows s' fs c (gd false) = false
    unfold closingShows
    rw [hgd, hfg]
    rfl
  · rw [show ((fun g => gd (id g)) false || fs.any Frame.guarded) = false by
      show (gd false || _) = false
      rw [hgd, hfg]; rfl]
    exact h' _ _ p fun A1 R1 Y1 s1 z => z
/-- if test: body else: orelse -/
theorem grun_stIf {test : Expr} {body orelse : List Stmt} {pos : Pos} (h : wpS P w (A.over c fs) (isTrue test env (eval test env)) (fun b s' => GRun P w A R Y c ((if b = true then execs body env else execs orelse env).wrap K J gd lv) fs s') noE s) :
    GRun P w A R Y c ((exec (.If test body orelse pos) env).wrap K J gd lv) fs s := by
  rw [exec_If]
  exact grun_stand (grun_wbind h)
/-- for target in iter: body, up to the loop's code -/
theorem grun_stFor {tg iter : Expr} {body : List Stmt} {pos : Pos} (hs : ∀ x, foldedSetIterable iter env x = pure x)
    (h : wpS P w (A.over c fs) (eval iter env) (fun v s1 => wpS P w (A.over c fs) (pyIter v) (fun u s2 => ∀ (k : Result → Sem Fin) (l : List Value) (p : Pos), (∀ f, k (.ok f) = K f) →
      GRun P w A R Y (.forLoop tg u body [] env) (denote table (.forLoop tg u body [] env)) (.ret k none (gd false) l c p [] :: fs) s2) noE s1) noE s) : GRun P w A R Y c ((exec (.For tg iter body [] pos) env).wrap K J gd lv) fs s := by
  rw [exec_For]
  refine grun_stand (grun_wbind (wpS_mono h (fun v s1 h1 => ?_) fun _ _ z => z))
  rw [hs v]
  refine grun_wbind (wpS_pure (grun_stand ?_))
  refine grun_wbind (wpS_holding (wpS_mono h1 (fun u s2 h2 => ?_) fun _ _ z => z))
  refine grun_call fun p => ?_
  exact h2 _ _ p fun f => rfl
/-- what a turn's body leaves to do -/
def turnEnd (tg : Expr) (it : Addr) (body : List Stmt) (env : Env) : Flow → Sem Fin
  | .next => .pure (.again (.forLoop tg (.ref it) body [] env))
  | .cont => .pure (.again (.forLoop tg (.ref it) body [] env))
  | .brk => .pure (.done .next)
  | .ret v => .pure (.done (.ret v))
/-- one turn of the loop's code -/
theorem grun_forTurn {tg : Expr} {it : Addr} {body : List Stmt} (h : wpS P w (A.over (.forLoop tg (.ref it) body [] env) fs) (pyNext (.ref it)) (fun r s1 => match r with
      | none => GRun P w A R Y (.block [] env) (denote table (.block [] env)) fs s1
      | some v => wpS P w (A.over (.forLoop tg (.ref it) body [] env) fs) (letOwnedTupleGo tg (.ref it) v) (fun _ s2 => wpS P w (A.over (.forLoop tg (.ref it) body [] env) fs) (assign tg env v) (fun _ s3 =>
          ∀ (Kb : Flow → Sem Fin) (Jb : Value → Sem Fin) (gb : Bool → Bool) (lb : List Value → List Value), (∀ f, Kb f = turnEnd tg it body env f) → gb false = false → GRun P w A R Y (.forLoop tg (.ref it) body [] env) ((execs body env).wrap Kb Jb gb lb) fs s3) noE s2) noE s1) noE s) :
    GRun P w A R Y (.forLoop tg (.ref it) body [] env) (denote table (.forLoop tg (.ref it) body [] env)) fs s := by
  show GRun P w A R Y _ ((forTurn tg (.ref it) body [] env).onRaise (fun x => do noteFrame x env; theTreesLotGoes x)) fs s
  rw [Sem.onRaise_eq_wrap]
  unfold forTurn
  refine grun_stand ?_
  refine grun_wbind (wpS_onRaise (wpS_mono h (fun r s1 h1 => ?_) fun _ _ z => False.elim z))
  cases r with
  | none => exact grun_again rfl h1
  | some v =>
    refine grun_wbind (wpS_mono h1 (fun _ s2 h2 => ?_) fun _ _ z => z)
    refine grun_wbind (wpS_mono h2 (fun _ s3 h3 => ?_) fun _ _ z => z)
    rw [Sem.bind_eq_wrap', Sem.wrap_wrap]
    exact h3 _ _ _ _ (fun f => by cases f <;> rfl) rfl
/-- yield from e, up to its own code -/
theorem grun_stFrom {e : Expr} {yp pos : Pos} (hi : interactive env = false) (h : wpS P w (A.over c fs) (eval e env) (fun v s1 => s1.TypeIs v "generator" ∧ wpS P w (A.over c fs) (pyIter v) (fun u s2 => ∀ (k : Result → Sem Fin) (l : List Value) (p : Pos), k (.ok (.ret .none)) = K .next →
      GRun P w A R Y (.builtin "proto.yield_from" ⟨[u, .bool false, .none], []⟩) (denote table (.builtin "proto.yield_from" ⟨[u, .bool false, .none], []⟩)) (.ret k none (gd false) l c p [] :: fs) s2) noE s1) noE s) :
    GRun P w A R Y c ((exec (.Expr (.YieldFrom e yp) pos) env).wrap K J gd lv) fs s := by
  rw [exec_Expr env _ pos hi rfl]
  show GRun P w A R Y c ((standAt pos >>= fun _ => ((eval e env >>= fun v => (standAt yp >>= fun _ => yieldFrom env v)) >>= fun x => dropValue (.YieldFrom e yp) pos x)).wrap K J gd lv) fs s
  refine grun_stand ?_
  rw [Sem.bind_eq_wrap' (eval e env >>= fun v => (standAt yp >>= fun _ => yieldFrom env v)), Sem.wrap_wrap]
  refine grun_wbind (wpS_mono h (fun v s1 h1 => ?_) fun _ _ z => z)
  obtain ⟨hT, h1⟩ := h1
  refine grun_stand ?_
  unfold yieldFrom
  refine grun_wbind (wpS_of (wpAny_typeOf hT ?_))
  rw [if_neg (by decide)]
  refine grun_wbind (wpS_holding (wpS_mono h1 (fun u s2 h2 => ?_) fun _ _ z => z))
  refine grun_call fun p => ?_
  exact h2 _ _ p rfl
end
end Gz
end
section
set_option Elab.async false
set_option maxRecDepth 100000
set_option autoImplicit false
/-! yield from a generator, on the machine -/
namespace Gz
open PySem PySem.Spec L2
open PyProof.Rows hiding St
/-- a generator's object over which n delegates sleep -/
def GMark (h : Heap) (a : Addr) (g : Nat) (n : Int) : Prop := ∃ o nm qn, h.get? a = some o ∧ o.cls = .type "generator" ∧ o.data = .fields #[.int g 0, nm, qn] ∧ o.slots = #[some (.int n 0)]
theorem GMark.obj {h : Heap} {a : Addr} {g : Nat} (x : GMark h a g 0) : GObj h a g := by
  obtain ⟨o, nm, qn, e, c, d, sl⟩ := x
  exact ⟨o, nm, qn, e, c, d, .inr sl⟩
theorem gmark_upd {h : Heap} {a : Addr} {g : Nat} {n : Int} {o : Obj} {nm qn : Value} {f : Obj → Obj} (e : h.get? a = some o) (c : o.cls = .type "generator") (d : o.data = .fields #[.int g 0, nm, qn]) (hf : f o = { o with slots := #[some (.int n 0)] }) :
    GMark (h.update a f) a g n := by
  have hfr : o.isFreed = false := Obj.isFreed_of_fields d
  have hfr' : (f o).isFreed = false := by rw [hf]; exact Obj.isFreed_of_fields (o := { o with slots := #[some (.int n 0)] }) d
  have q := Heap.get?_update_self f e hfr'
  rw [hf] at q
  exact ⟨_, nm, qn, q, c, d, rfl⟩
section
variable {M : Model} {A : Around} {E : Value → Shared → Prop} {s : Shared} {a : Addr} {g : Nat} {Q : Unit → Shared → Prop}
theorem slept_on (hg : GObj s.heap a g) (h : ∀ h', GMark h' a g 1 → (∀ b o, b ≠ a → s.heap.get? b = some o → h'.get? b = some o) → h'.objs.size = s.heap.objs.size → Q () { s with heap := h' }) :
    wpAny M A (Builtin.Generator.sleptOver (.ref a) true) Q E s := by
  obtain ⟨o, nm, qn, ho, hc, hd, hsl⟩ := hg
  unfold Builtin.Generator.sleptOver
  refine wpAny_bind (wpAny_load ho ?_)
  rw [hc, if_neg (by decide)]
  dsimp only
  unfold setSlotAt
  rw [if_neg (by rw [sizeLine_eq]; decide)]
  refine wpAny_updatePart ho (h _ (gmark_upd ho hc hd ?_) (fun b u nb e => (Heap.get?_update_other _ _ (Ne.symm nb)).trans e) ?_)
  · rcases hsl with z | z <;> rw [z] <;> rfl
  · show (s.heap.objs.modify _ _).size = _
    rw [Array.size_modify]
theorem slept_off (hg : GMark s.heap a g 1) (h : ∀ h', GMark h' a g 0 → (∀ b o, b ≠ a → s.heap.get? b = some o → h'.get? b = some o) → h'.objs.size = s.heap.objs.size → Q () { s with heap := h' }) :
    wpAny M A (Builtin.Generator.sleptOver (.ref a) false) Q E s := by
  obtain ⟨o, nm, qn, ho, hc, hd, hsl⟩ := hg
  unfold Builtin.Generator.sleptOver
  refine wpAny_bind (wpAny_load ho ?_)
  rw [hc, if_neg (by decide)]
  dsimp only
  unfold setSlotAt
  rw [if_neg (by rw [sizeLine_eq]; decide)]
  refine wpAny_updatePart ho (h _ (gmark_upd ho hc hd ?_) (fun b u nb e => (Heap.get?_update_other _ _ (Ne.symm nb)).trans e) ?_)
  · rw [hsl]; rfl
  · show (s.heap.objs.modify _ _).size = _
    rw [Array.size_modify]
end
theorem close_gen : ∃ v, typeLookup (.type "generator") "close" = pure (some v) := ⟨.builtin "generator.close", by rw [typeLookup_type, builtinLookup_eq_fast]; kernel_rfl⟩
abbrev yfc (a : Addr) : Code := .builtin "proto.yield_from" ⟨[.ref a, .bool false, .none], []⟩
section
variable {P : Program} {w : World} {A : Around} {R R1 : Shared → Prop} {Y Y1 : Value → Shared → GenState → Prop} {fs : List Frame} {s : Shared}
/-- how a delegate wakes -/
def Delegates (P : Program) (w : World) (a : Addr) (g : Nat) (fs : List Frame) (kk : Resume → Sem Fin) : Prop := ∀ A R Y (s : Shared), GMark s.heap a g 1 →
  (∀ h', GMark h' a g 0 → (∀ b o, b ≠ a → s.heap.get? b = some o → h'.get? b = some o) → h'.objs.size = s.heap.objs.size → GRun P w A R Y (yfc a) (denote table (yfc a)) fs { s with heap := h' }) → GRun P w A R Y (yfc a) (kk (.send .none)) fs s
theorem den_entry {id : String} {args : Args} {b : Builtin} (hb : entryFor table id = some b) : denote table (.builtin id args) = b args := by
  show (match entryFor table id with | some b => b args | none => _) = _
  rw [hb]
theorem den_yfc (a : Addr) : denote table (yfc a) = Builtin.«proto.yield_from» ⟨[.ref a, .bool false, .none], []⟩ := den_entry entry_yf
theorem yf_quiet {a : Addr} {g : Nat} {n : Int} (hm : GMark s.heap a g n) (ha : s.asleep) (hgd : fs.any Frame.guarded = false) : closingShows s fs (yfc a) true = false := by
  obtain ⟨o, nm, qn, ho, hoc, hod, _⟩ := hm
  have hn : o.genNumber? = some g := by
    unfold Obj.genNumber?
    rw [hoc, hod]
    rfl
  unfold closingShows
  rw [hgd]
  show (true && delegateShows s (.ref a)) = false
  unfold delegateShows
  dsimp only
  rw [ho]
  dsimp only
  rw [hn, ha.1]
  rfl
/-- one turn -/
theorem grun_yf {a : Addr} {g : Nat} {gs : GenState} (hh : (A.over (yfc a) fs).handled = none) (hl : s.heap.NoLimit) (hroom : (A.over (yfc a) fs).depth < recursionLimit) (hsp : splitAtGen fs = none) (hgd : fs.any Frame.guarded = false)
    (hg : GObj s.heap a g) (hgs : s.gens[g]? = some gs) (hgo : GOn P w (A.over (yfc a) fs).in1 R1 Y1 gs (s.setGen g .running))
    (hY : ∀ v s1 gs', Y1 v s1 gs' → GObj s1.heap a g ∧ ∀ h', GMark h' a g 1 → (∀ b o, b ≠ a → s1.heap.get? b = some o → h'.get? b = some o) → h'.objs.size = s1.heap.objs.size →
      ∀ kk l p, Delegates P w a g fs kk → Y v { s1.setGen g gs' with heap := h' } (.suspended kk l (yfc a) p fs true))
    (hR : ∀ s1, R1 s1 → ∀ h', (∀ b o, s1.heap.get? b = some o → h'.get? b = some o) → s1.heap.objs.size ≤ h'.objs.size → GRun P w A R Y (yfc a) (.pure (.done (.ret .none))) fs { s1.setGen g .finished with heap := h' }) :
    GRun P w A R Y (yfc a) (denote table (yfc a)) fs s := by
  rw [den_yfc]
  unfold Builtin.«proto.yield_from»
  try dsimp only
  refine grun_bind (wpS_pure ?_)
  try dsimp only
  refine grun_bind (wpS_attempt (wpS_holding ?_))
  rw [if_neg Bool.false_ne_true, if_pos (show (Value.none == Value.none) = true from rfl)]
  refine wpS_bind (wpS_of (wpAny_rule (wpS_bind ?_)))
  refine wake_S hh hl hroom hg hgs hgo (fun v s1 gs' hy => ?_) (fun s1 hr e h' hS hcls hk hz => ?_)
  · obtain ⟨go, hy⟩ := hY v s1 gs' hy
    refine wpS_pure ?_
    try dsimp only
    obtain ⟨cv, hcl⟩ := close_gen
    refine grun_bind (wpS_of (wpAny_typeOf (s := s1.setGen g gs') (go.typeIs rfl) ?_))
    try dsimp only
    first
      | (refine grun_bind (wpS_of (wpAny_of_eq hcl ?_)); refine grun_bind (wpS_pure ?_))
      | refine grun_bind (wpS_bind (wpS_of (wpAny_of_eq hcl (wpS_pure ?_))))
      | refine grun_bind (wpS_of (wpAny_of_eq hcl ?_))
    try dsimp only
    refine grun_bind (wpS_of (slept_on (s := s1.setGen g gs') go fun h' hm hk hz => ?_))
    refine grun_yield hsp (fun ha => yf_quiet (s := { s1.setGen g gs' with heap := h' }) hm ha hgd) fun p => ?_
    refine hy h' hm hk hz _ _ p fun A3 R3 Y3 s3 m3 h3 => ?_
    show GRun P w A3 R3 Y3 (yfc a) (Builtin.Generator.sleptOver (.ref a) false >>= fun _ => _) fs s3
    refine grun_bind (wpS_of (slept_off m3 fun h4 m4 k4 z4 => ?_))
    refine grun_bind (wpS_pure ?_)
    exact grun_again (plainId_quiet plain_yf _) (h3 h4 m4 k4 z4)
  · obtain ⟨o, rfl, ho, ob, hob, hoc⟩ := hcls
    obtain ⟨a', o', vs, e', hoa, hcls, hdat, h5⟩ := hS
    cases e'
    try dsimp only
    refine grun_bind (wpS_of (wpAny_endsTurn hoa hcls ?_))
    try dsimp only
    rw [if_pos rfl]
    first
      | refine grun_bind (wpS_of (wpAny_rule ?_))
      | (rw [if_neg Bool.false_ne_true]; refine grun_bind (wpS_of (wpAny_rule ?_)))
      | (rw [if_neg Bool.false_ne_true]; refine grun_bind (wpS_pure ?_); refine grun_bind (wpS_of (wpAny_rule ?_)))
    refine grun_bind (wpS_of (wpAny_field hoa hdat h5 ?_))
    exact hR s1 hr h' hk hz
end
end Gz
end
section
set_option Elab.async false
set_option maxRecDepth 100000
set_option autoImplicit false
/-! a generator's body by the kit's judgements: a fresh context at each wake -/
namespace Gz
open PySem PySem.Spec L2
open PyProof.Rows hiding St
/-! ### the around of a delegate's code -/
theorem over_plain {A : Around} {c : Code} {id : String} {args : Args} {fs : List Frame} {k : Result → Sem Fin} {g : Bool} {l kp : List Value} {p : Pos} (hp : plainId id = true) : A.over (.builtin id args) (.ret k none g l c p kp :: fs) = (A.over c fs).in1 := by
  have hw := plainId_weight hp args
  have hu := plainId_units hp args
  have z1 : frameCount ((Frame.ret k none g l c p kp :: fs).map Frame.where_) = frameCount (fs.map Frame.where_) + c.weight := (frameCount_cons ..).trans (Nat.add_comm ..)
  have z2 : pushEnvs (envsOf ((Frame.ret k none g l c p kp :: fs).map Frame.where_)) A.frames = pushEnvs c.envs (pushEnvs (envsOf (fs.map Frame.where_)) A.frames) := by
    show pushEnvs (envsOf ((c, p) :: fs.map Frame.where_)) A.frames = _
    rw [envsOf_cons]
    simp only [pushEnvs_eq]
    cases A.frames <;> simp [List.append_assoc]
  have z3 : pushGuards (guardsOf ((Frame.ret k none g l c p kp :: fs).map Frame.where_)) A.guards = pushGuards c.guards (pushGuards (guardsOf (fs.map Frame.where_)) A.guards) := by
    show pushGuards (guardsOf ((c, p) :: fs.map Frame.where_)) A.guards = _
    rw [guardsOf_cons]
    simp only [pushGuards_eq]
    cases A.guards <;> simp [List.append_assoc]
  have z4 : unitsOf ((Frame.ret k none g l c p kp :: fs).map Frame.where_) = unitsOf (fs.map Frame.where_) + c.cUnits := (unitsOf_cons ..).trans (Nat.add_comm ..)
  unfold Around.over Around.in1
  rw [z1, z2, z3, z4, hw, hu, Code.envs_of_weight hw, Code.guards_of_weight hw]
  have z5 : ∀ o : Option (List Env), pushEnvs [] o = o := fun o => by cases o <;> rfl
  have z6 : ∀ o : Option (List Code), pushGuards [] o = o := fun o => by cases o <;> rfl
  rw [z5, z6, ← Nat.add_assoc, ← Nat.add_assoc]
  rfl
/-! ### the first n objects -/
def pre (h : Heap) (n : Nat) : Heap := { h with objs := h.objs.extract 0 n }
section
variable {h : Heap} {n a : Nat} {o : Obj}
theorem pre_at (ha : a < n) : (pre h n).get? a = h.get? a := by
  have q : (pre h n).objs[a]? = h.objs[a]? := by
    show (h.objs.extract 0 n)[a]? = _
    rw [Array.getElem?_extract]
    simp only [Nat.sub_zero, Nat.zero_add]
    split
    · rfl
    · rename_i z
      have : h.objs.size ≤ a := by omega
      rw [Array.getElem?_eq_none this]
  unfold Heap.get?
  rw [q]
theorem pre_size (hn : n ≤ h.objs.size) : (pre h n).objs.size = n := by
  show (h.objs.extract 0 n).size = n
  rw [Array.size_extract]
  omega
theorem pre_lt (e : (pre h n).get? a = some o) : a < n := by
  have q := Heap.lt_size e
  have z : (pre h n).objs.size ≤ n := by
    show (h.objs.extract 0 n).size ≤ n
    rw [Array.size_extract]
    omega
  exact Nat.lt_of_lt_of_le q z
theorem of_pre (e : (pre h n).get? a = some o) : h.get? a = some o := by rw [← pre_at (pre_lt e)]; exact e
end
/-! ### what is tracked: nothing but what does not change -/
/-- tuples that stand -/
def Dt (P : Program) (w : World) (T : Hp) (h : Heap) : Prop := ∀ b xs, T b = some (.tup xs) → ObjOk P w T h b (.tup xs)
theorem Dt.keep {P : Program} {w : World} {T : Hp} {h h' : Heap} (d : Dt P w T h) (k : ∀ b o, T b ≠ none → h.get? b = some o → h'.get? b = some o) : Dt P w T h' := fun b xs e => by
  obtain ⟨z, its, r, ob, e1, c⟩ := d b xs e
  exact ⟨z, its, r, ob, k b ob (by rw [e]; simp) e1, c⟩
/-- all as it stands, but the module's and what may turn -/
def frzH (T : Hp) (base : Heap) (ns : List Addr) (h : Heap) : Hp := fun b => if b ∈ ns then none else match base.get? b, h.get? b with
  | some _, _ => none
  | none, none => none
  | none, some o => some (.frz o (match T b with | some (.tup xs) => .tup xs | _ => .own 0))
section
variable {P : Program} {w : World} {T : Hp} {base : Heap} {ns : List Addr} {h : Heap} {b : Addr} {o : Obj}
theorem frz_ns (hb : b ∈ ns) : frzH T base ns h b = none := by unfold frzH; rw [if_pos hb]
theorem frz_base {o : Obj} (e : base.get? b = some o) : frzH T base ns h b = none := by
  unfold frzH
  split
  · rfl
  · rw [e]
theorem frz_at (hb : b ∉ ns) (hn : base.get? b = none) (e : h.get? b = some o) : frzH T base ns h b = some (.frz o (match T b with | some (.tup xs) => .tup xs | _ => .own 0)) := by
  unfold frzH
  rw [if_neg hb, hn, e]
theorem frz_tup {xs : List V} (d : Dt P w T h) (hb : b ∉ ns) (hn : base.get? b = none) (e : T b = some (.tup xs)) : Rd (frzH T base ns h) b (.tup xs) := by
  obtain ⟨_, _, _, ob, e1, _⟩ := d b xs e
  refine .inr ⟨ob, ?_⟩
  rw [frz_at hb hn e1, e]
theorem frz_ok (d : Dt P w T h) : HOk P w (frzH T base ns h) h := fun b u e => by
  unfold frzH at e
  split at e
  · cases e
  · split at e
    · cases e
    · cases e
    · rename_i o _ ho
      cases e
      refine ⟨ho, ?_⟩
      split
      · rename_i xs q
        obtain ⟨z, its, r, p⟩ := d b xs q
        exact ⟨z, its, r, p⟩
      · exact ⟨o, ho⟩
end
/-! ### the context -/
/-- a generator def's frame at n -/
structure GDef where
  prog : Program
  w : World
  K : PySem.W.Frag
  mg : Str → Option Value
  base : Heap
  N : List Str
  qual : Str
  scope : Scope
  f : Addr
  cd : Value
abbrev GDef.env (D : GDef) (n : Nat) : Env := envOfC D.qual D.scope n D.f D.cd
def gCx (D : GDef) (n : Nat) (A : Around) (outer : List Env) (s : Shared) (H : Hp) : Cx :=
  { prog := D.prog, w := D.w, K := D.K, mg := D.mg, base := D.base, A := A.deeper (D.env n), N := D.N, s_0 := { s with heap := pre s.heap n, gens := #[] }, H_0 := H, env := D.env n, outer := outer, stack := D.env n :: outer, ex := [], fn := fun _ => true, calm := true, pn := [], xe := fun _ _ => False }
structure GDef.Ok (D : GDef) : Prop where
  mod : Mod D.K D.mg D.base
  kind : D.scope.kind = .function
  plain : ∀ x, D.scope.names.lookup x ≠ some .cell ∧ D.scope.names.lookup x ≠ some .free
  nocell : ∀ n, cellsFrom n D.scope.names [] = []
/-- the world around at a wake of the frame at n -/
structure Wk (D : GDef) (T : Hp) (k n : Nat) (A : Around) (outer : List Env) (s : Shared) : Prop where
  room : Room k A
  frames : A.frames = some outer
  lo : ∀ b ∈ frs outer, b < n
  base : ∀ b o, D.base.get? b = some o → s.heap.get? b = some o
  funs : s.heap.FunFrames D.base outer
  dat : Dt D.prog D.w T s.heap
  tf : ∀ b ∈ frs outer, T b = none
  size : n ≤ s.heap.objs.size
/-- what never changes -/
structure GFix (D : GDef) (n : Nat) : Prop where
  ok : D.Ok
  bsz : D.base.objs.size ≤ n
structure TFix (D : GDef) (T : Hp) (n : Nat) : Prop where
  tlt : ∀ b, T b ≠ none → b < n
  tb : ∀ b o, D.base.get? b = some o → T b = none
section
variable {D : GDef} {T : Hp} {k n : Nat} {A : Around} {outer : List Env} {s : Shared} {σ : L2.St} {ip : List Addr}
theorem pre_frames {h base : Heap} {n : Nat} : ∀ {l : List Env}, (∀ b ∈ frs l, b < n) → h.FunFrames base l → (pre h n).FunFrames base l
  | [], _, _ => trivial
  | env :: r, hl, ⟨hk, ⟨L, o, hf, hn, ho, hd⟩, hr⟩ => by
    have hL : L < n := hl L (by unfold frs; rw [List.filterMap_cons, hf]; exact List.mem_cons_self)
    exact ⟨hk, ⟨L, o, hf, hn, by rw [pre_at hL]; exact ho, hd⟩, pre_frames (fun b hb => hl b (by
      unfold frs at hb ⊢
      rw [List.filterMap_cons, hf]
      exact List.mem_cons_of_mem _ hb)) hr⟩
/-- awake: the frame stands, all else is frozen but the iterators at ip -/
theorem wake_inv (G : GFix D n) (W : Wk D T k n A outer s) (hl : ∃ m, s.heap.Ns n m ∧ ∀ (i : Nat) (x : Str) (v : V), D.N[i]? = some x → σ[i]? = some (some v) → Vis D.scope x → ∃ u, RelV v u ∧ (D.env n).kindOf x = some .local ∧ m x = some u) (hσ : σ.length = D.N.length) :
    InvG (gCx D n A outer s (frzH T D.base (n :: (ip ++ frs outer)) s.heap)) [] σ (frzH T D.base (n :: (ip ++ frs outer)) s.heap) s := by
  have nc : ∀ x c, (D.env n).cells.lookup x = some c → False := fun x c e => by
    have e' : (cellsFrom (n + 1) D.scope.names []).lookup x = some c := e
    rw [G.ok.nocell] at e'
    cases e'
  have nsf : ∀ b ∈ frs outer, frzH T D.base (n :: (ip ++ frs outer)) s.heap b = none := fun b hb => frz_ns (List.mem_cons_of_mem _ (List.mem_append_right _ hb))
  have hn0 : frzH T D.base (n :: (ip ++ frs outer)) s.heap n = none := frz_ns List.mem_cons_self
  have noA : ∀ b : Addr, b ∉ ([] : List Addr) := fun b z => nomatch z
  refine ⟨⟨G.ok.mod, G.ok.kind, rfl, rfl, ?_, fun x y c e => (nc x c e).elim, fun x hx => ?_, fun x c _ e => (nc x c e).elim, fun _ => W.room.hd, Around.frames_deeper W.frames, .inr ⟨rfl, rfl⟩, fun b z => absurd z (noA b), fun b o e => ⟨?_, frz_base e⟩, ?_, fun b _ _ => noA b, fun b z => absurd z (noA b), pre_frames W.lo W.funs, nsf⟩,
    rfl, AllBare.empty, Un.kept fun b o e => of_pre e, ?_, fun x c e => (nc x c e).elim, hn0, fun x c e => (nc x c e).elim, fun p hp => absurd (show p ∈ ([] : List (Addr × Obj)) from hp) (by simp), frz_ok W.dat, hσ⟩
  · show (pre s.heap n).objs.size ≤ n
    exact Nat.le_of_eq (pre_size W.size)
  · have hx' : D.scope.names.lookup x = some .cell ∨ D.scope.names.lookup x = some .free := hx
    rcases hx' with z | z
    · exact absurd z (G.ok.plain x).1
    · exact absurd z (G.ok.plain x).2
  · show (pre s.heap n).get? b = some o
    rw [pre_at (Nat.lt_of_lt_of_le (Heap.lt_size e) G.bsz)]
    exact W.base b o e
  · show D.base.objs.size ≤ (pre s.heap n).objs.size
    rw [pre_size W.size]
    exact G.bsz
  · obtain ⟨m, hm, hv⟩ := hl
    refine ⟨m, hm, fun i x v e1 e2 e3 => ?_⟩
    obtain ⟨u, r, z1, z2⟩ := hv i x v e1 e2 e3
    exact ⟨u, r, .inl ⟨z1, z2⟩⟩
/-- what a run of the frame left: all else is kept -/
theorem frz_keep {H' : Hp} {pins : List (Addr × Obj)} {s' : Shared} (W : Wk D T k n A outer s) (I : InvG (gCx D n A outer s (frzH T D.base (n :: (ip ++ frs outer)) s.heap)) pins σ H' s') :
    (∀ b o, s.heap.get? b = some o → b ≠ n → b ∉ ip → b ∉ frs outer → s'.heap.get? b = some o) ∧ (∀ b o, s.heap.get? b = some o → b ∈ frs outer → ∃ sl, s'.heap.get? b = some { o with slots := sl }) ∧ s'.os = s.os := by
  refine ⟨fun b o e h1 h2 h3 => ?_, fun b o e hb => ?_, I.os⟩
  · cases q : D.base.get? b with
    | some u =>
      have z := W.base b u q
      rw [e] at z
      cases z
      exact Inv.bk I b _ q
    | none =>
      have hns : b ∉ n :: (ip ++ frs outer) := fun hm => by
        rcases List.mem_cons.mp hm with z | z
        · exact h1 z
        · rcases List.mem_append.mp z with z | z
          · exact h2 z
          · exact h3 z
      have f := I.base.frzs b _ _ (frz_at (T := T) hns q e)
      obtain ⟨z, _⟩ := I.hok b _ f
      exact z
  · have hs : (pre s.heap n).get? b = some o := by rw [pre_at (W.lo b hb)]; exact e
    exact I.base.slot b o hs (frz_ns (List.mem_cons_of_mem _ (List.mem_append_right _ hb))) hb (fun z => nomatch z)
end
end Gz
end
section
set_option Elab.async false
set_option maxRecDepth 100000
set_option autoImplicit false
/-! what a generator promises to who draws from it -/
namespace Gz
open PySem PySem.Spec L2
open PyProof.Rows hiding St
/-- alive, no cell -/
def Al (h : Heap) (b : Addr) : Prop := ∃ o, h.get? b = some o ∧ ∀ v, o.data ≠ .cell v
theorem Al.lt {h : Heap} {b : Addr} (x : Al h b) : b < h.objs.size := by
  obtain ⟨o, e, _⟩ := x
  exact Heap.lt_size e
theorem Al.keep {h h' : Heap} {b : Addr} (x : Al h b) (k : ∀ o, h.get? b = some o → h'.get? b = some o) : Al h' b := by
  obtain ⟨o, e, d⟩ := x
  exact ⟨o, k o e, d⟩
theorem Al.slot {h h' : Heap} {b : Addr} (x : Al h b) (k : ∀ o, h.get? b = some o → ∃ sl, h'.get? b = some { o with slots := sl }) : Al h' b := by
  obtain ⟨o, e, d⟩ := x
  obtain ⟨sl, e2⟩ := k o e
  exact ⟨_, e2, d⟩
theorem al_ns {h : Heap} {n : Addr} {m : Str → Option Value} (x : h.Ns n m) : Al h n := by
  obtain ⟨o, es, ep, ho, hd, _⟩ := x
  exact ⟨o, ho, fun v z => by rw [hd] at z; cases z⟩
theorem al_tup {h : Heap} {a : Addr} {its : Array Value} (x : IsTup h a its) : Al h a := by
  obtain ⟨o, ho, _, n, hd⟩ := x
  exact ⟨o, ho, fun v z => by rw [hd] at z; cases z⟩
theorem al_gen {h : Heap} {a : Addr} {g : Nat} (x : h.IsGen a g) : Al h a := by
  obtain ⟨o, nm, qn, ho, _, hd, _⟩ := x
  exact ⟨o, ho, fun v z => by rw [hd] at z; cases z⟩
theorem al_mark {h : Heap} {a : Addr} {g : Nat} {n : Int} (x : GMark h a g n) : Al h a := by
  obtain ⟨o, nm, qn, ho, _, hd, _⟩ := x
  exact ⟨o, ho, fun v z => by rw [hd] at z; cases z⟩
/-- the heap, over a run that owns fp0 at its start and fp at its end -/
structure KR (fs fp0 : List Addr) (h : Heap) (fp : List Addr) (h' : Heap) : Prop where
  size : h.objs.size ≤ h'.objs.size
  keep : ∀ b o, h.get? b = some o → b ∉ fs → b ∉ fp0 → h'.get? b = some o
  slot : ∀ b o, h.get? b = some o → b ∈ fs → ∃ sl, h'.get? b = some { o with slots := sl }
  young : ∀ b ∈ fp, b ∈ fp0 ∨ h.objs.size ≤ b
  alive : ∀ b ∈ fp, Al h' b
section
variable {fs fs' a b c x : List Addr} {h h1 h2 : Heap} {n : Addr}
theorem KR.lt (p : KR fs a h b h1) : ∀ z ∈ b, z < h1.objs.size := fun z hz => (p.alive z hz).lt
theorem KR.refl (hb : ∀ z ∈ a, Al h z) : KR fs a h a h := ⟨Nat.le_refl _, fun _ _ e _ _ => e, fun _ o e _ => ⟨o.slots, e⟩, fun _ z => .inl z, hb⟩
theorem KR.trans (p : KR fs a h b h1) (q : KR fs' b h1 c h2) (hs : ∀ z ∈ fs', z ∈ fs ∨ z ∈ b) (ht : ∀ z ∈ fs, z ∈ fs') : KR fs a h c h2 := by
  refine ⟨Nat.le_trans p.size q.size, fun z o e nf na => ?_, fun z o e hf => ?_, fun z hz => ?_, q.alive⟩
  · have nb : z ∉ b := fun hb => by
      rcases p.young z hb with y | y
      · exact na y
      · exact absurd (Nat.lt_of_lt_of_le (Heap.lt_size e) y) (Nat.lt_irrefl _)
    refine q.keep z o (p.keep z o e nf na) (fun hz => ?_) nb
    rcases hs z hz with y | y
    · exact nf y
    · exact nb y
  · obtain ⟨sl, e1⟩ := p.slot z o e hf
    obtain ⟨sl2, e2⟩ := q.slot z _ e1 (ht z hf)
    exact ⟨sl2, e2⟩
  · rcases q.young z hz with y | y
    · exact p.young z y
    · exact .inr (Nat.le_trans p.size y)
theorem KR.frame (p : KR fs a h b h1) (hx : ∀ z ∈ x, Al h z) (hd : ∀ z ∈ x, z ∉ a) : KR fs (x ++ a) h (x ++ b) h1 := by
  refine ⟨p.size, fun z o e nf na => p.keep z o e nf fun y => na (List.mem_append_right _ y), p.slot, fun z hz => ?_, fun z hz => ?_⟩
  · rcases List.mem_append.mp hz with y | y
    · exact .inl (List.mem_append_left _ y)
    · rcases p.young z y with q | q
      · exact .inl (List.mem_append_right _ q)
      · exact .inr q
  · rcases List.mem_append.mp hz with y | y
    · by_cases hf : z ∈ fs
      · exact (hx z y).slot fun o e => p.slot z o e hf
      · exact (hx z y).keep fun o e => p.keep z o e hf (hd z y)
    · exact p.alive z y
theorem KR.sub (p : KR fs a h b h1) (hc : ∀ z ∈ c, z ∈ b ∨ (h.objs.size ≤ z ∧ Al h1 z)) : KR fs a h c h1 :=
  ⟨p.size, p.keep, p.slot, fun z hz => (hc z hz).elim (p.young z) fun q => .inr q.1, fun z hz => (hc z hz).elim (p.alive z) fun q => q.2⟩
/-- all is kept -/
theorem KR.of_keep (hz : h.objs.size ≤ h1.objs.size) (hk : ∀ b o, h.get? b = some o → h1.get? b = some o) (ha : ∀ z ∈ a, Al h z) : KR fs a h a h1 :=
  ⟨hz, fun b o e _ _ => hk b o e, fun b o e _ => ⟨o.slots, hk b o e⟩, fun _ z => .inl z, fun z m => (ha z m).keep (hk z)⟩
end
/-- the table of generators, over such a run -/
structure GR (own0 : List Nat) (G : Array GenState) (own : List Nat) (G' : Array GenState) : Prop where
  size : G.size ≤ G'.size
  stay : ∀ (i : Nat) st, i ∉ own0 → (∀ c, st ≠ .fresh c) → G[i]? = some st → G'[i]? = some st
  new : ∀ (i : Nat) st, G'[i]? = some st → st.bare = true ∨ i ∈ own ∨ (i ∉ own0 ∧ G[i]? = some st)
  young : ∀ i ∈ own, i ∈ own0 ∨ G.size ≤ i
section
variable {a b c : List Nat} {G G1 G2 : Array GenState} {g : Nat}
theorem GR.refl : GR a G a G := ⟨Nat.le_refl _, fun _ _ _ _ e => e, fun i st e => by
  by_cases h : i ∈ a
  · exact .inr (.inl h)
  · exact .inr (.inr ⟨h, e⟩), fun _ z => .inl z⟩
theorem lt_of_some {i : Nat} {st : GenState} (e : G[i]? = some st) : i < G.size := (Array.getElem?_eq_some_iff.mp e).1
theorem GR.trans (p : GR a G b G1) (q : GR b G1 c G2) : GR a G c G2 := by
  refine ⟨Nat.le_trans p.size q.size, fun i st hi hn e => ?_, fun i st e => ?_, fun i hi => ?_⟩
  · refine q.stay i st (fun hb => ?_) hn (p.stay i st hi hn e)
    rcases p.young i hb with y | y
    · exact hi y
    · have := lt_of_some e; omega
  · rcases q.new i st e with y | y | ⟨_, y⟩
    · exact .inl y
    · exact .inr (.inl y)
    · rcases p.new i st y with z | z | z
      · exact .inl z
      · rename_i nb
        exact absurd z nb
      · exact .inr (.inr z)
  · rcases q.young i hi with y | y
    · exact p.young i y
    · have := p.size; exact .inr (by omega)
theorem GR.step (p : GR a G b G1) (q : GStep G1 G2) : GR a G b G2 := by
  refine ⟨Nat.le_trans p.size q.size, fun i st hi hn e => q.stay i st (p.stay i st hi hn e) hn, fun i st e => ?_, p.young⟩
  rcases q.new i st e with y | y
  · exact .inl y
  · exact p.new i st y
/-- back to an end that owns nothing -/
theorem GR.gstep (p : GR [] G [] G1) : GStep G G1 := ⟨p.size, fun i st e hn => p.stay i st (fun z => nomatch z) hn e, fun i st e => by
  rcases p.new i st e with y | y | ⟨_, y⟩
  · exact .inl y
  · cases y
  · exact .inr y⟩
theorem of_gstep (q : GStep G G1) : GR [] G [] G1 := GR.refl.step q
end
theorem setGen_at {s : Shared} {g : Nat} {st : GenState} (hg : g < s.gens.size) : (s.setGen g st).gens[g]? = some st := by
  show (s.gens.setIfInBounds g st)[g]? = some st
  rw [Array.getElem?_setIfInBounds_self_of_lt hg]
theorem setGen_ne {s : Shared} {g i : Nat} {st : GenState} (h : g ≠ i) : (s.setGen g st).gens[i]? = s.gens[i]? := by
  show (s.gens.setIfInBounds g st)[i]? = _
  rw [Array.getElem?_setIfInBounds_ne h]
theorem setGen_sz {s : Shared} {g : Nat} {st : GenState} : (s.setGen g st).gens.size = s.gens.size := by
  show (s.gens.setIfInBounds g st).size = _
  rw [Array.size_setIfInBounds]
/-- over the wake of one's own g -/
theorem GR.woken {a b : List Nat} {g : Nat} {st : GenState} {s s1 : Shared} (p : GR a (s.setGen g .running).gens b s1.gens) : GR (g :: a) s.gens (g :: b) (s1.setGen g st).gens := by
  refine ⟨by rw [setGen_sz]; have := p.size; rw [setGen_sz] at this; exact this, fun i x hi hn e => ?_, fun i x e => ?_, fun i hi => ?_⟩
  · have hne : g ≠ i := fun z => hi (by rw [z]; exact List.mem_cons_self)
    rw [setGen_ne hne]
    exact p.stay i x (fun z => hi (List.mem_cons_of_mem _ z)) hn (by rw [setGen_ne hne]; exact e)
  · by_cases hne : g = i
    · exact .inr (.inl (by rw [hne]; exact List.mem_cons_self))
    · rw [setGen_ne hne] at e
      rcases p.new i x e with y | y | ⟨y1, y⟩
      · exact .inl y
      · exact .inr (.inl (List.mem_cons_of_mem _ y))
      · rw [setGen_ne hne] at y
        refine .inr (.inr ⟨fun z => ?_, y⟩)
        rcases List.mem_cons.mp z with z | z
        · exact hne z.symm
        · exact y1 z
  · rcases List.mem_cons.mp hi with z | z
    · exact .inl (by rw [z]; exact List.mem_cons_self)
    · rcases p.young i z with y | y
      · exact .inl (List.mem_cons_of_mem _ y)
      · rw [setGen_sz] at y; exact .inr y
theorem GR.ended {a : List Nat} {g : Nat} {s s1 : Shared} (p : GR a (s.setGen g .running).gens [] s1.gens) : GR (g :: a) s.gens [] (s1.setGen g .finished).gens := by
  have q := p.woken (st := .finished)
  refine ⟨q.size, q.stay, fun i x e => ?_, fun i z => nomatch z⟩
  rcases q.new i x e with y | y | y
  · exact .inl y
  · obtain rfl : i = g := by simpa using y
    left
    have hlt : i < s1.gens.size := by
      have := lt_of_some e
      rw [setGen_sz] at this
      exact this
    rw [setGen_at hlt] at e
    cases e
    rfl
  · exact .inr (.inr y)
/-- what is owned stands as it stood -/
def Held (fp : List Addr) (h h' : Heap) : Prop := ∀ b ∈ fp, ∀ o, h.get? b = some o → h'.get? b = some o
def NonFresh (G : Array GenState) (own : List Nat) : Prop := ∀ i ∈ own, ∃ st, G[i]? = some st ∧ ∀ c, st ≠ .fresh c
/-- asleep (or fresh) with the items rem to come: g its number, n its frame, fp and own what it owns, s0 the state since -/
def GenC (D : GDef) (T : Hp) (k n g : Nat) : List Addr → GenState → List Addr → List Nat → Shared → Prop
  | [] => fun gs fp own s0 => ∀ (A : Around) (outer : List Env) (s : Shared), Wk D T k n A outer s → g < s.gens.size → s0.heap.objs.size ≤ s.heap.objs.size → Held fp s0.heap s.heap → (∀ i ∈ own, s.gens[i]? = s0.gens[i]?) →
      GOn D.prog D.w A (fun s1 => KR (frs outer) fp s.heap [] s1.heap ∧ GR own (s.setGen g .running).gens [] s1.gens ∧ s1.os = s.os) (fun _ _ _ => False) gs (s.setGen g .running)
  | a :: rem => fun gs fp own s0 => ∀ (A : Around) (outer : List Env) (s : Shared), Wk D T k n A outer s → g < s.gens.size → s0.heap.objs.size ≤ s.heap.objs.size → Held fp s0.heap s.heap → (∀ i ∈ own, s.gens[i]? = s0.gens[i]?) →
      GOn D.prog D.w A (fun _ => False) (fun v s1 gs1 => ∃ (q pa : Addr) (fp' : List Addr) (own' : List Nat), v = .ref q ∧ s.heap.objs.size ≤ q ∧ q < s1.heap.objs.size ∧ q ∉ fp' ∧ IsTup s1.heap q #[.ref pa, .ref a] ∧ KR (frs outer) fp s.heap fp' s1.heap ∧
        GR own (s.setGen g .running).gens own' s1.gens ∧ s1.os = s.os ∧ NonFresh s1.gens own' ∧ (∀ c, gs1 ≠ .fresh c) ∧ GenC D T k n g rem gs1 fp' own' s1) gs (s.setGen g .running)
/-- the end of a run that woke in sw -/
def gR (outer : List Env) (fp : List Addr) (own : List Nat) (sw : Shared) : List Addr → Shared → Prop
  | [] => fun s1 => KR (frs outer) fp sw.heap [] s1.heap ∧ GR own sw.gens [] s1.gens ∧ s1.os = sw.os
  | _ :: _ => fun _ => False
/-- an item of such a run -/
def gY (D : GDef) (T : Hp) (k n g : Nat) (outer : List Env) (fp : List Addr) (own : List Nat) (sw : Shared) : List Addr → Value → Shared → GenState → Prop
  | [] => fun _ _ _ => False
  | a :: rem => fun v s1 gs1 => ∃ (q pa : Addr) (fp' : List Addr) (own' : List Nat), v = .ref q ∧ sw.heap.objs.size ≤ q ∧ q < s1.heap.objs.size ∧ q ∉ fp' ∧ IsTup s1.heap q #[.ref pa, .ref a] ∧ KR (frs outer) fp sw.heap fp' s1.heap ∧
        GR own sw.gens own' s1.gens ∧ s1.os = sw.os ∧ NonFresh s1.gens own' ∧ (∀ c, gs1 ≠ .fresh c) ∧ GenC D T k n g rem gs1 fp' own' s1
theorem genC_iff {D : GDef} {T : Hp} {k n g : Nat} {rem : List Addr} {gs : GenState} {fp : List Addr} {own : List Nat} {s0 : Shared} : GenC D T k n g rem gs fp own s0 ↔
    ∀ (A : Around) (outer : List Env) (s : Shared), Wk D T k n A outer s → g < s.gens.size → s0.heap.objs.size ≤ s.heap.objs.size → Held fp s0.heap s.heap → (∀ i ∈ own, s.gens[i]? = s0.gens[i]?) →
      GOn D.prog D.w A (gR outer fp own (s.setGen g .running) rem) (gY D T k n g outer fp own (s.setGen g .running) rem) gs (s.setGen g .running) := by
  cases rem <;> exact Iff.rfl
section
variable {fs fp : List Addr} {h h1 : Heap} {a : Addr}
/-- one owned thing is touched -/
theorem KR.touch (ha : a ∈ fp) (hz : h1.objs.size = h.objs.size) (hk : ∀ b o, b ≠ a → h.get? b = some o → h1.get? b = some o) (hf : a ∉ fs) (hl : ∀ b ∈ fp, Al h b) (h1a : Al h1 a) : KR fs fp h fp h1 :=
  ⟨Nat.le_of_eq hz.symm, fun b o e _ nb => hk b o (fun z => nb (by rw [z]; exact ha)) e, fun b o e hb => ⟨o.slots, hk b o (fun z => hf (by rw [← z]; exact hb)) e⟩, fun _ z => .inl z, fun b hb => by
    by_cases e : b = a
    · rw [e]; exact h1a
    · exact (hl b hb).keep fun o x => hk b o e x⟩
theorem Held.trans {h2 : Heap} (x : Held fp h h1) (y : Held fp h1 h2) : Held fp h h2 := fun b hb o e => y b hb o (x b hb o e)
theorem Held.refl : Held fp h h := fun _ _ _ e => e
theorem Held.sub {fp' : List Addr} (x : Held fp h h1) (hs : ∀ b ∈ fp', b ∈ fp) : Held fp' h h1 := fun b hb o e => x b (hs b hb) o e
end
/-- the world around stays, over a run -/
theorem Wk.step {D : GDef} {T : Hp} {k n : Nat} {A : Around} {outer : List Env} {s s1 : Shared} {fs fp : List Addr} (W : Wk D T k n A outer s) (hz : s.heap.objs.size ≤ s1.heap.objs.size) (hk : ∀ b o, s.heap.get? b = some o → b ∉ fs → b ∉ fp → s1.heap.get? b = some o) (hs : ∀ b o, s.heap.get? b = some o → b ∈ fs → ∃ sl, s1.heap.get? b = some { o with slots := sl })
    (hb : ∀ b o, D.base.get? b = some o → b ∉ fs ∧ b ∉ fp) (ht : ∀ b, T b ≠ none → b ∉ fs ∧ b ∉ fp) (hfp : ∀ b ∈ frs outer, b ∉ fp) : Wk D T k n A outer s1 := by
  refine ⟨W.room, W.frames, W.lo, fun b o e => hk b o (W.base b o e) (hb b o e).1 (hb b o e).2, ?_, W.dat.keep fun b o e e1 => hk b o e1 (ht b e).1 (ht b e).2, W.tf, Nat.le_trans W.size hz⟩
  have all : ∀ (l : List Env), (∀ b ∈ frs l, b ∉ fp) → s.heap.FunFrames D.base l → s1.heap.FunFrames D.base l := by
    intro l
    induction l with
    | nil => intro _ _; trivial
    | cons env r ih =>
      rintro hl ⟨hk1, ⟨L, o, hf, hn, ho, hd⟩, hr⟩
      have hL : L ∈ frs (env :: r) := by unfold frs; rw [List.filterMap_cons, hf]; exact List.mem_cons_self
      refine ⟨hk1, ?_, ih (fun b hb => hl b (by
        unfold frs at hb ⊢
        rw [List.filterMap_cons, hf]
        exact List.mem_cons_of_mem _ hb)) hr⟩
      by_cases hm : L ∈ fs
      · obtain ⟨sl, e⟩ := hs L o ho hm
        exact ⟨L, _, hf, hn, e, hd⟩
      · exact ⟨L, o, hf, hn, hk L o ho hm (hl L hL), hd⟩
  exact all outer hfp W.funs
end Gz
end
section
set_option Elab.async false
set_option maxRecDepth 100000
set_option autoImplicit false
/-! enumerate(t) of a tuple; () + t -/
namespace Gz
open PySem PySem.Spec L2
open PyProof.Rows hiding St
set_option maxHeartbeats 1000000 in
theorem enumT_meets (a : Addr) (items : Array Value) :
    Meets (Builtin.«enumerate.__new__» ⟨[.type "enumerate", .ref a], []⟩) (fun _ R s => s.heap.IsTuple a items ∧
      R (.ok (.ret (.ref (s.heap.push { cls := .type "tuple_iterator", data := .fields #[.ref a, .int 0 0] }).objs.size)))
        { s with heap := (s.heap.push { cls := .type "tuple_iterator", data := .fields #[.ref a, .int 0 0] }).push { cls := .type "enumerate", data := .fields #[.none, .bool false, .ref s.heap.objs.size, rawInt 0, .none, .none] } }) :=
  .of_wp fun prog w A R s h => by
    obtain ⟨hp, gg, dd, tk, os⟩ := s
    obtain ⟨ht, h⟩ := h
    have hsub := sub_enumerate
    have qi : ∀ {A' : Around} {E : Value → Shared → Prop} {Q : Value → Shared → Prop}, Q (.ref hp.objs.size) ⟨hp.push { cls := .type "tuple_iterator", data := .fields #[.ref a, .int 0 0] }, gg, dd, tk, os⟩ → wpAny (model prog w) A' (pyIter (.ref a)) Q E ⟨hp, gg, dd, tk, os⟩ :=
      fun q => wpAny_pyIter_tuple (s := ⟨hp, gg, dd, tk, os⟩) ht q
    wp_walk using qi
    refine wpAny_stack_any fun _ => wpAny_pure ?_
    split
    · rename_i cc _ _ _ _ _
      cases (cc == Value.type "enumerate") <;> (wp_walk using qi; exact ⟨_, rfl, h⟩)
    · wp_walk using qi
      exact ⟨_, rfl, h⟩
theorem enumT_call {prog : Program} {w : World} {A : Around} {E : Value → Shared → Prop} {s : Shared} {a : Addr} {items : Array Value} {Q : Value → Shared → Prop} (ht : s.heap.IsTuple a items)
    (h : ∀ h', IsEnum h' (s.heap.objs.size + 1) s.heap.objs.size 0 .none → h'.IsTupleIter s.heap.objs.size a 0 → (∀ b o, s.heap.get? b = some o → h'.get? b = some o) → Q (.ref (s.heap.objs.size + 1)) { s with heap := h' }) :
    wpAny (model prog w) A (call (.type "enumerate") [.ref a]) Q E s := by
  refine callType_new F.called_enumerate (by decide) (F.typeCall_enumerate_1 _) (F.newCall_enumerate_1 _) (fun obj => F.args_object_init_2 obj _) F.entry_enumerate_new (enumT_meets a items) ⟨ht, ?_⟩
  have hz : (s.heap.push { cls := .type "tuple_iterator", data := .fields #[.ref a, .int 0 0] }).objs.size = s.heap.objs.size + 1 := Heap.size_push ..
  show _ ∧ _
  rw [hz]
  have he : IsEnum ((s.heap.push { cls := .type "tuple_iterator", data := .fields #[.ref a, .int 0 0] }).push { cls := .type "enumerate", data := .fields #[.none, .bool false, .ref s.heap.objs.size, rawInt 0, .none, .none] }) (s.heap.objs.size + 1) s.heap.objs.size 0 .none := by
    have q := Heap.get?_push_size (s.heap.push { cls := .type "tuple_iterator", data := .fields #[.ref a, .int 0 0] }) (o := { cls := .type "enumerate", data := .fields #[.none, .bool false, .ref s.heap.objs.size, rawInt 0, .none, .none] }) rfl
    rw [hz] at q
    exact q
  exact ⟨⟨_, he, rfl⟩, h _ he ⟨_, Heap.get?_push_of_some _ (Heap.get?_push_size _ rfl), rfl, rfl⟩ fun b o x => Heap.get?_push_of_some _ (Heap.get?_push_of_some _ x)⟩
/-- the tuple at a as it stands at each turn, each item in a new pair -/
def IteT (K : PySem.W.Frag) (a : Addr) : It :=
  ⟨fun i H => ∃ (xs : List V) (x : V), SqT K H a xs ∧ xs[i]? = some x, fun i H v H' => ∃ T x, v = .ref T ∧ H T = none ∧ H' = upd H T (.tup [.int (i : Nat), x]) ∧ ∀ xs, SqT K H a xs → xs[i]? = some x, fun i H => ∃ xs : List V, SqT K H a xs ∧ xs.length = i⟩
def EnT (e it a : Addr) (i : Nat) (h : Heap) : Prop := (∃ old, IsEnum h e it ((i : Nat) : Int) old) ∧ h.IsTupleIter it a i ∧ e ≠ it
theorem turn_enumT {P : Program} {w : World} {K : PySem.W.Frag} {elts : List Expr} {kk : Nat} {tpos : Pos} (a e it : Addr) : Turn P w K (.Tuple elts kk tpos) (IteT K a) [e, it] e (EnT e it a) where
  mem := by simp
  obj := fun i h st b hb => by
    obtain ⟨⟨old, he⟩, ⟨o, ho, hc, hd⟩, _⟩ := st
    have e' : b = e ∨ b = it := by simpa using hb
    rcases e' with z | z
    · subst z
      exact ⟨_, he, fun v q => nomatch q⟩
    · subst z
      exact ⟨o, ho, fun v q => by rw [hd] at q; cases q⟩
  keep := fun i h h' st k => by
    obtain ⟨⟨old, he⟩, hi, hne⟩ := st
    exact ⟨⟨old, k e (by simp) _ he⟩, hi.at fun o q => k it (by simp) o q, hne⟩
  item := by
    intro X hP hw hK hc i pins s σ H E I hf st hg
    subst hP hw hK
    obtain ⟨⟨old, he⟩, hit, hne⟩ := st
    obtain ⟨xs, x, hq, hx⟩ := hg
    obtain ⟨its, rv, p, hz⟩ := I.tuple hq
    obtain ⟨u, hu, ru⟩ := rv.get hx
    have hel : e < s.heap.objs.size := Heap.lt_size he
    have hil : it < s.heap.objs.size := by obtain ⟨_, q, _⟩ := hit; exact Heap.lt_size q
    have hae : a ≠ e := fun z => by
      obtain ⟨o, ho, _, m, hd⟩ := p
      rw [z] at ho
      have he' : s.heap.get? e = some _ := he
      rw [he'] at ho
      cases ho
      cases hd
    have hai : a ≠ it := fun z => by
      obtain ⟨o, ho, _, m, hd⟩ := p
      obtain ⟨o2, ho2, _, hd2⟩ := hit
      rw [z, ho2] at ho
      cases ho
      rw [hd2] at hd
      cases hd
    have D := Draws.tuple (prog := X.prog) (w := X.w) (A := X.A.in1) (I.ok.hd hc) it a hai its.toArray
    refine wpAny_pyNext_enum_itemC D he ⟨hit, p⟩ (by
      have := (List.getElem?_eq_some_iff.mp hu).1
      simpa using this) hne (by simp [hne, hae.symm]) fun x' h' tk hx' ho hst hT hsz hk => ?_
    have ex : x' = u := by
      have q : its.toArray[i]? = some x' := hx'
      have q2 : its.toArray[i]? = some u := by simpa using hu
      rw [q] at q2
      exact Option.some.inj q2
    subst ex
    refine ⟨_, rfl, wpAny_letOwnedTupleGo_enum (s := { s with heap := h', toks := tk + 1 }) ho fun h'' he' sb => ?_⟩
    have hT2 : h''.get? s.heap.objs.size = some { cls := .type "tuple", data := .seq #[.int (i : Nat) tk, x'] } := (sb.2 _ (Nat.ne_of_gt hel)).trans hT
    have new : ObjOk X.prog X.w (upd H s.heap.objs.size (.tup [.int (i : Nat), x])) h'' s.heap.objs.size (.tup [.int (i : Nat), x]) :=
      ⟨by show 2 ≤ sizeLine; decide, [.int (i : Nat) tk, x'], .cons ⟨_, rfl⟩ (.cons ru .nil), ⟨_, hT2, rfl, _, rfl⟩⟩
    have I1 : Inv X pins σ (upd H s.heap.objs.size (.tup [.int (i : Nat), x])) { s with heap := h'', toks := tk + 1 } :=
      I.turnedNew (ch := [e, it]) (fun b ob hb q => (sb.2 b (fun z => hb (by simp [z]))).trans (hk b ob (fun z => hb (by simp [z])) (fun z => hb (by simp [z])) q)) hf (Nat.le_refl _) new
    refine ⟨.ref s.heap.objs.size, _, I1, rfl, ⟨_, x, rfl, I.hok.fresh (Nat.le_refl _), rfl, fun ys hy => by rw [I.tuple_inj hy hq]; exact hx⟩, ⟨⟨x', ?_⟩, hst.1.at fun o q => (sb.2 it (Ne.symm hne)).trans q, hne⟩, fun b hb => ?_⟩
    · rw [show ((i + 1 : Nat) : Int) = (i : Int) + 1 by omega]
      exact he'
    · have hb' : b < s.heap.objs.size := by
        have e' : b = e ∨ b = it := by simpa using hb
        rcases e' with z | z
        · rw [z]; exact hel
        · rw [z]; exact hil
      rw [upd_ne (Nat.ne_of_lt hb')]
      exact (hf b hb).1
  done := by
    intro X hP hw hK hc i pins s σ H E I hf st hg
    subst hP hw hK
    obtain ⟨⟨old, he⟩, hit, hne⟩ := st
    obtain ⟨xs, hq, hx⟩ := hg
    obtain ⟨its, rv, p, hz⟩ := I.tuple hq
    obtain ⟨f0, f1, f2, f3, f4, f5⟩ := hf it (by simp)
    have hl := rv.length
    have hai : a ≠ it := fun z => by
      obtain ⟨o, ho, _, m, hd⟩ := p
      obtain ⟨o2, ho2, _, hd2⟩ := hit
      rw [z, ho2] at ho
      cases ho
      rw [hd2] at hd
      cases hd
    have D := Draws.tuple (prog := X.prog) (w := X.w) (A := X.A.in1) (I.ok.hd hc) it a hai its.toArray
    have ei : its.toArray.size = i := by
      have q : its.toArray.size = its.length := List.size_toArray
      omega
    rw [← ei] at hit he
    exact wpAny_pyNext_enum_endD D he ⟨hit, p⟩ fun h' eb => ⟨rfl, I.turned (t' := s.toks) (fun b o hb q => eb b o hb q) f0 f1 f3 f4 f5⟩
  self := fun A i s Q E st h => by
    obtain ⟨⟨_, he⟩, _⟩ := st
    exact wpAny_pyIter_enum he h
def iEnumT (K : PySem.W.Frag) (ta : TA) : TI := fun σ H R => ta σ H fun vs H1 => ∃ a xs, vs = [.ref a] ∧ SqT K H1 a xs ∧ R (IteT K a) H1
theorem pi_enumT {X : Cx} {e : Expr} {ta : TA} {p pos tpos : Pos} {elts : List Expr} {kk : Nat} (hg : Gl X "enumerate") (hm : X.mg "enumerate" = none) (ha : PA X [e] ta) (hs : starEach [e] X.env = [(false, eval e X.env)] := by rfl) :
    PI X (.Tuple elts kk tpos) (.Call (.Name "enumerate" p) [e] [] pos) (iEnumT X.K ta) := by
  refine ⟨fun pins s σ H R I h => ?_⟩
  refine Call_ (ld_blt I hg hm boot_enumerate (PyProof.Rows.callWith_type1 (thn (ha.run pos pins s σ H _ I h) fun us s1 ⟨vs, H1, I1, r1, a, xs, ex, hq, q⟩ => ?_) hs rfl))
  subst ex
  obtain ⟨u, rfl, ru⟩ := vals1 r1
  obtain rfl : u = Value.ref a := ru
  obtain ⟨its, rv, p', hz⟩ := I1.tuple hq
  refine enumT_call (s := s1) (items := its.toArray) p' fun h' he hit hk => wpAny_pyIter_enum he ?_
  refine ⟨s1.heap.objs.size + 1, [s1.heap.objs.size + 1, s1.heap.objs.size], _, _, H1, rfl, I1.kept (t' := s1.toks) hk, turn_enumT a (s1.heap.objs.size + 1) s1.heap.objs.size, ⟨⟨.none, he⟩, hit, Nat.succ_ne_self _⟩, fun b hb => ?_, q⟩
  have hle : s1.heap.objs.size ≤ b := by
    have e' : b = s1.heap.objs.size + 1 ∨ b = s1.heap.objs.size := by simpa using hb
    rcases e' with z | z
    · rw [z]; exact Nat.le_add_right _ _
    · rw [z]; exact Nat.le_refl _
  exact I1.fpOk hle (I1.hok.fresh hle)
end Gz
end
section
set_option Elab.async false
set_option maxRecDepth 100000
set_option autoImplicit false
set_option linter.all false
/-! the heap grows, what is dead stays dead -/
namespace Gz
open PySem PySem.Spec L2
open PyProof.Rows hiding St
def Hz (h h' : Heap) : Prop := h.objs.size ≤ h'.objs.size ∧ ∀ a, a < h.objs.size → h.get? a = none → h'.get? a = none
theorem Hz.refl {h : Heap} : Hz h h := ⟨Nat.le_refl _, fun _ _ e => e⟩
theorem Hz.trans {a b c : Heap} (x : Hz a b) (y : Hz b c) : Hz a c := ⟨Nat.le_trans x.1 y.1, fun z hz e => y.2 z (Nat.lt_of_lt_of_le hz x.1) (x.2 z hz e)⟩
theorem hz_push (h : Heap) (o : Obj) : Hz h (h.push o) := ⟨by rw [Heap.size_push]; exact Nat.le_succ _, fun a ha e => by
  rw [Heap.get?_push_ne h a o (Nat.ne_of_lt ha)]; exact e⟩
theorem hz_update (h : Heap) (a : Addr) (f : Obj → Obj) (ha : (h.get? a).isSome = true) : Hz h (h.update a f) := by
  refine ⟨?_, fun b hb e => ?_⟩
  · show _ ≤ (h.objs.modify a f).size
    rw [Array.size_modify]
    exact Nat.le_refl _
  · have hne : a ≠ b := fun z => by rw [z, e] at ha; cases ha
    exact (Heap.get?_update_other h f hne).trans e
/-- new: alive now, not then -/
theorem Hz.new {h h' : Heap} {a : Addr} {o : Obj} (x : Hz h h') (e : h'.get? a = some o) (n : h.get? a = none) : h.objs.size ≤ a := by
  by_cases hlt : a < h.objs.size
  · rw [x.2 a hlt n] at e; cases e
  · exact Nat.le_of_not_lt hlt
set_option maxHeartbeats 1000000 in
theorem step_hz {den : Code → Sem Fin} {P : Program} {w : World} {s s1 : Shared} {t t1 : Thread} (h : step den P w s t = .go s1 t1) : Hz s.heap s1.heap := by
  obtain ⟨hp, gens, drawn, toks, os⟩ := s
  obtain ⟨cur, code, pos, stack⟩ := t
  have triv : ∀ {g d k o} {t2 : Thread}, (PySem.Step.go ⟨hp, g, d, k, o⟩ t2 = .go s1 t1) → Hz hp s1.heap := fun e => by cases e; exact Hz.refl
  cases cur with
  | pure f =>
    cases f with
    | again c => exact triv h
    | done f =>
      cases stack with
      | nil =>
        simp only [step, finish] at h
        split at h <;> cases h
      | cons F r =>
        cases F with
        | ret k hh g l c p kp => exact triv h
        | gen g k l c p => exact triv h
  | raise e =>
    cases stack with
    | nil =>
      simp only [step, finish] at h
      split at h <;> cases h
    | cons F r =>
      cases F with
      | ret k hh g l c p kp => exact triv h
      | gen g k l c p => exact triv h
  | unsupported x => cases h
  | finish e =>
    simp only [step] at h
    split at h <;> cases h
  | rule t k => exact triv h
  | «at» p k => exact triv h
  | load a part k =>
    simp only [step] at h
    split at h
    · exact triv h
    · cases h
  | update a part f k =>
    simp only [step] at h
    split at h
    · rename_i ha
      cases h
      exact hz_update hp a f ha
    · cases h
  | alloc o k =>
    have h' : PySem.Step.go _ _ = _ := h
    cases h'
    exact hz_push hp o
  | loadIfAlive a k => exact triv h
  | point l k => exact triv h
  | register a k => cases h
  | fresh k => exact triv h
  | ask k => exact triv h
  | choose src n k =>
    simp only [step] at h
    split at h
    · cases h
    · exact triv h
  | os q l k => exact triv h
  | call c hh g l k => exact triv h
  | handled own k => exact triv h
  | genState g k =>
    simp only [step] at h
    split at h
    · cases h
    · exact triv h
  | stack k => exact triv h
  | newGen c k => exact triv h
  | resume g r l k =>
    simp only [step] at h
    split at h
    · cases h
    · split at h <;> exact triv h
    · exact triv h
    · exact triv h
    · exact triv h
  | yield v g0 l kk =>
    simp only [step] at h
    split at h
    · exact triv h
    · cases h
  | thread k => exact triv h
  | fork _ _ => cases h
  | await _ _ _ _ _ => cases h
theorem stepK_same {den : Code → Sem Fin} {P : Program} {w : World} {s : Shared} {t : Thread} : (∃ f, t.cur = .pure f) ∨ (∃ c h g l k, t.cur = .call c h g l k) ∨ stepK den P w s t = step den P w s t := by
  obtain ⟨cur, code, pos, stack⟩ := t
  cases cur <;> first | exact .inr (.inr rfl) | exact .inl ⟨_, rfl⟩ | exact .inr (.inl ⟨_, _, _, _, _, rfl⟩)
theorem stepK_hz {den : Code → Sem Fin} {P : Program} {w : World} {s s1 : Shared} {t t1 : Thread} (h : stepK den P w s t = .go s1 t1) : Hz s.heap s1.heap := by
  rcases stepK_same (den := den) (P := P) (w := w) (s := s) (t := t) with ⟨f, e⟩ | ⟨c, hh, g, l, k, e⟩ | e
  · obtain ⟨cur, code, pos, stack⟩ := t
    obtain rfl : cur = .pure f := e
    cases f with
    | again c =>
      have q : ∃ t2, stepK den P w s ⟨.pure (.again c), code, pos, stack⟩ = .go s t2 := by first | exact ⟨_, rfl⟩ | (unfold stepK; exact ⟨_, rfl⟩)
      obtain ⟨t2, q⟩ := q
      rw [q] at h
      cases h
      exact Hz.refl
    | done f =>
      have q : stepK den P w s ⟨.pure (.done f), code, pos, stack⟩ = step den P w s ⟨.pure (.done f), code, pos, stack⟩ := rfl
      rw [q] at h
      exact step_hz h
  · obtain ⟨cur, code, pos, stack⟩ := t
    obtain rfl : cur = .call c hh g l k := e
    have q : ∃ t2, stepK den P w s ⟨.call c hh g l k, code, pos, stack⟩ = .go s t2 := by first | exact ⟨_, rfl⟩ | (unfold stepK; exact ⟨_, rfl⟩)
    obtain ⟨t2, q⟩ := q
    rw [q] at h
    cases h
    exact Hz.refl
  · rw [e] at h
    exact step_hz h
section
variable {P : Program} {w : World}
theorem go_hz {s t s1 t1} (h : Go P w s t s1 t1) : Hz s.heap s1.heap := by
  induction h with
  | here => exact Hz.refl
  | next f h _ ih => exact (stepK_hz h).trans ih
theorem wpS_hz {A : Around} {α : Type} {t : Sem α} {Q : α → Shared → Prop} {E : Value → Shared → Prop} {s : Shared} (h : wpS P w A t Q E s) : wpS P w A t (fun a s' => Hz s.heap s'.heap ∧ Q a s') (fun e s' => Hz s.heap s'.heap ∧ E e s') s := fun c p st hI K H gd lv => by
  rcases h c p st hI K H gd lv with ⟨a, p', s', q, g⟩ | ⟨e, p', s', q, g⟩
  · exact .inl ⟨a, p', s', ⟨go_hz g, q⟩, g⟩
  · exact .inr ⟨e, p', s', ⟨go_hz g, q⟩, g⟩
theorem wpS_hz0 {A : Around} {α : Type} {t : Sem α} {Q : α → Shared → Prop} {s : Shared} (h : wpS P w A t Q noE s) : wpS P w A t (fun a s' => Hz s.heap s'.heap ∧ Q a s') noE s := wpS_mono (wpS_hz h) (fun _ _ z => z) fun _ _ z => z.2
end
end Gz
end
section
set_option Elab.async false
set_option maxRecDepth 100000
set_option autoImplicit false
/-! the call of a generator def -/
namespace Gz
open PySem PySem.Spec L2
open PyProof.Rows hiding St
/-- a generator def of the text -/
structure GenFun (D : GDef) (ps : List Str) (body : List Stmt) (fd : FuncData) : Prop where
  lk : ∃ (name : Str) (params : Arguments) (dV kV doc pm : Value) (an : Option Addr) (ct oc : Value) (od : Option Addr) (osl : Array (Option Value)),
    fd = PySem.W.fnOf name D.qual params body D.scope dV kV doc pm an D.cd ct ∧ D.K.lookup D.f = some ⟨oc, od, .func fd, osl⟩
  code : PySem.W.codeIn D.K D.cd D.qual = true
  kind : D.scope.kind = .function
  co : D.scope.isCoroutine = false
  gen : D.scope.isGenerator = true
  par : ∀ x ∈ ps, D.scope.names.lookup x = some .local
  nd : ps.Nodup
  keep : PySem.W.keepIn D.K (.ref D.f) = true
/-- a generator was made: its frame at the old end of the heap -/
structure Made (D : GDef) (ps : List Str) (body : List Stmt) (us : List Value) (s : Shared) (ga : Addr) (s' : Shared) : Prop where
  gens : s'.gens = s.gens.push (.fresh (.func body (D.env s.heap.objs.size)))
  obj : s'.heap.IsGen ga s.gens.size
  ns : ∃ m, s'.heap.Ns s.heap.objs.size m ∧ ∀ (i : Nat) x u, ps[i]? = some x → us[i]? = some u → m x = some u
  lo : s.heap.objs.size < ga
  hi : ga < s'.heap.objs.size
  keep : ∀ b o, s.heap.get? b = some o → s'.heap.get? b = some o
  rest : ∃ h' G' tk, s' = { s with heap := h', gens := G', toks := tk }
section
variable {D : GDef} {ps : List Str} {body : List Stmt} {fd : FuncData}
theorem gen_make (F : GenFun D ps body fd) {A : Around} {s : Shared} {args : Args} {us : List Value} (hr : A.depth < recursionLimit) (hK : D.K.In s.heap) (lim : s.heap.NoLimit) (hb : BindsTo s fd args (ps.zip us)) (hl : us.length = ps.length) :
    codeAny (model D.prog D.w) A (.call (.ref D.f) args) (fun r s' => ∃ ga, r = .ok (.ret (.ref ga)) ∧ Made D ps body us s ga s') s := by
  obtain ⟨name, params, dV, kV, doc, pm, an, ct, oc, od, osl, rfl, lk⟩ := F.lk
  have hkind : ∀ y ∈ ps.zip us, D.scope.names.lookup y.1 = some .local ∨ (D.scope.names.lookup y.1 = some .cell ∧ ((cellsFrom (s.heap.objs.size + 1) D.scope.names []).lookup y.1).isSome = true) := fun ⟨x, v⟩ hy => .inl (F.par x (List.of_mem_zip hy).1)
  refine codeAny_call_generator hr (hK _ _ lk) rfl F.co F.gen rfl (PySem.W.codeRec_of hK F.code) (hb _ _ _ _ ?_)
  refine wpAny_newFunctionEnv_cells F.kind hkind fun env he s1 x => ?_
  subst he
  refine ⟨lim.keeps x.toInCall.keep, s1.heap.objs.size, rfl, ?_⟩
  obtain ⟨h1, tk, e1, hk1⟩ := x.done
  have lt1 : s.heap.objs.size < s1.heap.objs.size := x.toInCall.ns.lt
  have hg : s1.gens = s.gens := by rw [e1]
  refine ⟨?_, ?_, ⟨_, x.toInCall.ns.keeps fun b o e => Heap.get?_push_of_some _ e, fun i y u h1 h2 => bindL_get F.nd h1 h2 (F.par y (List.mem_of_getElem? h1))⟩, lt1, ?_, fun b o e => Heap.get?_push_of_some _ (x.toInCall.keep b o e), ?_⟩
  · show s1.gens.push _ = _
    rw [hg]
    rfl
  · rw [← hg]
    exact ⟨_, _, _, Heap.get?_push_size _ rfl, rfl, rfl, rfl⟩
  · show _ < (s1.heap.push _).objs.size
    rw [Heap.size_push]
    exact Nat.lt_succ_self _
  · rw [e1]
    exact ⟨_, _, _, rfl⟩
end
/-! ### within an expression -/
section
variable {X : Cx} {pins : List (Addr × Obj)} {σ : L2.St} {H : Hp} {s : Shared} {D : GDef} {ps : List Str} {body : List Stmt} {fd : FuncData} {ds : List Value} {x : Str} {p pos : Pos} {e : Expr} {es : List Expr} {t : TA}
/-- walk(..) -/
theorem es_make (F : GenFun D ps body fd) (hP : X.prog = D.prog) (hw : X.w = D.w) (hKe : X.K = D.K) (hr : X.A.depth < recursionLimit) (hg : Gl X x) (hm : X.mg x = some (.ref D.f)) (hb : Binds D.K fd ps []) (ha : PA X.nox (e :: es) t) {Q : List V → Hp → Prop} (I : InvG X pins σ H s) (h : t σ H (fun vs H1 => vs.length = ps.length ∧ Q vs H1))
    (hdb : (x == ("__debug__" : Str)) = false := by decide) (he : starEach (e :: es) X.env = (false, eval e X.env) :: starEach es X.env := by rfl) (hpl : (backTo pos (starEach es X.env)).any (·.1) = false := by rfl) :
    wpS X.prog X.w X.A (eval (.Call (.Name x p) (e :: es) [] pos) X.env) (fun u s3 => ∃ ga vs us s2 H2, u = .ref ga ∧ Hz s.heap s2.heap ∧ GStep s.gens s2.gens ∧ InvG X pins σ H2 s2 ∧ Vals vs us ∧ Q vs H2 ∧ Made D ps body us s2 ga s3 ∧ InvG X pins σ H2 s3) noE s := by
  rw [arm_eval_Call_Name']
  refine wpS_bind (thnS (wpS_hz0 (up_st (R := fun u σ' H' => u = .ref D.f ∧ σ' = σ ∧ H' = H) I fun s2 I2 _ => ld_glob (X := X.nox) I2 hg hm ⟨σ, H, I2, rfl, rfl, rfl⟩ hdb)) fun u s1 q => ?_)
  obtain ⟨hz1, ⟨σ', H', I1, rfl, rfl, rfl⟩, g1⟩ := q
  have hkeep : PySem.W.keepIn X.K (.ref D.f) = true := by rw [hKe]; exact F.keep
  refine callWith_S hkeep ?_ he hpl
  refine thnS (wpS_hz0 (up (Q := fun us s' => ∃ vs H1, Inv X pins σ' H1 s' ∧ Vals vs us ∧ vs.length = ps.length ∧ Q vs H1) (wpAny_mono (ha.run pos pins _ σ' H' _ ((inv_b I1).wish _) h) (fun _ _ ⟨vs, H1, I', r, q⟩ => ⟨I'.bare, vs, H1, inv_g I'.unwish, r, q⟩) fun _ _ z => z))) fun us s2 q => ?_
  obtain ⟨hz2, ⟨vs, H2, I2, r2, hlen, q2⟩, g2⟩ := q
  refine ⟨I2.kIn, wpS_call (codeS_of ?_)⟩
  have hK2 : D.K.In s2.heap := by rw [← hKe]; exact I2.kIn
  have hul : us.length = ps.length := by rw [← r2.length]; exact hlen
  have hbb := hb s2 us hK2 (by rw [List.append_nil]; exact hul)
  rw [List.append_nil] at hbb
  rw [hP, hw]
  refine codeAny_mono (gen_make F (A := X.A) (s := s2) hr hK2 I2.nolimit hbb hul) fun r s3 hq => ?_
  obtain ⟨ga, rfl, M⟩ := hq
  refine ⟨ga, vs, us, s2, H2, rfl, hz1.trans hz2, g1.trans g2, I2, r2, q2, M, ?_⟩
  obtain ⟨h', G', tk, rfl⟩ := M.rest
  exact Inv.kept (t' := tk) (h' := h') I2 M.keep
end
end Gz
end
section
set_option Elab.async false
set_option maxRecDepth 100000
set_option autoImplicit false
/-! plans, as they lie in the heap -/
namespace Gz
open PySem PySem.Spec L2
open PyProof.Rows hiding St
/-- a plan and its addresses -/
inductive AP where
  | scan (a : Addr) (x : Str)
  | sort (a : Addr) (p : AP)
  | many (a c : Addr) (m : Bool) (ps : List AP)
def AP.root : AP → Addr
  | .scan a _ => a
  | .sort a _ => a
  | .many a _ _ _ => a
def AP.kids : AP → List AP
  | .scan _ _ => []
  | .sort _ p => [p]
  | .many _ _ _ ps => ps
mutual
def AP.nodes : AP → List Addr
  | .scan a _ => [a]
  | .sort a p => a :: p.nodes
  | .many a _ _ ps => a :: nodesL ps
def nodesL : List AP → List Addr
  | [] => []
  | p :: ps => p.nodes ++ nodesL ps
end
mutual
def AP.depth : AP → Nat
  | .scan _ _ => 0
  | .sort _ p => p.depth + 1
  | .many _ _ _ ps => depthL ps + 1
def depthL : List AP → Nat
  | [] => 0
  | p :: ps => max p.depth (depthL ps)
end
/-- the words that the law's plans scan -/
def names : List Str := ["a", "b", "c", "dd", "e", "longer", "sort", "merge", "ab", "merged", "sorts"]
def word (m : Bool) : Str := if m then "merge" else "append"
def rootsV (ps : List AP) : List V := ps.map fun p => V.ref p.root
mutual
def AP.Ok (T : Hp) : AP → Prop
  | .scan a x => T a = some (.tup [.str "scan", .str x]) ∧ x ∈ names
  | .sort a p => T a = some (.tup [.str "sort", .ref p.root]) ∧ p.Ok T
  | .many a c m ps => T a = some (.tup [.str (word m), .ref c]) ∧ T c = some (.tup (rootsV ps)) ∧ ps ≠ [] ∧ okL T ps
def okL (T : Hp) : List AP → Prop
  | [] => True
  | p :: ps => p.Ok T ∧ okL T ps
end
theorem nodes_eq (p : AP) : p.nodes = p.root :: nodesL p.kids := by
  cases p with
  | scan a x => simp [AP.nodes, AP.root, AP.kids, nodesL]
  | sort a q => simp [AP.nodes, AP.root, AP.kids, nodesL]
  | many a c m ps => simp [AP.nodes, AP.root, AP.kids]
theorem okL_iff {T : Hp} : ∀ {ps : List AP}, okL T ps ↔ ∀ p ∈ ps, p.Ok T
  | [] => by simp [okL]
  | p :: ps => by simp only [okL, List.forall_mem_cons, okL_iff]
theorem AP.Ok.kid {T : Hp} {p q : AP} (h : p.Ok T) (hq : q ∈ p.kids) : q.Ok T := by
  cases p with
  | scan a x => cases hq
  | sort a r =>
    obtain rfl : q = r := by simpa [AP.kids] using hq
    exact h.2
  | many a c m ps => exact okL_iff.mp h.2.2.2 q hq
theorem depthL_le : ∀ {ps : List AP} {q : AP}, q ∈ ps → q.depth ≤ depthL ps
  | p :: ps, q, h => by
    rcases List.mem_cons.mp h with rfl | h
    · exact Nat.le_max_left _ _
    · exact Nat.le_trans (depthL_le h) (Nat.le_max_right _ _)
theorem AP.depth_kid {p q : AP} (hq : q ∈ p.kids) : q.depth < p.depth := by
  cases p with
  | scan a x => cases hq
  | sort a r =>
    obtain rfl : q = r := by simpa [AP.kids] using hq
    exact Nat.lt_succ_self _
  | many a c m ps => exact Nat.lt_succ_of_le (depthL_le hq)
mutual
theorem AP.Ok.mono {T T' : Hp} (hT : ∀ b xs, T b = some (.tup xs) → T' b = some (.tup xs)) : ∀ (p : AP), p.Ok T → p.Ok T'
  | .scan a x, h => ⟨hT _ _ h.1, h.2⟩
  | .sort a q, h => ⟨hT _ _ h.1, AP.Ok.mono hT q h.2⟩
  | .many a c m ps, h => ⟨hT _ _ h.1, hT _ _ h.2.1, h.2.2.1, okL_mono hT ps h.2.2.2⟩
theorem okL_mono {T T' : Hp} (hT : ∀ b xs, T b = some (.tup xs) → T' b = some (.tup xs)) : ∀ (ps : List AP), okL T ps → okL T' ps
  | [], _ => trivial
  | p :: ps, h => ⟨AP.Ok.mono hT p h.1, okL_mono hT ps h.2⟩
end
theorem AP.Ok.at {T : Hp} {p : AP} (h : p.Ok T) : ∃ xs, T p.root = some (.tup xs) := by
  cases p with
  | scan a x => exact ⟨_, h.1⟩
  | sort a q => exact ⟨_, h.1⟩
  | many a c m ps => exact ⟨_, h.1⟩
/-- the tuples that may be read -/
def tups (H : Hp) : Hp := fun b => match H b with
  | some (.tup xs) => some (.tup xs)
  | some (.frz _ (.tup xs)) => some (.tup xs)
  | _ => none
theorem tups_rd {H : Hp} {b : Addr} {xs : List V} : tups H b = some (.tup xs) ↔ Rd H b (.tup xs) := by
  unfold tups Rd
  rcases H b with _ | u
  · simp
  · cases u with
    | frz o v => cases v <;> simp <;> exact ⟨fun e => by rw [e], fun e => by injection e⟩
    | tup ys => simp
    | _ => simp
theorem tups_only {H : Hp} {b : Addr} (h : tups H b ≠ none) : ∃ xs, tups H b = some (.tup xs) := by
  cases e : tups H b with
  | none => exact absurd e h
  | some u =>
    unfold tups at e
    split at e
    · cases e; exact ⟨_, rfl⟩
    · cases e; exact ⟨_, rfl⟩
    · cases e
theorem tups_dt {P : Program} {w : World} {H : Hp} {h : Heap} (x : HOk P w H h) : Dt P w (tups H) h := fun b xs e => (tups_rd.mp e).ok x
theorem tups_same {H H' : Hp} (e : Same H H') : ∀ b xs, tups H b = some (.tup xs) → tups H' b = some (.tup xs) := fun b xs h => by
  rcases tups_rd.mp h with z | ⟨o, z⟩
  · exact tups_rd.mpr (.inl (e _ _ z))
  · exact tups_rd.mpr (.inr ⟨o, e _ _ z⟩)
/-- is_form of a plan; parts_of it -/
def spForm : Sp := fun vs H Q _ => ∃ p : AP, vs = [.ref p.root] ∧ p.Ok (tups H) ∧ ∀ H', Same H H' → Q (.bl true) H'
def spParts : Sp := fun vs H Q _ => ∃ p : AP, vs = [.ref p.root] ∧ p.Ok (tups H) ∧ (∀ c, Rd H c (.tup (rootsV p.kids)) → Q (.ref c) H) ∧ ∀ c, H c = none → Q (.ref c) (upd H c (.tup (rootsV p.kids)))
end Gz
end
section
set_option Elab.async false
set_option maxRecDepth 100000
set_option autoImplicit false
set_option linter.all false
/-! walk: the frame, the first item -/
namespace Gz
open PySem PySem.Spec L2
open PyProof.Rows hiding St
section
variable {P : Program} {w : World} {A : Around} {R : Shared → Prop} {Y : Value → Shared → GenState → Prop} {fs : List Frame} {s : Shared}
def fnEnd : Flow → Sem Fin := fun f => .pure (.done (.ret (match f with | .ret v => v | _ => .none)))
theorem grun_func {body : List Stmt} {env : Env} (h : ∀ (K : Flow → Sem Fin) (J : Value → Sem Fin) (gd : Bool → Bool) (lv : List Value → List Value), (∀ f, K f = fnEnd f) → gd false = false → GRun P w A R Y (.func body env) ((execs body env).wrap K J gd lv) fs s) :
    GRun P w A R Y (.func body env) (denote table (.func body env)) fs s := by
  show GRun P w A R Y _ (point >>= fun _ => (execs body env).onRaise (leaving env) >>= _) fs s
  refine grun_bind (wpS_of (wpAny_point ?_))
  rw [Sem.onRaise_eq_wrap, Sem.bind_eq_wrap', Sem.wrap_wrap]
  exact h _ _ _ _ (fun f => by cases f <;> rfl) rfl
end
/-- a loud-free def's promise, by its name -/
structure PCal (P : Program) (w : World) (K : PySem.W.Frag) (mg : Str → Option Value) (base : Heap) (k : Nat) (x : Str) (sp : Sp) : Prop where
  ex : ∃ (f : Addr) (fd : FuncData) (ps : List Str), FnOk P w K mg base CX0 k f fd ps sp ∧ mg x = some (.ref f) ∧ PySem.W.keepIn K (.ref f) = true ∧ Binds K fd ps []
theorem pcal {X : Cx} {k j : Nat} {x : Str} {sp : Sp} {p pos : Pos} {e : Expr} {es : List Expr} {t : TA} (c : PCal X.prog X.w X.K X.mg X.base k x sp) (hr : Room j X.A) (hk : k ≤ j) (hg : Gl X x) (ha : PA X (e :: es) t) (hdb : (x == ("__debug__" : Str)) = false := by decide)
    (he : starEach (e :: es) X.env = (false, eval e X.env) :: starEach es X.env := by rfl) (hpl : (backTo pos (starEach es X.env)).any (·.1) = false := by rfl) : PE X (.Call (.Name x p) (e :: es) [] pos) (tCall sp [] E0 t) := by
  obtain ⟨f, fd, ps, F, hm, hkp, hb⟩ := c.ex
  exact pe_call (F.mono hk) hr hg hm hkp hb .nil pass0 ha hdb he hpl
/-! ### the text -/
def wFrom (q : Nat → Pos) : Stmt := .Expr (.YieldFrom (.Call (.Name "walk" (q 8)) [.Name "part" (q 9), .BinOp (.Name "path" (q 10)) .Add (.Tuple [.Name "number" (q 11)] 0 (q 12)) (q 13)] [] (q 14)) (q 20)) (q 21)
def wTg (q : Nat → Pos) : Expr := .Tuple [.Name "number" (q 15), .Name "part" (q 16)] 0 (q 17)
def wIter (q : Nat → Pos) : Expr := .Call (.Name "enumerate" (q 18)) [.Call (.Name "parts_of" (q 19)) [.Name "thing" (q 22)] [] (q 23)] [] (q 24)
def wFor (q : Nat → Pos) : Stmt := .For (wTg q) (wIter q) [wFrom q] [] (q 25)
def wTest (q : Nat → Pos) : Expr := .Call (.Name "is_form" (q 4)) [.Name "thing" (q 5)] [] (q 6)
def wIf (q : Nat → Pos) : Stmt := .If (wTest q) [wFor q] [] (q 7)
def wOut (q : Nat → Pos) : Expr := .Tuple [.Name "path" (q 0), .Name "thing" (q 1)] 0 (q 2)
def wYield (q : Nat → Pos) : Stmt := .Expr (.Yield (some (wOut q)) (q 3)) (q 26)
def wBody (q : Nat → Pos) : List Stmt := [wYield q, wIf q]
abbrev wN : List Str := ["thing", "path", "number", "part"]
structure WalkD (D : GDef) (kf : Nat) (q : Nat → Pos) (fd : FuncData) : Prop where
  ok : D.Ok
  fn : GenFun D ["thing", "path"] (wBody q) fd
  N : D.N = wN
  loc : ∀ x ∈ wN, D.scope.names.lookup x = some .local
  glo : ∀ x ∈ (["is_form", "enumerate", "parts_of", "walk"] : List Str), D.scope.names.lookup x = some .globalImplicit
  enum : D.mg "enumerate" = none
  self : D.mg "walk" = some (.ref D.f)
  binds : Binds D.K fd ["thing", "path"] []
  form : PCal D.prog D.w D.K D.mg D.base kf "is_form" spForm
  parts : PCal D.prog D.w D.K D.mg D.base kf "parts_of" spParts
theorem objok_alive {P : Program} {w : World} {H : Hp} {h : Heap} {a : Addr} {u : HO} (x : ObjOk P w H h a u) (d : ∀ o, h.get? a ≠ some o) : False := by
  cases u with
  | lst xs => obtain ⟨_, _, _, _, e⟩ := x; exact d _ e
  | tup xs => obtain ⟨_, _, _, o, e, _⟩ := x; exact d _ e
  | dK kvs => obtain ⟨_, _, _, _, o, _, _, e, _⟩ := x; exact d _ e
  | dT kvs => obtain ⟨_, _, _, _, o, _, _, e, _⟩ := x; exact d _ e
  | set S n => obtain ⟨o, _, _, _, e, _⟩ := x; exact d _ e
  | ins C dx fs => obtain ⟨_, _, _, e, _⟩ := x; exact d _ e
  | own y => obtain ⟨_, e⟩ := x; exact d _ e
  | xd fs => obtain ⟨_, ⟨_, _, _, e, _⟩, _⟩ := x; exact d _ e
  | rng lo hi => obtain ⟨_, _, _, e⟩ := x; exact d _ e
  | frz ob u => obtain ⟨e, _⟩ := x; exact d _ e
  | tbl ps => exact d _ (show h.get? a = some _ from x)
  | met f y => exact d _ (show h.get? a = some _ from x)
  | ext φ => obtain ⟨_, ⟨_, e⟩, _⟩ := x; exact d _ e
/-- the frame -/
def FrameAt (n root pa : Addr) (h : Heap) : Prop := ∃ m, h.Ns n m ∧ m "thing" = some (.ref root) ∧ m "path" = some (.ref pa)
theorem FrameAt.of {n root pa : Addr} {h h' : Heap} (x : FrameAt n root pa h) (k : ∀ o, h.get? n = some o → ∃ sl, h'.get? n = some { o with slots := sl }) : FrameAt n root pa h' := by
  obtain ⟨m, ⟨o, es, ep, ho, r⟩, a, b⟩ := x
  obtain ⟨sl, e⟩ := k o ho
  exact ⟨m, ⟨_, es, ep, e, r⟩, a, b⟩
abbrev wσ (root pa : Addr) : L2.St := [some (.ref root), some (.ref pa), none, none]
section
variable {D : GDef} {kf k n : Nat} {q : Nat → Pos} {fd : FuncData} {T : Hp} {A : Around} {outer : List Env} {s : Shared} {root pa : Addr} {ip : List Addr}
theorem intr (W : WalkD D kf q fd) : interactive (D.env n) = false := by
  show (D.scope.kind == .module && _) = false
  rw [W.ok.kind]
  rfl
theorem wake_frame (W : WalkD D kf q fd) (G : GFix D n) (K : Wk D T k n A outer s) (F : FrameAt n root pa s.heap) :
    InvG (gCx D n A outer s (frzH T D.base (n :: (ip ++ frs outer)) s.heap)) [] (wσ root pa) (frzH T D.base (n :: (ip ++ frs outer)) s.heap) s := by
  refine wake_inv G K ?_ (by rw [W.N]; rfl)
  obtain ⟨m, hm, h1, h2⟩ := F
  refine ⟨m, hm, fun i x v e1 e2 e3 => ?_⟩
  rw [W.N] at e1
  match i, e1, e2 with
  | 0, e1, e2 =>
    obtain rfl : ("thing" : Str) = x := Option.some.inj e1
    obtain rfl : V.ref root = v := Option.some.inj (Option.some.inj e2)
    exact ⟨_, rfl, W.loc _ (by simp), h1⟩
  | 1, e1, e2 =>
    obtain rfl : ("path" : Str) = x := Option.some.inj e1
    obtain rfl : V.ref pa = v := Option.some.inj (Option.some.inj e2)
    exact ⟨_, rfl, W.loc _ (by simp), h2⟩
  | 2, e1, e2 => cases (Option.some.inj e2)
  | 3, e1, e2 => cases (Option.some.inj e2)
  | i + 4, e1, e2 => cases e2
/-- names in its context -/
theorem wv {A : Around} {H : Hp} (W : WalkD D kf q fd) (i : Nat) {x : Str} {pos : Pos} (hx : wN[i]? = some x) (hd : (x == ("__debug__" : Str)) = false) (hcd : (x == ("__classdict__" : Str)) = false) : PE (gCx D n A outer s H) (.Name x pos) (tVar i) :=
  pe_var (X := gCx D n A outer s H) (by show D.N[i]? = _; rw [W.N]; exact hx) (.inl (W.loc x (List.mem_of_getElem? hx))) hd hcd
/-- path, thing -/
theorem pe_out {H : Hp} (W : WalkD D kf q fd) : PE (gCx D n A outer s H) (wOut q) (tTup (tCons (tVar 1) (tCons (tVar 0) tNil))) :=
  pe_tup (pa_cons (wv W 1 rfl (by decide) (by decide)) (pa_cons (wv W 0 rfl (by decide) (by decide)) pa_nil))
/-- tracked now, not at the wake: new -/
theorem frz_new {pins : List (Addr × Obj)} {σ : L2.St} {H' : Hp} {s' : Shared} {p : Addr} {u : HO} (K : Wk D T k n A outer s) (I : InvG (gCx D n A outer s (frzH T D.base (n :: (ip ++ frs outer)) s.heap)) pins σ H' s') (hz : Hz s.heap s'.heap)
    (hip : ∀ b ∈ ip, H' b = none) (hp : frzH T D.base (n :: (ip ++ frs outer)) s.heap p = none) (hu : H' p = some u) : s.heap.objs.size ≤ p := by
  have hal : ∃ o, s'.heap.get? p = some o := by
    have hlt := (I.hok p u hu).lt
    cases e : s'.heap.get? p with
    | some o => exact ⟨o, rfl⟩
    | none =>
      exfalso
      have q := I.hok p u hu
      have dead : ∀ o, s'.heap.get? p ≠ some o := fun o z => by rw [e] at z; cases z
      exact objok_alive q dead
  obtain ⟨o, ho⟩ := hal
  refine hz.new ho ?_
  cases e : s.heap.get? p with
  | none => rfl
  | some o' =>
    exfalso
    have nst : p ∉ n :: (ip ++ frs outer) := fun hm => by
      rcases List.mem_cons.mp hm with z | z
      · have y : H' p = none := by rw [z]; exact I.free
        rw [hu] at y; cases y
      · rcases List.mem_append.mp z with z | z
        · have y := hip p z
          rw [hu] at y; cases y
        · have y : H' p = none := I.stkFree p (List.mem_cons_of_mem _ z)
          rw [hu] at y; cases y
    cases eb : D.base.get? p with
    | some ob =>
      have y : H' p = none := (Inv.bs I p ob eb).2
      rw [hu] at y; cases y
    | none =>
      rw [frz_at nst eb e] at hp
      cases hp
/-- the first item: itself -/
theorem walk_first {g : Nat} {rem : List Addr} {s0 : Shared} (W : WalkD D kf q fd) (G : GFix D n) (TF : TFix D T n) (F : FrameAt n root pa s0.heap)
    (rest : ∀ (s1 : Shared) (kk : Resume → Sem Fin) (l : List Value) (p : Pos), FrameAt n root pa s1.heap → (∀ A1 R1 Y1 s2, (∀ (K : Flow → Sem Fin) (J : Value → Sem Fin) (gd : Bool → Bool) (lv : List Value → List Value), (∀ f, K f = fnEnd f) → gd false = false →
        GRun D.prog D.w A1 R1 Y1 (.func (wBody q) (D.env n)) ((execs [wIf q] (D.env n)).wrap K J gd lv) [] s2) → GRun D.prog D.w A1 R1 Y1 (.func (wBody q) (D.env n)) (kk (.send .none)) [] s2) →
      GenC D T k n g rem (.suspended kk l (.func (wBody q) (D.env n)) p [] false) [n] [] s1) :
    GenC D T k n g (root :: rem) (.fresh (.func (wBody q) (D.env n))) [n] [] s0 := by
  intro A outer s K hg hz0 hH hO
  have F0 : FrameAt n root pa s.heap := F.of fun o e => ⟨o.slots, hH n (by simp) o e⟩
  show GRun _ _ _ _ _ _ (denote table _) [] (s.setGen g .running)
  refine grun_func fun KK J gd lv hK hgd => grun_cons (grun_stYield (by rfl) hgd (by rfl) ?_ W.fn.co (intr W))
  rw [GenW.over_func]
  have Kw : Wk D T k n A outer (s.setGen g .running) := ⟨K.room, K.frames, K.lo, K.base, K.funs, K.dat, K.tf, K.size⟩
  have I := wake_frame (ip := []) W G Kw (s := s.setGen g .running) F0
  refine thnS (wpS_hz0 ((ES.of (X := gCx D n A outer (s.setGen g .running) (frzH T D.base (n :: ([] ++ frs outer)) (s.setGen g .running).heap)) (pe_out W)).run [] _ _ _ (fun v H' => ∃ p, frzH T D.base (n :: ([] ++ frs outer)) s.heap p = none ∧ v = .ref p ∧ H' = upd (frzH T D.base (n :: ([] ++ frs outer)) s.heap) p (.tup [.ref pa, .ref root])) I ?_)) fun v s1 hv => ?_
  · exact ⟨_, rfl, _, rfl, by show 2 ≤ sizeLine; decide, fun p hp => ⟨p, hp, rfl, rfl⟩⟩
  · obtain ⟨hz, ⟨x, H', I1, rv, p, hp, rfl, rfl⟩, gst⟩ := hv
    obtain rfl : v = .ref p := rv
    intro kk l pos hkk
    obtain ⟨k1, k2, k3⟩ := frz_keep Kw I1
    have hpt : upd (frzH T D.base (n :: ([] ++ frs outer)) s.heap) p (.tup [.ref pa, .ref root]) p = some (.tup [.ref pa, .ref root]) := upd_same
    obtain ⟨_, its, rits, ht⟩ := I1.hok p _ hpt
    have hits : its = [.ref pa, .ref root] := by
      cases rits with
      | cons a b =>
        cases b with
        | cons c d =>
          cases d
          cases a
          cases c
          rfl
    subst hits
    have hnew : s.heap.objs.size ≤ p := frz_new (s := s.setGen g .running) (ip := []) Kw I1 hz (fun b hb => by cases hb) hp hpt
    obtain ⟨m, hm, hmv⟩ := I1.loc
    have hlt : n < s1.heap.objs.size := hm.lt
    have hs : s.heap.objs.size ≤ s1.heap.objs.size := hz.1
    refine ⟨p, pa, [n], [], rfl, hnew, ht.lt, ?_, ht, ⟨hs, fun b o e h1 h2 => k1 b o e (fun z => h2 (by simp [z])) (by simp) h1, fun b o e hb => k2 b o e hb, fun b hb => .inl hb, fun b hb => ?_⟩, of_gstep gst, k3, (fun i hi => (by cases hi)), (fun c z => (by cases z)), ?_⟩
    · intro z
      obtain rfl : p = n := by simpa using z
      have z2 : upd (frzH T D.base (p :: ([] ++ frs outer)) s.heap) p (.tup [.ref pa, .ref root]) p = none := I1.free
      rw [upd_same] at z2
      cases z2
    · obtain rfl : b = n := by simpa using hb
      exact al_ns hm
    · refine rest s1 kk l pos ?_ fun A1 R1 Y1 s2 h2 => hkk A1 R1 Y1 s2 (h2 KK J gd lv hK hgd)
      refine ⟨m, hm, ?_, ?_⟩
      · obtain ⟨u, ru, lk⟩ := hmv 0 "thing" (.ref root) (by show D.N[0]? = _; rw [W.N]; rfl) rfl (.inl (W.loc _ (by simp)))
        obtain rfl : u = .ref root := ru
        rcases lk with ⟨_, e⟩ | ⟨e, _⟩
        · exact e
        · rcases e with e | e
          · exact absurd e (W.ok.plain _).1
          · exact absurd e (W.ok.plain _).2
      · obtain ⟨u, ru, lk⟩ := hmv 1 "path" (.ref pa) (by show D.N[1]? = _; rw [W.N]; rfl) rfl (.inl (W.loc _ (by simp)))
        obtain rfl : u = .ref pa := ru
        rcases lk with ⟨_, e⟩ | ⟨e, _⟩
        · exact e
        · rcases e with e | e
          · exact absurd e (W.ok.plain _).1
          · exact absurd e (W.ok.plain _).2
end
end Gz
end
section
set_option Elab.async false
set_option maxRecDepth 100000
set_option autoImplicit false
set_option linter.all false
/-! walk: the loop over the parts, the delegate -/
namespace Gz
open PySem PySem.Spec L2
open PyProof.Rows hiding St
theorem GObj.keep {h h' : Heap} {a : Addr} {g : Nat} (x : GObj h a g) (k : ∀ o, h.get? a = some o → h'.get? a = some o) : GObj h' a g := by
  obtain ⟨o, nm, qn, e, r⟩ := x
  exact ⟨o, nm, qn, k o e, r⟩
theorem GMark.keep {h h' : Heap} {a : Addr} {g : Nat} {n : Int} (x : GMark h a g n) (k : ∀ o, h.get? a = some o → h'.get? a = some o) : GMark h' a g n := by
  obtain ⟨o, nm, qn, e, r⟩ := x
  exact ⟨o, nm, qn, k o e, r⟩
/-- what a walk over r's plan promises, with k rooms -/
def WalkGen (D : GDef) (q : Nat → Pos) (k : Nat) (r : AP) : Prop := ∀ (T : Hp) (n g : Nat) (pa : Addr) (pxs : List V) (s0 : Shared), GFix D n → TFix D T n → r.Ok T → T pa = some (.tup pxs) → pxs.length + r.depth + 1 ≤ sizeLine → FrameAt n r.root pa s0.heap →
  GenC D T k n g r.nodes (.fresh (.func (wBody q) (D.env n))) [n] [] s0
/-- what stands through a walk over p's parts -/
structure Ses (D : GDef) (kf k : Nat) (q : Nat → Pos) (fd : FuncData) (T : Hp) (n : Nat) (p : AP) (pa : Addr) (pxs : List V) : Prop where
  W : WalkD D kf q fd
  G : GFix D n
  TF : TFix D T n
  ok : p.Ok T
  path : T pa = some (.tup pxs)
  len : pxs.length + p.depth + 1 ≤ sizeLine
  room : kf ≤ k + 1
  IH : ∀ r ∈ p.kids, WalkGen D q k r
/-- the loop's own things -/
structure Lp (D : GDef) (q : Nat → Pos) (T : Hp) (n : Nat) (p : AP) (c it : Addr) (ip : List Addr) (tn : Nat → Heap → Prop) (P : List Addr) : Prop where
  turn : Turn D.prog D.w D.K (wTg q) (IteT D.K c) ip it tn
  nP : n ∈ P
  ipP : ∀ b ∈ ip, b ∈ P
  ipn : ∀ b ∈ ip, n < b
  cP : (c ∈ P ∧ n < c) ∨ T c = some (.tup (rootsV p.kids))
  cip : c ∉ ip
  cb : D.base.get? c = none
  Pn : ∀ b ∈ P, n ≤ b
/-- .. as they stand ahead of the j-th turn -/
structure Ld (D : GDef) (T : Hp) (n : Nat) (p : AP) (pa c : Addr) (tn : Nat → Heap → Prop) (j : Nat) (h : Heap) : Prop where
  fr : FrameAt n p.root pa h
  tn : tn j h
  tup : ObjOk D.prog D.w T h c (.tup (rootsV p.kids))
abbrev cF (D : GDef) (q : Nat → Pos) (n : Nat) : Code := .func (wBody q) (D.env n)
abbrev cL (D : GDef) (q : Nat → Pos) (n it : Nat) : Code := .forLoop (wTg q) (.ref it) [wFrom q] [] (D.env n)
/-- the frames of the loop's code; of the delegate's -/
structure Fr2 (D : GDef) (q : Nat → Pos) (n : Nat) (fs2 : List Frame) : Prop where
  ex : ∃ (k2 : Result → Sem Fin) (l : List Value) (p : Pos), fs2 = [.ret k2 none false l (cF D q n) p []] ∧ k2 (.ok .next) = .pure (.done (.ret .none))
structure Fr1 (D : GDef) (q : Nat → Pos) (n it : Nat) (fs2 fs1 : List Frame) : Prop where
  ex : ∃ (k1 : Result → Sem Fin) (l : List Value) (p : Pos), fs1 = .ret k1 none false l (cL D q n it) p [] :: fs2 ∧ k1 (.ok (.ret .none)) = .pure (.again (cL D q n it))
section
variable {D : GDef} {kf k n : Nat} {q : Nat → Pos} {fd : FuncData} {T : Hp} {p : AP} {pa : Addr} {pxs : List V} {fs1 fs2 : List Frame} {it : Addr} {A : Around}
theorem Fr2.over (F : Fr2 D q n fs2) : A.over (cL D q n it) fs2 = A.deeper (D.env n) := by
  obtain ⟨k2, l, p, rfl, _⟩ := F.ex
  exact (GenW.over_loop rfl rfl).trans GenW.over_func
theorem Fr1.over {ga : Addr} (F : Fr1 D q n it fs2 fs1) (F2 : Fr2 D q n fs2) : A.over (yfc ga) fs1 = (A.deeper (D.env n)).in1 := by
  obtain ⟨k1, l, p, rfl, _⟩ := F.ex
  rw [over_plain plain_yf, F2.over]
theorem Fr1.split (F : Fr1 D q n it fs2 fs1) (F2 : Fr2 D q n fs2) : splitAtGen fs1 = none := by
  obtain ⟨k1, l, p, rfl, _⟩ := F.ex
  obtain ⟨k2, l2, p2, rfl, _⟩ := F2.ex
  rfl
theorem Fr1.guard (F : Fr1 D q n it fs2 fs1) (F2 : Fr2 D q n fs2) : fs1.any Frame.guarded = false := by
  obtain ⟨k1, l, p, rfl, _⟩ := F.ex
  obtain ⟨k2, l2, p2, rfl, _⟩ := F2.ex
  rfl
end
/-- the loop's code at j, within m items -/
def LPs (D : GDef) (q : Nat → Pos) (k n g : Nat) (T : Hp) (p : AP) (pa : Addr) (c it : Addr) (ip : List Addr) (tn : Nat → Heap → Prop) (fs2 : List Frame) (m j : Nat) : Prop :=
  (nodesL (p.kids.drop j)).length ≤ m → ∀ (A : Around) (outer : List Env) (sw s : Shared) (fp0 P : List Addr) (own0 : List Nat), Wk D T (k + 3) n A outer s → KR (frs outer) fp0 sw.heap P s.heap → GR own0 sw.gens [] s.gens → s.os = sw.os →
    Lp D q T n p c it ip tn P → Ld D T n p pa c tn j s.heap → g < s.gens.size →
    GRun D.prog D.w A (gR outer fp0 own0 sw (nodesL (p.kids.drop j))) (gY D T (k + 3) n g outer fp0 own0 sw (nodesL (p.kids.drop j))) (cL D q n it) (denote table (cL D q n it)) fs2 s
/-- the delegate's code at j, with rs to come from the part -/
def YFs (D : GDef) (q : Nat → Pos) (k n g : Nat) (T : Hp) (p : AP) (pa : Addr) (c it : Addr) (ip : List Addr) (tn : Nat → Heap → Prop) (fs1 : List Frame) (m j : Nat) : Prop :=
  ∀ (rs : List Addr), rs.length + (nodesL (p.kids.drop (j + 1))).length ≤ m → ∀ (A : Around) (outer : List Env) (sw s sS : Shared) (fp0 P fpS : List Addr) (own0 ownS : List Nat) (ga gS nS pb : Nat) (pys : List V) (gsub : GenState),
    Wk D T (k + 3) n A outer s → KR (frs outer) fp0 sw.heap (P ++ fpS) s.heap → GR own0 sw.gens (gS :: ownS) s.gens → s.os = sw.os → Lp D q T n p c it ip tn P → Ld D T n p pa c tn (j + 1) s.heap → g < s.gens.size →
    GObj s.heap ga gS → ga ∈ P → n < ga → ga ∉ ip → ga ≠ c → pb ∈ P → n < pb → pb ≠ ga → ObjOk D.prog D.w T s.heap pb (.tup pys) → n < nS → nS ≤ s.heap.objs.size → (∀ b ∈ P, b ∉ fpS) → (∀ b ∈ fpS, nS ≤ b) → gS ∉ ownS → g ∉ gS :: ownS → s.gens[gS]? = some gsub →
    GenC D (upd T pb (.tup pys)) k nS gS rs gsub fpS ownS sS → sS.heap.objs.size ≤ s.heap.objs.size → Held fpS sS.heap s.heap → (∀ i ∈ ownS, s.gens[i]? = sS.gens[i]?) →
    GRun D.prog D.w A (gR outer fp0 own0 sw (rs ++ nodesL (p.kids.drop (j + 1)))) (gY D T (k + 3) n g outer fp0 own0 sw (rs ++ nodesL (p.kids.drop (j + 1)))) (yfc ga) (denote table (yfc ga)) fs1 s
section
variable {D : GDef} {kf k n g : Nat} {q : Nat → Pos} {fd : FuncData} {T : Hp} {p : AP} {pa : Addr} {pxs : List V} {fs1 fs2 : List Frame} {c it : Addr} {ip : List Addr} {tn : Nat → Heap → Prop} {m j : Nat}
theorem Lp.cn {P : List Addr} (L : Lp D q T n p c it ip tn P) (TF : TFix D T n) : c ≠ n := fun z => by
  rcases L.cP with ⟨_, y⟩ | y
  · rw [z] at y; exact absurd y (Nat.lt_irrefl _)
  · have := TF.tlt c (by rw [y]; simp)
    rw [z] at this
    exact absurd this (Nat.lt_irrefl _)
/-- the loop's own things stay, over what keeps them -/
theorem Ld.keep {h h' : Heap} {P : List Addr} (d : Ld D T n p pa c tn j h) (L : Lp D q T n p c it ip tn P) (TF : TFix D T n) (hn : ∀ o, h.get? n = some o → ∃ sl, h'.get? n = some { o with slots := sl }) (hk : ∀ b ∈ P, b ∈ ip ∨ b = c → ∀ o, h.get? b = some o → h'.get? b = some o) (hT : Dt D.prog D.w T h') : Ld D T n p pa c tn j h' := by
  refine ⟨d.fr.of hn, L.turn.keep j h h' d.tn fun b hb o e => hk b (L.ipP b hb) (.inl hb) o e, ?_⟩
  rcases L.cP with ⟨y, _⟩ | y
  · obtain ⟨z, its, r, o, e, e2⟩ := d.tup
    exact ⟨z, its, r, o, hk c y (.inr rfl) o e, e2⟩
  · exact hT c _ y
theorem yf_step (S : Ses D kf k q fd T n p pa pxs) (F2 : Fr2 D q n fs2) (F1 : Fr1 D q n it fs2 fs1) (ih : ∀ m', m' < m → YFs D q k n g T p pa c it ip tn fs1 m' j) (lp : LPs D q k n g T p pa c it ip tn fs2 m (j + 1)) : YFs D q k n g T p pa c it ip tn fs1 m j := by
  intro rs hm A outer sw s sS fp0 P fpS own0 ownS ga gS nS pb pys gsub K kr gr os L Lj hg hGo gaP gan gaip gac pbP pbn pbga hpb nSn nSz dis fpSn gSo gg hgs gc sz held og
  have Aov : A.over (yfc ga) fs1 = (A.deeper (D.env n)).in1 := F1.over F2
  have hnP : n ∉ fpS := dis n L.nP
  have hbn : D.base.get? n = none := Heap.get?_none_of_le S.G.bsz
  have ltP : ∀ b ∈ P, b < s.heap.objs.size := fun b hb => kr.lt b (List.mem_append_left _ hb)
  have Tn : T n = none := by
    cases e : T n with
    | none => rfl
    | some u => exact absurd (S.TF.tlt n (by rw [e]; simp)) (Nat.lt_irrefl _)
  have Tpb : T pb = none := by
    cases e : T pb with
    | none => rfl
    | some u => exact absurd (Nat.lt_trans (S.TF.tlt pb (by rw [e]; simp)) pbn) (Nat.lt_irrefl _)
  -- the sub's world
  have Ksub : Wk D (upd T pb (.tup pys)) k nS (A.over (yfc ga) fs1).in1 (D.env n :: outer) s := by
    rw [Aov]
    refine ⟨((K.room.deeper (D.env n)).in1).in1, Around.frames_deeper K.frames, fun b hb => ?_, K.base, ?_, fun b xs e => ?_, fun b hb => ?_, nSz⟩
    · have hb' : b = n ∨ b ∈ frs outer := by
        have z : b ∈ n :: frs outer := hb
        simpa using z
      rcases hb' with z | z
      · rw [z]; exact nSn
      · exact Nat.lt_trans (K.lo b z) nSn
    · obtain ⟨m0, ⟨o, es, ep, ho, hd, _⟩, _⟩ := id Lj.fr
      refine ⟨by show D.scope.kind ≠ _; rw [S.W.ok.kind]; decide, ⟨n, o, rfl, hbn, ho, fun vs z => ?_⟩, K.funs⟩
      rw [hd] at z
      cases z
    · by_cases hb : b = pb
      · subst hb
        rw [upd_same] at e
        cases e
        exact hpb
      · rw [upd_ne hb] at e
        exact K.dat b xs e
    · have hb' : b = n ∨ b ∈ frs outer := by
        have z : b ∈ n :: frs outer := hb
        simpa using z
      rcases hb' with z | z
      · rw [z, upd_ne (Nat.ne_of_lt pbn)]; exact Tn
      · rw [upd_ne (Nat.ne_of_lt (Nat.lt_trans (K.lo b z) pbn))]; exact K.tf b z
  have hgSlt : gS < s.gens.size := lt_of_some hgs
  have hgo := genC_iff.mp gc (A.over (yfc ga) fs1).in1 (D.env n :: outer) s Ksub hgSlt sz held og
  have frsE : frs (D.env n :: outer) = n :: frs outer := rfl
  have gafs : ga ∉ n :: frs outer := fun z => by
    rcases List.mem_cons.mp z with z | z
    · exact absurd gan (by rw [z]; exact Nat.lt_irrefl _)
    · exact absurd (Nat.lt_trans (K.lo ga z) gan) (Nat.lt_irrefl _)
  have frP : ∀ b ∈ P, b ∉ frs outer := fun b hb z => absurd (Nat.lt_of_lt_of_le (K.lo b z) (L.Pn b hb)) (Nat.lt_irrefl _)
  have lim : s.heap.NoLimit := S.G.ok.mod.nolimit.keeps K.base
  -- what a run of the sub keeps
  have keepP : ∀ {fpS' : List Addr} {h1 : Heap}, KR (frs (D.env n :: outer)) fpS s.heap fpS' h1 → ∀ b ∈ P, b ≠ n → ∀ o, s.heap.get? b = some o → h1.get? b = some o := fun {fpS' h1} kr1 b hb hbn' o e =>
    kr1.keep b o e (fun z => by
      rcases List.mem_cons.mp z with z | z
      · exact hbn' z
      · exact frP b hb z) (dis b hb)
  have krall : ∀ {fpS' : List Addr} {h1 : Heap}, KR (frs (D.env n :: outer)) fpS s.heap fpS' h1 → KR (frs outer) fp0 sw.heap (P ++ fpS') h1 := fun {fpS' h1} kr1 =>
    kr.trans (kr1.frame (fun z hz => kr.alive z (List.mem_append_left _ hz)) dis) (fun z hz => by
      rcases List.mem_cons.mp hz with y | y
      · exact .inr (List.mem_append_left _ (by rw [y]; exact L.nP))
      · exact .inl y) fun z hz => List.mem_cons_of_mem _ hz
  have small : ∀ {b : Addr}, b < n → b ∉ frs outer → b ∉ frs (D.env n :: outer) ∧ b ∉ fpS := fun {b} hb nf => ⟨fun z => by
    rcases List.mem_cons.mp z with z | z
    · rw [z] at hb; exact absurd hb (Nat.lt_irrefl _)
    · exact nf z, fun z => absurd (Nat.lt_of_lt_of_le (Nat.lt_trans hb nSn) (fpSn b z)) (Nat.lt_irrefl _)⟩
  have baseN : ∀ b o, D.base.get? b = some o → b ∉ frs outer := fun b o e z => by
    have y := (K.funs.mem z).1
    rw [e] at y
    cases y
  have tN : ∀ b, T b ≠ none → b ∉ frs outer := fun b hb z => hb (K.tf b z)
  have wk1 : ∀ {fpS' : List Addr} {s1 : Shared}, KR (frs (D.env n :: outer)) fpS s.heap fpS' s1.heap → Wk D T (k + 3) n A outer s1 := fun {fpS' s1} kr1 =>
    K.step (fs := frs (D.env n :: outer)) (fp := fpS) kr1.size kr1.keep kr1.slot (fun b o e => small (Nat.lt_of_lt_of_le (Heap.lt_size e) S.G.bsz) (baseN b o e)) (fun b hb => small (S.TF.tlt b hb) (tN b hb))
      fun b hb z => absurd (Nat.lt_of_lt_of_le (Nat.lt_trans (K.lo b hb) nSn) (fpSn b z)) (Nat.lt_irrefl _)
  have nfs : n ∈ frs (D.env n :: outer) := List.mem_cons_self
  refine grun_yf (R1 := gR (D.env n :: outer) fpS ownS (s.setGen gS .running) rs) (Y1 := gY D (upd T pb (.tup pys)) k nS gS (D.env n :: outer) fpS ownS (s.setGen gS .running) rs) ?_ lim ?_ (F1.split F2) (F1.guard F2) hGo hgs hgo (fun v s1 gs' hy => ?_) (fun s1 hr h' hk hz => ?_)
  · rw [Aov]; exact K.room.hd
  · rw [Aov]
    have := K.room.dp
    show A.depth + 1 < recursionLimit
    omega
  · -- an item
    cases rs with
    | nil => exact False.elim hy
    | cons x rs' =>
      obtain ⟨qq, pa2, fpS', ownS', rfl, hq1, hq2, hq3, hT, kr1, gr1, os1, nf1, nfr, gc1⟩ := hy
      have kr1 : KR (frs (D.env n :: outer)) fpS s.heap fpS' s1.heap := kr1
      have hq1 : s.heap.objs.size ≤ qq := hq1
      have gan' : ga ≠ n := fun z => by rw [z] at gan; exact absurd gan (Nat.lt_irrefl _)
      refine ⟨hGo.keep (keepP kr1 ga gaP gan'), fun h' hm1 hk hz kk l pos hD => ?_⟩
      have hkS : gS < s1.gens.size := by
        have := gr1.size
        rw [setGen_sz] at this
        omega
      have dis' : ∀ b ∈ P, b ∉ fpS' := fun b hb z => by
        rcases kr1.young b z with y | y
        · exact dis b hb y
        · exact absurd (Nat.lt_of_lt_of_le (ltP b hb) y) (Nat.lt_irrefl _)
      have gSo' : gS ∉ ownS' := fun z => by
        rcases gr1.young gS z with y | y
        · exact gSo y
        · rw [setGen_sz] at y; omega
      have gg' : g ∉ gS :: ownS' := fun z => by
        rcases List.mem_cons.mp z with z | z
        · exact gg (by rw [z]; exact List.mem_cons_self)
        · rcases gr1.young g z with y | y
          · exact gg (List.mem_cons_of_mem _ y)
          · rw [setGen_sz] at y; omega
      have fpSn' : ∀ b ∈ fpS', nS ≤ b := fun b hb => by
        rcases kr1.young b hb with y | y
        · exact fpSn b y
        · exact Nat.le_trans nSz y
      have krA := krall kr1
      have ltA : ∀ b ∈ P ++ fpS', b < s1.heap.objs.size := krA.lt
      have gafs2 : ga ∉ frs outer := fun z => gafs (List.mem_cons_of_mem _ z)
      have krB : KR (frs outer) (P ++ fpS') s1.heap (P ++ fpS') h' := KR.touch (List.mem_append_left _ gaP) hz hk gafs2 krA.alive (al_mark hm1)
      have own1 : ∀ i ∈ gS :: ownS', ∃ st, (s1.setGen gS gs').gens[i]? = some st ∧ ∀ c, st ≠ .fresh c := fun i hi => by
        rcases List.mem_cons.mp hi with z | z
        · rw [z]; exact ⟨gs', setGen_at hkS, nfr⟩
        · have hne : gS ≠ i := fun y => gSo' (by rw [y]; exact z)
          obtain ⟨st, e, nf⟩ := nf1 i z
          exact ⟨st, by rw [setGen_ne hne]; exact e, nf⟩
      refine ⟨qq, pa2, P ++ fpS', gS :: ownS', rfl, Nat.le_trans kr.size hq1, by show qq < h'.objs.size; rw [hz]; exact hq2, fun z => ?_, ?_, krA.trans krB (fun z hz => .inl hz) (fun z hz => hz), gr.trans gr1.woken, os1.trans os, own1, (fun c z => by cases z), ?_⟩
      · rcases List.mem_append.mp z with z | z
        · exact absurd (Nat.lt_of_lt_of_le (ltP qq z) hq1) (Nat.lt_irrefl _)
        · exact hq3 z
      · obtain ⟨o, ho, r⟩ := hT
        exact ⟨o, hk qq o (fun z => by rw [z] at hq1; exact absurd (Nat.lt_of_lt_of_le (ltP ga gaP) hq1) (Nat.lt_irrefl _)) ho, r⟩
      -- the next wake
      refine genC_iff.mpr fun A2 outer2 s2 K2 hg2 hz2 H2 O2 => ?_
      show GRun D.prog D.w A2 _ _ (yfc ga) (kk (.send .none)) fs1 (s2.setGen g .running)
      refine hD A2 _ _ _ (hm1.keep fun o e => H2 ga (List.mem_append_left _ gaP) o e) fun h3 hm3 hk3 hz3 => ?_
      have hk3 : ∀ b o, b ≠ ga → s2.heap.get? b = some o → h3.get? b = some o := hk3
      have hz3 : h3.objs.size = s2.heap.objs.size := hz3
      have chain : ∀ b ∈ P, b ≠ n → b ≠ ga → ∀ o, s.heap.get? b = some o → h3.get? b = some o := fun b hb h1 h2 o e => hk3 b o h2 (H2 b (List.mem_append_left _ hb) o (hk b o h2 (keepP kr1 b hb h1 o e)))
      have s2sz : s1.heap.objs.size ≤ s2.heap.objs.size := by rw [← hz]; exact hz2
      have gafs3 : ga ∉ frs outer2 := fun z => absurd (Nat.lt_trans (K2.lo ga z) gan) (Nat.lt_irrefl _)
      have K3 : Wk D T (k + 3) n A2 outer2 { s2.setGen g .running with heap := h3 } := K2.step (s1 := { s2.setGen g .running with heap := h3 }) (fs := []) (fp := [ga]) (Nat.le_of_eq hz3.symm) (fun b o e _ h2 => hk3 b o (fun z => h2 (by rw [z]; simp)) e) (fun b o e hb => by cases hb)
        (fun b o e => ⟨by simp, fun z => by
          obtain rfl : b = ga := by simpa using z
          exact absurd (Nat.lt_trans (Nat.lt_of_lt_of_le (Heap.lt_size e) S.G.bsz) gan) (Nat.lt_irrefl _)⟩)
        (fun b hb => ⟨by simp, fun z => by
          obtain rfl : b = ga := by simpa using z
          exact absurd (Nat.lt_trans (S.TF.tlt b hb) gan) (Nat.lt_irrefl _)⟩)
        (fun b hb z => by
          obtain rfl : b = ga := by simpa using z
          exact gafs3 hb)
      have Lj3 : Ld D T n p pa c tn (j + 1) h3 := Lj.keep L S.TF (fun o e => by
          obtain ⟨sl, e1⟩ := kr1.slot n o e nfs
          exact ⟨sl, hk3 n _ gan'.symm (H2 n (List.mem_append_left _ L.nP) _ (hk n _ gan'.symm e1))⟩)
        (fun b hb hbc o e => chain b hb (fun z => by
            rcases hbc with y | y
            · have := L.ipn b y
              rw [z] at this
              exact absurd this (Nat.lt_irrefl _)
            · exact L.cn S.TF (y.symm.trans z)) (fun z => by
            rcases hbc with y | y
            · exact gaip (by rw [← z]; exact y)
            · exact gac (z.symm.trans y)) o e) K3.dat
      have hpb3 : ObjOk D.prog D.w T h3 pb (.tup pys) := by
        obtain ⟨z, its, r, o, e, e2⟩ := hpb
        exact ⟨z, its, r, o, chain pb pbP (fun z => by rw [z] at pbn; exact absurd pbn (Nat.lt_irrefl _)) pbga o e, e2⟩
      have m1 : 0 < m := by
        have : (x :: rs').length = rs'.length + 1 := rfl
        omega
      refine ih (m - 1) (by omega) rs' (by
        have : (x :: rs').length = rs'.length + 1 := rfl
        omega) A2 outer2 (s2.setGen g .running) { s2.setGen g .running with heap := h3 } s1 (P ++ fpS') P fpS' (gS :: ownS') ownS' ga gS nS pb pys gs' K3
        (KR.touch (List.mem_append_left _ gaP) hz3 hk3 gafs3 (fun b hb => (krB.alive b hb).keep fun o e => H2 b hb o e) (al_mark hm3)) GR.refl rfl L Lj3 (by
          show g < (s2.setGen g .running).gens.size
          rw [setGen_sz]; exact hg2) hm3.obj gaP gan gaip gac pbP pbn pbga hpb3 nSn (by
          show nS ≤ h3.objs.size
          rw [hz3]
          exact Nat.le_trans nSz (Nat.le_trans kr1.size s2sz)) dis' fpSn' gSo' gg' ?_ gc1 (by
          show _ ≤ h3.objs.size
          rw [hz3]
          exact s2sz) (fun b hb o e => ?_) fun i hi => ?_
      · show (s2.setGen g .running).gens[gS]? = some gs'
        rw [setGen_ne (fun z => gg' (by rw [z]; exact List.mem_cons_self)), O2 gS List.mem_cons_self]
        exact setGen_at hkS
      · have hne : b ≠ ga := fun z => dis' ga gaP (by rw [← z]; exact hb)
        exact hk3 b o hne (H2 b (List.mem_append_right _ hb) o (hk b o hne e))
      · show (s2.setGen g .running).gens[i]? = _
        rw [setGen_ne (fun z => gg' (by rw [z]; exact List.mem_cons_of_mem _ hi)), O2 i (List.mem_cons_of_mem _ hi)]
        show (s1.setGen gS gs').gens[i]? = _
        rw [setGen_ne (fun z => gSo' (by rw [z]; exact hi))]
  · -- the part's end
    cases rs with
    | cons x rs' => exact False.elim hr
    | nil =>
      obtain ⟨kr1, gr1, os1⟩ := hr
      have kr1 : KR (frs (D.env n :: outer)) fpS s.heap [] s1.heap := kr1
      obtain ⟨k1, l1, p1, e1, hk1⟩ := F1.ex
      rw [e1]
      refine grun_leaf (.ok (.ret .none)) ?_
      rw [hk1]
      refine grun_again rfl ?_
      have krA : KR (frs outer) fp0 sw.heap (P ++ []) s1.heap := krall kr1
      have krB : KR (frs outer) fp0 sw.heap P h' := (krA.trans (KR.of_keep (fs := frs outer) hz hk krA.alive) (fun z hz => .inl hz) (fun z hz => hz)).sub fun z hz => .inl (List.mem_append_left _ hz)
      have K3 : Wk D T (k + 3) n A outer { s1.setGen gS .finished with heap := h' } := (wk1 kr1).step (s1 := { s1.setGen gS .finished with heap := h' }) (fs := []) (fp := []) hz (fun b o e _ _ => hk b o e) (fun b o e hb => by cases hb) (fun _ _ _ => ⟨by simp, by simp⟩) (fun _ _ => ⟨by simp, by simp⟩) fun _ _ => by simp
      refine lp (by simpa using hm) A outer sw { s1.setGen gS .finished with heap := h' } fp0 P own0 K3 krB (gr.trans gr1.ended) (os1.trans os) L ?_ (by
        show g < (s1.setGen gS .finished).gens.size
        rw [setGen_sz]
        have := gr1.size
        rw [setGen_sz] at this
        omega)
      exact Lj.keep L S.TF (fun o e => by
          obtain ⟨sl, e1⟩ := kr1.slot n o e nfs
          exact ⟨sl, hk n _ e1⟩)
        (fun b hb hbc o e => hk b o (keepP kr1 b hb (fun z => by
            rcases hbc with y | y
            · have := L.ipn b y
              rw [z] at this
              exact absurd this (Nat.lt_irrefl _)
            · exact L.cn S.TF (y.symm.trans z)) o e)) K3.dat
end
end Gz
end
section
set_option Elab.async false
set_option maxRecDepth 100000
set_option autoImplicit false
set_option linter.all false
/-! walk: the turns -/
namespace Gz
open PySem PySem.Spec L2
open PyProof.Rows hiding St
section
variable {D : GDef} {kf k n g : Nat} {q : Nat → Pos} {fd : FuncData} {T : Hp} {p r : AP} {pa : Addr} {pxs : List V} {fs1 fs2 : List Frame} {c it : Addr} {ip : List Addr} {tn : Nat → Heap → Prop} {m j : Nat} {A : Around} {outer : List Env} {s : Shared}
theorem kr_frz {pins : List (Addr × Obj)} {σ : L2.St} {H' : Hp} {s' : Shared} {P : List Addr} (K : Wk D T k n A outer s) (I : InvG (gCx D n A outer s (frzH T D.base (n :: (ip ++ frs outer)) s.heap)) pins σ H' s') (hz : Hz s.heap s'.heap) (nP : n ∈ P) (ipP : ∀ b ∈ ip, b ∈ P) (al : ∀ b ∈ P, Al s.heap b) (hal : ∀ b ∈ ip, Al s'.heap b) (Pf : ∀ b ∈ P, b ∉ frs outer) :
    KR (frs outer) P s.heap P s'.heap := by
  obtain ⟨k1, k2, _⟩ := frz_keep K I
  refine ⟨hz.1, fun b o e h1 h2 => k1 b o e (fun z => h2 (by rw [z]; exact nP)) (fun z => h2 (ipP b z)) h1, k2, fun _ z => .inl z, fun b hb => ?_⟩
  by_cases e1 : b = n
  · obtain ⟨m, hm, _⟩ := I.loc
    rw [e1]
    exact al_ns hm
  · by_cases e2 : b ∈ ip
    · exact hal b e2
    · exact (al b hb).keep fun o e => k1 b o e e1 e2 (Pf b hb)
theorem kr_frz0 {pins : List (Addr × Obj)} {σ : L2.St} {H' : Hp} {s' : Shared} {P : List Addr} (K : Wk D T k n A outer s) (I : InvG (gCx D n A outer s (frzH T D.base (n :: (ip ++ frs outer)) s.heap)) pins σ H' s') (hz : Hz s.heap s'.heap) (nP : n ∈ P) (ipP : ∀ b ∈ ip, b ∈ P) : KR (frs outer) P s.heap [] s'.heap := by
  obtain ⟨k1, k2, _⟩ := frz_keep K I
  exact ⟨hz.1, fun b o e h1 h2 => k1 b o e (fun z => h2 (by rw [z]; exact nP)) (fun z => h2 (ipP b z)) h1, k2, (fun _ z => by cases z), fun b hb => by cases hb⟩
theorem wk2 {xs : List V} (K : Wk D T k n A outer s) (ht : ObjOk D.prog D.w T s.heap c (.tup xs)) (hc : c ∉ frs outer) : Wk D (upd T c (.tup xs)) k n A outer s := by
  refine ⟨K.room, K.frames, K.lo, K.base, K.funs, fun b ys e => ?_, fun b hb => ?_, K.size⟩
  · by_cases hbc : b = c
    · subst hbc
      rw [upd_same] at e
      cases e
      exact ht
    · rw [upd_ne hbc] at e
      exact K.dat b ys e
  · rw [upd_ne (fun z => hc (by rw [← z]; exact hb))]
    exact K.tf b hb
/-- the world around the turns -/
abbrev lH (D : GDef) (T : Hp) (n : Nat) (p : AP) (c : Addr) (ip : List Addr) (outer : List Env) (s : Shared) : Hp := frzH (upd T c (.tup (rootsV p.kids))) D.base (n :: (ip ++ frs outer)) s.heap
abbrev lX (D : GDef) (T : Hp) (n : Nat) (p : AP) (c : Addr) (ip : List Addr) (A : Around) (outer : List Env) (s : Shared) : Cx := gCx D n A outer s (lH D T n p c ip outer s)
theorem Lp.cfs {P : List Addr} (L : Lp D q T n p c it ip tn P) (K : Wk D T k n A outer s) : c ∉ frs outer := fun z => by
  rcases L.cP with ⟨_, y⟩ | y
  · exact absurd (Nat.lt_trans (K.lo c z) y) (Nat.lt_irrefl _)
  · have := K.tf c z
    rw [y] at this
    cases this
theorem Lp.fpok {P : List Addr} (L : Lp D q T n p c it ip tn P) (G : GFix D n) (K : Wk D T k n A outer s) {H : Hp} (hH : ∀ b ∈ ip, H b = none) : ∀ b ∈ ip, FpOk (lX D T n p c ip A outer s) [] H b := fun b hb => by
  refine ⟨hH b hb, fun z => absurd (L.ipn b hb) (by rw [show b = n from z]; exact Nat.lt_irrefl _), fun z => absurd (Nat.lt_trans (K.lo b z) (L.ipn b hb)) (Nat.lt_irrefl _), .inr ?_, fun x c e z => ?_, fun x hx => by cases hx⟩
  · show (pre s.heap n).objs.size ≤ b
    rw [pre_size K.size]
    exact Nat.le_of_lt (L.ipn b hb)
  · have e' : (cellsFrom (n + 1) D.scope.names []).lookup x = some c := e
    rw [G.ok.nocell] at e'
    cases e'
theorem lp_inv {P : List Addr} (S : Ses D kf k q fd T n p pa pxs) (L : Lp D q T n p c it ip tn P) (K : Wk D T (k + 3) n A outer s) (Lj : Ld D T n p pa c tn j s.heap) :
    Wk D (upd T c (.tup (rootsV p.kids))) (k + 3) n A outer s ∧ InvG (lX D T n p c ip A outer s) [] (wσ p.root pa) (lH D T n p c ip outer s) s ∧ SqT D.K (lH D T n p c ip outer s) c (rootsV p.kids) ∧ ∀ b ∈ ip, lH D T n p c ip outer s b = none := by
  have K2 := wk2 K Lj.tup (L.cfs K)
  refine ⟨K2, wake_frame (ip := ip) S.W S.G K2 Lj.fr, .inl (frz_tup K2.dat (fun hm => ?_) L.cb upd_same), fun b hb => frz_ns (List.mem_cons_of_mem _ (List.mem_append_left _ hb))⟩
  rcases List.mem_cons.mp hm with z | z
  · exact L.cn S.TF z
  · rcases List.mem_append.mp z with z | z
    · exact L.cip z
    · exact L.cfs K z
/-- no part is left -/
theorem lp_end (S : Ses D kf k q fd T n p pa pxs) (F2 : Fr2 D q n fs2) (hj : p.kids.length = j) : LPs D q k n g T p pa c it ip tn fs2 m j := by
  intro hm A outer sw s fp0 P own0 K kr gr os L Lj hg
  have hdrop : p.kids.drop j = [] := by rw [← hj]; exact List.drop_length
  rw [hdrop]
  obtain ⟨K2, I, hsq, hip⟩ := lp_inv S L K Lj
  refine grun_forTurn ?_
  rw [F2.over]
  refine thnS (wpS_hz0 (sl_wp0 (sl_start s) (L.turn.done (lX D T n p c ip A outer s) rfl rfl rfl rfl j [] _ _ _ noE (inv_b I) (L.fpok S.G K hip) Lj.tn ⟨_, hsq, by unfold rootsV; rw [List.length_map]; exact hj⟩))) fun rr s4 h4 => ?_
  obtain ⟨hz, sB, ⟨hr, I4⟩, Sl4⟩ := h4
  subst hr
  have I4g := Sl4.g I4
  have g4 := Sl4.end I4.bare
  obtain ⟨k2, l, p2, rfl, hk2⟩ := F2.ex
  show GRun _ _ _ _ _ _ (leafOf (.ok .next)) _ _
  refine grun_leaf (.ok .next) ?_
  rw [hk2]
  refine grun_end (f := .ret .none) rfl ⟨?_, gr.step g4, (frz_keep K2 I4g).2.2.trans os⟩
  exact kr.trans (kr_frz0 K2 I4g hz L.nP L.ipP) (fun z hz => .inl hz) (fun z hz => hz)
end
end Gz
end
section
set_option Elab.async false
set_option maxRecDepth 100000
set_option autoImplicit false
set_option linter.all false
/-! walk: the next part's walk is made -/
namespace Gz
open PySem PySem.Spec L2
open PyProof.Rows hiding St
section
variable {D : GDef} {kf k n g : Nat} {q : Nat → Pos} {fd : FuncData} {T : Hp} {p r : AP} {pa : Addr} {pxs : List V} {fs1 fs2 : List Frame} {c it : Addr} {ip : List Addr} {tn : Nat → Heap → Prop} {m j : Nat} {A : Around} {outer : List Env} {s : Shared}
theorem GR.push {a : List Nat} {G G1 : Array GenState} {st : GenState} (x : GR a G [] G1) : GR a G [G1.size] (G1.push st) := by
  refine ⟨by rw [Array.size_push]; exact Nat.le_succ_of_le x.size, fun i y hi hn e => ?_, fun i y e => ?_, fun i hi => ?_⟩
  · have q := x.stay i y hi hn e
    rw [Array.getElem?_push_lt (lt_of_some q)]
    rw [← Array.getElem?_eq_getElem (lt_of_some q)]
    exact q
  · by_cases hi : i = G1.size
    · exact .inr (.inl (by rw [hi]; simp))
    · have hlt : i < G1.size := by
        have := lt_of_some e
        rw [Array.size_push] at this
        omega
      rw [Array.getElem?_push_lt hlt, ← Array.getElem?_eq_getElem hlt] at e
      rcases x.new i y e with z | z | z
      · exact .inl z
      · cases z
      · exact .inr (.inr z)
  · obtain rfl : i = G1.size := by simpa using hi
    exact .inr x.size
theorem frame_inv {pins : List (Addr × Obj)} {σ : L2.St} {H H0 : Hp} {s' : Shared} {root pa : Addr} (W : WalkD D kf q fd) (I : InvG (gCx D n A outer s H0) pins σ H s') (h0 : σ[0]? = some (some (.ref root))) (h1 : σ[1]? = some (some (.ref pa))) : FrameAt n root pa s'.heap := by
  obtain ⟨m, hm, hmv⟩ := I.loc
  have key : ∀ (i : Nat) (x : Str) (a : Addr), wN[i]? = some x → σ[i]? = some (some (.ref a)) → m x = some (.ref a) := fun i x a hx hs => by
    obtain ⟨u, ru, lk⟩ := hmv i x (.ref a) (by show D.N[i]? = _; rw [W.N]; exact hx) hs (.inl (W.loc _ (List.mem_of_getElem? hx)))
    obtain rfl : u = .ref a := ru
    rcases lk with ⟨_, e⟩ | ⟨e, _⟩
    · exact e
    · rcases e with e | e
      · exact absurd e (W.ok.plain _).1
      · exact absurd e (W.ok.plain _).2
  exact ⟨m, hm, key 0 "thing" root rfl h0, key 1 "path" pa rfl h1⟩
theorem wN_nd : wN.Nodup := by decide
/-- number, part = .. -/
theorem pg_tg {H : Hp} (W : WalkD D kf q fd) : PG (gCx D n A outer s H) (wTg q) (gTup D.K 2 (gCons (gName 2) (gCons (gName 3) gNil))) :=
  pg_tup (X := gCx D n A outer s H) rfl (pgs_cons (pg_name (by show D.N.Nodup; rw [W.N]; exact wN_nd) (by show D.N[2]? = _; rw [W.N]; rfl) (.inl (W.loc _ (by simp))) (.inl rfl))
    (pgs_cons (pg_name (by show D.N.Nodup; rw [W.N]; exact wN_nd) (by show D.N[3]? = _; rw [W.N]; rfl) (.inl (W.loc _ (by simp))) (.inl rfl)) pgs_nil))
abbrev tArgs (K : PySem.W.Frag) : TA := tCons (tVar 3) (tCons (tOp (rCatA K) (tVar 1) (tTup (tCons (tVar 2) tNil))) tNil)
theorem pa_args {H : Hp} (W : WalkD D kf q fd) : PA (gCx D n A outer s H) [.Name "part" (q 9), .BinOp (.Name "path" (q 10)) .Add (.Tuple [.Name "number" (q 11)] 0 (q 12)) (q 13)] (tArgs D.K) :=
  pa_cons (wv W 3 rfl (by decide) (by decide)) (pa_cons (pe_op (X := gCx D n A outer s H) op_catA (wv W 1 rfl (by decide) (by decide)) (pe_tup (pa_cons (wv W 2 rfl (by decide) (by decide)) pa_nil))) pa_nil)
theorem gl_of {H : Hp} (W : WalkD D kf q fd) {x : Str} (hx : x ∈ (["is_form", "enumerate", "parts_of", "walk"] : List Str)) : Gl (gCx D n A outer s H) x := W.glo x hx
theorem nodesL_cons {ps : List AP} : nodesL (r :: ps) = r.nodes ++ nodesL ps := by simp [nodesL]
theorem lp_next (S : Ses D kf k q fd T n p pa pxs) (F2 : Fr2 D q n fs2) (hj : p.kids[j]? = some r) (yf : ∀ fs1, Fr1 D q n it fs2 fs1 → YFs D q k n g T p pa c it ip tn fs1 m j) : LPs D q k n g T p pa c it ip tn fs2 m j := by
  intro hm A outer sw s fp0 P own0 K kr gr os L Lj hg
  have hdrop : p.kids.drop j = r :: p.kids.drop (j + 1) := by
    obtain ⟨hlt, e⟩ := List.getElem?_eq_some_iff.mp hj
    rw [List.drop_eq_getElem_cons hlt, e]
  rw [hdrop, nodesL_cons] at hm ⊢
  rw [List.length_append] at hm
  have hrk : r ∈ p.kids := List.mem_of_getElem? hj
  obtain ⟨K2, I, hsq, hip⟩ := lp_inv S L K Lj
  have hroot : (rootsV p.kids)[j]? = some (V.ref r.root) := by unfold rootsV; rw [List.getElem?_map, hj]; rfl
  refine grun_forTurn ?_
  rw [F2.over]
  refine thnS (wpS_hz0 (sl_wp0 (sl_start s) (L.turn.item (lX D T n p c ip A outer s) rfl rfl rfl rfl j [] _ _ _ noE (inv_b I) (L.fpok S.G K hip) Lj.tn ⟨_, _, hsq, hroot⟩))) fun rr s4 h4 => ?_
  obtain ⟨hz4, sB, ⟨u, hr, h4⟩, Sl4⟩ := h4
  subst hr
  show wpS _ _ _ (letOwnedTupleGo (wTg q) (.ref it) u) _ _ s4
  refine thnS (wpS_hz0 (sl_wp0 Sl4 h4)) fun _ s5 h5 => ?_
  obtain ⟨hz5, sB5, ⟨x, H5, I5, r5, y5, st5, fr5⟩, Sl5⟩ := h5
  have I5g := Sl5.g I5
  have g5 := Sl5.end I5.bare
  have st5' : tn (j + 1) s5.heap := by
    obtain ⟨GB, e⟩ := Sl5.eq
    rw [e] at st5; exact st5
  obtain ⟨Tt, x', rfl, hTt, hH5, hx'⟩ := y5
  have ex : x' = V.ref r.root := by
    have := hx' _ hsq
    rw [hroot] at this
    exact (Option.some.inj this).symm
  subst ex
  have hcalm : (lX D T n p c ip A outer s).calm = true := rfl
  have I5' : InvG (lX D T n p c ip A outer s) ([] ++ pinsAt ip s5.heap) (wσ p.root pa) H5 s5 := Inv.pinned I5g (L.fpok S.G K fr5) (L.turn.obj _ _ st5')
  -- the targets
  refine thnS (wpS_hz0 (up_st (R := fun _ σ' H' => σ' = [some (.ref p.root), some (.ref pa), some (.int j), some (.ref r.root)] ∧ H' = H5) I5' fun s1 I1 _ => wpAny_mono ((pg_tg S.W).run _ s1 _ H5 (.ref Tt) u _ I1 r5 ⟨Tt, [.int j, .ref r.root], rfl, SqT.of (by rw [hH5]; exact upd_same), rfl, ⟨_, _, rfl, _, _, rfl, rfl, (⟨rfl, rfl⟩ : (_ = _) ∧ (_ = _))⟩⟩) (fun _ s6 ⟨σ6, H6, I6, q6⟩ => ⟨σ6, H6, I6, q6⟩) fun _ _ z => z)) fun _ s6 q6 => ?_
  obtain ⟨hz6, ⟨σ6, H6, I6, rfl, rfl⟩, g6⟩ := q6
  intro Kb Jb gb lb hKb hgb
  refine grun_cons (grun_stFrom (intr S.W) ?_)
  rw [F2.over]
  -- the call
  have hpa : SqT D.K H6 pa pxs := by
    have q1 : Rd (lH D T n p c ip outer s) pa (.tup pxs) := by
      refine frz_tup K2.dat (fun hm => ?_) ?_ ?_
      · have plt := S.TF.tlt pa (by rw [S.path]; simp)
        rcases List.mem_cons.mp hm with z | z
        · rw [z] at plt; exact absurd plt (Nat.lt_irrefl _)
        · rcases List.mem_append.mp z with z | z
          · exact absurd (Nat.lt_trans plt (L.ipn pa z)) (Nat.lt_irrefl _)
          · have := K.tf pa z
            rw [S.path] at this
            cases this
      · cases e : D.base.get? pa with
        | none => rfl
        | some o =>
          have := S.TF.tb pa o e
          rw [S.path] at this
          cases this
      · by_cases hpc : pa = c
        · subst hpc
          rcases L.cP with ⟨_, y⟩ | y
          · exact absurd (Nat.lt_trans y (S.TF.tlt pa (by rw [S.path]; simp))) (Nat.lt_irrefl _)
          · rw [S.path] at y
            rw [upd_same]
            exact y.symm
        · rw [upd_ne hpc]; exact S.path
    have q2 : pa ≠ Tt := fun z => by
      rw [z] at q1
      rcases q1 with y | ⟨o, y⟩ <;> (rw [hTt] at y; cases y)
    rw [hH5]
    rcases q1 with y | ⟨o, y⟩
    · exact .inl (.inl (by rw [upd_ne q2]; exact y))
    · exact .inl (.inr ⟨o, by rw [upd_ne q2]; exact y⟩)
  have hlen : pxs.length + 1 ≤ sizeLine := by have := S.len; omega
  have hroom : (lX D T n p c ip A outer s).A.depth < recursionLimit := by
    have := K.room.dp
    show A.depth + 1 < _
    omega
  refine thnS (wpS_hz0 (es_make (X := lX D T n p c ip A outer s) (pos := q 14) (p := q 8) S.W.fn rfl rfl rfl hroom (gl_of S.W (by simp)) S.W.self S.W.binds (pa_args S.W)
    (Q := fun vs H1 => ∃ pb, vs = [.ref r.root, .ref pb] ∧ lH D T n p c ip outer s pb = none ∧ H1 pb = some (.tup (pxs ++ [.int j]))) I6 ?_)) fun v s7 h7 => ?_
  · refine ⟨_, rfl, _, rfl, _, rfl, by show 1 ≤ sizeLine; decide, fun pb hpb => ?_⟩
    have hne : ∀ z, H6 z = none → lH D T n p c ip outer s z = none := fun z hz => by
      rw [hH5] at hz
      by_cases hzt : z = Tt
      · rw [hzt]; exact hTt
      · rw [upd_ne hzt] at hz; exact hz
    have hpab : pa ≠ pb := fun z => by
      rw [z] at hpa
      rcases hpa with (y | ⟨o, y⟩) | y
      · rw [hpb] at y; cases y
      · rw [hpb] at y; cases y
      · have := S.TF.tb pa
        obtain ⟨o, its, nn, hk, _⟩ := y
        have hb := S.G.ok.mod.kin pb o hk
        have := S.TF.tb pb o hb
        rw [← z, S.path] at this
        cases this
    have hpa2 : SqT D.K (upd H6 pb (.tup [.int j])) pa pxs := by
      rcases hpa with (y | ⟨o, y⟩) | y
      · exact .inl (.inl (by rw [upd_ne hpab]; exact y))
      · exact .inl (.inr ⟨o, by rw [upd_ne hpab]; exact y⟩)
      · exact .inr y
    refine ⟨pa, pb, pxs, [.int j], rfl, rfl, hpa2, SqT.of upd_same, hlen, fun hx => ?_, (fun _ hy => by cases hy), fun hx _ pc hpc => ?_⟩
    · refine ⟨rfl, pb, rfl, hne pb hpb, ?_⟩
      rw [upd_same, hx]
      rfl
    · refine ⟨rfl, pc, rfl, hne pc ?_, upd_same⟩
      by_cases hcb : pc = pb
      · rw [hcb, upd_same] at hpc; cases hpc
      · rw [upd_ne hcb] at hpc; exact hpc
  obtain ⟨hz7, ga, vs, us, s8, H8, rfl, hz8, g8, I8, rv8, ⟨pb, rfl, hpb0, hpb8⟩, M, I7⟩ := h7
  have hgen := M.obj
  refine ⟨hgen.typeIs, wpS_of (wpAny_pyIter_gen hgen fun k1 l1 p1 hk1 => ?_)⟩
  rw [hgb]
  have hzT : Hz s.heap s8.heap := (hz4.trans hz5).trans (hz6.trans hz8)
  have hzA : Hz s.heap s7.heap := (hz4.trans hz5).trans (hz6.trans hz7)
  have hipPin : ∀ b ∈ ip, ∀ o, s5.heap.get? b = some o → s7.heap.get? b = some o ∧ H8 b = none := fun b hb o e => by
    obtain ⟨y1, y2, _⟩ := I7.pin (b, o) (List.mem_append_right _ (List.mem_append_right _ (mem_pinsAt hb e)))
    exact ⟨y1, y2⟩
  have hip8 : ∀ b ∈ ip, H8 b = none := fun b hb => by
    obtain ⟨o, e, _⟩ := L.turn.obj _ _ st5' b hb
    exact (hipPin b hb o e).2
  have I7u : InvG (lX D T n p c ip A outer s) [] _ H8 s7 := Inv.unpinned I7
  have pbn : s.heap.objs.size ≤ pb := frz_new K2 I7u hzA hip8 hpb0 hpb8
  have pbl : pb < s8.heap.objs.size := (I8.hok pb _ hpb8).lt
  have ltP : ∀ b ∈ P, b < s.heap.objs.size := kr.lt
  have nlt : n < s.heap.objs.size := ltP n L.nP
  have nnS : n < s8.heap.objs.size := Nat.lt_of_lt_of_le nlt hzT.1
  have Plt : ∀ b ∈ P, b < s8.heap.objs.size := fun b hb => Nat.lt_of_lt_of_le (ltP b hb) hzT.1
  have Pfs : ∀ b ∈ P, b ∉ frs outer := fun b hb z => absurd (Nat.lt_of_lt_of_le (K.lo b z) (L.Pn b hb)) (Nat.lt_irrefl _)
  have krP := kr_frz K2 I7u hzA L.nP L.ipP kr.alive (fun b hb => by
    obtain ⟨o, e, d⟩ := L.turn.obj _ _ st5' b hb
    exact ⟨o, (hipPin b hb o e).1, d⟩) Pfs
  have K7 : Wk D T (k + 3) n A outer s7 := K.step (fs := frs outer) (fp := P) krP.size krP.keep krP.slot
    (fun b o e => ⟨fun z => (by
      have y := (K.funs.mem z).1
      rw [e] at y
      cases y), fun z => absurd (Nat.lt_of_lt_of_le (Nat.lt_of_lt_of_le (Heap.lt_size e) S.G.bsz) (L.Pn b z)) (Nat.lt_irrefl _)⟩)
    (fun b hb => ⟨fun z => hb (K.tf b z), fun z => absurd (Nat.lt_of_lt_of_le (S.TF.tlt b hb) (L.Pn b z)) (Nat.lt_irrefl _)⟩)
    fun b hb z => absurd (Nat.lt_of_lt_of_le (K.lo b hb) (L.Pn b z)) (Nat.lt_irrefl _)
  have L' : Lp D q T n p c it ip tn (ga :: pb :: P) := ⟨L.turn, List.mem_cons_of_mem _ (List.mem_cons_of_mem _ L.nP), fun b hb => List.mem_cons_of_mem _ (List.mem_cons_of_mem _ (L.ipP b hb)), L.ipn,
    L.cP.elim (fun y => .inl ⟨List.mem_cons_of_mem _ (List.mem_cons_of_mem _ y.1), y.2⟩) .inr, L.cip, L.cb, fun b hb => by
      rcases List.mem_cons.mp hb with z | z
      · rw [z]; exact Nat.le_of_lt (Nat.lt_trans nnS M.lo)
      · rcases List.mem_cons.mp z with z | z
        · rw [z]; exact Nat.le_of_lt (Nat.lt_of_lt_of_le nlt pbn)
        · exact L.Pn b z⟩
  have Lj7 : Ld D T n p pa c tn (j + 1) s7.heap := by
    refine ⟨frame_inv S.W I7u rfl rfl, L.turn.keep _ _ _ st5' fun b hb o e => (hipPin b hb o e).1, ?_⟩
    obtain ⟨z, its, rr, o, e, e2⟩ := Lj.tup
    exact ⟨z, its, rr, o, (frz_keep K2 I7u).1 c o e (L.cn S.TF) L.cip (L.cfs K), e2⟩
  have F1 : Fr1 D q n it fs2 (.ret k1 none false l1 (cL D q n it) p1 [] :: fs2) := ⟨⟨k1, l1, p1, rfl, by
    rw [hk1]
    show Kb .next = _
    rw [hKb]
    rfl⟩⟩
  have gsz : s.gens.size ≤ s8.gens.size := Nat.le_trans g5.size (Nat.le_trans g6.size g8.size)
  have Tpb : T pb = none := by
    cases e : T pb with
    | none => rfl
    | some u => exact absurd (Nat.lt_of_lt_of_le (Nat.lt_trans (S.TF.tlt pb (by rw [e]; simp)) nlt) pbn) (Nat.lt_irrefl _)
  have gcS : GenC D (upd T pb (.tup (pxs ++ [.int j]))) k s8.heap.objs.size s8.gens.size r.nodes (.fresh (.func (wBody q) (D.env s8.heap.objs.size))) [s8.heap.objs.size] [] s7 := by
    refine S.IH r hrk _ _ _ pb _ s7 ⟨S.G.ok, Nat.le_trans S.G.bsz (Nat.le_of_lt nnS)⟩ ⟨fun b hb => ?_, fun b o e => ?_⟩ ((S.ok.kid hrk).mono (fun b xs e => ?_)) upd_same ?_ ?_
    · by_cases hbp : b = pb
      · rw [hbp]; exact pbl
      · rw [upd_ne hbp] at hb
        exact Nat.lt_trans (S.TF.tlt b hb) nnS
    · have hbp : b ≠ pb := fun z => by
        have y := Nat.lt_of_lt_of_le (Heap.lt_size e) S.G.bsz
        rw [z] at y
        exact absurd (Nat.lt_of_lt_of_le (Nat.lt_trans y nlt) pbn) (Nat.lt_irrefl _)
      rw [upd_ne hbp]
      exact S.TF.tb b o e
    · have hbp : b ≠ pb := fun z => by rw [z, Tpb] at e; cases e
      rw [upd_ne hbp]
      exact e
    · have h1 := S.len
      have h2 := AP.depth_kid hrk
      rw [List.length_append]
      show pxs.length + 1 + r.depth + 1 ≤ sizeLine
      omega
    · obtain ⟨mm, hmm, hmv⟩ := M.ns
      have hus : us = [.ref r.root, .ref pb] := by
        cases rv8 with
        | cons a b =>
          cases b with
          | cons a2 b2 =>
            cases b2
            cases a
            cases a2
            rfl
      subst hus
      exact ⟨mm, hmm, hmv 0 "thing" _ rfl rfl, hmv 1 "path" _ rfl rfl⟩
  refine yf _ F1 r.nodes hm A outer sw s7 s7 fp0 (ga :: pb :: P) [s8.heap.objs.size] own0 [] ga s8.gens.size s8.heap.objs.size pb (pxs ++ [V.int (j : Nat)]) _ K7 ?_ ?_ ((frz_keep K2 I7u).2.2.trans os) L' Lj7 ?_
    ?_ List.mem_cons_self (Nat.lt_trans nnS M.lo) ?_ ?_ (List.mem_cons_of_mem _ List.mem_cons_self) (Nat.lt_of_lt_of_le nlt pbn) (Nat.ne_of_lt (Nat.lt_trans pbl M.lo)) (I7.hok pb _ hpb8) nnS (Nat.le_of_lt (Nat.lt_trans M.lo M.hi)) ?_ ?_ (by simp) ?_ ?_ gcS (Nat.le_refl _) Held.refl (fun i hi => by cases hi)
  · refine (kr.trans krP (fun z hz => .inl hz) (fun z hz => hz)).sub fun z hz => ?_
    have swz : sw.heap.objs.size ≤ s.heap.objs.size := kr.size
    have z' : z = ga ∨ z = pb ∨ z ∈ P ∨ z = s8.heap.objs.size := by simpa using hz
    rcases z' with y | y | y | y
    · rw [y]; exact .inr ⟨Nat.le_trans swz (Nat.le_trans hzT.1 (Nat.le_of_lt M.lo)), al_gen hgen⟩
    · rw [y]; exact .inr ⟨Nat.le_trans swz pbn, by
        obtain ⟨_, its, _, ht⟩ := I7.hok pb _ hpb8
        exact al_tup ht⟩
    · exact .inl y
    · rw [y]; exact .inr ⟨Nat.le_trans swz hzT.1, by
        obtain ⟨mm, hmm, _⟩ := M.ns
        exact al_ns hmm⟩
  · rw [M.gens]
    exact (((gr.step g5).step g6).step g8).push
  · rw [M.gens, Array.size_push]
    omega
  · obtain ⟨o, nm, qn, ho, hc, hd, hs⟩ := hgen
    exact ⟨o, nm, qn, ho, hc, hd, .inl hs⟩
  · exact fun z => absurd (Nat.lt_trans (Plt ga (L.ipP ga z)) M.lo) (Nat.lt_irrefl _)
  · intro z
    rcases L.cP with ⟨y, _⟩ | y
    · rw [← z] at y
      exact absurd (Nat.lt_trans (Plt ga y) M.lo) (Nat.lt_irrefl _)
    · have y2 := S.TF.tlt c (by rw [y]; simp)
      rw [← z] at y2
      exact absurd (Nat.lt_trans (Nat.lt_trans y2 nnS) M.lo) (Nat.lt_irrefl _)
  · intro b hb z
    obtain rfl : b = s8.heap.objs.size := by simpa using z
    rcases List.mem_cons.mp hb with y | y
    · exact absurd M.lo (by rw [← y]; exact Nat.lt_irrefl _)
    · rcases List.mem_cons.mp y with y | y
      · rw [← y] at pbl; exact absurd pbl (Nat.lt_irrefl _)
      · exact absurd (Plt _ y) (Nat.lt_irrefl _)
  · intro b hb
    obtain rfl : b = s8.heap.objs.size := by simpa using hb
    exact Nat.le_refl _
  · intro z
    obtain rfl : g = s8.gens.size := by simpa using z
    omega
  · rw [M.gens]
    exact Array.getElem?_push_size ..
end
end Gz
end
section
set_option Elab.async false
set_option maxRecDepth 100000
set_option autoImplicit false
set_option linter.all false
/-! walk: the whole -/
namespace Gz
open PySem PySem.Spec L2
open PyProof.Rows hiding St
section
variable {D : GDef} {kf k n g : Nat} {q : Nat → Pos} {fd : FuncData} {T : Hp} {p r : AP} {pa : Addr} {pxs : List V} {fs1 fs2 : List Frame} {c it : Addr} {ip : List Addr} {tn : Nat → Heap → Prop} {m j : Nat} {A : Around} {outer : List Env} {s : Shared}
theorem loops (S : Ses D kf k q fd T n p pa pxs) (F2 : Fr2 D q n fs2) (m : Nat) : ∀ d j, p.kids.length - j = d → j ≤ p.kids.length → LPs D q k n g T p pa c it ip tn fs2 m j ∧ (j < p.kids.length → ∀ fs1, Fr1 D q n it fs2 fs1 → YFs D q k n g T p pa c it ip tn fs1 m j) := by
  induction m using Nat.strongRecOn with
  | ind m ihm =>
    intro d
    induction d with
    | zero =>
      intro j hd hj
      have e : p.kids.length = j := by omega
      exact ⟨lp_end S F2 e, fun z => by omega⟩
    | succ d ihd =>
      intro j hd hj
      have hlt : j < p.kids.length := by omega
      obtain ⟨lp, _⟩ := ihd (j + 1) (by omega) (by omega)
      have yf : ∀ fs1, Fr1 D q n it fs2 fs1 → YFs D q k n g T p pa c it ip tn fs1 m j := fun fs1 F1 => yf_step S F2 F1 (fun m' hm' => (ihm m' hm' (d + 1) j hd hj).2 hlt fs1 F1) lp
      exact ⟨lp_next S F2 (List.getElem?_eq_getElem hlt) yf, fun _ => yf⟩
theorem frz_rd {base : Heap} {ns : List Addr} {h : Heap} {b : Addr} {xs : List V} (x : Rd (frzH T base ns h) b (.tup xs)) : T b = some (.tup xs) := by
  have key : ∀ u, frzH T base ns h b = some u → ∃ o, u = .frz o (match T b with | some (.tup xs) => .tup xs | _ => .own 0) := fun u e => by
    unfold frzH at e
    split at e
    · cases e
    · split at e
      · cases e
      · cases e
      · cases e
        exact ⟨_, rfl⟩
  rcases x with e | ⟨o, e⟩
  · obtain ⟨o, y⟩ := key _ e
    cases y
  · obtain ⟨o', y⟩ := key _ e
    injection y with _ y
    split at y
    · rename_i ys hT
      injection y with y
      rw [hT, y]
    · cases y
theorem ok_frz (S : Ses D kf k q fd T n p pa pxs) (K : Wk D T (k + 3) n A outer s) : p.Ok (tups (frzH T D.base (n :: ([] ++ frs outer)) s.heap)) := S.ok.mono fun b xs e => tups_rd.mpr (frz_tup K.dat (fun hm => by
    have hb := S.TF.tlt b (by rw [e]; simp)
    rcases List.mem_cons.mp hm with z | z
    · rw [z] at hb; exact absurd hb (Nat.lt_irrefl _)
    · have z' : b ∈ frs outer := by simpa using z
      have := K.tf b z'
      rw [e] at this
      cases this) (by
    cases e2 : D.base.get? b with
    | none => rfl
    | some o =>
      have := S.TF.tb b o e2
      rw [e] at this
      cases this) e)
theorem wk_kr {s' : Shared} {P : List Addr} (G : GFix D n) (TF : TFix D T n) (K : Wk D T k n A outer s) (kr : KR (frs outer) P s.heap P s'.heap) (Pn : ∀ b ∈ P, n ≤ b) : Wk D T k n A outer s' :=
  K.step (fs := frs outer) (fp := P) kr.size kr.keep kr.slot
    (fun b o e => ⟨fun z => (by
      have y := (K.funs.mem z).1
      rw [e] at y
      cases y), fun z => absurd (Nat.lt_of_lt_of_le (Nat.lt_of_lt_of_le (Heap.lt_size e) G.bsz) (Pn b z)) (Nat.lt_irrefl _)⟩)
    (fun b hb => ⟨fun z => hb (K.tf b z), fun z => absurd (Nat.lt_of_lt_of_le (TF.tlt b hb) (Pn b z)) (Nat.lt_irrefl _)⟩)
    fun b hb z => absurd (Nat.lt_of_lt_of_le (K.lo b hb) (Pn b z)) (Nat.lt_irrefl _)
/-- woken behind the first item -/
theorem walk_second {s1 : Shared} {kk : Resume → Sem Fin} {l : List Value} {p0 : Pos} (S : Ses D kf k q fd T n p pa pxs) (F : FrameAt n p.root pa s1.heap)
    (hkk : ∀ A1 R1 Y1 s2, (∀ (K : Flow → Sem Fin) (J : Value → Sem Fin) (gd : Bool → Bool) (lv : List Value → List Value), (∀ f, K f = fnEnd f) → gd false = false →
        GRun D.prog D.w A1 R1 Y1 (.func (wBody q) (D.env n)) ((execs [wIf q] (D.env n)).wrap K J gd lv) [] s2) → GRun D.prog D.w A1 R1 Y1 (.func (wBody q) (D.env n)) (kk (.send .none)) [] s2) :
    GenC D T (k + 3) n g (nodesL p.kids) (.suspended kk l (.func (wBody q) (D.env n)) p0 [] false) [n] [] s1 := by
  refine genC_iff.mpr fun A outer s0 K0 hg hz0 hH hO => ?_
  show GRun _ _ _ _ _ _ (kk (.send .none)) [] (s0.setGen g .running)
  refine hkk _ _ _ _ fun KK J gd lv hK hgd => grun_cons (grun_stIf ?_)
  rw [GenW.over_func]
  generalize hs : s0.setGen g .running = s
  have hh : s.heap = s0.heap := by rw [← hs]; rfl
  have K : Wk D T (k + 3) n A outer s := ⟨K0.room, K0.frames, K0.lo, by rw [hh]; exact K0.base, by rw [hh]; exact K0.funs, by rw [hh]; exact K0.dat, K0.tf, by rw [hh]; exact K0.size⟩
  have F0 : FrameAt n p.root pa s.heap := F.of fun o e => ⟨o.slots, by rw [hh]; exact hH n (by simp) o e⟩
  have hgs : g < s.gens.size := by rw [← hs, setGen_sz]; exact hg
  have I := wake_frame (ip := []) S.W S.G K F0
  have hr2 : Room (k + 2) (A.deeper (D.env n)) := K.room.deeper _
  have nlt : n < s.heap.objs.size := by
    obtain ⟨m0, hm0, _⟩ := F0
    exact hm0.lt
  -- is_form
  have tt : PT (gCx D n A outer s (frzH T D.base (n :: ([] ++ frs outer)) s.heap)) (wTest q) (tB (tCall spForm [] E0 (tCons (tVar 0) tNil))) :=
    pt_val (pcal S.W.form hr2 (by have := S.room; omega) (gl_of S.W (by simp)) (pa_cons (wv S.W 0 rfl (by decide) (by decide)) pa_nil))
  refine thnS (wpS_hz0 ((TSt.of tt).run [] s _ _ (fun b _ => b = true) I ?_)) fun b s2 h2 => ?_
  · exact ⟨_, rfl, p, rfl, ok_frz S K, fun H' _ => ⟨true, rfl, rfl⟩⟩
  obtain ⟨hz2, ⟨H2, I2, rfl⟩, g2⟩ := h2
  rw [if_pos rfl]
  have al1 : ∀ b ∈ [n], Al s.heap b := fun b hb => by
    obtain rfl : b = n := by simpa using hb
    obtain ⟨m0, hm0, _⟩ := F0
    exact al_ns hm0
  have nfs : ∀ b ∈ [n], b ∉ frs outer := fun b hb z => by
    obtain rfl : b = n := by simpa using hb
    exact absurd (K.lo b z) (Nat.lt_irrefl _)
  have kr2 := kr_frz (P := [n]) K I2 hz2 (by simp) (fun b hb => by cases hb) al1 (fun b hb => by cases hb) nfs
  have Pn1 : ∀ b ∈ [n], n ≤ b := fun b hb => by
    obtain rfl : b = n := by simpa using hb
    exact Nat.le_refl _
  have K2 := wk_kr S.G S.TF K kr2 Pn1
  have F2' := frame_inv S.W I2 rfl rfl
  have os2 := (frz_keep K I2).2.2
  have nlt2 : n < s2.heap.objs.size := Nat.lt_of_lt_of_le nlt hz2.1
  refine grun_cons (grun_stFor (by intro x; rfl) ?_)
  rw [GenW.over_func]
  have J2 := wake_frame (ip := []) S.W S.G K2 F2'
  have pi : PI (gCx D n A outer s2 (frzH T D.base (n :: ([] ++ frs outer)) s2.heap)) (wTg q) (wIter q) (iEnumT D.K (tCons (tCall spParts [] E0 (tCons (tVar 0) tNil)) tNil)) :=
    pi_enumT (gl_of S.W (by simp)) S.W.enum (pa_cons (pcal S.W.parts hr2 (by have := S.room; omega) (gl_of S.W (by simp)) (pa_cons (wv S.W 0 rfl (by decide) (by decide)) pa_nil)) pa_nil)
  refine thnS (wpS_hz0 ((IS.of pi).run [] s2 _ _ (fun Jt H' => ∃ c, Jt = IteT D.K c ∧ Rd H' c (.tup (rootsV p.kids)) ∧ (T c = some (.tup (rootsV p.kids)) ∨ frzH T D.base (n :: ([] ++ frs outer)) s2.heap c = none)) J2 ?_)) fun v s3 h3 => ?_
  · refine ⟨_, rfl, p, rfl, ok_frz S K2, fun c hc => ⟨c, _, rfl, .inl hc, c, rfl, hc, .inl (frz_rd hc)⟩, fun c hc => ⟨c, _, rfl, .inl (.inl upd_same), c, rfl, .inl upd_same, .inr hc⟩⟩
  obtain ⟨hz3, h3⟩ := h3
  refine thnS (wpS_hz0 h3) fun u s4 h4 => ?_
  obtain ⟨hz4, ⟨it, ip, tn, Jt, H4, rfl, I4, TN, tn0, fpok, c, rfl, hc4, hcT⟩, g4⟩ := h4
  have I4g : InvG (gCx D n A outer s2 (frzH T D.base (n :: ([] ++ frs outer)) s2.heap)) [] (wσ p.root pa) H4 s4 := I4
  have hz24 : Hz s2.heap s4.heap := hz3.trans hz4
  have ipn : ∀ b ∈ ip, n < b := fun b hb => by
    obtain ⟨_, f1, _, f3, _⟩ := fpok b hb
    have f1 : b ≠ n := f1
    rcases f3 with z | z
    · cases z
    · have z : (pre s2.heap n).objs.size ≤ b := z
      rw [pre_size K2.size] at z
      exact Nat.lt_of_le_of_ne z (fun y => f1 y.symm)
  have hc4s : ∃ u, H4 c = some u := by
    rcases hc4 with e | ⟨o, e⟩
    · exact ⟨_, e⟩
    · exact ⟨_, e⟩
  obtain ⟨uc, huc⟩ := hc4s
  have hcnew : T c = some (.tup (rootsV p.kids)) ∨ s2.heap.objs.size ≤ c := hcT.imp id fun hn => frz_new (ip := []) K2 I4g hz24 (fun b hb => by cases hb) hn huc
  have clt : c < s4.heap.objs.size := (I4g.hok c uc huc).lt
  have kr4 := kr_frz (P := [n]) K2 I4g hz24 (by simp) (fun b hb => by cases hb) kr2.alive (fun b hb => by cases hb) nfs
  have K4 := wk_kr S.G S.TF K2 kr4 Pn1
  have iplt : ∀ b ∈ ip, b < s4.heap.objs.size := fun b hb => by
    obtain ⟨o, e, _⟩ := TN.obj 0 _ tn0 b hb
    exact Heap.lt_size e
  -- the iterator is new
  have ipnew : ∀ b ∈ ip, s.heap.objs.size ≤ b := fun b hb => by
    refine Nat.le_trans hz2.1 ?_
    obtain ⟨o, e, _⟩ := TN.obj 0 _ tn0 b hb
    refine hz24.new e ?_
    cases e2 : s2.heap.get? b with
    | none => rfl
    | some o2 =>
      exfalso
      obtain ⟨f0, f1, f2, _⟩ := fpok b hb
      have hns : b ∉ n :: ([] ++ frs outer) := fun z => by
        rcases List.mem_cons.mp z with y | y
        · exact f1 y
        · exact f2 (List.nil_append (frs outer) ▸ y)
      have y := I4g.base.frzs b _ _ (frz_at (T := T) hns (Heap.get?_none_of_le (Nat.le_trans S.G.bsz (Nat.le_of_lt (ipn b hb)))) e2)
      rw [f0] at y
      cases y
  have P4 : ∃ P : List Addr, (∀ b, b ∈ P ↔ b = n ∨ b ∈ ip ∨ (b = c ∧ s2.heap.objs.size ≤ c)) := by
    by_cases h : s2.heap.objs.size ≤ c
    · exact ⟨n :: c :: ip, fun b => by simp [h]; constructor <;> (intro z; rcases z with z | z | z <;> simp [z])⟩
    · exact ⟨n :: ip, fun b => by simp [h]⟩
  obtain ⟨P, hP⟩ := P4
  have L : Lp D q T n p c it ip tn P := by
    refine ⟨TN, (hP n).mpr (.inl rfl), fun b hb => (hP b).mpr (.inr (.inl hb)), ipn, ?_, fun z => ?_, ?_, fun b hb => ?_⟩
    · rcases hcnew with z | z
      · exact .inr z
      · exact .inl ⟨(hP c).mpr (.inr (.inr ⟨rfl, z⟩)), Nat.lt_of_lt_of_le nlt2 z⟩
    · have := (fpok c z).1
      rw [huc] at this
      cases this
    · rcases hcnew with z | z
      · cases e : D.base.get? c with
        | none => rfl
        | some o =>
          have := S.TF.tb c o e
          rw [z] at this
          cases this
      · exact Heap.get?_none_of_le (Nat.le_trans (Nat.le_trans S.G.bsz (Nat.le_of_lt nlt2)) z)
    · rcases (hP b).mp hb with z | z | ⟨z, y⟩
      · rw [z]; exact Nat.le_refl _
      · exact Nat.le_of_lt (ipn b z)
      · rw [z]; exact Nat.le_of_lt (Nat.lt_of_lt_of_le nlt2 y)
  intro k2 l2 p2 hk2
  rw [hgd]
  have FF : Fr2 D q n [.ret k2 none false l2 (cF D q n) p2 []] := ⟨⟨k2, l2, p2, rfl, by
    rw [hk2]
    show KK .next = _
    rw [hK]
    rfl⟩⟩
  have lp := (loops (g := g) (c := c) (it := it) (ip := ip) (tn := tn) S FF (nodesL p.kids).length p.kids.length 0 (by omega) (Nat.zero_le _)).1
  have q0 := lp (by rw [List.drop_zero]; exact Nat.le_refl _) A outer s s4 [n] P [] K4 ?_ (((GR.refl).step g2).step g4) (I4g.os.trans os2) L ⟨frame_inv S.W I4g rfl rfl, tn0, hc4.ok I4g.hok⟩ (by
    have := g2.size
    have := g4.size
    omega)
  · rw [List.drop_zero] at q0
    exact q0
  · refine (kr2.trans kr4 (fun z hz => .inl hz) (fun z hz => hz)).sub fun z hz => ?_
    rcases (hP z).mp hz with y | y | ⟨y, y2⟩
    · rw [y]; exact .inl (by simp)
    · exact .inr ⟨ipnew z y, TN.obj 0 _ tn0 z y⟩
    · rw [y]
      obtain ⟨_, its, _, ht⟩ := hc4.ok I4g.hok
      exact .inr ⟨Nat.le_trans hz2.1 y2, al_tup ht⟩
/-- a walk gives its plan's nodes -/
theorem walk_gen (W : WalkD D kf q fd) : ∀ d r, r.depth ≤ d → WalkGen D q (kf + 3 * d + 3) r := by
  intro d
  induction d with
  | zero =>
    intro r hr T n g pa pxs s0 G TF ok hp hl F
    rw [nodes_eq]
    have S : Ses D kf kf q fd T n r pa pxs := ⟨W, G, TF, ok, hp, hl, Nat.le_succ _, fun z hz => absurd (AP.depth_kid hz) (by omega)⟩
    exact walk_first W G TF F fun s1 kk l p0 F1 hkk => walk_second S F1 hkk
  | succ d ih =>
    intro r hr T n g pa pxs s0 G TF ok hp hl F
    rw [nodes_eq]
    have S : Ses D kf (kf + 3 * d + 3) q fd T n r pa pxs := ⟨W, G, TF, ok, hp, hl, by omega, fun z hz => ih z (by have := AP.depth_kid hz; omega)⟩
    have e : kf + 3 * (d + 1) + 3 = kf + 3 * d + 3 + 3 := by omega
    rw [e]
    exact walk_first W G TF F fun s1 kk l p0 F1 hkk => walk_second S F1 hkk
end
end Gz
end
section
set_option Elab.async false
set_option maxRecDepth 100000
set_option autoImplicit false
set_option linter.all false
/-! who draws from a walk -/
namespace Gz
open PySem PySem.Spec L2
open PyProof.Rows hiding St
section
variable {P : Program} {w : World} {A : Around} {R : Shared → Prop} {Y : Value → Shared → GenState → Prop} {s : Shared}
/-- next(a generator) -/
theorem next_S {a : Addr} {g : Nat} {gs : GenState} {Q : Option Value → Shared → Prop} {E : Value → Shared → Prop} (hh : A.handled = none) (hl : s.heap.NoLimit) (hroom : A.depth < recursionLimit) (hg : GObj s.heap a g) (hgs : s.gens[g]? = some gs)
    (hgo : GOn P w A.in1 R Y gs (s.setGen g .running)) (hY : ∀ v s1 gs', Y v s1 gs' → Q (some v) (s1.setGen g gs'))
    (hR : ∀ s1, R s1 → ∀ h', (∀ b o, s1.heap.get? b = some o → h'.get? b = some o) → s1.heap.objs.size ≤ h'.objs.size → Q none { s1.setGen g .finished with heap := h' }) : wpS P w A (pyNext (.ref a)) Q E s := by
  unfold pyNext
  refine wpS_bind (wpS_attempt ?_)
  refine wake_S hh hl hroom hg hgs hgo (fun v s1 gs' hy => wpS_pure (hY v s1 gs' hy)) fun s1 hr e h' hS hcls hk hz => ?_
  obtain ⟨o, rfl, ho, ob, hob, hoc⟩ := hcls
  refine wpS_bind (wpS_of (wpAny_isInstance (T := "StopIteration") (b := true) ⟨ob, hob, hoc⟩ isSubtype_stop ?_))
  rw [if_pos rfl]
  exact wpS_pure (hR s1 hr h' hk hz)
end
/-- all that may be read stays so -/
def Keeps (H H' : Hp) : Prop := ∀ b xs, Rd H b (.tup xs) → Rd H' b (.tup xs)
/-- a walk that is drawn from, its object at ga -/
structure Drawn1 (D : GDef) (T : Hp) (k nS gS ga : Nat) (rem : List Addr) (gs : GenState) (fp : List Addr) (own : List Nat) (s0 s : Shared) : Prop where
  obj : GObj s.heap ga gS
  st : s.gens[gS]? = some gs
  con : GenC D T k nS gS rem gs fp own s0
  size : s0.heap.objs.size ≤ s.heap.objs.size
  held : Held fp s0.heap s.heap
  ow : ∀ i ∈ own, s.gens[i]? = s0.gens[i]?
  lt : gS < s.gens.size
  nS : nS ≤ s.heap.objs.size
  gafp : ga ∉ fp
  galt : ga < s.heap.objs.size
  gSo : gS ∉ own
  fplt : ∀ b ∈ fp, Al s.heap b
section
variable {X : Cx} {pins : List (Addr × Obj)} {σ : L2.St} {H : Hp} {s : Shared} {D : GDef} {T : Hp} {k nS gS ga : Nat} {rem : List Addr} {gs : GenState} {fp : List Addr} {own : List Nat} {s0 : Shared}
/-- the world of a draw -/
theorem draw_wk (I : InvG X pins σ H s) (hbase : D.base = X.base) (hP : D.prog = X.prog) (hw : D.w = X.w) (hr : Room (k + 1) X.A) (hlo : ∀ b ∈ frs X.stack, b < nS) (hT : ∀ b xs, T b = some (.tup xs) → Rd H b (.tup xs)) (hTo : ∀ b, T b ≠ none → ∃ xs, T b = some (.tup xs)) (hn : nS ≤ s.heap.objs.size) : Wk D T k nS X.A.in1 X.stack s := by
  refine ⟨hr.in1, I.ok.frames, hlo, ?_, ?_, fun b xs e => ?_, fun b hb => ?_, hn⟩
  · rw [hbase]; exact fun b o e => Inv.bk I b o e
  · rw [hbase]
    have z := Inv.stack I
    exact z
  · rw [hP, hw]
    exact (hT b xs e).ok I.hok
  · cases e : T b with
    | none => rfl
    | some u =>
      obtain ⟨xs, e2⟩ := hTo b (by rw [e]; simp)
      have n := Inv.stkFree I b hb
      rcases hT b xs e2 with z | ⟨o, z⟩ <;> (rw [n] at z; cases z)
/-- behind a draw's run: the tracked heap stands -/
theorem draw_inv {s1 : Shared} {fp' : List Addr} (I : InvG X pins σ H s) (kr : KR (frs X.stack) fp s.heap fp' s1.heap) (os : s1.os = s.os) (hfp : ∀ b ∈ fp, FpOk X pins H b) : InvG X pins σ H s1 := by
  have Hfs : ∀ b u, H b = some u → b ∉ frs X.stack := fun b u e z => by rw [Inv.stkFree I b z] at e; cases e
  have Hfp : ∀ b u, H b = some u → b ∉ fp := fun b u e z => by rw [(hfp b z).1] at e; cases e
  have un : Un (frs X.stack) fp H H s.heap s1.heap := by
    refine ⟨fun b o e _ h1 h2 => kr.keep b o e h1 h2, fun b o e _ h1 _ => kr.slot b o e h1, fun b o e n _ => n, fun b o e h2 => ?_, fun _ _ e => e, fun _ _ _ e => e, fun b ps e => ⟨#[], by rw [e]; simp⟩⟩
    by_cases hf : b ∈ frs X.stack
    · obtain ⟨sl, e2⟩ := kr.slot b o e hf
      exact ⟨_, e2⟩
    · exact ⟨o, kr.keep b o e hf h2⟩
  have hok : HOk X.prog X.w H s1.heap := fun b u e => (I.hok b u e).stay (fun c v hc q => by
    rcases hc with z | z
    · rw [z] at q ⊢
      exact kr.keep b v q (Hfs b u e) (Hfp b u e)
    · exact kr.keep c v q (Hfs c _ z) (Hfp c _ z)) (fun _ z => z) fun _ _ z => z
  have J := Inv.call (g' := #[]) (t' := s1.toks) (d' := s1.drawn) (ch := fp) I un hok AllBare.empty fun b hb => by
    obtain ⟨_, f1, _, f3, f4, f5⟩ := hfp b hb
    exact ⟨f3, f1, f4, f5⟩
  obtain ⟨hh, g, d, t, o⟩ := s1
  obtain rfl : o = s.os := os
  exact J
/-- .. and the new pair is tracked -/
theorem draw_pair {q pq a : Addr} (I : InvG X pins σ H s) (hq : H q = none) (hqf : ∀ x c, X.env.cells.lookup x = some c → c ≠ q) (hne : q ≠ X.env.locals) (hpin : ∀ p ∈ X.pn ++ pins, p.1 ≠ q) (hnew : X.s_0.heap.get? q = none) (ht : IsTup s.heap q #[.ref pq, .ref a]) :
    InvG X pins σ (upd H q (.tup [.ref pq, .ref a])) s := by
  have Hq : ∀ b u, H b = some u → b ≠ q := fun b u e z => by rw [z, hq] at e; cases e
  have hok : HOk X.prog X.w (upd H q (.tup [.ref pq, .ref a])) s.heap := fun b u e => by
    by_cases hb : b = q
    · subst hb
      rw [upd_same] at e
      cases e
      exact ⟨by show 2 ≤ sizeLine; decide, [.ref pq, .ref a], .cons rfl (.cons rfl .nil), ht⟩
    · rw [upd_ne hb] at e
      exact (I.hok b u e).stay (fun c v _ z => z) (fun c z => by rw [upd_ne (Hq c _ z)]; exact z) fun c xs z => by rw [upd_ne (Hq c _ z)]; exact z
  have up : ∀ {b}, b ≠ q → upd H q (.tup [.ref pq, .ref a]) b = H b := fun {b} h => upd_ne h
  refine ⟨I.ok, I.os, I.bare, ⟨I.base.keep, I.base.slot, fun b o e n hx => ?_, I.base.there, fun b xs e => ?_, fun b o u e => ?_, fun b ps e => ?_⟩, I.loc, I.cell, ?_, fun x c e => ?_, fun p hp => ?_, hok, I.len⟩
  · have hb : b ≠ q := fun z => by rw [z, hnew] at e; cases e
    rw [up hb]; exact I.base.free b o e n hx
  · have z := I.base.tups b xs e
    rw [up (Hq b _ z)]; exact z
  · have z := I.base.frzs b o u e
    rw [up (Hq b _ z)]; exact z
  · obtain ⟨m, z⟩ := I.base.tbls b ps e
    exact ⟨m, by rw [up (Hq b _ z)]; exact z⟩
  · rw [up (Ne.symm hne)]; exact I.free
  · rw [up (hqf x c e)]; exact I.freeC x c e
  · obtain ⟨h1, h2, h3⟩ := I.pin p hp
    exact ⟨h1, by rw [up (hpin p hp)]; exact h2, h3⟩
end
end Gz
end
section
set_option Elab.async false
set_option maxRecDepth 100000
set_option autoImplicit false
set_option linter.all false
/-! for .. in walk(..) -/
namespace Gz
open PySem PySem.Spec L2
open PyProof.Rows hiding St
/-- who draws: its context against the generator's -/
structure DrawEnv (X : Cx) (D : GDef) (T : Hp) (k nS : Nat) : Prop where
  base : D.base = X.base
  prog : D.prog = X.prog
  w : D.w = X.w
  room : Room (k + 1) X.A
  lo : ∀ b ∈ frs X.stack, b < nS
  only : ∀ b, T b ≠ none → ∃ xs, T b = some (.tup xs)
/-- the end of a draw -/
def DrawEnd (X : Cx) (pins : List (Addr × Obj)) (σ : L2.St) (H : Hp) (D : GDef) (T : Hp) (k nS gS ga : Nat) (G0 : Array GenState) : List Addr → Option Value → Shared → Prop
  | [], r, s1 => r = none ∧ InvG X pins σ H s1 ∧ GR [] G0 [] s1.gens
  | a :: rem, r, s1 => ∃ (q pq : Addr) (fp' : List Addr) (own' : List Nat) (gs' : GenState) (s0' : Shared), r = some (.ref q) ∧ H q = none ∧ InvG X pins σ (upd H q (.tup [.ref pq, .ref a])) s1 ∧ Drawn1 D T k nS gS ga rem gs' fp' own' s0' s1 ∧
      (∀ b ∈ ga :: fp', FpOk X pins (upd H q (.tup [.ref pq, .ref a])) b) ∧ GR [] G0 (gS :: own') s1.gens ∧ NonFresh s1.gens (gS :: own')
section
variable {X : Cx} {pins : List (Addr × Obj)} {σ : L2.St} {H : Hp} {s : Shared} {D : GDef} {T : Hp} {k nS gS ga : Nat} {rem : List Addr} {gs : GenState} {fp : List Addr} {own : List Nat} {s0 : Shared} {G0 : Array GenState}
theorem draw_next (V : DrawEnv X D T k nS) (hc : X.calm = true) (I : InvG X pins σ H s) (d : Drawn1 D T k nS gS ga rem gs fp own s0 s) (hfp : ∀ b ∈ ga :: fp, FpOk X pins H b) (gr : GR [] G0 (gS :: own) s.gens) (hT : ∀ b xs, T b = some (.tup xs) → Rd H b (.tup xs)) :
    wpS X.prog X.w X.A (pyNext (.ref ga)) (DrawEnd X pins σ H D T k nS gS ga G0 rem) noE s := by
  have Wk0 := draw_wk I V.base V.prog V.w V.room V.lo hT V.only d.nS
  have hgo := genC_iff.mp d.con X.A.in1 X.stack s Wk0 d.lt d.size d.held d.ow
  rw [V.prog, V.w] at hgo
  have gafs : ga ∉ frs X.stack := fun z => by
    obtain ⟨_, f1, f2, _⟩ := hfp ga List.mem_cons_self
    rcases List.mem_cons.mp (I.stkSub ga z) with y | y
    · exact f1 y
    · exact f2 y
  have hfp' : ∀ b ∈ fp, FpOk X pins H b := fun b hb => hfp b (List.mem_cons_of_mem _ hb)
  have gaK : ∀ {fp' : List Addr} {s1 : Shared}, KR (frs X.stack) fp s.heap fp' s1.heap → GObj s1.heap ga gS := fun kr => d.obj.keep fun o e => kr.keep ga o e gafs d.gafp
  have lim0 := Inv.nolimit (s := { s with gens := #[] }) I
  have lim : s.heap.NoLimit := lim0
  have hrm : X.A.depth < recursionLimit := V.room.depth
  refine next_S (I.ok.hd hc) lim hrm d.obj d.st hgo (fun v s1 gs' hy => ?_) fun s1 hr h' hk hz => ?_
  · cases rem with
    | nil => exact False.elim hy
    | cons a rem' =>
      obtain ⟨q, pq, fp', own', rfl, hq1, hq2, hq3, ht, kr, gr1, os1, nf, nfr, gc⟩ := hy
      have kr : KR (frs X.stack) fp s.heap fp' s1.heap := kr
      have hq1 : s.heap.objs.size ≤ q := hq1
      have hqn : H q = none := I.hok.fresh hq1
      have fq := Inv.fpOk (s := { s with gens := #[] }) I hq1 hqn
      have I1 : InvG X pins σ H s1 := draw_inv I kr os1 hfp'
      have I2 : InvG X pins σ (upd H q (.tup [.ref pq, .ref a])) s1 := draw_pair I1 hqn fq.2.2.2.2.1 fq.2.1 fq.2.2.2.2.2 (Heap.get?_none_of_le (Nat.le_trans (Inv.sz (s := { s with gens := #[] }) I) hq1)) ht
      have gSl : gS < s1.gens.size := by
        have y := gr1.size
        rw [setGen_sz] at y
        have := d.lt
        omega
      have gSo' : gS ∉ own' := fun z => by
        rcases gr1.young gS z with y | y
        · exact d.gSo y
        · rw [setGen_sz] at y
          have := d.lt
          omega
      have qga : ga ≠ q := fun z => by
        rw [← z] at hq1
        exact absurd (Nat.lt_of_lt_of_le d.galt hq1) (Nat.lt_irrefl _)
      have fpy : ∀ b ∈ fp', b ∈ fp ∨ s.heap.objs.size ≤ b := kr.young
      refine ⟨q, pq, fp', own', gs', s1, rfl, hqn, I2, ⟨gaK kr, setGen_at gSl, gc, Nat.le_refl _, Held.refl, fun i hi => ?_, by rw [setGen_sz]; exact gSl, Nat.le_trans d.nS kr.size, fun z => ?_, Nat.lt_of_lt_of_le d.galt kr.size, gSo', kr.alive⟩, fun b hb => ?_, gr.trans gr1.woken, fun i hi => ?_⟩
      · exact setGen_ne fun z => gSo' (by rw [z]; exact hi)
      · rcases fpy ga z with y | y
        · exact d.gafp y
        · exact absurd (Nat.lt_of_lt_of_le d.galt y) (Nat.lt_irrefl _)
      · have base : FpOk X pins H b := by
          rcases List.mem_cons.mp hb with z | z
          · rw [z]; exact hfp ga List.mem_cons_self
          · rcases fpy b z with y | y
            · exact hfp' b y
            · exact Inv.fpOk (s := { s with gens := #[] }) I y (I.hok.fresh y)
        have hbq : b ≠ q := fun z => by
          rcases List.mem_cons.mp hb with y | y
          · exact qga (y.symm.trans z)
          · exact hq3 (by rw [← z]; exact y)
        exact ⟨by rw [upd_ne hbq]; exact base.1, base.2⟩
      · rcases List.mem_cons.mp hi with z | z
        · rw [z]; exact ⟨gs', setGen_at gSl, nfr⟩
        · obtain ⟨st, e, n⟩ := nf i z
          exact ⟨st, by rw [setGen_ne fun y => gSo' (by rw [y]; exact z)]; exact e, n⟩
  · cases rem with
    | cons a rem' => exact False.elim hr
    | nil =>
      obtain ⟨kr, gr1, os1⟩ := hr
      have kr : KR (frs X.stack) fp s.heap [] s1.heap := kr
      have I1 : InvG X pins σ H s1 := draw_inv I kr os1 hfp'
      exact ⟨rfl, Inv.kept (t' := s1.toks) (h' := h') I1 hk, gr.trans gr1.ended⟩
/-- over what keeps its own -/
theorem Drawn1.keep {s1 : Shared} (d : Drawn1 D T k nS gS ga rem gs fp own s0 s) (nf : NonFresh s.gens (gS :: own)) (g : GStep s.gens s1.gens) (hz : s.heap.objs.size ≤ s1.heap.objs.size) (hk : ∀ b ∈ ga :: fp, ∀ o, s.heap.get? b = some o → s1.heap.get? b = some o) : Drawn1 D T k nS gS ga rem gs fp own s0 s1 := by
  have stay : ∀ i ∈ gS :: own, s1.gens[i]? = s.gens[i]? := fun i hi => by
    obtain ⟨st, e, n⟩ := nf i hi
    rw [e]
    exact g.stay i st e n
  refine ⟨d.obj.keep (hk ga List.mem_cons_self), ?_, d.con, Nat.le_trans d.size hz, fun b hb o e => hk b (List.mem_cons_of_mem _ hb) o (d.held b hb o e), fun i hi => ?_, Nat.lt_of_lt_of_le d.lt g.size, Nat.le_trans d.nS hz, d.gafp, Nat.lt_of_lt_of_le d.galt hz, d.gSo, fun b hb => (d.fplt b hb).keep (hk b (List.mem_cons_of_mem _ hb))⟩
  · rw [stay gS List.mem_cons_self]; exact d.st
  · rw [stay i (List.mem_cons_of_mem _ hi)]; exact d.ow i hi
theorem GObj.al {h : Heap} {a : Addr} {g : Nat} (x : GObj h a g) : Al h a := by
  obtain ⟨o, nm, qn, ho, _, hd, _⟩ := x
  exact ⟨o, ho, fun v z => by rw [hd] at z; cases z⟩
end
end Gz
end
section
set_option Elab.async false
set_option maxRecDepth 100000
set_option autoImplicit false
set_option linter.all false
/-! for .. in walk(..): the rule -/
namespace Gz
open PySem PySem.Spec L2
open PyProof.Rows hiding St
/-- walk(plan, ()): W: what stands while rem is to come -/
def WalkGoes (targs : TA) (d : Nat) (σ : L2.St) (H : Hp) (R : (p : AP) → Hp → Prop) : Prop := targs σ H fun vs H1 => vs.length = 2 ∧ ∃ (p : AP) (pr : Addr), vs = [.ref p.root, .ref pr] ∧ p.Ok (tups H1) ∧ H1 pr = some (.tup []) ∧ p.depth ≤ d ∧ R p H1
section
variable {X : Cx} {pins : List (Addr × Obj)} {σ : L2.St} {H : Hp} {s : Shared} {D : GDef} {kf d : Nat} {q : Nat → Pos} {fd : FuncData} {x : Str} {p pos : Pos} {e : Expr} {es : List Expr} {targs : TA}
/-- what the consumer's text has to give -/
structure Uses (X : Cx) (D : GDef) (kf d : Nat) (q : Nat → Pos) (fd : FuncData) : Prop where
  W : WalkD D kf q fd
  prog : D.prog = X.prog
  w : D.w = X.w
  K : D.K = X.K
  mg : D.mg = X.mg
  base : D.base = X.base
  room : Room (kf + 3 * d + 4) X.A
  small : d + 1 ≤ sizeLine
/-- a walk is made -/
theorem walk_made (U : Uses X D kf d q fd) (hg : Gl X "walk") (ha : PA X.nox (e :: es) targs) (I : InvG X pins σ H s) {R : (p : AP) → Hp → Prop} (h : WalkGoes targs d σ H R)
    (he : starEach (e :: es) X.env = (false, eval e X.env) :: starEach es X.env := by rfl) (hpl : (backTo pos (starEach es X.env)).any (·.1) = false := by rfl) :
    wpS X.prog X.w X.A (eval (.Call (.Name "walk" p) (e :: es) [] pos) X.env) (fun u s3 => ∃ (ga nS gS : Nat) (gs : GenState) (fp : List Addr) (r : AP) (H2 : Hp), u = .ref ga ∧ s3.heap.IsGen ga gS ∧ InvG X pins σ H2 s3 ∧ R r H2 ∧ DrawEnv X D (tups H2) (kf + 3 * d + 3) nS ∧
      Drawn1 D (tups H2) (kf + 3 * d + 3) nS gS ga r.nodes gs fp [] s3 s3 ∧ (∀ b ∈ ga :: fp, FpOk X pins H2 b) ∧ GR [] s.gens [gS] s3.gens) noE s := by
  have hrm : X.A.depth < recursionLimit := U.room.depth
  have hb : Binds D.K fd ["thing", "path"] [] := U.W.binds
  refine thnS (wpS_hz0 (es_make (X := X) (pos := pos) (p := p) U.W.fn U.prog.symm U.w.symm U.K.symm hrm hg (by rw [← U.mg]; exact U.W.self) hb ha (Q := fun vs H1 => ∃ (p : AP) (pr : Addr), vs = [.ref p.root, .ref pr] ∧ p.Ok (tups H1) ∧ H1 pr = some (.tup []) ∧ p.depth ≤ d ∧ R p H1) I h (by decide) he hpl)) fun u s3 h3 => ?_
  obtain ⟨hz, ga, vs, us, s2, H2, rfl, hz2, g2, I2, rv, ⟨r, pr, rfl, ok, hpr, hd, hR⟩, M, I3⟩ := h3
  have sz23 : s2.heap.objs.size < ga := M.lo
  have hus : us = [.ref r.root, .ref pr] := by
    cases rv with
    | cons a b =>
      cases b with
      | cons a2 b2 =>
        cases b2
        cases a
        cases a2
        rfl
  subst hus
  have stk := Inv.stack (s := { s2 with gens := #[] }) I2
  have lo : ∀ b ∈ frs X.stack, b < s2.heap.objs.size := fun b hb => by
    obtain ⟨_, o, ho, _⟩ := stk.mem hb
    exact Heap.lt_size ho
  have bz : D.base.objs.size ≤ s2.heap.objs.size := by
    rw [U.base]
    exact Nat.le_trans I2.ok.bsz (Inv.sz (s := { s2 with gens := #[] }) I2)
  have TF : TFix D (tups H2) s2.heap.objs.size := by
    refine ⟨fun b hb => ?_, fun b o e => ?_⟩
    · obtain ⟨xs, e⟩ := tups_only hb
      rcases tups_rd.mp e with z | ⟨o, z⟩
      · exact (I2.hok b _ z).lt
      · exact (I2.hok b _ z).lt
    · rw [U.base] at e
      have n := (Inv.bs (s := { s2 with gens := #[] }) I2 b o e).2
      unfold tups
      rw [n]
  have gc : GenC D (tups H2) (kf + 3 * d + 3) s2.heap.objs.size s2.gens.size r.nodes (.fresh (.func (wBody q) (D.env s2.heap.objs.size))) [s2.heap.objs.size] [] s3 := by
    obtain ⟨mm, hmm, hmv⟩ := M.ns
    exact walk_gen U.W d r hd (tups H2) _ _ pr [] s3 ⟨U.W.ok, bz⟩ TF ok (tups_rd.mpr (.inl hpr)) (by
      have := U.small
      show 0 + r.depth + 1 ≤ sizeLine
      omega) ⟨mm, hmm, hmv 0 "thing" _ rfl rfl, hmv 1 "path" _ rfl rfl⟩
  have al : Al s3.heap s2.heap.objs.size := by
    obtain ⟨mm, hmm, _⟩ := M.ns
    exact al_ns hmm
  have hgen := M.obj
  refine ⟨ga, s2.heap.objs.size, s2.gens.size, _, [s2.heap.objs.size], r, H2, rfl, hgen, I3, hR, ⟨U.base, U.prog, U.w, U.room, lo, fun b hb => tups_only hb⟩, ⟨?_, ?_, gc, Nat.le_refl _, Held.refl, (fun i hi => by cases hi), ?_, Nat.le_of_lt (Nat.lt_trans M.lo M.hi), ?_, M.hi, by simp, ?_⟩, fun b hb => ?_, ?_⟩
  · obtain ⟨o, nm, qn, ho, hc, hd2, hs⟩ := hgen
    exact ⟨o, nm, qn, ho, hc, hd2, .inl hs⟩
  · rw [M.gens]; exact Array.getElem?_push_size ..
  · rw [M.gens, Array.size_push]; exact Nat.lt_succ_self _
  · intro z
    have z' : ga = s2.heap.objs.size := by simpa using z
    rw [z'] at sz23
    exact absurd sz23 (Nat.lt_irrefl _)
  · intro b hb
    obtain rfl : b = s2.heap.objs.size := by simpa using hb
    exact al
  · have hle : s2.heap.objs.size ≤ b := by
      have z : b = ga ∨ b = s2.heap.objs.size := by simpa using hb
      rcases z with z | z
      · rw [z]; exact Nat.le_of_lt sz23
      · rw [z]; exact Nat.le_refl _
    exact Inv.fpOk (s := { s2 with gens := #[] }) I2 hle (I2.hok.fresh hle)
  · rw [M.gens]
    exact (of_gstep g2).push
end
/-- the loop -/
def tForW (d : Nat) (targs : TA) (g : TG) (tb : TS) : TS := fun D σ H => WalkGoes targs d σ H fun p H1 => ∃ W : List Addr → L2.St → Hp → Prop, W p.nodes σ H1 ∧ (∀ rem σ' H', W rem σ' H' → Keeps H1 H') ∧ (∀ σ' H', W [] σ' H' → D.nx σ' H') ∧
  ∀ a rem σ' H', W (a :: rem) σ' H' → ∀ q pq, H' q = none → g (.ref q) σ' (upd H' q (.tup [.ref pq, .ref a])) fun σ2 H2 => tb { nx := W rem, rt := fun _ _ => False, ct := W rem } σ2 H2
section
variable {X : Cx} {D : GDef} {kf d : Nat} {q : Nat → Pos} {fd : FuncData} {p pos pos' : Pos} {e : Expr} {es : List Expr} {targs : TA} {tg : Expr} {g : TG} {body : List Stmt} {tb : TS}
theorem ss_forW (U : Uses X D kf d q fd) (hc : X.calm = true) (hg : Gl X "walk") (ha : PA X.nox (e :: es) targs) (hgt : PG X.nox tg g) (hb : SSs X body tb) (hs : ∀ x, foldedSetIterable (.Call (.Name "walk" p) (e :: es) [] pos) X.env x = pure x := by intro _; rfl)
    (he : starEach (e :: es) X.env = (false, eval e X.env) :: starEach es X.env := by rfl) (hpl : (backTo pos (starEach es X.env)).any (·.1) = false := by rfl) :
    SS X (.For tg (.Call (.Name "walk" p) (e :: es) [] pos) body [] pos') (tForW d targs g tb) := by
  refine ⟨fun pins s σ H DD I h => ?_⟩
  rw [exec_For]
  refine wpS_at (wpS_bind (thnS (walk_made U hg ha I h he hpl) fun v s3 h3 => ?_))
  obtain ⟨ga, nS, gS, gs, fp, r, H2, rfl, hgen, I3, ⟨W, w0, wk, wend, wstep⟩, V, d3, fp3, gr3⟩ := h3
  refine wpS_eq (hs _) (wpS_at (wpS_bind (wpS_holding (wpS_of (wpAny_pyIter_gen hgen ?_)))))
  unfold runOwn
  refine wpS_onRaise (wpS_run ?_)
  refine codeS_mono (R := fun r s' => match r with | .ok f => SG X pins DD s f s' | .error _ => False) (codeS_loop rfl (fun n s' => ∃ rem gs fp own s0 σ' H', rem.length = n ∧ InvG X pins σ' H' s' ∧ Drawn1 D (tups H2) (kf + 3 * d + 3) nS gS ga rem gs fp own s0 s' ∧ (∀ b ∈ ga :: fp, FpOk X pins H' b) ∧ GR [] s.gens (gS :: own) s'.gens ∧ W rem σ' H') ?_ _ s3 ⟨r.nodes, gs, fp, [], s3, σ, H2, rfl, I3, d3, fp3, gr3, w0⟩) fun r s' z => by
    cases r with
    | ok f => exact z
    | error e => exact False.elim z
  rintro n s4 ⟨rem, gs4, fp4, own4, s04, σ4, H4, hn, I4, d4, fpk4, gr4, w4⟩
  show wpS X.prog X.w X.A ((forTurn tg (.ref ga) body [] X.env).onRaise _) _ _ s4
  refine wpS_onRaise (E := fun _ _ => False) (wpS_mono (E := noE) ?_ (fun _ _ z => z) fun _ _ z => False.elim z) |> fun z => wpS_mono z (fun _ _ z => z) fun _ _ z => False.elim z
  unfold forTurn
  refine wpS_at (wpS_bind (wpS_onRaise ?_))
  have hT : ∀ b xs, tups H2 b = some (.tup xs) → Rd H4 b (.tup xs) := fun b xs z => wk _ _ _ w4 b xs (tups_rd.mp z)
  refine wpS_mono (draw_next V hc I4 d4 fpk4 gr4 hT) (fun rr s5 h5 => ?_) fun _ _ z => False.elim z
  cases rem with
  | nil =>
    obtain ⟨rfl, I5, gr5⟩ := h5
    refine wpS_pure (.inr ⟨rfl, codeS_of (codeAny_block (wpAny_execs_nil ?_))⟩)
    exact ⟨⟨σ4, H4, I5, wend σ4 H4 w4⟩, gr5.gstep⟩
  | cons a rem' =>
    obtain ⟨qq, pq, fp5, own5, gs5, s05, rfl, hq, I5, d5, fpk5, gr5, nf5⟩ := h5
    obtain ⟨go, nm, qn, hgo, hgc, hgd, _⟩ := id d5.obj
    refine wpS_bind (wpS_of (go_of hgo hgc hgd (by decide) ?_))
    have al5 : ∀ b ∈ ga :: fp5, ∃ o, s5.heap.get? b = some o ∧ ∀ v, o.data ≠ .cell v := fun b hb => by
      rcases List.mem_cons.mp hb with z | z
      · rw [z]; exact d5.obj.al
      · exact d5.fplt b z
    have I5' : InvG X (pins ++ pinsAt (ga :: fp5) s5.heap) σ4 (upd H4 qq (.tup [.ref pq, .ref a])) s5 := Inv.pinned (s := { s5 with gens := #[] }) I5 fpk5 al5
    refine wpS_bind (thnS (wpS_hz0 (up_st (R := fun _ σ' H' => tb { nx := W rem', rt := fun _ _ => False, ct := W rem' } σ' H') I5' fun s1 I1 _ => wpAny_mono (hgt.run _ s1 σ4 _ (.ref qq) (.ref qq) _ I1 rfl (wstep a rem' σ4 H4 w4 qq pq hq)) (fun _ s6 z => z) fun _ _ z => z)) fun _ s6 h6 => ?_)
    obtain ⟨hz6, ⟨σ6, H6, I6, q6⟩, g6⟩ := h6
    refine wpS_bind (thnS (wpS_hz0 (hb.run _ s6 σ6 H6 _ I6 q6)) fun f s7 h7 => ?_)
    obtain ⟨hz7, q7, g7⟩ := h7
    have g57 := g6.trans g7
    have z57 := hz6.trans hz7
    have gr7 := gr5.step g57
    have keepP : ∀ {σ7 : L2.St} {H7 : Hp}, InvG X (pins ++ pinsAt (ga :: fp5) s5.heap) σ7 H7 s7 → ∀ b ∈ ga :: fp5, ∀ o, s5.heap.get? b = some o → s7.heap.get? b = some o ∧ H7 b = none := fun {σ7 H7} I7 b hb o e => by
      obtain ⟨y1, y2, _⟩ := I7.pin (b, o) (List.mem_append_right _ (List.mem_append_right _ (mem_pinsAt hb e)))
      exact ⟨y1, y2⟩
    have again : ∀ {σ7 : L2.St} {H7 : Hp}, InvG X (pins ++ pinsAt (ga :: fp5) s5.heap) σ7 H7 s7 → W rem' σ7 H7 → ∃ m, m < n ∧ ∃ rem gs fp own s0 σ' H', rem.length = m ∧ InvG X pins σ' H' s7 ∧ Drawn1 D (tups H2) (kf + 3 * d + 3) nS gS ga rem gs fp own s0 s7 ∧ (∀ b ∈ ga :: fp, FpOk X pins H' b) ∧ GR [] s.gens (gS :: own) s7.gens ∧ W rem σ' H' := fun {σ7 H7} I7 w7 => by
      refine ⟨rem'.length, by rw [← hn]; exact Nat.lt_succ_self _, rem', gs5, fp5, own5, s05, σ7, H7, rfl, Inv.unpinned I7, d5.keep nf5 g57 z57.1 (fun b hb o e => (keepP I7 b hb o e).1), fun b hb => ?_, gr7, w7⟩
      obtain ⟨o, e, _⟩ := al5 b hb
      exact ⟨(keepP I7 b hb o e).2, (fpk5 b hb).2⟩
    cases f with
    | next => obtain ⟨σ7, H7, I7, n7⟩ := q7; exact wpS_pure (.inl ⟨rfl, again I7 n7⟩)
    | cont => obtain ⟨σ7, H7, I7, n7⟩ := q7; exact wpS_pure (.inl ⟨rfl, again I7 n7⟩)
    | brk => obtain ⟨_, _, _, z⟩ := q7; exact False.elim z
    | ret v => obtain ⟨_, _, _, _, _, z⟩ := q7; exact False.elim z
end
end Gz
end
section
set_option Elab.async false
set_option maxRecDepth 100000
set_option autoImplicit false
set_option linter.all false
/-! [.. for .. in walk(..) if ..] -/
namespace Gz
open PySem PySem.Spec L2
open PyProof.Rows hiding St
section
variable {X : Cx} {pins : List (Addr × Obj)} {σ : L2.St} {H : Hp} {s : Shared} {D : GDef} {T : Hp} {k nS gS ga : Nat} {rem : List Addr} {gs : GenState} {fp : List Addr} {own : List Nat} {s0 : Shared}
/-- more heap, the same generators -/
theorem Drawn1.more {s1 : Shared} (d : Drawn1 D T k nS gS ga rem gs fp own s0 s) (hg : s1.gens = s.gens) (hz : s.heap.objs.size ≤ s1.heap.objs.size) (hk : ∀ b o, s.heap.get? b = some o → s1.heap.get? b = some o) : Drawn1 D T k nS gS ga rem gs fp own s0 s1 :=
  ⟨d.obj.keep (hk ga), by rw [hg]; exact d.st, d.con, Nat.le_trans d.size hz, fun b hb o e => hk b o (d.held b hb o e), fun i hi => by rw [hg]; exact d.ow i hi, by rw [hg]; exact d.lt, Nat.le_trans d.nS hz, d.gafp, Nat.lt_of_lt_of_le d.galt hz, d.gSo, fun b hb => (d.fplt b hb).keep (hk b)⟩
end
def tLcW (d : Nat) (targs : TA) (g : TG) (tt : TT) (te : TE) (vs : List Nat) : TE := fun σ H Q => WalkGoes targs d σ H fun p H2 => ∀ L, H2 L = none → ∃ W : List Addr → Hp → Prop, W p.nodes (upd H2 L (.lst [])) ∧ (∀ rem H', W rem H' → Keeps H2 H') ∧ (∀ H', W [] H' → Q (.ref L) H') ∧
  ∀ a rem H', W (a :: rem) H' → ∀ q pq, H' q = none → g (.ref q) (wipe σ vs) (upd H' q (.tup [.ref pq, .ref a])) fun σ2 H3 => wipe σ2 vs = wipe σ vs ∧ tt σ2 H3 fun b H4 => if b = true then te σ2 H4 fun y H5 => ∃ acc, H5 L = some (.lst acc) ∧ acc.length < sizeLine ∧ W rem (upd H5 L (.lst (acc ++ [y]))) else W rem H4
section
variable {X : Cx} {D : GDef} {kf d : Nat} {q : Nat → Pos} {fd : FuncData} {p pos pos' : Pos} {e : Expr} {es : List Expr} {targs : TA} {tg : Expr} {g : TG} {ifs : List Expr} {elt : Expr} {scope : Scope} {own : List (Str × Nat)} {tt : TT} {te : TE}
theorem es_lcW (U : Uses X D kf d q fd) (hc : X.calm = true) (hN : X.N.Nodup) (hgw : Gl X "walk") (ha : PA X.nox (e :: es) targs) (ok : BlkOk X.N X.env.scope scope own)
    (hg : ∀ (s : Shared) (H : Hp) (C : Addr) (cl : List (Str × Addr)) (fp : List Addr), PG (X.blk s H scope (compEnvC scope cl C X.env) fp) tg g) (ht : ∀ (s : Shared) (H : Hp) (C : Addr) (cl : List (Str × Addr)) (fp : List Addr), TsS (X.blk s H scope (compEnvC scope cl C X.env) fp) ifs tt)
    (he : ∀ (s : Shared) (H : Hp) (C : Addr) (cl : List (Str × Addr)) (fp : List Addr), PE (X.blk s H scope (compEnvC scope cl C X.env) fp) elt te) (hs : ∀ x, foldedSetIterable (.Call (.Name "walk" p) (e :: es) [] pos) X.env x = pure x := by intro _; rfl)
    (he1 : starEach (e :: es) X.env = (false, eval e X.env) :: starEach es X.env := by rfl) (hpl : (backTo pos (starEach es X.env)).any (·.1) = false := by rfl) :
    ES X (.ListComp elt [⟨tg, .Call (.Name "walk" p) (e :: es) [] pos, ifs, 0⟩] scope pos') (tLcW d targs g tt te (own.map (·.2))) := by
  refine ⟨fun pins s σ H Q I h => ?_⟩
  have hfree : ∀ y ∈ scope.names, y.2 = .free → ∃ c, X.env.cells.lookup y.1 = some c := fun y hy e => by
    rcases ok.free y hy e with k | k
    · exact I.ok.has _ (.inl k)
    · exact I.ok.has _ (.inr k)
  rw [eval_ListComp]
  refine comp_front hs (closure_ok hfree) ok.kind (fun y hy e => by rw [ok.uniq y hy, e]) (thnS (walk_made U hgw ha I h he1 hpl) fun xv s2 hx => ?_)
  obtain ⟨ga, nS, gS, gs0, fp0, r, H2, rfl, hgen, I2, q0, V, d2, f2, gr2⟩ := hx
  refine wpS_of (wpAny_pyIter_gen hgen ?_)
  generalize hL : s2.heap.objs.size = L
  have hLn : H2 L = none := I2.hok.fresh (Nat.le_of_eq hL)
  obtain ⟨W, w0, wk, wend, wstep⟩ := q0 L hLn
  generalize hs3 : ({ s2 with heap := s2.heap.push { cls := .type "list", data := .seq ([] : List Value).toArray } } : Shared) = s3
  have h3 : s3.heap = s2.heap.push { cls := .type "list", data := .seq ([] : List Value).toArray } := by rw [← hs3]
  have I3 : Inv X pins σ (upd H2 L (.lst [])) (nog s3) := by
    rw [← hs3]
    refine I2.laid (t' := s2.toks) (fun b o e => Heap.get?_push_of_some _ e) (Nat.le_of_eq hL) ⟨Nat.zero_le _, [], 0, .nil, ?_⟩
    rw [← hL]
    exact Heap.get?_push_size _ rfl
  have z3 : s3.heap.objs.size = L + 1 := by rw [h3, Heap.size_push, hL]
  have al2 : ∀ b ∈ ga :: fp0, Al s2.heap b := fun b hb => by
    rcases List.mem_cons.mp hb with z | z
    · rw [z]; exact d2.obj.al
    · exact d2.fplt b z
  have f3 : ∀ b ∈ ga :: fp0, FpOk X pins (upd H2 L (.lst [])) b ∧ b < (nog s3).heap.objs.size := fun b hb => by
    have hlt := (al2 b hb).lt
    refine ⟨⟨?_, (f2 b hb).2⟩, ?_⟩
    · rw [upd_ne (by rw [← hL]; exact Nat.ne_of_lt hlt)]
      exact (f2 b hb).1
    · show b < s3.heap.objs.size
      rw [z3, ← hL]; exact Nat.lt_succ_of_lt hlt
  have I4 := block_start I3 ok hN f3
  have eC : (nog s3).heap.objs.size = L + 1 := z3
  rw [eC] at I4
  have pg := hg (nog s3) (upd H2 L (.lst [])) (L + 1) (cellsFrom (L + 1 + 1) scope.names (cloFrom X.env.cells scope.names [])) (ga :: fp0)
  have pt := ht (nog s3) (upd H2 L (.lst [])) (L + 1) (cellsFrom (L + 1 + 1) scope.names (cloFrom X.env.cells scope.names [])) (ga :: fp0)
  have pe := he (nog s3) (upd H2 L (.lst [])) (L + 1) (cellsFrom (L + 1 + 1) scope.names (cloFrom X.env.cells scope.names [])) (ga :: fp0)
  have nfp : ∀ b ∈ ga :: fp0, (upd H2 L (.lst [])) b = none := fun b hb => (f3 b hb).1.1
  generalize hce : compEnvC scope (cellsFrom (L + 1 + 1) scope.names (cloFrom X.env.cells scope.names [])) (L + 1) X.env = ce at I4 pg pt pe ⊢
  have cL : ce.locals = L + 1 := by subst hce; rfl
  generalize hH3 : upd H2 L (.lst []) = H3 at I3 I4 pg pt pe w0 nfp f3
  have e34 : ({ s2 with heap := pushCells ((s2.heap.push { cls := .type "list", data := .seq ([] : List Value).toArray }).push { cls := .type "dict", data := .dict #[] }) scope.names } : Shared) = { s3 with heap := pushCells (s3.heap.push { cls := .type "dict", data := .dict #[] }) scope.names } := by
    rw [← hs3]
  rw [e34]
  have gs3 : s3.gens = s2.gens := by rw [← hs3]
  have k34 : ∀ b o, s2.heap.get? b = some o → ({ s3 with heap := pushCells (s3.heap.push { cls := .type "dict", data := .dict #[] }) scope.names } : Shared).heap.get? b = some o := fun b o e => pushCells_keeps _ _ _ _ (Heap.get?_push_of_some _ (by rw [h3]; exact Heap.get?_push_of_some _ e))
  have z34 : s2.heap.objs.size ≤ ({ s3 with heap := pushCells (s3.heap.push { cls := .type "dict", data := .dict #[] }) scope.names } : Shared).heap.objs.size := by
    obtain ⟨m4, hm4, _⟩ := I4.loc
    have hm4' : ({ s3 with heap := pushCells (s3.heap.push { cls := .type "dict", data := .dict #[] }) scope.names } : Shared).heap.Ns ce.locals m4 := hm4
    have y := hm4'.lt
    rw [cL, ← hL] at y
    exact Nat.le_of_lt (Nat.lt_of_le_of_lt (Nat.le_succ _) y)
  generalize hs4 : ({ s3 with heap := pushCells (s3.heap.push { cls := .type "dict", data := .dict #[] }) scope.names } : Shared) = s4 at k34 z34 ⊢
  have I4' : InvG (X.blk (nog s3) H3 scope ce (ga :: fp0)) [] (wipe σ (own.map (·.2))) H3 s4 := by rw [← hs4]; exact I4
  have e4 : s4.gens = s2.gens := by rw [← hs4]; exact gs3
  have d4 := d2.more (s1 := s4) e4 z34 k34
  have VB : DrawEnv (X.blk (nog s3) H3 scope ce (ga :: fp0)) D (tups H2) (kf + 3 * d + 3) nS := ⟨V.base, V.prog, V.w, V.room, V.lo, V.only⟩
  have gr4 : GR [] s.gens [gS] s4.gens := by rw [e4]; exact gr2
  have stat0 : ∀ {σ' : L2.St} {H' : Hp} {s' : Shared}, Inv (X.blk (nog s3) H3 scope ce (ga :: fp0)) [] σ' H' s' → (∀ b ∈ ga :: fp0, H' b = none) → ∀ b ∈ ga :: fp0, FpOk (X.blk (nog s3) H3 scope ce (ga :: fp0)) [] H' b := fun {σ' H' s'} I' hn b hb =>
    ⟨hn b hb, (I'.ok.exf b hb).1, I'.ok.exfs b hb, .inl hb, fun x c e => (I'.ok.exf b hb).2 x c e, fun p hp => absurd (show p ∈ ([] : List (Addr × Obj)) ++ [] from hp) (by simp)⟩
  refine comp_start ?_ (wpAny_pyIter_gen (hgen.keeps k34) ⟨rfl, rfl⟩)
  refine comp_loop (fun n s' => ∃ rem gs fp ow s0 H', rem.length = n ∧ InvG (X.blk (nog s3) H3 scope ce (ga :: fp0)) [] (wipe σ (own.map (·.2))) H' s' ∧ Drawn1 D (tups H2) (kf + 3 * d + 3) nS gS ga rem gs fp ow s0 s' ∧
    (∀ b ∈ ga :: fp, FpOk (X.blk (nog s3) H3 scope ce (ga :: fp0)) [] H' b) ∧ GR [] s.gens (gS :: ow) s'.gens ∧ W rem H') ?_ r.nodes.length s4 ⟨r.nodes, gs0, fp0, [], _, H3, rfl, I4', d4, stat0 I4' nfp, gr4, w0⟩
  rintro n s5 ⟨rem, gs5, fp5, ow5, s05, H5, hn, I5, d5, f5, gr5, w5⟩
  have hT : ∀ b xs, tups H2 b = some (.tup xs) → Rd H5 b (.tup xs) := fun b xs z => wk _ _ w5 b xs (tups_rd.mp z)
  refine thnS (draw_next (X := X.blk (nog s3) H3 scope ce (ga :: fp0)) VB hc I5 d5 f5 gr5 hT) fun rr s6 h6 => ?_
  cases rem with
  | nil =>
    obtain ⟨rfl, I6, gr6⟩ := h6
    have I7 : InvG X pins σ H5 s6 := I3.call' (ch := ga :: fp0) I6.os I6.base I6.hok I6.bare fun b hb => ⟨(f3 b hb).1.2.2.2.1, (f3 b hb).1.2.1, (f3 b hb).1.2.2.2.2.1, (f3 b hb).1.2.2.2.2.2⟩
    have nC : H5 (L + 1) = none := by
      have z : H5 ce.locals = none := I6.free
      rw [cL] at z
      exact z
    obtain ⟨m, hm, _⟩ := I6.loc
    have hm : s6.heap.Ns ce.locals m := hm
    rw [cL] at hm
    obtain ⟨c0, c1, c2, c3, c4, c5⟩ := I3.fpOk (b := L + 1) (Nat.le_of_eq z3) nC
    exact ⟨m, hm, fun h' sb => ⟨⟨.ref L, H5, Inv.turned (t' := s6.toks) I7 (fun b o hb e => (sb.2 b hb).trans e) c0 c1 c3 c4 c5, rfl, wend H5 w5⟩, gr6.gstep⟩⟩
  | cons a rem' =>
    obtain ⟨qq, pq, fp6, ow6, gs6, s06, rfl, hq, I6, d6, f6, gr6, nf6⟩ := h6
    obtain ⟨go, nm, qn, hgo, hgc, hgd, _⟩ := id d6.obj
    refine wpS_of (go_of hgo hgc hgd (by decide) ?_)
    have al6 : ∀ b ∈ ga :: fp6, ∃ o, s6.heap.get? b = some o ∧ ∀ v, o.data ≠ .cell v := fun b hb => by
      rcases List.mem_cons.mp hb with z | z
      · rw [z]; exact d6.obj.al
      · exact d6.fplt b z
    have I6' : InvG (X.blk (nog s3) H3 scope ce (ga :: fp0)) ([] ++ pinsAt (ga :: fp6) s6.heap) (wipe σ (own.map (·.2))) (upd H5 qq (.tup [.ref pq, .ref a])) s6 := Inv.pinned (s := { s6 with gens := #[] }) I6 f6 al6
    refine thnS (wpS_hz0 (blk_up (X := X.blk (nog s3) H3 scope ce (ga :: fp0)) (R := fun _ σ' H' => wipe σ' (own.map (·.2)) = wipe σ (own.map (·.2)) ∧ tt σ' H' fun b H3 => if b = true then te σ' H3 fun y H4 => ∃ acc, H4 L = some (.lst acc) ∧ acc.length < sizeLine ∧ W rem' (upd H4 L (.lst (acc ++ [y]))) else W rem' H3) I6'
      fun s1 I1 => pg.run _ s1 _ _ (.ref qq) (.ref qq) _ I1 rfl (wstep a rem' H5 w5 qq pq hq))) fun _ s8 q8 => ?_
    obtain ⟨z8, ⟨σ8, H8, I8, hw8, q8⟩, g8⟩ := q8
    refine thnS (wpS_hz0 (pt.run _ s8 σ8 H8 _ I8 q8)) fun b s9 ⟨z9, ⟨H9, I9, q9⟩, g9⟩ => ?_
    have g10 := g8.trans g9
    have z10 := z8.trans z9
    have fin : ∀ {s' : Shared} {H' : Hp}, InvG (X.blk (nog s3) H3 scope ce (ga :: fp0)) ([] ++ pinsAt (ga :: fp6) s6.heap) σ8 H' s' → W rem' H' → GStep s6.gens s'.gens → Hz s6.heap s'.heap → ∃ m, m < n ∧ ∃ rem gs fp ow s0 H', rem.length = m ∧ InvG (X.blk (nog s3) H3 scope ce (ga :: fp0)) [] (wipe σ (own.map (·.2))) H' s' ∧ Drawn1 D (tups H2) (kf + 3 * d + 3) nS gS ga rem gs fp ow s0 s' ∧
    (∀ b ∈ ga :: fp, FpOk (X.blk (nog s3) H3 scope ce (ga :: fp0)) [] H' b) ∧ GR [] s.gens (gS :: ow) s'.gens ∧ W rem H' := fun {s' H'} I' w' gg zz => by
      have pin' : ∀ b ∈ ga :: fp6, ∀ o, s6.heap.get? b = some o → s'.heap.get? b = some o ∧ H' b = none := fun b hb o e =>
        let z := I'.pin (b, o) (List.mem_append_right _ (List.mem_append_right _ (mem_pinsAt hb e)))
        ⟨z.1, z.2.1⟩
      have hl : (wipe σ (own.map (·.2))).length = σ8.length := by rw [← hw8, wipe_length]
      refine ⟨rem'.length, by rw [← hn]; exact Nat.lt_succ_self _, rem', gs6, fp6, ow6, s06, H', rfl, (Inv.unpinned (pins := []) I').weak hl (fun j v e => ?_), d6.keep nf6 gg zz.1 (fun b hb o e => (pin' b hb o e).1), fun b hb => ?_, gr6.step gg, w'⟩
      · rw [← hw8] at e
        exact (wipe_some e).1
      · obtain ⟨o, e, _⟩ := al6 b hb
        exact ⟨(pin' b hb o e).2, (f6 b hb).2⟩
    cases b with
    | false =>
      simp only [Bool.false_eq_true, if_false] at q9 ⊢
      exact fin I9 q9 g10 z10
    | true =>
      simp only [if_true] at q9 ⊢
      refine thnS (wpS_hz0 (blk_up (X := X.blk (nog s3) H3 scope ce (ga :: fp0)) (R := fun z σ' H' => σ' = σ8 ∧ ∃ yv, RelV yv z ∧ ∃ acc, H' L = some (.lst acc) ∧ acc.length < sizeLine ∧ W rem' (upd H' L (.lst (acc ++ [yv])))) I9
        fun s1 I1 => wpAny_mono (pe.run _ s1 σ8 H9 _ I1 q9) (fun z s10 ⟨yv, H10, I10, r10, q10⟩ => ⟨σ8, H10, I10, rfl, yv, r10, q10⟩) fun _ _ z => z)) fun z s10 q10 => ?_
      obtain ⟨z11, ⟨σ', H10, I10, rfl, yv, r10, acc, hD10, hz10, w'⟩, g11⟩ := q10
      refine thnS (wpS_hz0 (blk_up (X := X.blk (nog s3) H3 scope ce (ga :: fp0)) (R := fun _ σ'' H' => σ'' = σ' ∧ H' = upd H10 L (.lst (acc ++ [yv]))) I10 fun s1 I1 => app_ok (X := X.blk (nog s3) H3 scope ce (ga :: fp0)) I1 hD10 hz10 r10 fun s11 I11 => ⟨σ', _, I11, rfl, rfl⟩)) fun _ s11 q11 => ?_
      obtain ⟨z12, ⟨σ'', H11, I11, rfl, rfl⟩, g12⟩ := q11
      exact fin I11 w' ((g10.trans g11).trans g12) ((z10.trans z11).trans z12)
end
end Gz
end
section
set_option Elab.async false
set_option maxRecDepth 100000
namespace Mu
open PySem L2
/-- the i-th row of the given text's top -/
def top (i : Nat) : Stmt := PySem.Challenge.pw_mergeunits_k90_whole_orders_by_the_rule.main.body.getD i (.Pass ⟨0, 0, 0, 0⟩)
abbrev sis_whole : Stmt := top 5
abbrev sis_name : Stmt := top 9
abbrev sis_form : Stmt := top 10
abbrev sparts_of : Stmt := top 11
abbrev swalk : Stmt := top 12
abbrev scheck_plan : Stmt := top 13
abbrev snames_in : Stmt := top 14
abbrev sis_row : Stmt := top 15
abbrev scheck_inputs : Stmt := top 16
abbrev smerged_rows : Stmt := top 17
abbrev srows_of : Stmt := top 18
abbrev srun : Stmt := top 19
abbrev slead_in : Stmt := top 20
abbrev slead : Stmt := top 21
abbrev sL_draws : Stmt := top 23
abbrev sL_next : Stmt := top 24
abbrev sL_names : Stmt := top 25
abbrev sL_plan : Stmt := top 26
abbrev sL_scans : Stmt := top 27
abbrev sL_random_lists : Stmt := top 28
abbrev sL_lead : Stmt := top 29
abbrev sL_parting : Stmt := top 30
abbrev sL_is_first : Stmt := top 31
abbrev sL_is_sorted : Stmt := top 32
abbrev sL_pair_right : Stmt := top 33
abbrev sL_right : Stmt := top 34
abbrev slaw : Stmt := top 35
/-- the def x of the text stands behind the top -/
def Fn (K : PySem.W.Frag) (mg : Str → Option Value) (x : Str) (st : Stmt) : Prop := ∃ (f : Addr) (fd : FuncData), mg x = some (.ref f) ∧ Fun K x x st f fd
theorem Fn.mk {K : PySem.W.Frag} {h : Heap} {mg : Str → Option Value} {x : Str} {st : Stmt} {f : Addr} {oc : Value} {od an : Option Addr} {osl : Array (Option Value)} {kV doc pm cdv ct : Value} (X : K.In h) (G : h.Ns mainGlobals mg)
    (a : PySem.W.nsIn K mainGlobals x = some (some (.ref f))) (l : K.lookup f = some ⟨oc, od, .func (PySem.W.fnOf x x (defArgs st) (defBody st) (defScope st) .none kV doc pm an cdv ct), osl⟩) (c : PySem.W.codeIn K cdv x = true) (k : PySem.W.keepIn K (.ref f) = true) : Fn K mg x st :=
  ⟨f, _, PySem.W.mg_of X G a, fun_mk l c k⟩
/-- all that the text's top leaves and that is used -/
structure Tx (K : PySem.W.Frag) (mg : Str → Option Value) : Prop where
  fis_whole : Fn K mg "is_whole" sis_whole
  fis_name : Fn K mg "is_name" sis_name
  fis_form : Fn K mg "is_form" sis_form
  fparts_of : Fn K mg "parts_of" sparts_of
  fwalk : Fn K mg "walk" swalk
  fcheck_plan : Fn K mg "check_plan" scheck_plan
  fnames_in : Fn K mg "names_in" snames_in
  fis_row : Fn K mg "is_row" sis_row
  fcheck_inputs : Fn K mg "check_inputs" scheck_inputs
  fmerged_rows : Fn K mg "merged_rows" smerged_rows
  frows_of : Fn K mg "rows_of" srows_of
  frun : Fn K mg "run" srun
  flead_in : Fn K mg "lead_in" slead_in
  flead : Fn K mg "lead" slead
  f_law_draws : Fn K mg "_law_draws" sL_draws
  f_law_next : Fn K mg "_law_next" sL_next
  f_law_names : Fn K mg "_law_names" sL_names
  f_law_plan : Fn K mg "_law_plan" sL_plan
  f_law_scans : Fn K mg "_law_scans" sL_scans
  f_law_random_lists : Fn K mg "_law_random_lists" sL_random_lists
  f_law_lead : Fn K mg "_law_lead" sL_lead
  f_law_parting : Fn K mg "_law_parting" sL_parting
  f_law_is_first : Fn K mg "_law_is_first" sL_is_first
  f_law_is_sorted : Fn K mg "_law_is_sorted" sL_is_sorted
  f_law_pair_right : Fn K mg "_law_pair_right" sL_pair_right
  f_law_right : Fn K mg "_law_right" sL_right
  flaw : Fn K mg "law" slaw
  bisinstance : mg "isinstance" = none
  blen : mg "len" = none
  ball : mg "all" = none
  bint : mg "int" = none
  bstr : mg "str" = none
  bbool : mg "bool" = none
  blist : mg "list" = none
  btuple : mg "tuple" = none
  bdict : mg "dict" = none
  benumerate : mg "enumerate" = none
  bsorted : mg "sorted" = none
  bsum : mg "sum" = none
  bmax : mg "max" = none
  brange : mg "range" = none
  cLETTERS : ∃ t, mg "LETTERS" = some (.str "abcdefghijklmnopqrstuvwxyz" t)
  cLONGEST : ∃ t, mg "LONGEST" = some (.int 6 t)
end Mu
end
section
set_option Elab.async false
set_option maxRecDepth 100000
set_option autoImplicit false
set_option linter.all false
/-! the defs that reach no walk: words -/
namespace Mu
open PySem PySem.Spec L2 Gz
open PyProof.Rows hiding St
section
variable {P : Program} {w : World} {K : PySem.W.Frag} {mg : Str → Option Value} {base : Heap}
/-- a def's promise by its body -/
theorem pc_mk {x : Str} {st : Stmt} {N ps : List Str} {k : Nat} {sp : Sp} (F : Fn K mg x st) (S : FnScope N ps (defScope st)) (len : ∀ vs H Q E, sp vs H Q E → vs.length = ps.length)
    (hb : ∀ (kV doc pm : Value) (an : Option Addr) (cdv ct : Value) (us : List Value), us.length = ps.length → bindArgs (PySem.W.fnOf x x (defArgs st) (defBody st) (defScope st) .none kV doc pm an cdv ct) ⟨us, []⟩ = pure (ps.zip us))
    (hbody : ∀ (f : Addr) (cdv : Value) (A : Around) (outer : List Env) (s : Shared) (H : Hp) (vs : List V) (Q : VK) (E : XK), Room k (A.deeper (envOfC x (defScope st) s.heap.objs.size f cdv)) → sp vs H Q E →
      ∃ t, PSs (cxOf CX0 P w K mg base N x (defScope st) f cdv A outer s H E).nox (defBody st) t ∧ t { nx := fun _ H' => Q .non H', rt := Q } (start N vs) H) : PCal P w K mg base (k + 1) x sp := by
  obtain ⟨f, fd, hm, Fu⟩ := F
  exact ⟨⟨f, fd, ps, Fu.ok S len (hbody f), hm, Fu.kp, Fu.binds hb⟩⟩
theorem pc_mono {x : Str} {k j : Nat} {sp : Sp} (c : PCal P w K mg base k x sp) (h : k ≤ j) : PCal P w K mg base j x sp := by
  obtain ⟨f, fd, ps, F, r⟩ := c.ex
  exact ⟨⟨f, fd, ps, F.mono h, r⟩⟩
end
section
variable {X : Cx}
theorem units0 {k : Nat} {A : Around} (r : Room k A) : A.units < cLine := by
  have := r.un
  omega
/-- isinstance(e, T) -/
theorem pe_isi {e : Expr} {te : TE} {p p1 p2 : Pos} {T : Str} {n : String} (hm : X.mg "isinstance" = none) (hT : X.mg T = none) (hv : bootBuiltins T = some (.type n)) (g1 : Gl X "isinstance") (g2 : Gl X T) (he : PE X e te) (hn : T ≠ "__name__") (hd : (T == ("__debug__" : Str)) = false)
    (hs : starEach [e, .Name T p2] X.env = (false, eval e X.env) :: starEach [.Name T p2] X.env) (hs2 : starEach [.Name T p2] X.env = (false, eval (.Name T p2) X.env) :: starEach [] X.env) (hpl : (backTo p (starEach [.Name T p2] X.env)).any (·.1) = false) :
    PE X (.Call (.Name "isinstance" p1) [e, .Name T p2] [] p) (tCB (rIsi X.K) (tCons te (tCons (tC (.ty n)) tNil))) :=
  pe_callB call_isi g1 hm boot_isinstance (pa_cons he (pa_cons (pe_bltn g2 hT hv rfl hn hd) pa_nil hs2) hs) (by decide) (by decide) hs hpl
/-- t != () -/
def rNe0 (K : PySem.W.Frag) : R2 := fun x y H Q => ∃ a b xs, x = .ref a ∧ y = .ref b ∧ SqT K H a xs ∧ SqT K H b [] ∧ Q (.bl (!xs.isEmpty)) H
theorem op_ne0 (hu : X.A.units < cLine) : OpR X (compareOp .NotEq) (rNe0 X.K) := by
  intro pins s σ H x y v u Q I rx ry h
  obtain ⟨a, b, xs, rfl, rfl, ha, hb, q⟩ := h
  cases rx
  cases ry
  obtain ⟨its, r1, p1, _⟩ := I.tuple ha
  obtain ⟨its2, r2, p2, _⟩ := I.tuple hb
  cases r2
  refine SeqAt.RcNeAt.tuples (e := fun _ => true) (show s.heap.IsTuple a its.toArray from p1) (show s.heap.IsTuple b ([] : List Value).toArray from p2) hu (fun j h1 h2 => absurd h2 (Nat.not_lt_zero _)) X.prog X.w _ _ ?_
  refine ⟨.bl (!xs.isEmpty), H, I, ?_, q⟩
  cases r1 <;> rfl
end
end Mu
end
section
set_option Elab.async false
set_option maxRecDepth 100000
set_option autoImplicit false
set_option linter.all false
/-! the end of a law's row, on the machine -/
namespace Mu
open PySem PySem.Spec PySem.Calls PySem.W L2 Gz LamX
open PyProof.Rows hiding St
/-- a thread whose tree comes to an end on the machine -/
theorem ends_bothS {prog : Program} {w : World} {t : Sem Fin} {s : Shared} {R : Result → Shared → Prop} (ha : s.asleep)
    (h : wpS prog w callerA t (fun fin s' => ∃ f, fin = .done f ∧ R (.ok f) s' ∧ AllBare s'.gens) (fun e s' => R (.error e) s' ∧ AllBare s'.gens) s) :
    ∃ n r s' s'', runN (denote table) prog w n s ⟨t, .builtin "claim.caller" {}, default, []⟩ = .halted (outcomeOf r) s' ∧ schedN (denote table) prog w n (.single s ⟨t, .builtin "claim.caller" {}, default, []⟩) = .halted (outcomeOf r) s' ∧
      s'.forget = s''.forget ∧ R r s'' := by
  have q := h (.builtin "claim.caller" {}) default [] caller_in .pure .raise id id
  rw [wrap_id] at q
  rcases q with ⟨a, p', s', ⟨f, rfl, r, b⟩, g⟩ | ⟨e, p', s', ⟨r, b⟩, g⟩
  · obtain ⟨n, sR, h1, h2, h3⟩ := go_ends (r := .ok f) g ha (leftWithCleanup_false_of_bare b)
    exact ⟨n, _, sR, s', h1, h2, h3, r⟩
  · obtain ⟨n, sR, h1, h2, h3⟩ := go_ends (r := .error e) g ha (leftWithCleanup_false_of_bare b)
    exact ⟨n, _, sR, s', h1, h2, h3, r⟩
theorem from_specS {c : ClaimW} {tree : List Value → Sem Fin} {w : World} {s : Shared} {free : Addr → Prop} {gens : Prop} {kept : Heap → Prop} (sl : s.asleep) (g0 : s.gens = #[])
    (spec : ∀ args, c.pre args = true → WData.layableAll args = true → ∀ ord : List DictEntry → List DictEntry, (∀ l, (ord l).Perm l) →
      ∃ vs s1, layAllW c.records (classAt s.heap) w.params ord args s = some (vs, s1) ∧ wpS c.prog w callerA (tree vs) (fun fin s' => ∃ f, fin = .done f ∧ (c.Ends s args vs s1 (.ok f) s' ∧ s'.os = s.os ∧ kept s'.heap) ∧ AllBare s'.gens)
          (fun e s' => (c.Ends s args vs s1 (.error e) s' ∧ s'.os = s.os ∧ kept s'.heap) ∧ AllBare s'.gens) s1) :
    c.CallFrom (fun vs => ⟨tree vs, .builtin "claim.caller" {}, default, []⟩) w free gens kept s := by
  intro args hp hl ord ho
  obtain ⟨vs, s1, laid, code⟩ := spec args hp hl ord ho
  have rest := layAllW_rest _ _ _ laid
  obtain ⟨k, r, s2, s3, run, sched, fo, ends, eos, ekp⟩ := ends_bothS (R := fun r s' => c.Ends s args vs s1 r s' ∧ s'.os = s.os ∧ kept s'.heap) (Shared.asleep_of_life rest.2.2.2 sl) code
  obtain ⟨eh, _, _, eo, _⟩ := Shared.forget_eq fo
  have ends2 := ends.congr eh
  rw [← eh] at ekp
  rw [← eo] at eos
  have life : s2.heap.life = s.heap.life := (runN_life _ _ _ run).trans rest.2.2.2
  refine ⟨vs, s1, laid, k, _, s2, sched, ?_, (fun _ i x z => by rw [g0] at z; simp at z), ekp, by rw [life], Shared.rest_eq eos⟩
  rcases ends2 with ⟨v, rfl, d1, d2, d3, d4, d5⟩ | ⟨e, ob, cls, rfl, d1, d2, d3, d4, d5⟩
  · exact .inl ⟨v, rfl, d1, d2, d3, fun b o y _ => d4 b o y, d5⟩
  · exact .inr ⟨e, ob, cls, rfl, d1, d2, d3, d4, fun b o y _ => d5 b o y⟩
/-- what is asked of the walk, on the machine -/
abbrev WalkS (q : Program) (loose : List Str) (XP : (Str → Option Value) → Heap → Prop) (YP : World → Heap → Prop) (r : RowW) (d : DefRec) (kwd : List (Str × Expr)) (run : Value → List Value → Sem Value) : Prop :=
  ∀ (w : World) (s0 s1 : Shared) (mg mb : Str → Option Value), Ground q loose r.records XP w s0 mg mb s1.heap → YP w s1.heap → ∀ (a : Addr) (o : Obj) (pm cd doc dV kV : Value), s1.heap.get? a = some o → o.data = .func { docDef d.name d.params d.body d.scope pm cd doc with defaults := dV, kwdefaults := kV } →
    s1.heap.CodeRec cd d.name → Dflts mg s1.heap d.params kwd dV kV → mg d.name = some (.ref a) → s1.gens = #[] → ∀ (args : List WData) (vals : List Value) (as : List Addr), r.claim.pre args = true → WData.layableAll args = true → ReadsAllW r.records (classAt s0.heap) s1.heap vals args as →
      WellAll w.params s1.heap vals args → (∀ a ∈ as, (a == sysModules) = false) → wpS r.prog w callerA (run (.ref a) vals) (fun v s' => GoodWG r.claim (classAt s0.heap) (ExcName.means s0.heap) args s1 (.ok (.ret v)) s') (fun e s' => GoodWG r.claim (classAt s0.heap) (ExcName.means s0.heap) args s1 (.error e) s') s1
theorem open_anyS {r : RowW} {run : Value → List Value → Sem Value} {tree : List Value → Sem Fin} {q : Program} {loose defs kps : List Str} {writes : Bool} {Xt : Shared → Bool} {XP : (Str → Option Value) → Heap → Prop} {α : Type} {Yf : Shared → α} {Ya : World → α} {YP : World → Heap → Prop} {N : Nat}
    (left : LeftO r.prog q loose Xt Yf Ya N) (hY : ∀ w s, Yf s = Ya w → YP w s.heap) (hYk : ∀ w h h', YP w h → (∀ b o, h.get? b = some o → h'.get? b = some o) → YP w h') (hX : ∀ s, Xt s = true → XP (s.heap.nsMap mainGlobals) s.heap)
    (hXk : ∀ mg h h', XP mg h → (∀ b o, h.get? b = some o → h'.get? b = some o) → XP mg h') (hR : ∀ s, Xt s = true → RecFacts r.records s.heap) (hwr : (!writes || r.records.isEmpty) = true) (ok : (chainsOk q && opensWell r.prog && (frees r && r.within.isEmpty)) = true) (hb : r.prog.bare) (hw : r.promised)
    (ht : ∀ vs (w : World) (s : Shared) mg f (Q : Fin → Shared → Prop) (E : Value → Shared → Prop), s.heap.Ns mainGlobals mg → mg r.name = some f → wpS r.prog w callerA (run f vs) (fun v s' => Q (.done (.ret v)) s') E s → wpS r.prog w callerA (tree vs) Q E s)
    (pin : ∀ w s, s.heap.isNs mainGlobals = true → Ground q loose [] XP w s (s.heap.nsMap mainGlobals) (s.heap.nsMap builtinsNs) s.heap → ∀ n ∈ defs, isTheDefsW r.prog s.heap n)
    (call : ∀ (w : World) (s0 s1 : Shared) (mg mb : Str → Option Value), Ground q loose r.records XP w s0 mg mb s1.heap → YP w s1.heap → ∀ (args : List WData) (vs : List Value) (as : List Addr), r.claim.pre args = true → WData.layableAll args = true → Laid r.records w s0 s1 args vs as → sysModules < s0.heap.objs.size →
      ∃ f, mg r.name = some f ∧ wpS r.prog w callerA (run f vs) (fun v s' => GoodWG r.claim (classAt s0.heap) (ExcName.means s0.heap) args s1 (.ok (.ret v)) s') (fun e s' => GoodWG r.claim (classAt s0.heap) (ExcName.means s0.heap) args s1 (.error e) s') s1) :
    r.claim.HoldsOpenBy (fun vs => ⟨tree vs, .builtin "claim.caller" {}, default, []⟩) defs kps writes := by
  obtain ⟨ok1, fr1⟩ := Bool.and_eq_true_iff.mp ok
  obtain ⟨hch, ow⟩ := Bool.and_eq_true_iff.mp ok1
  obtain ⟨fr, wi⟩ := Bool.and_eq_true_iff.mp fr1
  obtain ⟨same, hu, hid, hap, mk⟩ := frees_parts fr
  refine ⟨⟨hb, ow, by show r.makers.map _ = []; rw [mk]; rfl⟩, hw.witness, fun w => ⟨(left.behind hX hch w).1, fun s' hs => ?_⟩⟩
  obtain ⟨s0, hf, hg0, s, hT, hz, hgs, hg, Gx, y⟩ := (left.behind (XP := fun mg h => XP mg h ∧ RecFacts r.records h) (fun s e => ⟨hX s e, hR s e⟩) hch w).2 s' hs
  have G0 : Ground q loose [] XP w s (s.heap.nsMap mainGlobals) (s.heap.nsMap builtinsNs) s.heap := ⟨Gx.T, Gx.B, Gx.D, Gx.TE, Gx.TD, Gx.W, Gx.X.1, Gx.cls, Gx.has, Gx.apart, Gx.once, Gx.K⟩
  have RF := Gx.X.2
  refine ⟨s0, hf, hg0, s, hT, pin w s hg G0, RF.1, RF.2.1, ?_⟩
  have hgs : s.gens = #[] := Array.eq_empty_of_size_eq_zero (beq_iff_eq.mp hgs)
  have G : Ground q loose r.records XP w s _ _ s.heap := RF.ground G0
  refine from_specS (c := r.claim) hz hgs fun args hpre hlay ord hord => ?_
  obtain ⟨⟨vs, s1⟩, laid⟩ := Option.isSome_iff_exists.mp (layAllW_isSome (P := w.params) (ord := ord) G.has args r.args s (pre_splitW hpre).1)
  have kp := layAllW_keeps _ _ _ laid
  have rest := layAllW_rest _ _ _ laid
  obtain ⟨as, rd, inn, old⟩ := reads_layAllW hord _ _ _ laid hlay s1.heap (fun _ _ e => e)
  have L : Laid r.records w s s1 args vs as := ⟨⟨ord, hord, laid⟩, rd, inn, old, kp, rest.1.trans hgs, rest.2.2.1⟩
  have G1 := G.keeps hXk kp
  obtain ⟨f, hf, h⟩ := call w s s1 _ _ G1 (hYk _ _ _ (hY w s y) kp) args vs as hpre hlay L G.low
  have idf := ident_freeW hu hid hap
  have wi0 : r.claim.within = [] := List.isEmpty_iff.mp wi
  refine ⟨vs, s1, laid, ht vs w s1 _ f _ _ G1.T.g hf (wpS_mono h (fun v s' g => ⟨_, rfl, ?_⟩) fun e s' g => ?_)⟩
  · have z := g.laid (c := r.claim) same wi0 idf L
    exact ⟨⟨z.1, z.2.1, fun e => ⟨namesKept_of hT hg kps kp g.2.1.old, noTable hwr e⟩⟩, z.2.2⟩
  · have z := g.laid (c := r.claim) same wi0 idf L
    exact ⟨⟨z.1, z.2.1, fun e => ⟨namesKept_of hT hg kps kp g.2.1.old, noTable hwr e⟩⟩, z.2.2⟩
/-- the head of a row, its walk on the machine -/
theorem holds_openM {r : OpenRow} {q : Program} {loose : List Str} {Xt : Shared → Bool} {XP : (Str → Option Value) → Heap → Prop} {α : Type} {Yf : Shared → α} {Ya : World → α} {YP : World → Heap → Prop} {d : DefRec} {kwd : List (Str × Expr)} {N : Nat}
    (left : LeftO r.prog q loose Xt Yf Ya N) (hY : ∀ w s, Yf s = Ya w → YP w s.heap) (hYk : ∀ w h h', YP w h → (∀ b o, h.get? b = some o → h'.get? b = some o) → YP w h')
    (hX : ∀ s, Xt s = true → XP (s.heap.nsMap mainGlobals) s.heap) (hXk : ∀ mg h h', XP mg h → (∀ b o, h.get? b = some o → h'.get? b = some o) → XP mg h') (hdef : defOf q r.name = some (d, kwd)) (hp : r.prog.theDef r.name = some (d.params, d.body, d.scope))
    (hk : kwWritten? d.params.kwonlyargs d.params.kw_defaults = some kwd) (hR : ∀ s, Xt s = true → RecFacts r.records s.heap) (hwr : (!r.writes || r.records.isEmpty) = true) (k1 : r.wellSaid = true) (ok : (chainsOk q && opensWell r.prog && (frees r.toRowW && r.within.isEmpty)) = true) (hb : r.prog.bare)
    (hw : r.toRowW.promised) (call : WalkS q loose XP YP r.toRowW d kwd fun f vs => PySem.call f vs) : r.Holds := by
  refine ⟨k1, hw, open_anyS (r := r.toRowW) (run := fun f vs => PySem.call f vs) (tree := fun vs => do match ← nsGet mainNs r.name with
      | some f => do ret (← PySem.call f vs)
      | none => unsupported "claim.caller:no-such-global") left hY hYk hX hXk hR hwr ok hb hw (fun vs w s mg f Q E hg hf h => wpS_bind (wpS_of (wpAny_nsGet hg ?_))) (fun w s hg G n hn => ?_) fun w s0 s1 mg mb G Y args vs as hpre hlay L low => ?_⟩
  · rw [hf]
    exact wpS_bind (wpS_mono h (fun _ _ x => wpS_pure x) fun _ _ x => x)
  · obtain rfl : n = r.name := by split at hn <;> simp_all
    exact pinned_of_view hg G hdef hp hk
  · obtain ⟨a, o, pm, cd, doc, dV, kV, h1, h2, h3, h4, h5⟩ := G.fn hdef
    exact ⟨.ref a, h1, call w s0 s1 mg mb G Y a o pm cd doc dV kV h2 h3 h4 h5 (defOf_name hdef ▸ h1) L.gens args vs as hpre hlay L.reads L.well (L.low low)⟩
end Mu
end
section
set_option Elab.async false
set_option maxRecDepth 100000
set_option autoImplicit false
set_option linter.all false
/-! the end of a law's row, on the machine: the call -/
namespace Mu
open PySem PySem.Spec PySem.Calls PySem.W L2 Gz LamX
open PyProof.Rows hiding St
/-- what is asked of the law's promise -/
abbrev endQ (s1 : Shared) (r : Result) (s' : Shared) : Prop := r = .ok (.ret (.bool true)) ∧ OldK s1.heap s'.heap ∧ s'.os = s1.os ∧ AllBare s'.gens
theorem law_callS {P : Program} {w : World} {K : PySem.W.Frag} {mg mb : Str → Option Value} {k : Nat} {fa a : Addr} {cs : List (Addr × Addr)} {fd : FuncData} {x : Str} {sp : Sp} {s1 : Shared} {vs : List Value} {ns : List Int}
    (kx : K.In s1.heap) (hns : s1.heap.Ns mainGlobals mg) (hb : s1.heap.Ns builtinsNs mb) (hbb : ∀ x : Str, x ≠ "__name__" → mb x = bootBuiltins x) (lim : s1.heap.NoLimit) (g0 : s1.gens = #[])
    (tT : ∀ p ∈ cs, s1.heap.get? p.2 = some { cls := .none, data := .fields #[] }) (nT : ∀ p ∈ cs, K.lookup p.2 = none) (C : ∀ p ∈ cs, PySem.W.CodeHd s1.heap p.1 p.2)
    (bmn : ∃ (bm : Addr) (ob : Obj), mg "__builtins__" = some (.ref bm) ∧ bm ≠ builtinsNs ∧ s1.heap.get? bm = some ob ∧ ob.cls = .type "module" ∧ ob.dict = some builtinsNs ∧ ob.data = .plain)
    (ea : s1.heap.get? a = some { cls := .type "list", data := .seq vs.toArray }) (hi : IntsAre vs ns) (hl : ns.length ≤ sizeLine) (hr : Room k callerA)
    (F : ∀ base : Heap, K.In base → base.Ns mainGlobals mg → L2.Mod K mg base → (∀ p ∈ cs, TabB base mg p.1 p.2) → FnS P w K mg base k fa fd [x] sp) (bd : ∀ (s : Shared) (u : Value), BindsTo s fd ⟨[u], []⟩ [(x, u)])
    (hsp : ∀ H : Hp, (∀ p ∈ cs, H p.2 = some (.tbl #[])) → SqL K H a (ns.map V.int) → sp [.ref a] H (fun v _ => v = .bl true) E0) : codeS P w callerA (.call (.ref fa) ⟨[.ref a], []⟩) (endQ s1) s1 := by
  have rv := vals_ints hi
  have lv := hi.length
  have isT : ∀ b : Addr, b ∈ cs.map (·.2) → s1.heap.get? b = some { cls := .none, data := .fields #[] } := fun b z => by
    obtain ⟨p, hp, e⟩ := List.mem_map.mp z
    rw [← e]; exact tT p hp
  have aT : a ∉ cs.map (·.2) := fun z => by
    have q := isT a z
    rw [ea] at q
    have y : Data.seq vs.toArray _ = Data.fields #[] := congrArg Obj.data (Option.some.inj q)
    cases y
  have inT : ∀ p ∈ cs, p.2 ∈ cs.map (·.2) := fun p hp => List.mem_map.mpr ⟨p, hp, rfl⟩
  have core : ∀ H : Hp, (∀ p ∈ cs, H p.2 = some (.tbl #[])) → (∀ b, H b = none ∨ b ∈ cs.map (·.2) ∨ ∃ o xs, H b = some (.frz o (.lst xs))) → SqL K H a (ns.map V.int) → HOk P w H s1.heap → (∀ b, H b ≠ none → b = a ∨ b ∈ cs.map (·.2)) → (H a ≠ none → K.lookup a = none) →
      codeS P w callerA (.call (.ref fa) ⟨[.ref a], []⟩) (endQ s1) s1 := by
    intro H hH hO hS hok hA hK
    have baseOf : ∀ {b : Addr} {o : Obj}, s1.heap.get? b = some o → H b = none → (hidT s1.heap H).get? b = some o := fun e n => hidT_get e n
    have noD : ∀ {b : Addr} {o : Obj}, s1.heap.get? b = some o → (∀ vs n, o.data ≠ .seq vs n) → o.data ≠ .fields #[] → H b = none := fun {b o} e n1 n2 => by
      cases q : H b with
      | none => rfl
      | some u =>
        rcases hA b (by rw [q]; simp) with z | z
        · rw [z, ea] at e
          cases e
          exact (n1 _ _ rfl).elim
        · rw [isT b z] at e
          cases e
          exact (n2 rfl).elim
    have noA : ∀ {b : Addr} {o : Obj} {es : Array DictEntry} {ep : Nat}, s1.heap.get? b = some o → o.data = .dict es ep → H b = none := fun {b o es ep} e d =>
      noD e (fun vs n z => by rw [d] at z; cases z) fun z => by rw [d] at z; cases z
    have nsK : ∀ {b : Addr} {m : Str → Option Value}, s1.heap.Ns b m → (hidT s1.heap H).Ns b m := fun {b m} ⟨o, es, ep, e, d, r⟩ => ⟨o, es, ep, baseOf e (noA e d), d, r⟩
    have kb : K.In (hidT s1.heap H) := fun b o e => baseOf (kx b o e) (by
      cases q : H b with
      | none => rfl
      | some u =>
        rcases hA b (by rw [q]; simp) with z | z
        · rw [z] at e q
          rw [hK (by rw [q]; simp)] at e
          cases e
        · obtain ⟨p, hp, ep⟩ := List.mem_map.mp z
          rw [← ep, nT p hp] at e
          cases e)
    have M : L2.Mod K mg (hidT s1.heap H) := ⟨kb, nsK hns, ⟨mb, nsK hb, hbb⟩, let ⟨mc, y1, y2⟩ := lim; ⟨mc, nsK y1, y2⟩⟩
    have TB : ∀ p ∈ cs, TabB (hidT s1.heap H) mg p.1 p.2 := fun p hp => by
      have tp := tT p hp
      refine ⟨?_, ?_, fun z => ?_⟩
      · obtain ⟨o, us, file, tf, flags, tg, inF, text, tt, c1, r1, r2, r3, r4, r5, r6, r7, r8, ne⟩ := C p hp
        refine ⟨o, us, file, tf, flags, tg, inF, text, tt, baseOf c1 (noD c1 (fun vs n z => by rw [r2] at z; cases z) fun z => ?_), r1, r2, r3, r4, r5, r6, r7, r8, ne⟩
        rw [r2] at z
        cases z
        simp at r3
      · obtain ⟨bm, ob, y1, y2, y3, y4, y5, y6⟩ := bmn
        have nG : bm ≠ mainGlobals := fun q => by
          obtain ⟨o, es, ep, e, hd, _⟩ := hns
          rw [q, e] at y3
          cases y3
          rw [hd] at y6
          cases y6
        have nP : bm ≠ p.2 := fun q => by
          rw [q, tp] at y3
          cases y3
          cases y6
        exact ⟨bm, ob, y1, y2, nG, nP, baseOf y3 (noD y3 (fun vs n z => by rw [y6] at z; cases z) fun z => by rw [y6] at z; cases z), y4, y5, y6⟩
      · obtain ⟨o, es, ep, e, hd, _⟩ := hns
        rw [z, tp] at e
        cases e
        cases hd
    have sg : ({ s1 with gens := #[] } : Shared) = s1 := by
      cases s1
      cases g0
      rfl
    have e0 : Env0 P w K mg (hidT s1.heap H) callerA [] { s1 with gens := #[] } H := ⟨rfl, M, fun b o e => of_hidT e, Nat.le_of_eq (hidT_size _ _), trivial, fun b z => absurd (show b ∈ ([] : List Addr) from z) (by simp), hok, AllBare.empty⟩
    refine codeS_mono ((F _ kb (nsK hns) M TB).run callerA [] s1 H ⟨[.ref a], []⟩ [.ref a] [.ref a] _ hr e0 (fun G => bd _ (.ref a)) (.cons rfl .nil) (hsp H hH hS)) fun r s' h => ?_
    cases r with
    | error e => exact False.elim h
    | ok fl =>
      cases fl with
      | next => exact False.elim h
      | brk => exact False.elim h
      | cont => exact False.elim h
      | ret u =>
        obtain ⟨⟨v, H', os, bare, un, hok', r', q⟩, gs⟩ := h
        have q' : v = .bl true := q
        subst q'
        obtain rfl : u = Value.bool true := r'
        have key : ∀ b o, b ∉ cs.map (·.2) → s1.heap.get? b = some o → s'.heap.get? b = some o := fun b o nb e => by
          cases q : H b with
          | none => exact un.keep b o e q (by intro z; exact absurd (show b ∈ ([] : List Addr) from z) (by simp)) (by simp)
          | some u =>
            rcases hO b with z | z | ⟨ob, xs, z⟩
            · rw [q] at z; cases z
            · exact absurd z nb
            · have y2 := un.frzs b ob _ z
              obtain ⟨w1, _⟩ := hok b _ z
              obtain ⟨w2, _⟩ := hok' b _ y2
              rw [e] at w1; cases w1
              exact w2
        have grown : ∀ p ∈ cs, ∃ more : Array Value, s'.heap.get? p.2 = some { cls := .none, data := .fields more } := fun p hp => by
          obtain ⟨more, z⟩ := un.tbls p.2 #[] (hH p hp)
          exact ⟨_, hok' p.2 _ z⟩
        refine ⟨rfl, ⟨fun b o e => ?_, fun b o e => ?_⟩, os, gs.bare (.of_eq g0)⟩
        · by_cases z : b ∈ cs.map (·.2)
          · obtain ⟨p, hp, ep⟩ := List.mem_map.mp z
            obtain ⟨more, hm⟩ := grown p hp
            rw [← ep] at e ⊢
            rw [tT p hp] at e
            cases e
            exact .inr (.inl ⟨((C p hp).tab (tT p hp)).isCodeTable, rfl, #[], more, rfl, by rw [Array.empty_append]; exact hm⟩)
          · exact .inl (key b o z e)
        · by_cases z : b ∈ cs.map (·.2)
          · obtain ⟨p, hp, ep⟩ := List.mem_map.mp z
            obtain ⟨more, hm⟩ := grown p hp
            rw [← ep]
            exact ⟨_, hm⟩
          · exact ⟨o, key b o z e⟩
  cases hk : K.lookup a with
  | some o =>
    have e := kx a o hk
    rw [ea] at e
    cases e
    have N : (fun b => if b ∈ cs.map (·.2) then some (HO.tbl #[]) else none) a = none := if_neg aT
    refine core (fun b => if b ∈ cs.map (·.2) then some (.tbl #[]) else none) (fun p hp => if_pos (inT p hp)) (fun b => ?_) (.inr ⟨_, vs.toArray, _, hk, rfl, rfl, rfl, by rw [List.size_toArray, lv]; exact hl, by simpa using rv⟩) (fun b u z => ?_) (fun b z => ?_) fun z => absurd N z
    · by_cases hb : b ∈ cs.map (·.2)
      · exact .inr (.inl hb)
      · exact .inl (if_neg hb)
    · by_cases hb : b ∈ cs.map (·.2)
      · have z' := (if_pos hb).symm.trans z
        cases z'
        exact isT b hb
      · have z' := (if_neg hb).symm.trans z
        cases z'
    · by_cases hb : b ∈ cs.map (·.2)
      · exact .inr hb
      · exact absurd (if_neg hb) z
  | none =>
    refine core (fun b => if b = a then some (.frz { cls := .type "list", data := .seq vs.toArray } (.lst (ns.map V.int))) else if b ∈ cs.map (·.2) then some (.tbl #[]) else none)
      (fun p hp => (if_neg (show ¬ p.2 = a from fun z => aT (by rw [← z]; exact inT p hp))).trans (if_pos (inT p hp))) (fun b => ?_) (.inl (.inr ⟨{ cls := .type "list", data := .seq vs.toArray }, if_pos rfl⟩)) (fun b u z => ?_) (fun b z => ?_) fun _ => hk
    · by_cases h1 : b = a
      · exact .inr (.inr ⟨_, _, if_pos h1⟩)
      · by_cases h2 : b ∈ cs.map (·.2)
        · exact .inr (.inl h2)
        · exact .inl ((if_neg h1).trans (if_neg h2))
    · by_cases h1 : b = a
      · have y := (if_pos h1).symm.trans z
        cases y
        rw [h1]
        exact ⟨ea, by rw [List.length_map]; exact hl, vs, _, rv, ea⟩
      · have y := (if_neg h1).symm.trans z
        by_cases h2 : b ∈ cs.map (·.2)
        · have y2 := (if_pos h2).symm.trans y
          cases y2
          exact isT b h2
        · have y2 := (if_neg h2).symm.trans y
          cases y2
    · by_cases h1 : b = a
      · exact .inl h1
      · by_cases h2 : b ∈ cs.map (·.2)
        · exact .inr h2
        · exact absurd ((if_neg h1).trans (if_neg h2)) z
/-- what is known of the law's promise at the head's heap h -/
def LawAtM (l : PySem.W.OpenLaw) (w : World) (K : PySem.W.Frag) (k n : Nat) (x : Str) (mg : Str → Option Value) (fa : Addr) (h : Heap) : Prop :=
  ∃ (fd : FuncData) (cs : List (Addr × Addr)) (sp : Sp), (∀ p ∈ cs, h.get? p.2 = some { cls := .none, data := .fields #[] }) ∧ (∀ p ∈ cs, K.lookup p.2 = none) ∧ (∀ p ∈ cs, PySem.W.CodeHd h p.1 p.2) ∧ (∀ (s : Shared) (u : Value), BindsTo s fd ⟨[u], []⟩ [(x, u)]) ∧
    (∀ (H : Hp) (a : Addr) (ns : List Int), ns.length ≤ n → (∀ z ∈ ns, Builtin.Int.intBits z ≤ 1048576) → (∀ p ∈ cs, H p.2 = some (.tbl #[])) → SqL K H a (ns.map V.int) → sp [.ref a] H (fun v _ => v = .bl true) E0) ∧
    ∀ base : Heap, K.In base → base.Ns mainGlobals mg → L2.Mod K mg base → (∀ p ∈ cs, TabB base mg p.1 p.2) → FnS l.prog w K mg base k fa fd [x] sp
theorem walk_ofM {l : PySem.W.OpenLaw} {n k : Nat} {q : Program} {loose : List Str} {XP : (Str → Option Value) → Heap → Prop} {YP : World → Heap → Prop} {d : DefRec} {K : Params → PySem.W.Frag} {x : Str} (hn : l.most = some n) (n2 : n ≤ sizeLine) (hdf : d.params.defaults = []) (hr : Room k callerA)
    (hY : ∀ (w : World) (h : Heap), YP w h → (K w.params).In h) (F : ∀ (w : World) (mg : Str → Option Value) (fa : Addr) (h : Heap), YP w h → (K w.params).In h → h.Ns mainGlobals mg → mg d.name = some (.ref fa) → LawAtM l w (K w.params) k n x mg fa h) :
    WalkS q loose XP YP l.row.toRowW d [] (fun f vs => PySem.call f vs) := by
  intro w s0 s1 mg mb G Y fa o pm cd doc dV kV ho hd hcd hD hmg hg args vals as hpre hlay hrd hwl hlo
  obtain rfl : dV = .none := Dflts.none hD hdf
  obtain rfl : kV = .none := Dflts.noKw hD
  obtain ⟨a, vs, ns, rfl, rfl, hobj, hints, hlen⟩ := Att.script_of hn hpre hwl
  have kx := hY w _ Y
  obtain ⟨fd, cs, sp, hT, nT, C, hb, hsp, hF⟩ := F w mg fa _ Y kx G.T.g hmg
  have key := law_callS (P := l.prog) (w := w) kx G.T.g G.T.b G.T.builtins G.T.nolimit hg hT nT C G.T.bmain hobj hints (Nat.le_trans hlen n2) hr hF hb (fun H hH hS => hsp H a ns hlen (Att.script_bits hlay) hH hS)
  refine wpS_call (codeS_mono key fun r s' h => ?_)
  obtain ⟨rfl, h2, h3, h4⟩ := h
  exact ⟨.inl ⟨.bool true, .bool true, [], rfl, fun _ => rfl, .bool true, Att.post_true l _, fun _ => ⟨List.Pairwise.nil, fun _ hm => (nomatch hm)⟩⟩, h2, h3, h4⟩
end Mu
end
section
set_option Elab.async false
set_option maxRecDepth 100000
set_option autoImplicit false
set_option linter.all false
/-! is_whole, is_name, is_form, parts_of -/
namespace Mu
open PySem PySem.Spec L2 Gz
open PyProof.Rows hiding St
section
variable {P : Program} {w : World} {K : PySem.W.Frag} {mg : Str → Option Value} {base : Heap}
/-- is_whole of an int -/
def spWhole : Sp := fun vs H Q _ => ∃ i : Int, vs = [.int i] ∧ Q (.bl true) H
theorem fs_whole : FnScope ["thing"] ["thing"] (defScope sis_whole) := ⟨rfl, rfl, rfl, by decide, rfl, by decide +kernel, by decide +kernel⟩
theorem c_whole (T : Tx K mg) : PCal P w K mg base 1 "is_whole" spWhole := by
  refine pc_mk T.fis_whole fs_whole (fun vs H Q E h => by obtain ⟨i, rfl, _⟩ := h; rfl) (fun _ _ _ _ _ _ us hl => match us, hl with | [_], _ => rfl) fun f cdv A outer s H vs Q E hr h => ?_
  obtain ⟨i, rfl, q⟩ := h
  refine ⟨_, pss_one (ps_ret (pe_and (pe_isi T.bisinstance T.bint boot_int rfl rfl (pv 0) (by decide) (by decide) rfl rfl rfl) (pe_one (pe_not (pe_isi T.bisinstance T.bbool boot_bool rfl rfl (pv 0) (by decide) (by decide) rfl rfl rfl))))), ?_⟩
  refine ⟨_, rfl, _, .ty "int", _, _, true, rfl, .ty "int", .base (.int i), kit_ty (by decide +kernel), true, rfl, ?_⟩
  rw [if_pos rfl]
  exact ⟨_, rfl, _, .ty "bool", _, _, false, rfl, .ty "bool", .base (.int i), kit_ty (by decide +kernel), false, rfl, q⟩
/-- is_name of one of the law's names -/
def spName : Sp := fun vs H Q _ => ∃ x : Str, vs = [.str x] ∧ x ∈ names ∧ ∀ H', Same H H' → Q (.bl true) H'
def abc : Str := "abcdefghijklmnopqrstuvwxyz"
theorem names_ok : ∀ x ∈ names, 1 ≤ x.length ∧ x.length ≤ 6 ∧ ∀ c ∈ x.cps.toList, c ∈ abc.cps.toList := by decide +kernel
abbrev nN : List Str := ["thing", "letter"]
theorem fs_name : FnScope nN ["thing"] (defScope sis_name) := ⟨rfl, rfl, rfl, by decide, rfl, by decide +kernel, by decide +kernel⟩
theorem c_name (T : Tx K mg) : PCal P w K mg base 1 "is_name" spName := by
  refine pc_mk T.fis_name fs_name (fun vs H Q E h => by obtain ⟨i, rfl, _⟩ := h; rfl) (fun _ _ _ _ _ _ us hl => match us, hl with | [_], _ => rfl) fun f cdv A outer s H vs Q E hr h => ?_
  obtain ⟨x, rfl, hx, q⟩ := h
  obtain ⟨n1, n2, n3⟩ := names_ok x hx
  obtain ⟨tL, hL⟩ := T.cLETTERS
  obtain ⟨tN, hN⟩ := T.cLONGEST
  have nd : nN.Nodup := by decide
  refine ⟨_, pss_one (ps_ret (pe_and (pe_isi T.bisinstance T.bstr boot_str rfl rfl (pv 0) (by decide) (by decide) rfl rfl rfl) (pe_and (pe_chain op_le op_le pe_int (pe_callB call_len_str (by rfl) T.blen PySem.boot_len (pa_cons (pv 0) pa_nil)) (pe_glob (v := .int 6) rfl hN ⟨_, rfl⟩))
    (pe_one (pe_callB (cr_all rfl) (by rfl) T.ball boot_all (pa_cons (pe_lc (own := [("letter", 1)]) (g := gName 1) (tt := tYes) rfl nd (pi_str (pv 0)) (blkOk_by (N := nN) (sc := defScope sis_name) (by decide +kernel)) (fun _ _ _ _ _ => pg_name (i := 1) nd rfl (Or.inl rfl)) (fun _ _ _ _ _ => pts_nil)
      (fun _ _ _ _ _ => pe_cmpR op_in_sign (pv 1) (pe_glob (v := .str abc) rfl hL ⟨_, rfl⟩) (by with_unfolding_all rfl))) pa_nil)))))), ?_⟩
  have hz : x.length ≤ sizeLine := Nat.le_trans n2 (by decide)
  refine ⟨_, rfl, _, .ty "str", _, _, true, rfl, .ty "str", .base (.str x), kit_ty (by decide +kernel), true, rfl, ?_⟩
  rw [if_pos rfl]
  refine ⟨_, rfl, x, rfl, hz, 1, x.length, rfl, rfl, true, congrArg V.bl (decide_eq_true (by omega)), ?_⟩
  rw [if_pos rfl]
  refine ⟨x.length, 6, rfl, rfl, true, congrArg V.bl (decide_eq_true (by omega)), ?_⟩
  rw [if_pos rfl]
  refine ⟨_, rfl, x, rfl, fun D hD => lc_it walk_str (fun i H' => H' D = some (.lst ((List.replicate i true).map V.bl)) ∧ Same H H') ⟨upd_same, fun b o e => ?_⟩ (fun _ _ _ _ => trivial) (fun i v H1 H2 hi hp hv => ?_) fun H1 hp => ?_⟩
  · rw [upd_ne (ne_of_none e hD)]; exact e
  · obtain ⟨rfl, c, hc, rfl⟩ := hv
    obtain ⟨h1, h2⟩ := hp
    refine ⟨rfl, ?_⟩
    refine iteT (B := H2 D = some (HO.lst ((List.replicate (i + 1) true).map V.bl)) ∧ Same H H2) ?_
    have hm : c ∈ abc.cps.toList := n3 c (by
      obtain ⟨hh, e⟩ := Array.getElem?_eq_some_iff.mp hc
      rw [← e]; exact Array.getElem_mem_toList hh)
    refine ⟨_, rfl, c, abc, rfl, rfl, _, h1, by rw [List.length_map, List.length_replicate]; exact Nat.lt_of_lt_of_le hi hz, ?_, fun b o e => ?_⟩
    · rw [upd_same, decide_eq_true hm, List.replicate_succ', List.map_append]
      rfl
    · have hb : b ≠ D := ne_of_none e hD
      rw [upd_ne hb]; exact h2 b o e
  · obtain ⟨h1, h2⟩ := hp
    refine ⟨D, List.replicate x.cps.size true, rfl, SqL.of h1, ?_⟩
    have e : (List.replicate x.cps.size true).all id = true := by simp
    rw [e]
    exact q H1 h2
theorem ty_rd {H : Hp} {a : Addr} {xs : List V} (h : Rd H a (.tup xs)) : TyX K H (.ref a) (.type "tuple") := by
  rcases h with h | ⟨o, h⟩
  · exact .base (.tup h)
  · exact .fTuple h
/-- what a plan's tuple is -/
theorem ok_pair {H : Hp} {p : AP} (h : p.Ok (tups H)) : ∃ (k : Str) (v : V), Rd H p.root (.tup [.str k, v]) ∧ ((∃ x, p = .scan p.root x ∧ k = "scan" ∧ v = .str x ∧ x ∈ names) ∨ (∃ r, p = .sort p.root r ∧ k = "sort" ∧ v = .ref r.root ∧ r.Ok (tups H)) ∨
    ∃ c m ps, p = .many p.root c m ps ∧ k = word m ∧ v = .ref c ∧ Rd H c (.tup (rootsV ps)) ∧ ps ≠ [] ∧ okL (tups H) ps) := by
  cases p with
  | scan a x => exact ⟨_, _, tups_rd.mp h.1, .inl ⟨x, rfl, rfl, rfl, h.2⟩⟩
  | sort a r => exact ⟨_, _, tups_rd.mp h.1, .inr (.inl ⟨r, rfl, rfl, rfl, h.2⟩)⟩
  | many a c m ps => exact ⟨_, _, tups_rd.mp h.1, .inr (.inr ⟨c, m, ps, rfl, rfl, rfl, tups_rd.mp h.2.1, h.2.2.1, h.2.2.2⟩)⟩
theorem ix0 {a b : V} : atI [a, b] 0 = some a := rfl
theorem ix1 {a b : V} : atI [a, b] 1 = some b := rfl
abbrev tSub (i : Int) : TE := tOp (rIxT K) (tVar 0) (tC (.int i))
theorem fs_form : FnScope ["thing"] ["thing"] (defScope sis_form) := ⟨rfl, rfl, rfl, by decide, rfl, by decide +kernel, by decide +kernel⟩
theorem c_form (T : Tx K mg) : PCal P w K mg base 2 "is_form" spForm := by
  refine pc_mk T.fis_form fs_form (fun vs H Q E h => by obtain ⟨i, rfl, _⟩ := h; rfl) (fun _ _ _ _ _ _ us hl => match us, hl with | [_], _ => rfl) fun f cdv A outer s H vs Q E hr h => ?_
  obtain ⟨p, rfl, ok, q⟩ := h
  refine ⟨_, pss_cons (ps_if (PW.pt (pw_or (pt_not (pt_val (pe_isi T.bisinstance T.btuple boot_tuple rfl rfl (pv 0) (by decide) (by decide) rfl rfl rfl))) (pw_or (pt_cmpR op_ne (pe_callB call_len_seq (by rfl) T.blen PySem.boot_len (pa_cons (pv 0) pa_nil)) pe_int (nomark _))
    (pw_or1 (pt_not (pt_val (pe_isi T.bisinstance T.bstr boot_str rfl rfl (pe_ix ix_tup (pv 0) pe_int (fun _ _ => rfl)) (by decide) (by decide) rfl rfl rfl))))))) (pss_one (ps_ret pe_bl)) pss_nil)
    (pss_cons (ps_if (pt_cmpR op_eq (pe_ix ix_tup (pv 0) pe_int (fun _ _ => rfl)) pe_str (nomark _)) (pss_one (ps_ret (pcal (c_name T) hr (by decide) (by rfl) (pa_cons (pe_ix ix_tup (pv 0) pe_int (fun _ _ => rfl)) pa_nil)))) pss_nil)
    (pss_cons (ps_if (PW.pt (pw_or (pt_cmpR op_eq (pe_ix ix_tup (pv 0) pe_int (fun _ _ => rfl)) pe_str (nomark _)) (pw_or1 (pt_cmpR op_eq (pe_ix ix_tup (pv 0) pe_int (fun _ _ => rfl)) pe_str (nomark _)))))
      (pss_one (ps_ret (pe_and (pe_isi T.bisinstance T.btuple boot_tuple rfl rfl (pe_ix ix_tup (pv 0) pe_int (fun _ _ => rfl)) (by decide) (by decide) rfl rfl rfl) (pe_one (pe_cmpR (op_ne0 (units0 hr)) (pe_ix ix_tup (pv 0) pe_int (fun _ _ => rfl)) (pe_tup pa_nil) (nomark _)))))) pss_nil)
    (pss_one (ps_ret (pe_cmpR op_eq (pe_ix ix_tup (pv 0) pe_int (fun _ _ => rfl)) pe_str (nomark _)))))), ?_⟩
  obtain ⟨k, v, hp, cases3⟩ := ok_pair ok
  have sq : SqT K H p.root [.str k, v] := .inl hp
  refine ⟨_, rfl, _, .ty "tuple", _, _, true, rfl, .ty "tuple", ty_rd hp, kit_ty (by decide +kernel), true, rfl, ?_⟩
  refine iteF ?_
  refine ⟨_, rfl, p.root, _, rfl, .inr sq, rfl, _, rfl, ?_⟩
  refine iteF ?_
  refine ⟨_, rfl, p.root, [.str k, v], 0, .str k, rfl, rfl, sq, ix0, _, .ty "str", _, _, true, rfl, .ty "str", .base (.str k), kit_ty (by decide +kernel), true, rfl, ?_⟩
  refine iteF ?_
  refine ⟨_, rfl, p.root, [.str k, v], 0, .str k, rfl, rfl, sq, ix0, rfl, _, rfl, ?_⟩
  rcases cases3 with ⟨x, -, rfl, rfl, hx⟩ | ⟨r, -, rfl, rfl, hr2⟩ | ⟨c, m, ps, -, rfl, rfl, hc, hne, -⟩
  · refine iteT ?_
    exact ⟨_, rfl, p.root, [.str "scan", .str x], 1, .str x, rfl, rfl, sq, ix1, x, rfl, hx, fun H' e => q H' e⟩
  · refine iteF ?_
    refine ⟨_, rfl, p.root, _, 0, _, rfl, rfl, sq, ix0, rfl, _, rfl, ?_⟩
    refine iteF ?_
    refine ⟨_, rfl, p.root, _, 0, _, rfl, rfl, sq, ix0, rfl, _, rfl, ?_⟩
    refine iteF ?_
    exact ⟨_, rfl, p.root, _, 0, _, rfl, rfl, sq, ix0, rfl, q H (Same.refl H)⟩
  · have hne2 : (!(rootsV ps).isEmpty) = true := by
      cases ps with
      | nil => exact absurd rfl hne
      | cons a r => rfl
    have hc2 : ∀ e, H e = none → Rd (upd H e (.tup [])) c (.tup (rootsV ps)) := fun e he => by
      have hce : c ≠ e := fun z => by
        rw [z] at hc
        rcases hc with y | ⟨o, y⟩ <;> (rw [he] at y; cases y)
      rcases hc with y | ⟨o, y⟩
      · exact .inl (by rw [upd_ne hce]; exact y)
      · exact .inr ⟨o, by rw [upd_ne hce]; exact y⟩
    have sm : ∀ e, H e = none → Same H (upd H e (.tup [])) := fun e he b o y => by rw [upd_ne (ne_of_none y he)]; exact y
    cases m with
    | false =>
      refine iteF ?_
      refine ⟨_, rfl, p.root, _, 0, _, rfl, rfl, sq, ix0, rfl, _, rfl, iteT (iteT ?_)⟩
      refine ⟨_, rfl, p.root, _, 1, _, rfl, rfl, sq, ix1, _, .ty "tuple", _, _, true, rfl, .ty "tuple", ty_rd hc, kit_ty (by decide +kernel), true, rfl, iteT ?_⟩
      refine ⟨_, rfl, p.root, _, 1, _, rfl, rfl, sq, ix1, Nat.zero_le _, fun e he => ⟨c, e, _, rfl, rfl, .inl (hc2 e he), SqT.of upd_same, ?_⟩⟩
      rw [hne2]
      exact q _ (sm e he)
    | true =>
      refine iteF ?_
      refine ⟨_, rfl, p.root, _, 0, _, rfl, rfl, sq, ix0, rfl, _, rfl, iteF ?_⟩
      refine ⟨_, rfl, p.root, _, 0, _, rfl, rfl, sq, ix0, rfl, _, rfl, iteT ?_⟩
      refine ⟨_, rfl, p.root, _, 1, _, rfl, rfl, sq, ix1, _, .ty "tuple", _, _, true, rfl, .ty "tuple", ty_rd hc, kit_ty (by decide +kernel), true, rfl, iteT ?_⟩
      refine ⟨_, rfl, p.root, _, 1, _, rfl, rfl, sq, ix1, Nat.zero_le _, fun e he => ⟨c, e, _, rfl, rfl, .inl (hc2 e he), SqT.of upd_same, ?_⟩⟩
      rw [hne2]
      exact q _ (sm e he)
/-- parts_of -/
theorem fs_parts : FnScope ["plan"] ["plan"] (defScope sparts_of) := ⟨rfl, rfl, rfl, by decide, rfl, by decide +kernel, by decide +kernel⟩
theorem c_parts (T : Tx K mg) : PCal P w K mg base 1 "parts_of" spParts := by
  refine pc_mk T.fparts_of fs_parts (fun vs H Q E h => by obtain ⟨i, rfl, _⟩ := h; rfl) (fun _ _ _ _ _ _ us hl => match us, hl with | [_], _ => rfl) fun f cdv A outer s H vs Q E hr h => ?_
  obtain ⟨p, rfl, ok, q1, q2⟩ := h
  refine ⟨_, pss_cons (ps_if (pt_cmpR op_eq (pe_ix ix_tup (pv 0) pe_int (fun _ _ => rfl)) pe_str (nomark _)) (pss_one (ps_ret (pe_tup pa_nil))) pss_nil)
    (pss_one (ps_ret (pe_ifExp (pt_cmpR op_eq (pe_ix ix_tup (pv 0) pe_int (fun _ _ => rfl)) pe_str (nomark _)) (pe_tup (pa_cons (pe_ix ix_tup (pv 0) pe_int (fun _ _ => rfl)) pa_nil)) (pe_ix ix_tup (pv 0) pe_int (fun _ _ => rfl))))), ?_⟩
  obtain ⟨k, v, hp, cases3⟩ := ok_pair ok
  have sq : SqT K H p.root [.str k, v] := .inl hp
  refine ⟨_, rfl, p.root, _, 0, _, rfl, rfl, sq, ix0, rfl, _, rfl, ?_⟩
  rcases cases3 with ⟨x, e, rfl, rfl, hx⟩ | ⟨r, e, rfl, rfl, hr2⟩ | ⟨c, m, ps, e, rfl, rfl, hc, hne, -⟩
  · refine iteT ⟨Nat.zero_le _, fun c hc => ?_⟩
    have q := q2 c hc
    rw [e] at q
    exact q
  · refine iteF ⟨_, rfl, p.root, _, 0, _, rfl, rfl, sq, ix0, rfl, _, rfl, iteT ?_⟩
    refine ⟨_, rfl, p.root, _, 1, _, rfl, rfl, sq, ix1, by show 1 ≤ sizeLine; decide, fun c hc => ?_⟩
    have q := q2 c hc
    rw [e] at q
    exact q
  · have notScan : decide (V.str (word m) = V.str "scan") = false := by cases m <;> decide
    have notSort : decide (V.str (word m) = V.str "sort") = false := by cases m <;> decide
    rw [notScan]
    refine iteF ⟨_, rfl, p.root, _, 0, _, rfl, rfl, sq, ix0, rfl, _, rfl, ?_⟩
    rw [notSort]
    refine iteF ⟨_, rfl, p.root, _, 1, _, rfl, rfl, sq, ix1, ?_⟩
    have q := q1 c
    rw [e] at q
    exact q hc
end
end Mu
end
section
set_option Elab.async false
set_option maxRecDepth 100000
set_option autoImplicit false
set_option linter.all false
/-! walk's own facts; check_plan, names_in -/
namespace Mu
open PySem PySem.Spec L2 Gz
open PyProof.Rows hiding St
/-! ### a plan's parts, all of them, in walk's order -/
mutual
def subs : AP → List AP
  | .scan a x => [.scan a x]
  | .sort a p => .sort a p :: subs p
  | .many a c m ps => .many a c m ps :: subsL ps
def subsL : List AP → List AP
  | [] => []
  | p :: ps => subs p ++ subsL ps
end
mutual
theorem nodes_subs : ∀ p : AP, p.nodes = (subs p).map AP.root
  | .scan a x => by simp [AP.nodes, subs, AP.root]
  | .sort a p => by simp [AP.nodes, subs, AP.root, nodes_subs p]
  | .many a c m ps => by simp [AP.nodes, subs, AP.root, nodesL_subs ps]
theorem nodesL_subs : ∀ ps : List AP, nodesL ps = (subsL ps).map AP.root
  | [] => by simp [nodesL, subsL]
  | p :: ps => by simp [nodesL, subsL, nodes_subs p, nodesL_subs ps]
end
mutual
theorem subs_ok {T : Hp} : ∀ p : AP, p.Ok T → ∀ r ∈ subs p, r.Ok T
  | .scan a x, h, r, hr => by
    obtain rfl : r = .scan a x := by simpa [subs] using hr
    exact h
  | .sort a p, h, r, hr => by
    have hr' : r = .sort a p ∨ r ∈ subs p := by simpa [subs] using hr
    rcases hr' with rfl | z
    · exact h
    · exact subs_ok p h.2 r z
  | .many a c m ps, h, r, hr => by
    have hr' : r = .many a c m ps ∨ r ∈ subsL ps := by simpa [subs] using hr
    rcases hr' with rfl | z
    · exact h
    · exact subsL_ok ps h.2.2.2 r z
theorem subsL_ok {T : Hp} : ∀ ps : List AP, okL T ps → ∀ r ∈ subsL ps, r.Ok T
  | [], _, r, hr => by simp [subsL] at hr
  | p :: ps, h, r, hr => by
    have hr' : r ∈ subs p ∨ r ∈ subsL ps := by simpa [subsL] using hr
    rcases hr' with z | z
    · exact subs_ok p h.1 r z
    · exact subsL_ok ps h.2 r z
end
/-- the names that are scanned -/
def nm : AP → List Str
  | .scan _ x => [x]
  | _ => []
def scans (p : AP) : List Str := (subs p).flatMap nm
/-! ### walk's def -/
def wPos (i : Nat) : Pos := (([⟨35, 11, 35, 15⟩, ⟨35, 17, 35, 22⟩, ⟨35, 10, 35, 23⟩, ⟨35, 4, 35, 23⟩, ⟨36, 7, 36, 14⟩, ⟨36, 15, 36, 20⟩, ⟨36, 7, 36, 21⟩, ⟨36, 4, 38, 51⟩, ⟨38, 23, 38, 27⟩, ⟨38, 28, 38, 32⟩, ⟨38, 34, 38, 38⟩, ⟨38, 42, 38, 48⟩, ⟨38, 41, 38, 50⟩, ⟨38, 34, 38, 50⟩, ⟨38, 23, 38, 51⟩,
  ⟨37, 12, 37, 18⟩, ⟨37, 20, 37, 24⟩, ⟨37, 12, 37, 24⟩, ⟨37, 28, 37, 37⟩, ⟨37, 38, 37, 46⟩, ⟨38, 12, 38, 51⟩, ⟨38, 12, 38, 51⟩, ⟨37, 47, 37, 52⟩, ⟨37, 38, 37, 53⟩, ⟨37, 28, 37, 54⟩, ⟨37, 8, 38, 51⟩, ⟨35, 4, 35, 23⟩] : List Pos)[i]?).getD ⟨0, 0, 0, 0⟩
theorem walk_body : defBody swalk = wBody wPos := by rfl
abbrev wD (P : Program) (w : World) (K : PySem.W.Frag) (mg : Str → Option Value) (base : Heap) (f : Addr) (cdv : Value) : GDef := ⟨P, w, K, mg, base, wN, "walk", defScope swalk, f, cdv⟩
section
variable {P : Program} {w : World} {K : PySem.W.Frag} {mg : Str → Option Value} {base : Heap}
theorem sc_walk : (∀ x ∈ wN, (defScope swalk).names.lookup x = some .local) ∧ (∀ x ∈ (["is_form", "enumerate", "parts_of", "walk"] : List Str), (defScope swalk).names.lookup x = some .globalImplicit) ∧ ∀ y ∈ (defScope swalk).names, y.2 ≠ .cell ∧ y.2 ≠ .free := by decide +kernel
theorem walk_facts (T : Tx K mg) (M : Mod K mg base) : ∃ (f : Addr) (cdv : Value) (fd : FuncData), WalkD (wD P w K mg base f cdv) 2 wPos fd := by
  obtain ⟨f, fd, hm, Fu⟩ := T.fwalk
  have hb : Binds K fd ["thing", "path"] [] := Fu.binds fun _ _ _ _ _ _ us hl => match us, hl with | [_, _], _ => rfl
  have hkp := Fu.kp
  obtain ⟨oc, od, kV, doc, pm, an, cdv, ct, osl, rfl, lk, hcd⟩ := Fu.ex
  refine ⟨f, cdv, _, ⟨M, rfl, fun x => ?_, fun n => rfl⟩, ⟨⟨"walk", defArgs swalk, .none, kV, doc, pm, an, ct, oc, od, osl, by rw [← walk_body], lk⟩, hcd, rfl, rfl, rfl, fun x hx => sc_walk.1 x (by simp at hx ⊢; rcases hx with rfl | rfl <;> simp), by decide, hkp⟩, rfl, sc_walk.1, sc_walk.2.1, T.benumerate, hm, hb, c_form T, pc_mono (c_parts T) (by decide)⟩
  · constructor <;> intro e <;> have y := sc_walk.2.2 _ (PySem.mem_of_lookup e)
    · exact y.1 rfl
    · exact y.2 rfl
end
end Mu
end
section
set_option Elab.async false
set_option maxRecDepth 100000
set_option autoImplicit false
set_option linter.all false
/-! check_plan, names_in -/
namespace Mu
open PySem PySem.Spec L2 Gz
open PyProof.Rows hiding St
/-- a promise of a def that reaches a walk, by its name -/
structure LCal (P : Program) (w : World) (K : PySem.W.Frag) (mg : Str → Option Value) (base : Heap) (k : Nat) (x : Str) (sp : Sp) : Prop where
  ex : ∃ (f : Addr) (fd : FuncData) (ps : List Str), FnS P w K mg base k f fd ps sp ∧ mg x = some (.ref f) ∧ PySem.W.keepIn K (.ref f) = true ∧ Binds K fd ps []
section
variable {P : Program} {w : World} {K : PySem.W.Frag} {mg : Str → Option Value} {base : Heap}
theorem lc_mk {x : Str} {st : Stmt} {N ps : List Str} {k : Nat} {sp : Sp} (F : Fn K mg x st) (S : FnScope N ps (defScope st)) (len : ∀ vs H Q, sp vs H Q E0 → vs.length = ps.length)
    (hb : ∀ (kV doc pm : Value) (an : Option Addr) (cdv ct : Value) (us : List Value), us.length = ps.length → bindArgs (PySem.W.fnOf x x (defArgs st) (defBody st) (defScope st) .none kV doc pm an cdv ct) ⟨us, []⟩ = pure (ps.zip us))
    (hbody : ∀ (f : Addr) (cdv : Value) (A : Around) (outer : List Env) (s : Shared) (H : Hp) (vs : List V) (Q : VK), Room k (A.deeper (envOfC x (defScope st) s.heap.objs.size f cdv)) → sp vs H Q E0 →
      ∃ t, SSs (cxOf CX0 P w K mg base N x (defScope st) f cdv A outer s H E0).nox (defBody st) t ∧ t { nx := fun _ H' => Q .non H', rt := Q } (start N vs) H) : LCal P w K mg base (k + 1) x sp := by
  obtain ⟨f, fd, hm, Fu⟩ := F
  exact ⟨⟨f, fd, ps, fun_okS Fu S len (hbody f), hm, Fu.kp, Fu.binds hb⟩⟩
theorem lcal {X : Cx} {k j : Nat} {x : Str} {sp : Sp} {p pos : Pos} {e : Expr} {es : List Expr} {t : TA} (c : LCal X.prog X.w X.K X.mg X.base k x sp) (hr : Room j X.A) (hk : k ≤ j) (hg : Gl X x) (ha : PA X.nox (e :: es) t) (hdb : (x == ("__debug__" : Str)) = false := by decide)
    (he : starEach (e :: es) X.env = (false, eval e X.env) :: starEach es X.env := by rfl) (hpl : (backTo pos (starEach es X.env)).any (·.1) = false := by rfl) : ES X (.Call (.Name x p) (e :: es) [] pos) (tCall sp [] E0 t) := by
  obtain ⟨f, fd, ps, F, hm, hkp, hb⟩ := c.ex
  exact es_call (F.mono hk) hr hg hm hkp hb .nil ha hdb he hpl
theorem inV_str (x : Str) (l : List Str) : inV (.str x) (l.map V.str) = decide (x ∈ l) := by
  unfold inV
  induction l with
  | nil => simp
  | cons a r ih =>
    rw [List.map_cons, List.any_cons, ih]
    have e : eqV (.str a) (.str x) = decide (x = a) := by
      rw [Bool.eq_iff_iff]
      simp [eqV]
      exact ⟨fun h => h.symm, fun h => h.symm⟩
    rw [e]
    rw [Bool.eq_iff_iff]
    simp
theorem flat_strs (l : List Str) : (l.map V.str).all flatV = true := by
  rw [List.all_eq_true]
  intro y hy
  obtain ⟨x, _, rfl⟩ := List.mem_map.mp hy
  rfl
/-- the names of a plan may be told at most 6 -/
structure PlanOk (p : AP) : Prop where
  depth : p.depth ≤ 18
  nd : (scans p).Nodup
  few : (scans p).length ≤ 6
def spCheck : Sp := fun vs H Q _ => ∃ p : AP, vs = [.ref p.root] ∧ p.Ok (tups H) ∧ PlanOk p ∧ ∀ H', Same H H' → Q .non H'
/-- a new list of names -/
def spNames : Sp := fun vs H Q _ => ∃ p : AP, vs = [.ref p.root] ∧ p.Ok (tups H) ∧ PlanOk p ∧ ∀ H' l, Same H H' → H l = none → H' l = some (.lst ((scans p).map V.str)) → Q (.ref l) H'
abbrev cN : List Str := ["plan", "seen", "path", "part"]
theorem fs_check : FnScope cN ["plan"] (defScope scheck_plan) := ⟨rfl, rfl, rfl, by decide, rfl, by decide +kernel, by decide +kernel⟩
/-- all but the one at l -/
def But (l : Addr) (H H' : Hp) : Prop := ∀ b o, b ≠ l → H b = some o → H' b = some o
theorem keeps_but {l : Addr} {H H' : Hp} {xs : List V} (h : H l = some (.lst xs)) (b : But l H H') : Keeps H H' := fun a ys r => by
  have hne : a ≠ l := fun z => by
    rw [z] at r
    rcases r with y | ⟨o, y⟩ <;> (rw [h] at y; cases y)
  rcases r with y | ⟨o, y⟩
  · exact .inl (b a _ hne y)
  · exact .inr ⟨o, b a _ hne y⟩
theorem ok_keeps {H H' : Hp} {p : AP} (k : Keeps H H') (h : p.Ok (tups H)) : p.Ok (tups H') := h.mono fun b xs e => tups_rd.mpr (k b xs (tups_rd.mp e))
theorem keeps_same {H H' : Hp} (s : Same H H') : Keeps H H' := fun a ys r => by
  rcases r with y | ⟨o, y⟩
  · exact .inl (s _ _ y)
  · exact .inr ⟨o, s _ _ y⟩
theorem same_upd {H : Hp} {a : Addr} {o : HO} (n : H a = none) : Same H (upd H a o) := fun b u e => by rw [upd_ne (ne_of_none e n)]; exact e
theorem c_check (T : Tx K mg) (M : Mod K mg base) : LCal P w K mg base 61 "check_plan" spCheck := by
  refine lc_mk T.fcheck_plan fs_check (fun vs H Q h => by obtain ⟨i, rfl, _⟩ := h; rfl) (fun _ _ _ _ _ _ us hl => match us, hl with | [_], _ => rfl) fun f cdv A outer s H vs Q hr h => ?_
  obtain ⟨p, rfl, ok, pk, q⟩ := h
  obtain ⟨fw, cw, fdw, Wf⟩ := walk_facts (P := P) (w := w) T M
  have nd : cN.Nodup := by decide
  have U : Uses (cxOf CX0 P w K mg base cN "check_plan" (defScope scheck_plan) f cdv A outer s H E0).nox (wD P w K mg base fw cw) 2 18 wPos fdw := ⟨Wf, rfl, rfl, rfl, rfl, rfl, hr, by decide⟩
  refine ⟨_, sss_cons (SS.of (ps_set (i := 1) nd rfl (Or.inl rfl) (pe_lst pa_nil))) (sss_one (ss_forW U rfl (by rfl) (pa_cons (pv 0) (pa_cons (pe_tup pa_nil) pa_nil)) (pg_tup rfl (pgs_cons (pg_name (i := 2) nd rfl (Or.inl rfl)) (pgs_cons (pg_name (i := 3) nd rfl (Or.inl rfl)) pgs_nil)))
    (SSs.of (pss_cons (ps_if (PW.pt (pw_or (pt_not (pt_val (pcal (c_form T) hr (by decide) (by rfl) (pa_cons (pv 3) pa_nil)))) (pw_or1 (PW.pt (pw_and (pt_cmpR op_eq (pe_ix ix_tup (pv 3) pe_int (fun _ _ => rfl)) pe_str (nomark _)) (pw_and1 (pt_cmpR op_in_seq (pe_ix ix_tup (pv 3) pe_int (fun _ _ => rfl)) (pv 1) (by with_unfolding_all rfl)))))))) pss_never pss_nil)
      (pss_one (ps_if (pt_cmpR op_eq (pe_ix ix_tup (pv 3) pe_int (fun _ _ => rfl)) pe_str (nomark _)) (pss_one (ps_expr (pe_bm PySem.F.plainAttrs_list PySem.F.slot_list_append PySem.F.type_list_append mt_append (pv 1) (pa_cons (pe_ix ix_tup (pv 3) pe_int (fun _ _ => rfl)) pa_nil)))) pss_nil)))))), ?_⟩
  refine ⟨Nat.zero_le _, fun l hl => ?_⟩
  have okl := ok_keeps (keeps_same (same_upd (o := .lst []) hl)) ok
  refine ⟨_, rfl, Nat.zero_le _, fun pr hpr => ⟨rfl, p, pr, rfl, ok_keeps (keeps_same (same_upd (o := .tup []) hpr)) okl, upd_same, pk.depth, ?_⟩⟩
  have lpr : l ≠ pr := fun z => by rw [← z, upd_same] at hpr; cases hpr
  have hl2 : upd (upd H l (.lst [])) pr (.tup []) l = some (.lst []) := by rw [upd_ne lpr, upd_same]
  generalize hH2 : upd (upd H l (.lst [])) pr (.tup []) = H2 at hl2
  have ok2 : p.Ok (tups H2) := by rw [← hH2]; exact ok_keeps (keeps_same (same_upd (o := .tup []) hpr)) okl
  have s02 : ∀ b o, H b = some o → H2 b = some o := fun b o e => by
    rw [← hH2]
    exact same_upd (o := .tup []) hpr b o (same_upd (o := .lst []) hl b o e)
  refine ⟨fun rem σ' H' => ∃ (v2 v3 : Option V) (done todo : List AP), σ' = [some (.ref p.root), some (.ref l), v2, v3] ∧ subs p = done ++ todo ∧ rem = todo.map AP.root ∧ H' l = some (.lst ((done.flatMap nm).map V.str)) ∧ But l H2 H',
    ⟨none, none, [], subs p, rfl, rfl, nodes_subs p, hl2, fun b o _ e => e⟩, fun rem σ' H' h => ?_, fun σ' H' h => ?_, fun a rem σ' H' h => ?_⟩
  · obtain ⟨_, _, _, _, _, _, _, _, hb⟩ := h
    exact keeps_but hl2 hb
  · obtain ⟨_, _, _, _, _, _, _, _, hb⟩ := h
    exact q H' fun b o e => hb b o (ne_of_none e hl) (s02 b o e)
  · obtain ⟨v2, v3, done, todo, rfl, hs, hrem, hl', hb⟩ := h
    intro qq pq hqq
    cases todo with
    | nil => cases hrem
    | cons r todo =>
      injection hrem with ha hrem
      subst ha
      refine ⟨qq, [.ref pq, .ref r.root], rfl, SqT.of upd_same, rfl, _, _, rfl, _, _, rfl, rfl, ?_⟩
      have rin : r ∈ subs p := by rw [hs]; simp
      have lq : l ≠ qq := fun z => by rw [z, hqq] at hl'; cases hl'
      have hb3 : But l H2 (upd H' qq (.tup [.ref pq, .ref r.root])) := fun b o h1 e => same_upd hqq b o (hb b o h1 e)
      have hl3 : upd H' qq (.tup [.ref pq, .ref r.root]) l = some (.lst ((done.flatMap nm).map V.str)) := by rw [upd_ne lq]; exact hl'
      generalize upd H' qq (.tup [.ref pq, .ref r.root]) = H3 at hb3 hl3
      refine ⟨_, rfl, r, rfl, subs_ok p (ok_keeps (keeps_but hl2 hb3) ok2) r rin, fun H4 sm => ⟨true, rfl, iteF ?_⟩⟩
      have hb4 : But l H2 H4 := fun b o h1 e => sm b o (hb3 b o h1 e)
      have hl4 : H4 l = some (.lst ((done.flatMap nm).map V.str)) := sm _ _ hl3
      have okr : r.Ok (tups H4) := subs_ok p (ok_keeps (keeps_but hl2 hb4) ok2) r rin
      obtain ⟨kw, v, hp, cases3⟩ := ok_pair okr
      have sq : SqT K H4 r.root [.str kw, v] := .inl hp
      have hscan : (done.flatMap nm).length ≤ 6 := by
        have := pk.few
        unfold scans at this
        rw [hs, List.flatMap_append, List.length_append] at this
        omega
      refine ⟨_, rfl, r.root, _, 0, _, rfl, rfl, sq, ix0, rfl, _, rfl, ?_⟩
      rcases cases3 with ⟨x, e, rfl, rfl, hx⟩ | h2
      · refine iteT ⟨_, rfl, r.root, _, 1, _, rfl, rfl, sq, ix1, _, rfl, l, _, rfl, .inl (SqL.of hl4), rfl, flat_strs _, _, rfl, ?_⟩
        have hnot : x ∉ done.flatMap nm := fun hm => by
          have nd := pk.nd
          unfold scans at nd
          rw [hs, List.flatMap_append] at nd
          refine (List.nodup_append.mp nd).2.2 x hm x ?_ rfl
          rw [List.flatMap_cons, e]
          simp [nm]
        rw [inV_str, decide_eq_false hnot]
        refine iteF ⟨_, rfl, r.root, _, 0, _, rfl, rfl, sq, ix0, rfl, _, rfl, iteT ?_⟩
        refine ⟨_, rfl, .inl ⟨rfl, _, SqL.of hl4⟩, _, rfl, r.root, _, 1, _, rfl, rfl, sq, ix1, l, _, _, rfl, rfl, hl4, ?_, ?_⟩
        · rw [List.length_map]
          exact Nat.lt_of_le_of_lt hscan (by decide)
        · refine ⟨_, _, done ++ [r], todo, rfl, by rw [hs, List.append_assoc]; rfl, hrem, ?_, fun b o h1 e2 => ?_⟩
          · rw [upd_same, List.flatMap_append, List.map_append]
            congr 2
            rw [e]
            rfl
          · rw [upd_ne h1]; exact hb4 b o h1 e2
      · have hns : kw ≠ "scan" ∧ nm r = [] := by
          rcases h2 with ⟨r2, e, rfl, _⟩ | ⟨c, mm, ps, e, rfl, _⟩
          · exact ⟨by decide, by rw [e]; rfl⟩
          · exact ⟨by cases mm <;> decide, by rw [e]; rfl⟩
        have hd : decide (V.str kw = V.str "scan") = false := decide_eq_false fun z => hns.1 (V.str.inj z)
        rw [hd]
        refine iteF (iteF ⟨_, rfl, r.root, _, 0, _, rfl, rfl, sq, ix0, rfl, _, rfl, ?_⟩)
        rw [hd]
        refine iteF ⟨_, _, done ++ [r], todo, rfl, by rw [hs, List.append_assoc]; rfl, hrem, ?_, hb4⟩
        rw [List.flatMap_append]
        have e : List.flatMap nm [r] = [] := by simp [hns.2]
        rw [e, List.append_nil]
        exact hl4
end
end Mu
end
section
set_option Elab.async false
set_option maxRecDepth 100000
set_option autoImplicit false
set_option linter.all false
/-! names_in, is_row, check_inputs -/
namespace Mu
open PySem PySem.Spec L2 Gz
open PyProof.Rows hiding St
section
variable {P : Program} {w : World} {K : PySem.W.Frag} {mg : Str → Option Value} {base : Heap}
abbrev iN : List Str := ["plan", "path", "part"]
theorem fs_names : FnScope iN ["plan"] (defScope snames_in) := ⟨rfl, rfl, rfl, by decide, rfl, by decide +kernel, by decide +kernel⟩
theorem c_names (T : Tx K mg) (M : Mod K mg base) : LCal P w K mg base 61 "names_in" spNames := by
  refine lc_mk T.fnames_in fs_names (fun vs H Q h => by obtain ⟨i, rfl, _⟩ := h; rfl) (fun _ _ _ _ _ _ us hl => match us, hl with | [_], _ => rfl) fun f cdv A outer s H vs Q hr h => ?_
  obtain ⟨p, rfl, ok, pk, q⟩ := h
  obtain ⟨fw, cw, fdw, Wf⟩ := walk_facts (P := P) (w := w) T M
  have nd : iN.Nodup := by decide
  have U : Uses (cxOf CX0 P w K mg base iN "names_in" (defScope snames_in) f cdv A outer s H E0).nox (wD P w K mg base fw cw) 2 18 wPos fdw := ⟨Wf, rfl, rfl, rfl, rfl, rfl, hr, by decide⟩
  refine ⟨_, sss_one (ss_ret (es_lcW (own := [("path", 1), ("part", 2)]) (g := gTup K 2 (gCons (gName 1) (gCons (gName 2) gNil))) (tt := tTest (tOp rEq (tOp (rIxT K) (tVar 2) (tC (.int 0))) (tC (.str "scan")))) (te := tOp (rIxT K) (tVar 2) (tC (.int 1))) U rfl nd (by rfl) (pa_cons (pv 0) (pa_cons (pe_tup pa_nil) pa_nil)) (blkOk_by (N := iN) (sc := defScope snames_in) (by decide +kernel))
    (fun _ _ _ _ _ => pg_tup rfl (pgs_cons (pg_name (i := 1) nd rfl (Or.inl rfl) (Or.inr rfl)) (pgs_cons (pg_name (i := 2) nd rfl (Or.inl rfl) (Or.inr rfl)) pgs_nil)))
    (fun _ _ _ _ _ => tss_of (pts_one (pt_cmpR op_eq (pe_ix ix_tup (pv 2) pe_int (fun _ _ => rfl)) pe_str (nomark _))) rfl) (fun _ _ _ _ _ => pe_ix ix_tup (pv 2) pe_int (fun _ _ => rfl)))), ?_⟩
  refine ⟨_, rfl, Nat.zero_le _, fun pr hpr => ⟨rfl, p, pr, rfl, ok_keeps (keeps_same (same_upd (o := .tup []) hpr)) ok, upd_same, pk.depth, fun l hl => ?_⟩⟩
  have ok2 := ok_keeps (keeps_same (same_upd (o := .tup []) hpr)) ok
  have s02 := same_upd (o := .tup []) hpr
  generalize upd H pr (.tup []) = H2 at hl ok2 s02
  have hl2 : upd H2 l (.lst []) l = some (.lst []) := upd_same
  have b0 : ∀ {H' : Hp}, But l (upd H2 l (.lst [])) H' → Same H2 H' := fun {H'} hb b o e => hb b o (ne_of_none e hl) (same_upd hl b o e)
  refine ⟨fun rem H' => ∃ (done todo : List AP), subs p = done ++ todo ∧ rem = todo.map AP.root ∧ H' l = some (.lst ((done.flatMap nm).map V.str)) ∧ But l (upd H2 l (.lst [])) H',
    ⟨[], subs p, rfl, nodes_subs p, hl2, fun b o _ e => e⟩, fun rem H' h => ?_, fun H' h => ?_, fun a rem H' h => ?_⟩
  · obtain ⟨_, _, _, _, _, hb⟩ := h
    exact keeps_same (b0 hb)
  · obtain ⟨done, todo, hs, hrem, hl', hb⟩ := h
    have hnil : todo = [] := by cases todo with
      | nil => rfl
      | cons r t => cases hrem
    subst hnil
    rw [List.append_nil] at hs
    have hln : H l = none := by
      cases e : H l with
      | none => rfl
      | some o => exact absurd (s02 l o e) (by rw [hl]; simp)
    refine q H' l (fun b o e => b0 hb b o (s02 b o e)) hln ?_
    unfold scans
    rw [hs]
    exact hl'
  · obtain ⟨done, todo, hs, hrem, hl', hb⟩ := h
    intro qq pq hqq
    cases todo with
    | nil => cases hrem
    | cons r todo =>
      injection hrem with ha hrem
      subst ha
      refine ⟨qq, [.ref pq, .ref r.root], rfl, SqT.of upd_same, rfl, _, _, rfl, _, _, rfl, rfl, ?_⟩
      have rin : r ∈ subs p := by rw [hs]; simp
      have lq : l ≠ qq := fun z => by rw [z, hqq] at hl'; cases hl'
      have hb3 : But l (upd H2 l (.lst [])) (upd H' qq (.tup [.ref pq, .ref r.root])) := fun b o h1 e => same_upd hqq b o (hb b o h1 e)
      have hl3 : upd H' qq (.tup [.ref pq, .ref r.root]) l = some (.lst ((done.flatMap nm).map V.str)) := by rw [upd_ne lq]; exact hl'
      generalize upd H' qq (.tup [.ref pq, .ref r.root]) = H3 at hb3 hl3
      have okr : r.Ok (tups H3) := subs_ok p (ok_keeps (keeps_same (b0 hb3)) ok2) r rin
      obtain ⟨kw, v, hp, cases3⟩ := ok_pair okr
      have sq : SqT K H3 r.root [.str kw, v] := .inl hp
      have hscan : (done.flatMap nm).length ≤ 6 := by
        have := pk.few
        unfold scans at this
        rw [hs, List.flatMap_append, List.length_append] at this
        omega
      refine ⟨rfl, _, rfl, r.root, _, 0, _, rfl, rfl, sq, ix0, rfl, _, rfl, ?_⟩
      rcases cases3 with ⟨x, e, rfl, rfl, hx⟩ | h2
      · rw [show decide (V.str "scan" = V.str "scan") = true from by decide, if_pos rfl]
        refine ⟨_, rfl, r.root, _, 1, _, rfl, rfl, sq, ix1, _, hl3, ?_, done ++ [r], todo, by rw [hs, List.append_assoc]; rfl, hrem, ?_, fun b o h1 e2 => ?_⟩
        · rw [List.length_map]
          exact Nat.lt_of_le_of_lt hscan (by decide)
        · rw [upd_same, List.flatMap_append, List.map_append]
          congr 2
          rw [e]
          rfl
        · rw [upd_ne h1]; exact hb3 b o h1 e2
      · have hns : kw ≠ "scan" ∧ nm r = [] := by
          rcases h2 with ⟨r2, e, rfl, _⟩ | ⟨c, mm, ps, e, rfl, _⟩
          · exact ⟨by decide, by rw [e]; rfl⟩
          · exact ⟨by cases mm <;> decide, by rw [e]; rfl⟩
        have hd : decide (V.str kw = V.str "scan") = false := decide_eq_false fun z => hns.1 (V.str.inj z)
        rw [hd, if_neg Bool.false_ne_true]
        refine ⟨done ++ [r], todo, by rw [hs, List.append_assoc]; rfl, hrem, ?_, hb3⟩
        rw [List.flatMap_append]
        have e : List.flatMap nm [r] = [] := by simp [hns.2]
        rw [e, List.append_nil]
        exact hl3
end
end Mu
end
section
set_option Elab.async false
set_option maxRecDepth 100000
set_option autoImplicit false
set_option linter.all false
/-! is_row, check_inputs -/
namespace Mu
open PySem PySem.Spec L2 Gz
open PyProof.Rows hiding St
/-- a dict of lists of ints, by its entries: the name, the list's address, its items -/
abbrev Ents := List (Str × Addr × List Int)
def kvsOf (es : Ents) : List (Key × V) := es.map fun e => (Sum.inr e.1, V.ref e.2.1)
structure Inp (H : Hp) (d : Addr) (es : Ents) : Prop where
  dict : H d = some (.dK (kvsOf es))
  rows : ∀ e ∈ es, H e.2.1 = some (.lst (e.2.2.map V.int))
  nd : (es.map (·.1)).Nodup
theorem valV_ents : ∀ {es : Ents} {x : Str} {a : Addr} {ns : List Int}, (es.map (·.1)).Nodup → (x, a, ns) ∈ es → valV (kvsOf es) (Sum.inr x) = some (.ref a)
  | e :: es, x, a, ns, nd, h => by
    rcases List.mem_cons.mp h with z | z
    · subst z
      exact valV_pos rfl
    · have hne : e.1 ≠ x := fun y => by
        rw [List.map_cons, List.nodup_cons] at nd
        exact nd.1 (List.mem_map.mpr ⟨_, z, y.symm⟩)
      have ih := valV_ents (by rw [List.map_cons, List.nodup_cons] at nd; exact nd.2) z
      unfold kvsOf valV at ih ⊢
      rw [List.map_cons, List.find?_cons]
      have : decide ((Sum.inr e.1 : Key) = Sum.inr x) = false := decide_eq_false fun y => hne (Sum.inr.inj y)
      rw [this]
      exact ih
theorem Inp.same {H H' : Hp} {d : Addr} {es : Ents} (h : Inp H d es) (s : Same H H') : Inp H' d es := ⟨s _ _ h.dict, fun e he => s _ _ (h.rows e he), h.nd⟩
/-- is_row of a list of ints -/
def spRow : Sp := fun vs H Q _ => ∃ (a : Addr) (ns : List Int), vs = [.ref a] ∧ H a = some (.lst (ns.map V.int)) ∧ ns.length < sizeLine ∧ ∀ H', Same H H' → Q (.bl true) H'
def spInputs : Sp := fun vs H Q _ => ∃ (p : AP) (d : Addr) (es : Ents), vs = [.ref p.root, .ref d] ∧ p.Ok (tups H) ∧ PlanOk p ∧ Inp H d es ∧ (∀ x ∈ scans p, ∃ a ns, (x, a, ns) ∈ es) ∧ (∀ e ∈ es, e.2.2.length < sizeLine) ∧ ∀ H', Same H H' → Q .non H'
section
variable {P : Program} {w : World} {K : PySem.W.Frag} {mg : Str → Option Value} {base : Heap}
abbrev rN : List Str := ["thing", "value"]
theorem fs_row : FnScope rN ["thing"] (defScope sis_row) := ⟨rfl, rfl, rfl, by decide, rfl, by decide +kernel, by decide +kernel⟩
theorem c_row (T : Tx K mg) : PCal P w K mg base 2 "is_row" spRow := by
  refine pc_mk T.fis_row fs_row (fun vs H Q E h => by obtain ⟨_, _, rfl, _⟩ := h; rfl) (fun _ _ _ _ _ _ us hl => match us, hl with | [_], _ => rfl) fun f cdv A outer s H vs Q E hr h => ?_
  obtain ⟨a, ns, rfl, ha, hz, q⟩ := h
  have nd : rN.Nodup := by decide
  refine ⟨_, pss_one (ps_ret (pe_and (pe_isi T.bisinstance T.blist boot_list rfl rfl (pv 0) (by decide) (by decide) rfl rfl rfl)
    (pe_one (pe_callB (cr_all rfl) (by rfl) T.ball boot_all (pa_cons (pe_lc (own := [("value", 1)]) (g := gName 1) (tt := tYes) (te := tCall spWhole [] E0 (tCons (tVar 1) tNil)) rfl nd (pi_list (pv 0)) (blkOk_by (N := rN) (sc := defScope sis_row) (by decide +kernel)) (fun _ _ _ _ _ => pg_name (i := 1) nd rfl (Or.inl rfl)) (fun _ _ _ _ _ => pts_nil)
      (fun _ _ _ _ _ => pcal (c_whole T) hr (by decide) (by rfl) (pa_cons (pv 1) pa_nil))) pa_nil))))), ?_⟩
  refine ⟨_, rfl, _, .ty "list", _, _, true, rfl, .ty "list", .base (.lst ha), kit_ty (by decide +kernel), true, rfl, iteT ?_⟩
  refine ⟨_, rfl, a, rfl, ⟨_, SqL.of ha⟩, fun D hD => lc_it (walk_list (xs := ns.map V.int)) (fun i H' => H' D = some (.lst ((List.replicate i true).map V.bl)) ∧ Same H H') ⟨upd_same, same_upd hD⟩ (fun i H' _ h => SqL.of (h.2 _ _ ha)) (fun i v H1 H2 hi hp hv => ?_) fun H1 hp => ?_⟩
  · obtain ⟨rfl, hv⟩ := hv
    obtain ⟨h1, h2⟩ := hp
    rw [List.getElem?_map] at hv
    obtain ⟨n, _, rfl⟩ := Option.map_eq_some_iff.mp hv
    refine ⟨rfl, ?_⟩
    refine iteT (B := H2 D = some (HO.lst ((List.replicate (i + 1) true).map V.bl)) ∧ Same H H2) ?_
    refine ⟨_, rfl, n, rfl, _, h1, ?_, ?_, fun b o e => ?_⟩
    · rw [List.length_map, List.length_replicate]
      rw [List.length_map] at hi
      omega
    · rw [upd_same, List.replicate_succ', List.map_append]
      rfl
    · rw [upd_ne (ne_of_none e hD)]; exact h2 b o e
  · obtain ⟨h1, h2⟩ := hp
    refine ⟨D, List.replicate (ns.map V.int).length true, rfl, SqL.of h1, ?_⟩
    have e : (List.replicate (ns.map V.int).length true).all id = true := by simp
    rw [e]
    exact q H1 h2
abbrev pN : List Str := ["plan", "inputs", "name"]
theorem fs_inputs : FnScope pN ["plan", "inputs"] (defScope scheck_inputs) := ⟨rfl, rfl, rfl, by decide, rfl, by decide +kernel, by decide +kernel⟩
theorem c_inputs (T : Tx K mg) (M : Mod K mg base) : LCal P w K mg base 62 "check_inputs" spInputs := by
  refine lc_mk T.fcheck_inputs fs_inputs (fun vs H Q h => by obtain ⟨_, _, _, rfl, _⟩ := h; rfl) (fun _ _ _ _ _ _ us hl => match us, hl with | [_, _], _ => rfl) fun f cdv A outer s H vs Q hr h => ?_
  obtain ⟨p, d, es, rfl, ok, pk, inp, hall, hsz, q⟩ := h
  have nd : pN.Nodup := by decide
  have hu := hu_of hr
  refine ⟨_, sss_cons (SS.of (ps_if (pt_not (pt_val (pe_isi T.bisinstance T.bdict boot_dict rfl rfl (pv 1) (by decide) (by decide) rfl rfl rfl))) pss_never pss_nil))
    (sss_one (ss_for rfl (is_list (lcal (c_names T M) hr (by decide) (by rfl) (pa_cons (pv 0) pa_nil))) (pg_name (i := 2) nd rfl (Or.inl rfl))
      (SSs.of (pss_one (ps_if (pt_not (pt_val (pcal (c_row T) hr (by decide) (by rfl) (pa_cons (pe_dget2 hu (pv 1) (pv 2) pe_non ⟨rfl, rfl, rfl, rfl⟩) pa_nil)))) pss_never pss_nil))))), ?_⟩
  refine ⟨_, rfl, _, .ty "dict", _, _, true, rfl, .ty "dict", .base (.dK inp.dict), kit_ty (by decide +kernel), true, rfl, iteF ?_⟩
  refine ⟨_, rfl, p, rfl, ok, pk, fun H1 l sm _ hl => ⟨l, rfl, ⟨_, SqL.of hl⟩, for_list (xs := (scans p).map V.str) (fun i σ' H' => ∃ v, σ' = [some (.ref p.root), some (.ref d), v] ∧ Same H1 H') ⟨none, rfl, Same.refl _⟩ (fun i σ' H' _ h => ?_) (fun i x σ' H' hx h => ?_) fun σ' H' h => ?_⟩⟩
  · obtain ⟨_, _, s2⟩ := h
    exact SqL.of (s2 _ _ hl)
  · obtain ⟨v, rfl, s2⟩ := h
    rw [List.getElem?_map] at hx
    obtain ⟨z, hz, rfl⟩ := Option.map_eq_some_iff.mp hx
    have hzs : z ∈ scans p := List.mem_of_getElem? hz
    obtain ⟨a, ns, hin⟩ := hall z hzs
    have i2 := inp.same (sm.trans s2)
    refine ⟨_, rfl, d, rfl, .inl ⟨_, .inl i2.dict⟩, _, rfl, _, DGet.k (k := Sum.inr z) i2.dict, ?_⟩
    rw [valV_ents i2.nd hin]
    refine ⟨a, ns, rfl, i2.rows _ hin, hsz _ hin, fun H3 s3 => ⟨true, rfl, iteF ⟨_, rfl, s2.trans s3⟩⟩⟩
  · obtain ⟨_, _, s2⟩ := h
    exact q H' (sm.trans s2)
end
end Mu
end
section
set_option Elab.async false
set_option maxRecDepth 100000
set_option autoImplicit false
set_option linter.all false
/-! merged_rows -/
namespace Mu
open PySem PySem.Spec L2 Gz
open PyProof.Rows hiding St
/-- a row, where it lies -/
structure Rw where
  at_ : Addr
  key : Int
  name : Str
  place : Nat
def Rw.v (r : Rw) : V := .ref r.at_
def vsR (rs : List Rw) : List V := rs.map Rw.v
def RowsOk (H : Hp) (rs : List Rw) : Prop := ∀ r ∈ rs, Rd H r.at_ (.tup [.int r.key, .str r.name, .int (r.place : Nat)])
theorem RowsOk.same {H H' : Hp} {rs : List Rw} (h : RowsOk H rs) (s : Keeps H H') : RowsOk H' rs := fun r hr => s _ _ (h r hr)
/-- the merge by heads -/
def mergeR : List Rw → List Rw → List Rw
  | [], ys => ys
  | x :: xs, [] => x :: xs
  | x :: xs, y :: ys => if y.key < x.key then y :: mergeR (x :: xs) ys else x :: mergeR xs (y :: ys)
termination_by xs ys => xs.length + ys.length
theorem mergeR_nil (xs : List Rw) : mergeR xs [] = xs := by cases xs <;> simp [mergeR]
theorem mergeR_length : ∀ (xs ys : List Rw), (mergeR xs ys).length = xs.length + ys.length
  | [], ys => by simp [mergeR]
  | x :: xs, [] => by simp [mergeR]
  | x :: xs, y :: ys => by
    rw [mergeR]
    split
    · rw [List.length_cons, mergeR_length (x :: xs) ys]; simp only [List.length_cons]; omega
    · rw [List.length_cons, mergeR_length xs (y :: ys)]; simp only [List.length_cons]; omega
termination_by xs ys => xs.length + ys.length
theorem mergeR_mem : ∀ (xs ys : List Rw) (r : Rw), r ∈ mergeR xs ys ↔ r ∈ xs ∨ r ∈ ys
  | [], ys, r => by simp [mergeR]
  | x :: xs, [], r => by simp [mergeR]
  | x :: xs, y :: ys, r => by
    rw [mergeR]
    split
    · rw [List.mem_cons, mergeR_mem (x :: xs) ys]; simp only [List.mem_cons]; constructor <;> intro h <;> rcases h with h | h | h <;> first | (rcases h with h | h <;> simp [h]) | simp [h]
    · rw [List.mem_cons, mergeR_mem xs (y :: ys)]; simp only [List.mem_cons]; constructor <;> intro h <;> rcases h with h | h | h <;> first | (rcases h with h | h <;> simp [h]) | simp [h]
termination_by xs ys => xs.length + ys.length
def spMerged : Sp := fun vs H Q _ => ∃ (a b : Addr) (xs ys : List Rw), vs = [.ref a, .ref b] ∧ H a = some (.lst (vsR xs)) ∧ H b = some (.lst (vsR ys)) ∧ RowsOk H xs ∧ RowsOk H ys ∧ xs.length + ys.length < sizeLine ∧
  ∀ H' l, Same H H' → H l = none → H' l = some (.lst (vsR (mergeR xs ys))) → Q (.ref l) H'
theorem cut_from {xs : List V} {i : Nat} (h : i ≤ xs.length) : cutV xs (some (i : Int)) none = xs.drop i := by
  unfold cutV
  rw [HT.sIx_nat, HT.sIx_none, Nat.min_eq_left h]
  exact List.take_of_length_le (by rw [List.length_drop]; omega)
theorem vsR_app (xs ys : List Rw) : vsR (xs ++ ys) = vsR xs ++ vsR ys := List.map_append ..
theorem vsR_drop (xs : List Rw) (i : Nat) : (vsR xs).drop i = vsR (xs.drop i) := (List.map_drop ..).symm
theorem ix3 {a b c : V} : atI [a, b, c] 0 = some a := rfl
section
variable {P : Program} {w : World} {K : PySem.W.Frag} {mg : Str → Option Value} {base : Heap}
abbrev mN : List Str := ["one", "other", "told", "first", "second"]
theorem fs_merged : FnScope mN ["one", "other"] (defScope smerged_rows) := ⟨rfl, rfl, rfl, by decide, rfl, by decide +kernel, by decide +kernel⟩
theorem c_merged (T : Tx K mg) : PCal P w K mg base 1 "merged_rows" spMerged := by
  refine pc_mk T.fmerged_rows fs_merged (fun vs H Q E h => by obtain ⟨_, _, _, _, rfl, _⟩ := h; rfl) (fun _ _ _ _ _ _ us hl => match us, hl with | [_, _], _ => rfl) fun f cdv A outer s H vs Q E hr h => ?_
  obtain ⟨a, b, xs, ys, rfl, ha, hb, rx, ry, hz, q⟩ := h
  have nd : mN.Nodup := by decide
  refine ⟨_, pss_cons (ps_set (i := 2) nd rfl (Or.inl rfl) (pe_lst pa_nil)) (pss_cons (ps_asg (pe_tup (pa_cons pe_int (pa_cons pe_int pa_nil))) (pg_tup (by rfl) (pgs_cons (pg_name (i := 3) nd rfl (Or.inl rfl)) (pgs_cons (pg_name (i := 4) nd rfl (Or.inl rfl)) pgs_nil))))
    (pss_cons (ps_while PassesOwn.never (PW.pt (pw_and (pt_cmpR op_lt (pv 3) (pe_callB call_len_seq (by rfl) T.blen PySem.boot_len (pa_cons (pv 0) pa_nil)) (nomark _)) (pw_and1 (pt_cmpR op_lt (pv 4) (pe_callB call_len_seq (by rfl) T.blen PySem.boot_len (pa_cons (pv 1) pa_nil)) (nomark _)))))
      (pss_one (ps_if (pt_cmpR op_lt (pe_ix ix_tup (pe_ix ix_list (pv 1) (pv 4) (fun _ _ => rfl)) pe_int (fun _ _ => rfl)) (pe_ix ix_tup (pe_ix ix_list (pv 0) (pv 3) (fun _ _ => rfl)) pe_int (fun _ _ => rfl)) (nomark _))
        (pss_cons (ps_expr (pe_bm PySem.F.plainAttrs_list PySem.F.slot_list_append PySem.F.type_list_append mt_append (pv 2) (pa_cons (pe_ix ix_list (pv 1) (pv 4) (fun _ _ => rfl)) pa_nil))) (pss_one (ps_aug (i := 4) nd rfl (.inl rfl) pe_int ip_add)))
        (pss_cons (ps_expr (pe_bm PySem.F.plainAttrs_list PySem.F.slot_list_append PySem.F.type_list_append mt_append (pv 2) (pa_cons (pe_ix ix_list (pv 0) (pv 3) (fun _ _ => rfl)) pa_nil))) (pss_one (ps_aug (i := 3) nd rfl (.inl rfl) pe_int ip_add))))))
    (pss_one (ps_ret (pe_op op_cat (pe_op op_cat (pv 2) (pe_slice sl_list (pv 0) (po_some (pv 3)) po_none)) (pe_slice sl_list (pv 1) (po_some (pv 4)) po_none)))))), ?_⟩
  refine ⟨Nat.zero_le _, fun l hl => ?_⟩
  refine ⟨by show 2 ≤ sizeLine; decide, fun tp htp => ⟨tp, _, rfl, SqT.of upd_same, rfl, _, _, rfl, _, _, rfl, rfl, ?_⟩⟩
  have s1 : Same H (upd (upd H l (.lst [])) tp (.tup [.int 0, .int 0])) := (same_upd hl).trans (same_upd htp)
  have ltp : l ≠ tp := fun z => by rw [← z, upd_same] at htp; cases htp
  have hl1 : upd (upd H l (.lst [])) tp (.tup [.int 0, .int 0]) l = some (.lst []) := by rw [upd_ne ltp, upd_same]
  generalize upd (upd H l (.lst [])) tp (.tup [.int 0, .int 0]) = H1 at s1 hl1
  have nl : ∀ {b o}, H b = some o → b ≠ l := fun {b o} e => ne_of_none e hl
  have sub : ∀ {H' : Hp}, But l H1 H' → Same H H' := fun {H'} hb b o e => hb b o (nl e) (s1 b o e)
  refine ⟨fun m σ' H' => ∃ (i j : Nat) (acc : List Rw), σ' = [some (.ref a), some (.ref b), some (.ref l), some (.int i), some (.int j)] ∧ m = (xs.length - i) + (ys.length - j) ∧ i ≤ xs.length ∧ j ≤ ys.length ∧ H' l = some (.lst (vsR acc)) ∧ acc.length = i + j ∧
    acc ++ mergeR (xs.drop i) (ys.drop j) = mergeR xs ys ∧ But l H1 H', ⟨_, 0, 0, [], rfl, rfl, Nat.zero_le _, Nat.zero_le _, hl1, rfl, rfl, fun b o _ e => e⟩, ?_⟩
  rintro m σ' H' ⟨i, j, acc, rfl, rfl, hi, hj, hl2, hal, hmer, hbut⟩
  have sm := sub hbut
  have ha2 := sm _ _ ha
  have hb2 := sm _ _ hb
  have fin : ∀ (h : xs.length ≤ i ∨ ys.length ≤ j), tRet (tOp rCat (tOp rCat (tVar 2) (tSl (rSlL K) (tVar 0) (tPart (tVar 3)) tNoPart)) (tSl (rSlL K) (tVar 1) (tPart (tVar 4)) tNoPart)) { nx := fun _ H' => Q .non H', rt := Q } [some (.ref a), some (.ref b), some (.ref l), some (.int i), some (.int j)] H' := fun h => by
    have hi' : i ≤ (vsR xs).length := by rw [show (vsR xs).length = xs.length from List.length_map ..]; exact hi
    have hj' : j ≤ (vsR ys).length := by rw [show (vsR ys).length = ys.length from List.length_map ..]; exact hj
    refine ⟨_, rfl, _, rfl, _, rfl, (i : Int), rfl, a, _, rfl, SqL.of ha2, fun p1 hp1 => ?_⟩
    have e1 := same_upd (o := .lst (cutV (vsR xs) (some (i : Int)) none)) hp1
    refine ⟨l, p1, vsR acc, _, rfl, rfl, e1 _ _ hl2, upd_same, ?_, fun p2 hp2 => ?_⟩
    · rw [cut_from hi', vsR_drop]
      show (vsR acc).length + _ ≤ _
      unfold vsR
      rw [List.length_map, List.length_map, List.length_drop, hal]
      omega
    have e2 := e1.trans (same_upd (o := .lst (vsR acc ++ cutV (vsR xs) (some (i : Int)) none)) hp2)
    refine ⟨_, rfl, _, rfl, (j : Int), rfl, b, _, rfl, SqL.of (e2 _ _ hb2), fun p3 hp3 => ?_⟩
    have e3 := e2.trans (same_upd (o := .lst (cutV (vsR ys) (some (j : Int)) none)) hp3)
    have n23 : p2 ≠ p3 := fun z => by rw [← z, upd_same] at hp3; cases hp3
    refine ⟨p2, p3, _, _, rfl, rfl, by rw [upd_ne n23]; exact upd_same, upd_same, ?_, fun p4 hp4 => ?_⟩
    · rw [cut_from hi', cut_from hj', vsR_drop, vsR_drop]
      unfold vsR
      rw [List.length_append, List.length_map, List.length_map, List.length_map, List.length_drop, List.length_drop, hal]
      omega
    have e4 := e3.trans (same_upd (o := .lst (vsR acc ++ cutV (vsR xs) (some (i : Int)) none ++ cutV (vsR ys) (some (j : Int)) none)) hp4)
    refine q _ p4 (sm.trans e4) ?_ ?_
    · cases e : H p4 with
      | none => rfl
      | some o => exact absurd ((sm.trans e3) _ _ e) (by rw [hp4]; simp)
    · rw [upd_same, cut_from hi', cut_from hj', vsR_drop, vsR_drop, ← vsR_app, ← vsR_app, ← hmer]
      congr 3
      rw [List.append_assoc]
      congr 1
      rcases h with h | h
      · rw [List.drop_eq_nil_of_le h]
        simp [mergeR]
      · rw [List.drop_eq_nil_of_le h, mergeR_nil, List.append_nil]
  have lenx : (vsR xs).length = xs.length := List.length_map ..
  have leny : (vsR ys).length = ys.length := List.length_map ..
  refine ⟨_, rfl, _, rfl, a, _, rfl, .inl (SqL.of ha2), (i : Int), ((vsR xs).length : Int), rfl, rfl, _, rfl, ?_⟩
  by_cases c1 : i < xs.length
  · rw [show decide ((i : Int) < ((vsR xs).length : Int)) = true from decide_eq_true (by rw [lenx]; omega)]
    refine iteT ⟨_, rfl, _, rfl, b, _, rfl, .inl (SqL.of hb2), (j : Int), ((vsR ys).length : Int), rfl, rfl, _, rfl, ?_⟩
    by_cases c2 : j < ys.length
    · rw [show decide ((j : Int) < ((vsR ys).length : Int)) = true from decide_eq_true (by rw [leny]; omega)]
      refine iteT ⟨fun σ' H' => ∃ m', m' < (xs.length - i) + (ys.length - j) ∧ ∃ (i j : Nat) (acc : List Rw), σ' = [some (.ref a), some (.ref b), some (.ref l), some (.int i), some (.int j)] ∧ m' = (xs.length - i) + (ys.length - j) ∧ i ≤ xs.length ∧ j ≤ ys.length ∧ H' l = some (.lst (vsR acc)) ∧ acc.length = i + j ∧
        acc ++ mergeR (xs.drop i) (ys.drop j) = mergeR xs ys ∧ But l H1 H', fun σ' H' z => z, ?_⟩
      obtain ⟨x, hx⟩ : ∃ x, xs[i]? = some x := ⟨xs[i], List.getElem?_eq_getElem c1⟩
      obtain ⟨y, hy⟩ : ∃ y, ys[j]? = some y := ⟨ys[j], List.getElem?_eq_getElem c2⟩
      have hxv : (vsR xs)[i]? = some (.ref x.at_) := by unfold vsR; rw [List.getElem?_map, hx]; rfl
      have hyv : (vsR ys)[j]? = some (.ref y.at_) := by unfold vsR; rw [List.getElem?_map, hy]; rfl
      have tx : SqT K H' x.at_ [.int x.key, .str x.name, .int (x.place : Nat)] := .inl (rx.same (keeps_same sm) x (List.mem_of_getElem? hx))
      have ty : SqT K H' y.at_ [.int y.key, .str y.name, .int (y.place : Nat)] := .inl (ry.same (keeps_same sm) y (List.mem_of_getElem? hy))
      have dx : xs.drop i = x :: xs.drop (i + 1) := by
        obtain ⟨hh, e⟩ := List.getElem?_eq_some_iff.mp hx
        rw [List.drop_eq_getElem_cons hh, e]
      have dy : ys.drop j = y :: ys.drop (j + 1) := by
        obtain ⟨hh, e⟩ := List.getElem?_eq_some_iff.mp hy
        rw [List.drop_eq_getElem_cons hh, e]
      refine ⟨_, rfl, _, rfl, b, _, (j : Int), _, rfl, rfl, SqL.of hb2, atI_nat hyv, y.at_, _, 0, _, rfl, rfl, ty, ix3, _, rfl, _, rfl, a, _, (i : Int), _, rfl, rfl, SqL.of ha2, atI_nat hxv, x.at_, _, 0, _, rfl, rfl, tx, ix3, y.key, x.key, rfl, rfl, _, rfl, ?_⟩
      by_cases c3 : y.key < x.key
      · rw [decide_eq_true c3]
        refine iteT ⟨_, rfl, .inl ⟨rfl, _, SqL.of hl2⟩, _, rfl, _, rfl, b, _, (j : Int), _, rfl, rfl, SqL.of hb2, atI_nat hyv, l, _, _, rfl, rfl, hl2, ?_, ?_⟩
        · unfold vsR; rw [List.length_map, hal]; omega
        refine ⟨_, rfl, (j : Int), 1, rfl, rfl, _, ?_, i, j + 1, acc ++ [y], rfl, rfl, hi, c2, ?_, ?_, ?_, fun b' o h1 e => ?_⟩
        · omega
        · rw [upd_same, vsR_app]; rfl
        · rw [List.length_append, hal]; rfl
        · rw [List.append_assoc, ← hmer, dx, dy, mergeR, if_pos c3]; rfl
        · rw [upd_ne h1]; exact hbut b' o h1 e
      · rw [decide_eq_false c3]
        refine iteF ⟨_, rfl, .inl ⟨rfl, _, SqL.of hl2⟩, _, rfl, _, rfl, a, _, (i : Int), _, rfl, rfl, SqL.of ha2, atI_nat hxv, l, _, _, rfl, rfl, hl2, ?_, ?_⟩
        · unfold vsR; rw [List.length_map, hal]; omega
        refine ⟨_, rfl, (i : Int), 1, rfl, rfl, _, ?_, i + 1, j, acc ++ [x], rfl, rfl, c1, hj, ?_, ?_, ?_, fun b' o h1 e => ?_⟩
        · omega
        · rw [upd_same, vsR_app]; rfl
        · rw [List.length_append, hal]
          show i + j + 1 = i + 1 + j
          omega
        · rw [List.append_assoc, ← hmer, dx, dy, mergeR, if_neg c3]; rfl
        · rw [upd_ne h1]; exact hbut b' o h1 e
    · rw [show decide ((j : Int) < ((vsR ys).length : Int)) = false from decide_eq_false (by rw [leny]; omega)]
      exact iteF (fin (.inr (by omega)))
  · rw [show decide ((i : Int) < ((vsR xs).length : Int)) = false from decide_eq_false (by rw [lenx]; omega)]
    exact iteF (iteF (fin (.inl (by omega))))
end
end Mu
end
section
set_option Elab.async false
set_option maxRecDepth 100000
set_option autoImplicit false
set_option linter.all false
/-! sorted(rows, key=lambda row: row[0]) -/
namespace Mu
open PySem PySem.Spec L2 Gz PySem.W LamX
open PyProof.Rows hiding St
abbrev lamSc : Scope := { kind := .function, names := [("row", .local)], isGenerator := false, isCoroutine := false, more := [] }
def lamBody (q : Nat → Pos) : Expr := .Subscript (.Name "row" (q 0)) (.Constant (.int 0) 0 (q 1)) (q 2)
def lamArgs (q : Nat → Pos) : Arguments := { posonlyargs := [], args := [{ arg := "row", annotation := none, pos := q 3 }], vararg := none, kwonlyargs := [], kw_defaults := [], kwarg := none, defaults := [] }
theorem seqIndex_first {n : Nat} (h : 0 < n) : seqIndex? 0 n = some 0 := by
  unfold seqIndex?
  have e : ((decide ((0 : Int) ≤ (if (0 : Int) < 0 then 0 + (n : Int) else 0))) && (decide ((if (0 : Int) < 0 then 0 + (n : Int) else 0) < (n : Int)))) = true := by
    rw [if_neg (by decide), Bool.and_eq_true, decide_eq_true_eq, decide_eq_true_eq]
    omega
  exact if_pos e
section
variable {prog : Program} {w : World} {A : Around} {s : Shared}
/-- the call of the lambda on a row -/
theorem lam_call {q : Nat → Pos} {qual : Str} {pm ctv : Value} {c' f t : Addr} {items : Array Value} {k : Int} {tk0 : Tok} (hroom : A.depth < recursionLimit) (lim : s.heap.NoLimit)
    (ho : s.heap.get? f = some (kla_obj "<lambda>" qual (lamArgs q) (lamBody q) lamSc [] pm c' ctv)) (hcd : s.heap.CodeRec (.ref c') qual) (ht : IsTup s.heap t items) (hi : items[0]? = some (.int k tk0)) (hsz : 0 < items.size) :
    wpAny (model prog w) A (call (.ref f) [.ref t]) (fun v s' => v = .int k tk0 ∧ ∃ h' tk, s' = { s with heap := h', toks := tk } ∧ ∀ b o, s.heap.get? b = some o → h'.get? b = some o) (fun _ _ => False) s := by
  refine wpAny_call ?_
  refine kla_callFunE hroom ho rfl rfl rfl rfl hcd ?_
  have hb : bindArgs (kla_fn "<lambda>" qual (lamArgs q) (lamBody q) lamSc [] pm (.ref c') ctv) ⟨[.ref t], []⟩ = pure [((("row" : Str), Value.ref t) : Str × Value)] := rfl
  rw [hb]
  refine wpAny_pure (wpAny_newFunctionEnv (fun x hx => ?_) (fun x hx => ?_) (fun h₁ hns hsb => ⟨lim.fresh _ hsb, ?_⟩) rfl)
  · obtain rfl : x = (("row" : Str), NameKind.local) := by simpa using hx
    decide
  · obtain rfl : x = (("row" : Str), Value.ref t) := by simpa using hx
    rfl
  show codeAny _ _ (.expr (lamBody q) (envX qual lamSc s.heap.objs.size f (.ref c') [])) _ _
  have hk : ∀ b o, s.heap.get? b = some o → h₁.get? b = some o := fun b o e => hsb.extBut b o (Nat.ne_of_lt (Heap.lt_size e)) (Heap.get?_push_of_some _ e)
  refine kla_codeExpr ?_
  refine PyProof.Rows.Subscript_ (wpAny_Name (wpAny_loadName_local (v := .ref t) rfl rfl hns (by rfl) ?_) (by decide))
  refine wpAny_Constant_int ?_
  refine subscriptTail_builtinR (x := .int k tk0) (IsTup.typeIs (ht.keeps hk)) slot_tuple_getitem.lookup (PyProof.Rows.getItem_tuple (j := 0) (ht.keeps hk) (by decide) (by decide) ?_ hi ⟨rfl, ?_⟩)
  · exact seqIndex_first hsz
  · exact ⟨rfl, h₁, _, rfl, hk⟩
/-- what a row's value is -/
def IsRw (h : Heap) (v : Value) (r : Rw) : Prop := v = .ref r.at_ ∧ ∃ its, Vals [.int r.key, .str r.name, .int (r.place : Nat)] its ∧ IsTup h r.at_ its.toArray
theorem IsRw.keeps {h h' : Heap} {v : Value} {r : Rw} (x : IsRw h v r) (k : ∀ b o, h.get? b = some o → h'.get? b = some o) : IsRw h' v r := by
  obtain ⟨e, its, rv, ht⟩ := x
  exact ⟨e, its, rv, ht.keeps k⟩
theorem alike_ints (rs : List Rw) : AllAlike (rs.map fun r => PyData.int r.key) := fun d hd d' hd' => by
  obtain ⟨r, _, rfl⟩ := List.mem_map.mp hd
  obtain ⟨r', _, rfl⟩ := List.mem_map.mp hd'
  rfl
theorem sortable_ints (rs : List Rw) : PySem.W.Sortable (rs.map fun r => PyData.int r.key) := .inr fun d hd => by
  obtain ⟨r, _, rfl⟩ := List.mem_map.mp hd
  exact ⟨(fun z => by cases z), (fun xs z => by cases z)⟩
theorem each_rows {h : Heap} : ∀ {rs : List Rw} {us : List Value}, Vals (vsR rs) us → (∀ r ∈ rs, ∃ its, Vals [.int r.key, .str r.name, .int (r.place : Nat)] its ∧ IsTup h r.at_ its.toArray) → EachIs (IsRw h) us rs
  | [], us, r, _ => by
    cases r
    exact .nil
  | x :: rs, us, r, k => by
    have r' : Vals (x.v :: vsR rs) us := r
    cases r' with
    | cons a b =>
      refine .cons ⟨a, k x List.mem_cons_self⟩ (each_rows b fun y hy => k y (List.mem_cons_of_mem _ hy))
theorem vals_each {h : Heap} : ∀ {us : List Value} {rs : List Rw}, EachIs (IsRw h) us rs → Vals (vsR rs) us
  | _, _, .nil => .nil
  | _, _, .cons ⟨e, _⟩ t => .cons e (vals_each t)
end
/-- rows by their keys, ties as they stood -/
def byKey (rs : List Rw) : List Rw := rs.mergeSort fun x y => decide (x.key ≤ y.key)
/-- nothing but a table may stand at l -/
def New (H : Hp) (l : Addr) : Prop := ∀ o, H l = some o → ∃ ps, o = .tbl ps
theorem New.of {H : Hp} {l : Addr} (h : H l = none) : New H l := fun o e => by rw [h] at e; cases e
theorem New.back {H H' : Hp} {l : Addr} (e : ExtN H H') (h : New H' l) : New H l := fun o x => by
  by_cases y : ∃ ps, o = .tbl ps
  · exact y
  · exact h o (e l o x fun ps z => y ⟨ps, z⟩)
theorem New.ne {H : Hp} {l b : Addr} {o : HO} (n : New H l) (h : H b = some o) (ho : ∀ ps, o ≠ .tbl ps) : b ≠ l := fun z => by
  rw [z] at h
  obtain ⟨ps, e⟩ := n o h
  exact ho ps e
def tSortLam (T : List (Addr × Str)) (te : TE) : TE := fun σ H Q => te σ H fun x H1 => Tabs T H1 ∧ ∃ (a : Addr) (rs : List Rw), x = .ref a ∧ H1 a = some (.lst (vsR rs)) ∧ RowsOk H1 rs ∧
  ∀ H2 l, ExtN H1 H2 → Tabs T H2 → New H1 l → H2 l = some (.lst (vsR (byKey rs))) → Q (.ref l) H2
section
variable {X : Cx} {T : List (Addr × Str)} {c P : Addr} {q : Nat → Pos} {e : Expr} {te : TE} {p pos : Pos}
theorem pe_sortedLam (hg : Gl X "sorted") (hm : X.mg "sorted" = none) (he : PE X e te) (TB : TabB X.base X.mg c P) (hcode : X.env.code = .ref c) (hmT : (P, X.env.qual ++ "<lambda>") ∈ T) (hu : ∀ p ∈ T, p.1 = P → p.2 = X.env.qual ++ "<lambda>")
    (hroom : Room 1 X.A) (hs : starEach [e] X.env = [(false, eval e X.env)] := by rfl) :
    PE X (.Call (.Name "sorted" p) [e] [⟨some "key", .Lambda (lamArgs q) (lamBody q) lamSc (q 4), q 5⟩] pos) (tSortLam T te) := by
  refine ⟨fun pins s σ H Q I h => ?_⟩
  refine wpAny_Call_Name_kw (ld_blt I hg hm boot_sorted ?_ (by decide) (by decide))
  refine PyProof.Rows.callWith_kw (thn ((pa_cons he pa_nil hs).run pos pins s σ H (fun vs H1 => match vs with
    | [x] => Tabs T H1 ∧ ∃ (a : Addr) (rs : List Rw), x = .ref a ∧ H1 a = some (.lst (vsR rs)) ∧ RowsOk H1 rs ∧ ∀ H2 l, ExtN H1 H2 → Tabs T H2 → New H1 l → H2 l = some (.lst (vsR (byKey rs))) → Q (.ref l) H2
    | _ => False) I h) fun us s1 ⟨vs, H1, I1, r1, q1⟩ => ?_) (by rw [hs]; rfl) (by rw [hs]; rfl) (by rfl) (by rfl)
  match vs, r1, q1 with
  | [x], r1, q1 =>
    obtain ⟨hT, a, rs, rfl, ha, hrs, fin⟩ := q1
    obtain ⟨u, rfl, ru⟩ := vals1 r1
    obtain rfl : u = Value.ref a := ru
    show wpAny _ _ (evalAll ((do let v ← eval (.Lambda (lamArgs q) (lamBody q) lamSc (q 4)) X.env; standAt pos; pure v) :: [])) _ _ s1
    refine wpAny_evalAll_cons (wpAny_bind ?_)
    refine lam_make2 I1 TB hcode hmT hu hT rfl (fun y hy e => ?_) fun f c' pm ctv H2 s2 I2 eN T2 hf hfn hfr hco => ?_
    · obtain rfl : y = (("row" : Str), NameKind.local) := by simpa using hy
      cases e
    refine wpAny_bind (wpAny_standAt (wpAny_pure (wpAny_evalAll_nil ?_)))
    show wpAny _ _ (call (.builtin "sorted") [.ref a] [(Str.ofString "key", .ref f)]) _ _ s2
    have ha2 : H2 a = some (.lst (vsR rs)) := eN _ _ ha (fun ps z => by cases z)
    have hrs2 : RowsOk H2 rs := fun r hr => by
      rcases hrs r hr with y | ⟨o, y⟩
      · exact .inl (eN _ _ y (fun ps z => by cases z))
      · exact .inr ⟨o, eN _ _ y (fun ps z => by cases z)⟩
    obtain ⟨hlen, its, nn, rv, hget⟩ := I2.hok a _ ha2
    have hlist : s2.heap.IsList a its.toArray := ⟨_, hget, rfl, nn, rfl⟩
    have hrow : ∀ r ∈ rs, ∃ its, Vals [.int r.key, .str r.name, .int (r.place : Nat)] its ∧ IsTup s2.heap r.at_ its.toArray := fun r hr => by
      obtain ⟨_, its, rv, ht⟩ := (hrs2 r hr).ok I2.hok
      exact ⟨its, rv, ht⟩
    obtain ⟨oc, vs1, t1, hoc, hdc, hv1⟩ := (I2.hok c' _ hco).1
    have hlr : rs.length ≤ sizeLine := by
      unfold vsR at hlen
      rw [List.length_map] at hlen
      exact hlen
    refine PySem.W.sorted_key_data (bs := rs) (R := IsRw s2.heap) (b := false) (fun r => PyData.int r.key) hlist (each_rows rv hrow) (alike_ints rs) (sortable_ints rs) hlr (fun x _ => ?_) (PyProof.Rows.ksk_s1 _ _) (fun _ => PyProof.Rows.ksk_l1 _ _) (fun x => ksk_t1 f x) (fun v r hv hr h3 tk hk => ?_) fun out c3 h3 tk hk hn hg hol hout => ?_
    · have := hroom.un
      have e : (PyData.int x.key).depth = 0 := by simp [PyData.depth]
      rw [e]
      omega
    · obtain ⟨rfl, its3, rv3, ht3⟩ := hv
      have hi : ∃ t0 rest, its3 = .int r.key t0 :: rest := by
        cases rv3 with
        | cons x y =>
          obtain ⟨t0, rfl⟩ := x
          exact ⟨t0, _, rfl⟩
      obtain ⟨t0, rest, rfl⟩ := hi
      have hd : X.A.in1.in1.depth < recursionLimit := hroom.depth
      refine wpAny_mono (lam_call (q := q) (s := { s2 with heap := h3, toks := tk }) (k := r.key) (tk0 := t0) hd (Inv.nolimit I2 |>.keeps hk) (hk f _ hf) ⟨c', oc, vs1, t1, rfl, hk c' _ hoc, hdc, hv1⟩ (ht3.keeps hk) rfl (by show 0 < (Value.int r.key t0 :: rest).toArray.size; simp)) (fun v2 s3 z => ?_) fun _ _ z => z
      obtain ⟨rfl, h4, tk4, rfl, hk4⟩ := z
      exact ⟨h4, tk4, rfl, hk4, Reads.int _ _⟩
    · rw [PySem.W.dataLe_int] at hout
      have rvo : Vals (vsR (byKey rs)) out := vals_each hout
      have hbl : (byKey rs).length = rs.length := List.length_mergeSort ..
      have new : ObjOk X.prog X.w (upd H2 (s2.heap.objs.size + 1) (.lst (vsR (byKey rs)))) h3 (s2.heap.objs.size + 1) (.lst (vsR (byKey rs))) := by
        refine ⟨?_, out, c3, rvo, hg⟩
        unfold vsR
        rw [List.length_map, hbl]
        exact hlr
      have I3 := I2.laid (t' := tk) hk (Nat.le_succ _) new
      have hl2 : H2 (s2.heap.objs.size + 1) = none := I2.hok.fresh (Nat.le_succ _)
      refine ⟨.ref _, _, I3, rfl, fin _ _ (eN.trans (.of (same_upd hl2))) (T2.ext (same_upd hl2)) (New.back eN (New.of hl2)) upd_same⟩
end
end Mu
end
section
set_option Elab.async false
set_option maxRecDepth 100000
set_option autoImplicit false
set_option linter.all false
/-! rows_of: the mirror -/
namespace Mu
open PySem PySem.Spec L2 Gz PySem.W LamX
open PyProof.Rows hiding St
abbrev Tri := Int × Str × Nat
def Rw.t (r : Rw) : Tri := (r.key, r.name, r.place)
def mergeT : List Tri → List Tri → List Tri
  | [], ys => ys
  | x :: xs, [] => x :: xs
  | x :: xs, y :: ys => if y.1 < x.1 then y :: mergeT (x :: xs) ys else x :: mergeT xs (y :: ys)
termination_by xs ys => xs.length + ys.length
theorem mergeT_map : ∀ (xs ys : List Rw), (mergeR xs ys).map Rw.t = mergeT (xs.map Rw.t) (ys.map Rw.t)
  | [], ys => by simp [mergeR, mergeT]
  | x :: xs, [] => by simp [mergeR, mergeT]
  | x :: xs, y :: ys => by
    rw [mergeR, List.map_cons, List.map_cons, mergeT]
    show _ = if y.key < x.key then _ else _
    by_cases c : y.key < x.key
    · rw [if_pos c, if_pos c, List.map_cons, mergeT_map (x :: xs) ys]; rfl
    · rw [if_neg c, if_neg c, List.map_cons, mergeT_map xs (y :: ys)]; rfl
termination_by xs ys => xs.length + ys.length
def byKeyT (l : List Tri) : List Tri := l.mergeSort fun x y => decide (x.1 ≤ y.1)
theorem byKeyT_map (rs : List Rw) : (byKey rs).map Rw.t = byKeyT (rs.map Rw.t) := by
  unfold byKey byKeyT
  exact List.map_mergeSort (f := Rw.t) (r := fun x y => decide (x.key ≤ y.key)) (s := fun x y : Tri => decide (x.1 ≤ y.1)) fun a _ b _ => rfl
def stepT (m : Bool) (told rows : List Tri) : List Tri := if m then mergeT told rows else told ++ rows
mutual
def rowsT (ls : Str → List Int) : AP → List Tri
  | .scan _ x => (ls x).zipIdx.map fun e => (e.1, x, e.2)
  | .sort _ p => byKeyT (rowsT ls p)
  | .many _ _ m ps => rowsF ls m ps []
def rowsF (ls : Str → List Int) (m : Bool) : List AP → List Tri → List Tri
  | [], told => told
  | p :: ps, told => rowsF ls m ps (stepT m told (rowsT ls p))
end
theorem mergeT_length : ∀ (xs ys : List Tri), (mergeT xs ys).length = xs.length + ys.length
  | [], ys => by simp [mergeT]
  | x :: xs, [] => by simp [mergeT]
  | x :: xs, y :: ys => by
    rw [mergeT]
    split
    · rw [List.length_cons, mergeT_length (x :: xs) ys]; simp only [List.length_cons]; omega
    · rw [List.length_cons, mergeT_length xs (y :: ys)]; simp only [List.length_cons]; omega
termination_by xs ys => xs.length + ys.length
theorem stepT_length (m : Bool) (a b : List Tri) : (stepT m a b).length = a.length + b.length := by
  unfold stepT
  cases m
  · rw [if_neg Bool.false_ne_true, List.length_append]
  · rw [if_pos rfl, mergeT_length]
theorem rowsF_ge (ls : Str → List Int) (m : Bool) : ∀ (ps : List AP) (told : List Tri), told.length ≤ (rowsF ls m ps told).length
  | [], told => by simp [rowsF]
  | p :: ps, told => by
    rw [rowsF]
    refine Nat.le_trans ?_ (rowsF_ge ls m ps _)
    rw [stepT_length]
    omega
/-- is it a merge, is it a sort -/
def isM : AP → Bool
  | .many _ _ m _ => m
  | _ => false
def isS : AP → Bool
  | .sort _ _ => true
  | _ => false
def isScan : AP → Bool
  | .scan _ _ => true
  | _ => false
theorem rowsT_eq (ls : Str → List Int) (p : AP) (h : isScan p = false) : rowsT ls p = if isS p then byKeyT (rowsF ls (isM p) p.kids []) else rowsF ls (isM p) p.kids [] := by
  cases p with
  | scan a x => cases h
  | sort a r =>
    show rowsT ls (.sort a r) = byKeyT (rowsF ls false [r] [])
    simp [rowsT, rowsF, stepT]
  | many a c m ps =>
    show rowsT ls (.many a c m ps) = rowsF ls m ps []
    simp [rowsT]
def lsOf (es : Ents) (x : Str) : List Int := ((es.find? fun e => decide (e.1 = x)).map fun e => e.2.2).getD []
theorem lsOf_at : ∀ {es : Ents} {x : Str} {a : Addr} {ns : List Int}, (es.map (·.1)).Nodup → (x, a, ns) ∈ es → lsOf es x = ns
  | e :: es, x, a, ns, nd, h => by
    unfold lsOf
    rcases List.mem_cons.mp h with z | z
    · subst z
      rw [List.find?_cons]
      simp
    · have hne : e.1 ≠ x := fun y => by
        rw [List.map_cons, List.nodup_cons] at nd
        exact nd.1 (List.mem_map.mpr ⟨_, z, y.symm⟩)
      have ih := lsOf_at (by rw [List.map_cons, List.nodup_cons] at nd; exact nd.2) z
      rw [List.find?_cons, decide_eq_false hne]
      exact ih
/-- rows_of: a new list of rows, as the mirror says -/
def spRowsOf (T : List (Addr × Str)) (d : Nat) : Sp := fun vs H Q _ => ∃ (p : AP) (dd : Addr) (es : Ents), vs = [.ref p.root, .ref dd] ∧ p.Ok (tups H) ∧ p.depth ≤ d ∧ Inp H dd es ∧ (∀ x ∈ scans p, ∃ a ns, (x, a, ns) ∈ es) ∧ (rowsT (lsOf es) p).length < sizeLine ∧ Tabs T H ∧
  ∀ H' l rs, ExtN H H' → Tabs T H' → New H l → H' l = some (.lst (vsR rs)) → RowsOk H' rs → rs.map Rw.t = rowsT (lsOf es) p → Q (.ref l) H'
theorem keeps_ext {H H' : Hp} (e : ExtN H H') : Keeps H H' := fun a ys r => by
  rcases r with y | ⟨o, y⟩
  · exact .inl (e _ _ y fun ps z => by cases z)
  · exact .inr ⟨o, e _ _ y fun ps z => by cases z⟩
theorem Inp.ext {H H' : Hp} {d : Addr} {es : Ents} (h : Inp H d es) (s : ExtN H H') : Inp H' d es := ⟨s _ _ h.dict fun ps z => (by cases z), fun e he => s _ _ (h.rows e he) fun ps z => (by cases z), h.nd⟩
end Mu
end
section
set_option Elab.async false
set_option maxRecDepth 100000
set_option autoImplicit false
set_option linter.all false
/-! rows_of -/
namespace Mu
open PySem PySem.Spec L2 Gz PySem.W LamX
open PyProof.Rows hiding St
abbrev lamQ : Str := Str.ofString "rows_of" ++ ".<locals>." ++ "<lambda>"
/-- rows_of's code and its table -/
structure RowsCode (K : PySem.W.Frag) (mg : Str → Option Value) (base : Heap) (T : List (Addr × Str)) : Prop where
  ex : ∃ (f : Addr) (oc : Value) (od : Option Addr) (kV doc pm : Value) (an : Option Addr) (c : Addr) (ct : Value) (osl : Array (Option Value)) (P : Addr), mg "rows_of" = some (.ref f) ∧
    K.lookup f = some ⟨oc, od, .func (PySem.W.fnOf "rows_of" "rows_of" (defArgs srows_of) (defBody srows_of) (defScope srows_of) .none kV doc pm an (.ref c) ct), osl⟩ ∧ PySem.W.codeIn K (.ref c) "rows_of" = true ∧ PySem.W.keepIn K (.ref f) = true ∧
    TabB base mg c P ∧ (P, lamQ) ∈ T ∧ ∀ p ∈ T, p.1 = P → p.2 = lamQ
abbrev oN : List Str := ["plan", "inputs", "told", "part", "rows", "place", "key"]
theorem fs_rows : FnScope oN ["plan", "inputs"] (defScope srows_of) := ⟨rfl, rfl, rfl, by decide, rfl, by decide +kernel, by decide +kernel⟩
section
variable {P : Program} {w : World} {K : PySem.W.Frag} {mg : Str → Option Value} {base : Heap} {T : List (Addr × Str)}
/-- the promise by the body, the code known -/
theorem rows_mk (R : RowsCode K mg base T) {k : Nat} {sp : Sp} (len : ∀ vs H Q E, sp vs H Q E → vs.length = 2)
    (hbody : ∀ (f c Pt : Addr) (A : Around) (outer : List Env) (s : Shared) (H : Hp) (vs : List V) (Q : VK) (E : XK), TabB base mg c Pt → (Pt, lamQ) ∈ T → (∀ p ∈ T, p.1 = Pt → p.2 = lamQ) → Room k (A.deeper (envOfC "rows_of" (defScope srows_of) s.heap.objs.size f (.ref c))) → sp vs H Q E →
      ∃ t, PSs (cxOf CX0 P w K mg base oN "rows_of" (defScope srows_of) f (.ref c) A outer s H E).nox (defBody srows_of) t ∧ t { nx := fun _ H' => Q .non H', rt := Q } (start oN vs) H) : PCal P w K mg base (k + 1) "rows_of" sp := by
  obtain ⟨f, oc, od, kV, doc, pm, an, c, ct, osl, Pt, hm, lk, hcd, hkp, tb, hT, hu⟩ := R.ex
  refine ⟨⟨f, _, ["plan", "inputs"], fn_of lk hcd fs_rows len (fun A outer s H vs Q E hr hsp => ?_), hm, hkp, .all fun us hl => ?_⟩⟩
  · obtain ⟨t, h, q⟩ := hbody f c Pt A outer s H vs Q E tb hT hu hr hsp
    exact ⟨t, h.nox, q⟩
  · match us, hl with
    | [_, _], _ => rfl
theorem nd_o : oN.Nodup := by decide
abbrev tScan (K : PySem.W.Frag) : TE := tLc (iEnum K (tCons (tDGet (tVar 1) (tOp (rIxT K) (tVar 0) (tC (.int 1)))) tNil)) (gTup K 2 (gCons (gName 5) (gCons (gName 6) gNil))) tYes (tTup (tCons (tVar 6) (tCons (tOp (rIxT K) (tVar 0) (tC (.int 1))) (tCons (tVar 5) tNil)))) [5, 6]
/-- what the scan's comprehension gives -/
theorem scan_read {H : Hp} {Q : VK} {p : AP} {dd a : Addr} {es : Ents} {x : Str} {ns : List Int} {v2 v3 v4 v5 v6 : Option V} (sq : SqT K H p.root [.str "scan", .str x]) (inp : Inp H dd es) (hin : (x, a, ns) ∈ es) (hz : ns.length < sizeLine)
    (q : ∀ H' l rs, Same H H' → H l = none → H' l = some (.lst (vsR rs)) → RowsOk H' rs → rs.map Rw.t = ns.zipIdx.map (fun e => (e.1, x, e.2)) → Q (.ref l) H') : tScan K [some (.ref p.root), some (.ref dd), v2, v3, v4, v5, v6] H Q := by
  have ha := inp.rows _ hin
  have hg : DGet H dd (.str x) (some (.ref a)) := by
    have := DGet.k (k := Sum.inr x) inp.dict
    rw [valV_ents inp.nd hin] at this
    exact this
  refine ⟨_, rfl, _, rfl, p.root, _, 1, _, rfl, rfl, sq, ix1, dd, .ref a, rfl, hg, a, _, rfl, SqL.of ha, fun D hD => lc_it (walk_enum (xs := ns.map V.int))
    (fun i H' => ∃ rs : List Rw, H' D = some (.lst (vsR rs)) ∧ RowsOk H' rs ∧ rs.map Rw.t = (ns.zipIdx.take i).map (fun e => (e.1, x, e.2)) ∧ Same H H') ⟨[], upd_same, fun r hr => (by cases hr), rfl, same_upd hD⟩ (fun i H' _ h => ?_) (fun i v H1 H2 hi hp hv => ?_) fun H1 hp => ?_⟩
  · obtain ⟨_, _, _, _, s⟩ := h
    exact SqL.of (s _ _ ha)
  · obtain ⟨rs, h1, h2, h3, h4⟩ := hp
    obtain ⟨Tp, x1, y1, rfl, hTp, rfl, e1, e2⟩ := hv
    obtain rfl : V.int (i : Nat) = x1 := Option.some.inj e1
    have e2 : (ns.map V.int)[i]? = some y1 := e2
    rw [List.getElem?_map] at e2
    obtain ⟨k, hk, rfl⟩ := Option.map_eq_some_iff.mp e2
    have hi' : i < ns.length := by rw [List.length_map] at hi; exact hi
    have DT : D ≠ Tp := fun z => by rw [z, hTp] at h1; cases h1
    have s1 := h4.trans (same_upd (o := .tup [.int (i : Nat), .int k]) hTp)
    have h1' : upd H1 Tp (.tup [.int (i : Nat), .int k]) D = some (.lst (vsR rs)) := by rw [upd_ne DT]; exact h1
    have h2' : RowsOk (upd H1 Tp (.tup [.int (i : Nat), .int k])) rs := h2.same (keeps_same (same_upd hTp))
    refine ⟨Tp, _, rfl, SqT.of upd_same, rfl, _, _, rfl, _, _, rfl, rfl, rfl, ?_⟩
    refine iteT (B := ∃ rs : List Rw, upd H1 Tp (.tup [.int (i : Nat), .int k]) D = some (.lst (vsR rs)) ∧ RowsOk (upd H1 Tp (.tup [.int (i : Nat), .int k])) rs ∧ rs.map Rw.t = (ns.zipIdx.take (i + 1)).map (fun e => (e.1, x, e.2)) ∧ Same H (upd H1 Tp (.tup [.int (i : Nat), .int k]))) ?_
    generalize upd H1 Tp (.tup [.int (i : Nat), .int k]) = H2 at s1 h1' h2'
    have sq2 : SqT K H2 p.root [.str "scan", .str x] := by
      rcases sq with (y | ⟨o, y⟩) | y
      · exact .inl (.inl (s1 _ _ y))
      · exact .inl (.inr ⟨o, s1 _ _ y⟩)
      · exact .inr y
    have hrl : rs.length = i := by
      have := congrArg List.length h3
      rw [List.length_map, List.length_map, List.length_take, List.length_zipIdx] at this
      omega
    refine ⟨_, rfl, _, rfl, p.root, _, 1, _, rfl, rfl, sq2, ix1, _, rfl, by show 3 ≤ sizeLine; decide, fun tt htt => ?_⟩
    have Dt : D ≠ tt := fun z => by rw [z, htt] at h1'; cases h1'
    have s3 := same_upd (o := .tup [.int k, .str x, .int (i : Nat)]) htt
    refine ⟨vsR rs, s3 _ _ h1', by unfold vsR; rw [List.length_map, hrl]; omega, rs ++ [⟨tt, k, x, i⟩], ?_, fun r hr => ?_, ?_, fun b o e => ?_⟩
    · rw [upd_same, vsR_app]; rfl
    · rcases List.mem_append.mp hr with y | y
      · rcases (h2'.same (keeps_same s3)) r y with z | ⟨o, z⟩
        · exact .inl (by rw [upd_ne (fun e => by rw [e, s3 _ _ h1'] at z; cases z)]; exact z)
        · exact .inr ⟨o, by rw [upd_ne (fun e => by rw [e, s3 _ _ h1'] at z; cases z)]; exact z⟩
      · obtain rfl : r = ⟨tt, k, x, i⟩ := by simpa using y
        exact .inl (by rw [upd_ne Dt.symm, upd_same])
    · have e4 : ns.zipIdx[i]? = some (k, i) := by rw [List.getElem?_zipIdx, hk]; simp
      rw [List.map_append, h3, List.take_add_one, e4, List.map_append]
      rfl
    · rw [upd_ne (ne_of_none e hD)]; exact s3 _ _ (s1 _ _ e)
  · obtain ⟨rs, h1, h2, h3, h4⟩ := hp
    refine q H1 D rs h4 hD h1 h2 ?_
    rw [h3, List.length_map, List.take_of_length_le (by simp)]
/-- no plan deeper than a scan -/
theorem c_rows0 (Tx0 : Tx K mg) (R : RowsCode K mg base T) : PCal P w K mg base 2 "rows_of" (spRowsOf T 0) := by
  refine rows_mk R (fun vs H Q E h => by obtain ⟨_, _, _, rfl, _⟩ := h; rfl) fun f c Pt A outer s H vs Q E TB hT hu hr h => ?_
  obtain ⟨p, dd, es, rfl, ok, hd, inp, hall, hz, tab, q⟩ := h
  have hu1 := hu_of hr
  have nd := nd_o
  refine ⟨_, pss_cons (ps_if (pt_cmpR op_eq (pe_ix ix_tup (pv 0) pe_int (fun _ _ => rfl)) pe_str (nomark _)) (pss_one (ps_ret (pe_lc (own := [("place", 5), ("key", 6)]) (g := gTup K 2 (gCons (gName 5) (gCons (gName 6) gNil))) (tt := tYes) (te := tTup (tCons (tVar 6) (tCons (tOp (rIxT K) (tVar 0) (tC (.int 1))) (tCons (tVar 5) tNil)))) rfl nd
    (pi_enum (by rfl) Tx0.benumerate (pa_cons (pe_dget hu1 (pv 1) (pe_ix ix_tup (pv 0) pe_int (fun _ _ => rfl)) (fun _ _ => rfl)) pa_nil)) (blkOk_by (N := oN) (sc := defScope srows_of) (by decide +kernel)) (fun _ _ _ _ _ => pg_tup rfl (pgs_cons (pg_name (i := 5) nd rfl (Or.inl rfl) (Or.inr rfl)) (pgs_cons (pg_name (i := 6) nd rfl (Or.inl rfl) (Or.inr rfl)) pgs_nil)))
    (fun _ _ _ _ _ => pts_nil) (fun _ _ _ _ _ => pe_tup (pa_cons (pv 6) (pa_cons (pe_ix ix_tup (pv 0) pe_int (fun _ _ => rfl)) (pa_cons (pv 5) pa_nil)))))))
    pss_nil) pss_never, ?_⟩
  obtain ⟨kw, v, hp, cases3⟩ := ok_pair ok
  have sq : SqT K H p.root [.str kw, v] := .inl hp
  refine ⟨_, rfl, p.root, _, 0, _, rfl, rfl, sq, ix0, rfl, _, rfl, ?_⟩
  rcases cases3 with ⟨x, e, rfl, rfl, hx⟩ | ⟨r, e, rfl, rfl, hr2⟩ | ⟨c, m, ps, e, rfl, rfl, hc, hne, -⟩
  · have hxs : x ∈ scans p := by rw [e]; simp [scans, subs, nm]
    obtain ⟨a, ns, hin⟩ := hall x hxs
    have el : lsOf es x = ns := lsOf_at inp.nd hin
    have er : rowsT (lsOf es) p = ns.zipIdx.map (fun e => (e.1, x, e.2)) := by rw [e, rowsT, el]
    refine iteT (scan_read sq inp hin (by rw [er, List.length_map, List.length_zipIdx] at hz; exact hz) fun H' l rs s1 hl hl2 h1 h2 => q H' l rs (.of s1) (tab.ext s1) (New.of hl) hl2 h1 (by rw [h2, er]))
  · rw [e] at hd
    simp [AP.depth] at hd
  · rw [e] at hd
    simp [AP.depth] at hd
end
end Mu
end
section
set_option Elab.async false
set_option maxRecDepth 100000
set_option autoImplicit false
set_option linter.all false
/-! rows_of of deeper plans -/
namespace Mu
open PySem PySem.Spec L2 Gz PySem.W LamX
open PyProof.Rows hiding St
theorem rowsF_snoc (ls : Str → List Int) (m : Bool) (r : AP) : ∀ (ps : List AP) (told : List Tri), rowsF ls m (ps ++ [r]) told = stepT m (rowsF ls m ps told) (rowsT ls r)
  | [], told => by simp [rowsF]
  | p :: ps, told => by
    rw [List.cons_append, rowsF, rowsF]
    exact rowsF_snoc ls m r ps _
theorem rowsF_app (ls : Str → List Int) (m : Bool) : ∀ (ps qs : List AP) (told : List Tri), rowsF ls m (ps ++ qs) told = rowsF ls m qs (rowsF ls m ps told)
  | [], qs, told => by simp [rowsF]
  | p :: ps, qs, told => by
    rw [List.cons_append, rowsF, rowsF]
    exact rowsF_app ls m ps qs _
theorem take_snoc {α : Type} {l : List α} {i : Nat} {x : α} (h : l[i]? = some x) : l.take (i + 1) = l.take i ++ [x] := by
  rw [List.take_add_one, h]
  rfl
theorem subsL_mem : ∀ {ps : List AP} {r z : AP}, r ∈ ps → z ∈ subs r → z ∈ subsL ps
  | p :: ps, r, z, h, hz => by
    rw [subsL, List.mem_append]
    rcases List.mem_cons.mp h with rfl | h
    · exact .inl hz
    · exact .inr (subsL_mem h hz)
theorem scans_kid {p r : AP} (h : r ∈ p.kids) {x : Str} (hx : x ∈ scans r) : x ∈ scans p := by
  obtain ⟨z, hz, hx⟩ := List.mem_flatMap.mp hx
  refine List.mem_flatMap.mpr ⟨z, ?_, hx⟩
  cases p with
  | scan a y => cases h
  | sort a q =>
    obtain rfl : r = q := by simpa [AP.kids] using h
    simp [subs, hz]
  | many a c m ps =>
    rw [subs]
    exact List.mem_cons_of_mem _ (subsL_mem h hz)
/-- what a deeper plan's word says -/
theorem word_of {H : Hp} {p : AP} (ok : p.Ok (tups H)) (h : isScan p = false) : ∃ (kw : Str) (v : V), Rd H p.root (.tup [.str kw, v]) ∧ decide (V.str kw = V.str "scan") = false ∧ decide (V.str kw = V.str "merge") = isM p ∧ decide (V.str kw = V.str "sort") = isS p := by
  obtain ⟨kw, v, hp, c3⟩ := ok_pair ok
  refine ⟨kw, v, hp, ?_⟩
  rcases c3 with ⟨x, e, rfl, rfl, hx⟩ | ⟨r, e, rfl, rfl, hr2⟩ | ⟨c, m, ps, e, rfl, rfl, hc, hne, -⟩
  · rw [e] at h; cases h
  · rw [e]
    exact ⟨show decide (V.str "sort" = V.str "scan") = false by decide, show decide (V.str "sort" = V.str "merge") = false by decide, show decide (V.str "sort" = V.str "sort") = true by decide⟩
  · rw [e]
    cases m with
    | false => exact ⟨show decide (V.str "append" = V.str "scan") = false by decide, show decide (V.str "append" = V.str "merge") = false by decide, show decide (V.str "append" = V.str "sort") = false by decide⟩
    | true => exact ⟨show decide (V.str "merge" = V.str "scan") = false by decide, show decide (V.str "merge" = V.str "merge") = true by decide, show decide (V.str "merge" = V.str "sort") = false by decide⟩
theorem rows_take (ls : Str → List Int) (m : Bool) (ps : List AP) (i : Nat) : (rowsF ls m (ps.take i) []).length ≤ (rowsF ls m ps []).length := by
  have e := rowsF_app ls m (ps.take i) (ps.drop i) []
  rw [List.take_append_drop] at e
  rw [e]
  exact rowsF_ge ls m _ _
/-- parts_of, the tuple new or not -/
theorem parts_both {p : AP} {H : Hp} {Q : VK} {E : XK} (ok : p.Ok (tups H)) (h : ∀ c H2, Same H H2 → Rd H2 c (.tup (rootsV p.kids)) → Q (.ref c) H2) : spParts [.ref p.root] H Q E :=
  ⟨p, rfl, ok, fun c hc => h c H (Same.refl H) hc, fun c hc => h c _ (same_upd hc) (.inl upd_same)⟩
theorem rows_len {ls : Str → List Int} {p : AP} (h : isScan p = false) : (rowsT ls p).length = (rowsF ls (isM p) p.kids []).length := by
  rw [rowsT_eq ls p h]
  split
  · exact List.length_mergeSort ..
  · rfl
theorem Tabs.keepN {T : List (Addr × Str)} {H H' : Hp} (t : Tabs T H) (e : Same H H') : Tabs T H' := t.ext e
theorem RowsOk.ext {H H' : Hp} {rs : List Rw} (h : RowsOk H rs) (e : ExtN H H') : RowsOk H' rs := h.same (keeps_ext e)
section
variable {P : Program} {w : World} {K : PySem.W.Frag} {mg : Str → Option Value} {base : Heap} {T : List (Addr × Str)}
theorem c_rowsS (Tx0 : Tx K mg) (R : RowsCode K mg base T) {d k : Nat} (ih : PCal P w K mg base (k + 1) "rows_of" (spRowsOf T d)) : PCal P w K mg base (k + 2) "rows_of" (spRowsOf T (d + 1)) := by
  refine rows_mk R (fun vs H Q E h => by obtain ⟨_, _, _, rfl, _⟩ := h; rfl) fun f c Pt A outer s H vs Q E TB hT hu hr h => ?_
  obtain ⟨p, dd, es, rfl, ok, hd, inp, hall, hz, tab, q⟩ := h
  have hu1 := hu_of hr
  have nd := nd_o
  have hr1 : Room 1 (A.deeper (envOfC "rows_of" (defScope srows_of) s.heap.objs.size f (.ref c))) := hr.mono (Nat.le_add_left 1 k)
  refine ⟨_, pss_cons (ps_if (pt_cmpR op_eq (pe_ix ix_tup (pv 0) pe_int (fun _ _ => rfl)) pe_str (nomark _)) (pss_one (ps_ret (pe_lc (own := [("place", 5), ("key", 6)]) (g := gTup K 2 (gCons (gName 5) (gCons (gName 6) gNil))) (tt := tYes) (te := tTup (tCons (tVar 6) (tCons (tOp (rIxT K) (tVar 0) (tC (.int 1))) (tCons (tVar 5) tNil)))) rfl nd
    (pi_enum (by rfl) Tx0.benumerate (pa_cons (pe_dget hu1 (pv 1) (pe_ix ix_tup (pv 0) pe_int (fun _ _ => rfl)) (fun _ _ => rfl)) pa_nil)) (blkOk_by (N := oN) (sc := defScope srows_of) (by decide +kernel)) (fun _ _ _ _ _ => pg_tup rfl (pgs_cons (pg_name (i := 5) nd rfl (Or.inl rfl) (Or.inr rfl)) (pgs_cons (pg_name (i := 6) nd rfl (Or.inl rfl) (Or.inr rfl)) pgs_nil)))
    (fun _ _ _ _ _ => pts_nil) (fun _ _ _ _ _ => pe_tup (pa_cons (pv 6) (pa_cons (pe_ix ix_tup (pv 0) pe_int (fun _ _ => rfl)) (pa_cons (pv 5) pa_nil)))))))
    pss_nil) (pss_cons (ps_set (i := 2) nd rfl (Or.inl rfl) (pe_lst pa_nil))
    (pss_cons (ps_for PassesOwn.never rfl (pi_tup (pcal (c_parts Tx0) hr (by omega) (by rfl) (pa_cons (pv 0) pa_nil))) (pg_name (i := 3) nd rfl (Or.inl rfl))
      (pss_cons (ps_set (i := 4) nd rfl (Or.inl rfl) (pcal ih hr (Nat.le_refl _) (by rfl) (pa_cons (pv 3) (pa_cons (pv 1) pa_nil))))
      (pss_one (ps_set (i := 2) nd rfl (Or.inl rfl) (pe_ifExp (pt_cmpR op_eq (pe_ix ix_tup (pv 0) pe_int (fun _ _ => rfl)) pe_str (nomark _)) (pcal (c_merged Tx0) hr (by omega) (by rfl) (pa_cons (pv 2) (pa_cons (pv 4) pa_nil))) (pe_op op_cat (pv 2) (pv 4)))))))
    (pss_one (ps_ret (pe_ifExp (pt_cmpR op_eq (pe_ix ix_tup (pv 0) pe_int (fun _ _ => rfl)) pe_str (nomark _)) (pe_sortedLam (q := fun i => (([⟨74, 40, 74, 43⟩, ⟨74, 44, 74, 45⟩, ⟨74, 40, 74, 46⟩, ⟨74, 35, 74, 38⟩, ⟨74, 28, 74, 46⟩, ⟨74, 24, 74, 46⟩] : List Pos)[i]?).getD ⟨0, 0, 0, 0⟩) (by rfl) Tx0.bsorted (pv 2) TB rfl hT hu hr1) (pv 2)))))), ?_⟩
  cases hsc : isScan p with
  | true =>
    obtain ⟨a0, x, e⟩ : ∃ a x, p = .scan a x := by
      cases p with
      | scan a x => exact ⟨_, _, rfl⟩
      | sort a r => cases hsc
      | many a c m ps => cases hsc
    subst e
    have hp : Rd H (AP.scan a0 x).root (.tup [.str "scan", .str x]) := tups_rd.mp ok.1
    have hxs : x ∈ scans (AP.scan a0 x) := by simp [scans, subs, nm]
    obtain ⟨a, ns, hin⟩ := hall x hxs
    have el : lsOf es x = ns := lsOf_at inp.nd hin
    have er : rowsT (lsOf es) (AP.scan a0 x) = ns.zipIdx.map (fun e => (e.1, x, e.2)) := by rw [rowsT, el]
    refine ⟨_, rfl, _, _, 0, _, rfl, rfl, .inl hp, ix0, rfl, _, rfl, ?_⟩
    exact iteT (scan_read (.inl hp) inp hin (by rw [er, List.length_map, List.length_zipIdx] at hz; exact hz) fun H' l rs s1 hl hl2 h1 h2 => q H' l rs (.of s1) (tab.ext s1) (New.of hl) hl2 h1 (by rw [h2, er]))
  | false =>
    obtain ⟨kw, v, hp, w1, w2, w3⟩ := word_of ok hsc
    refine ⟨_, rfl, p.root, _, 0, _, rfl, rfl, .inl hp, ix0, rfl, _, rfl, ?_⟩
    rw [w1]
    refine iteF ⟨Nat.zero_le _, fun l hl => ?_⟩
    have s1 := same_upd (o := .lst []) hl
    have tab1 := tab.ext s1
    have hl1 : upd H l (.lst []) l = some (.lst []) := upd_same
    have newl : New H l := New.of hl
    generalize upd H l (.lst []) = H1 at s1 tab1 hl1 ⊢
    have tot : ∀ i, (rowsF (lsOf es) (isM p) (p.kids.take i) []).length < sizeLine := fun i => Nat.lt_of_le_of_lt (rows_take ..) (by rw [← rows_len hsc]; exact hz)
    have lenV : (rootsV p.kids).length = p.kids.length := List.length_map ..
    have lenR : ∀ rs : List Rw, (vsR rs).length = rs.length := fun rs => List.length_map ..
    refine ⟨_, rfl, ?_⟩
    dsimp only [tNil, List.append_nil]
    refine parts_both (ok_keeps (keeps_same s1) ok) ?_
    refine (fun c H2 s2 hc => ⟨c, rfl, ⟨_, .inl hc⟩, for_tup (D := { nx := _, rt := Q }) (xs := rootsV p.kids)
      (fun i σ' H' => ∃ (v3 v4 v5 v6 : Option V) (t : Addr) (rs : List Rw), σ' = [some (.ref p.root), some (.ref dd), some (.ref t), v3, v4, v5, v6] ∧ ExtN H2 H' ∧ Tabs T H' ∧ New H t ∧ H' t = some (.lst (vsR rs)) ∧ RowsOk H' rs ∧ rs.map Rw.t = rowsF (lsOf es) (isM p) (p.kids.take i) [])
      ⟨none, none, none, none, l, [], rfl, .refl _, tab1.ext s2, newl, s2 _ _ hl1, fun r hr => (by cases hr), by simp [rowsF]⟩ (fun i σ' H' _ h => ?_) (fun i x σ' H' hx h => ?_) fun σ' H' h => ?_⟩)
    · obtain ⟨_, _, _, _, _, _, _, e2, _⟩ := h
      exact .inl (keeps_ext e2 _ _ hc)
    · obtain ⟨v3, v4, v5, v6, t, rs, rfl, e2, tb2, nt, ht, okrs, mrs⟩ := h
      have e02 : ExtN H H' := (ExtN.of (s1.trans s2)).trans e2
      unfold rootsV at hx
      rw [List.getElem?_map] at hx
      obtain ⟨r, hr1, rfl⟩ := Option.map_eq_some_iff.mp hx
      have hrk : r ∈ p.kids := List.mem_of_getElem? hr1
      have mst := (congrArg (rowsF (lsOf es) (isM p) · []) (take_snoc hr1)).trans (rowsF_snoc (lsOf es) (isM p) r (p.kids.take i) [])
      have hsz := tot (i + 1)
      rw [mst, stepT_length, ← mrs, List.length_map] at hsz
      refine ⟨_, rfl, _, rfl, r, dd, es, rfl, (ok_keeps (keeps_ext e02) ok).kid hrk, ?_, inp.ext e02, fun y hy => hall y (scans_kid hrk hy), by omega, tb2, fun H3 t2 rs2 e3 tb3 nt2 ht2 okrs2 mrs2 => ?_⟩
      · have := AP.depth_kid hrk
        omega
      have e03 := e02.trans e3
      have ht3 : H3 t = some (.lst (vsR rs)) := e3 _ _ ht fun ps z => (by cases z)
      have ok3 : RowsOk H3 rs := okrs.ext e3
      have hp3 : Rd H3 p.root (.tup [.str kw, v]) := keeps_ext e03 _ _ hp
      have hsz2 : rs.length + rs2.length < sizeLine := by
        rw [← mrs2, List.length_map] at hsz
        exact hsz
      refine ⟨_, rfl, p.root, _, 0, _, rfl, rfl, .inl hp3, ix0, rfl, _, rfl, ?_⟩
      rw [w2]
      cases hm : isM p with
      | true =>
        refine iteT ⟨_, rfl, _, rfl, t, t2, rs, rs2, rfl, ht3, ht2, ok3, okrs2, hsz2, fun H4 l4 s4 n4 h4 => ?_⟩
        refine ⟨_, _, _, _, l4, mergeR rs rs2, rfl, e2.trans (e3.trans (.of s4)), tb3.ext s4, New.back e03 (New.of n4), h4, fun z hz => ?_, ?_⟩
        · rcases (mergeR_mem _ _ _).mp hz with y | y
          · exact ok3.same (keeps_same s4) z y
          · exact okrs2.same (keeps_same s4) z y
        · rw [mergeT_map, mrs, mrs2]
          rw [hm] at mst
          rw [mst, hm, stepT, if_pos rfl]
      | false =>
        refine iteF ⟨_, rfl, _, rfl, t, t2, vsR rs, vsR rs2, rfl, rfl, ht3, ht2, by rw [lenR, lenR]; omega, fun l4 n4 => ?_⟩
        have s4 := same_upd (o := .lst (vsR rs ++ vsR rs2)) n4
        refine ⟨_, _, _, _, l4, rs ++ rs2, rfl, e2.trans (e3.trans (.of s4)), tb3.ext s4, New.back e03 (New.of n4), by rw [vsR_app]; exact upd_same, fun z hz => ?_, ?_⟩
        · rcases List.mem_append.mp hz with y | y
          · exact ok3.same (keeps_same s4) z y
          · exact okrs2.same (keeps_same s4) z y
        · rw [List.map_append, mrs, mrs2]
          rw [hm] at mst
          rw [mst, hm, stepT, if_neg Bool.false_ne_true]
    · obtain ⟨v3, v4, v5, v6, t, rs, rfl, e2, tb2, nt, ht, okrs, mrs⟩ := h
      have e02 : ExtN H H' := (ExtN.of (s1.trans s2)).trans e2
      have hp2 : Rd H' p.root (.tup [.str kw, v]) := keeps_ext e02 _ _ hp
      rw [lenV, List.take_length] at mrs
      refine ⟨_, rfl, p.root, _, 0, _, rfl, rfl, .inl hp2, ix0, rfl, _, rfl, ?_⟩
      rw [w3]
      cases hs : isS p with
      | true =>
        refine iteT ⟨_, rfl, tb2, t, rs, rfl, ht, okrs, fun H3 l3 e3 tb3 n3 h3 => ?_⟩
        refine q H3 l3 (byKey rs) (e02.trans e3) tb3 (New.back e02 n3) h3 (fun z hz => ?_) ?_
        · exact (okrs.ext e3) z ((List.mergeSort_perm _ _).mem_iff.mp hz)
        · rw [byKeyT_map, mrs, rowsT_eq _ _ hsc, hs, if_pos rfl]
      | false =>
        refine iteF ⟨_, rfl, q H' t rs e02 tb2 nt ht okrs ?_⟩
        rw [mrs, rowsT_eq _ _ hsc, hs, if_neg Bool.false_ne_true]
/-- rows_of of any plan as deep as the law's -/
theorem c_rowsD (Tx0 : Tx K mg) (R : RowsCode K mg base T) : ∀ d, PCal P w K mg base (d + 2) "rows_of" (spRowsOf T d)
  | 0 => c_rows0 Tx0 R
  | d + 1 => c_rowsS Tx0 R (c_rowsD Tx0 R d)
theorem c_rows (Tx0 : Tx K mg) (R : RowsCode K mg base T) : PCal P w K mg base 20 "rows_of" (spRowsOf T 18) := c_rowsD Tx0 R 18
end
end Mu
end
section
set_option Elab.async false
set_option maxRecDepth 100000
set_option autoImplicit false
set_option linter.all false
/-! run -/
namespace Mu
open PySem PySem.Spec L2 Gz PySem.W LamX
open PyProof.Rows hiding St
/-- run: the rows, as the mirror says -/
def spRun (T : List (Addr × Str)) : Sp := fun vs H Q _ => ∃ (p : AP) (d : Addr) (es : Ents), vs = [.ref p.root, .ref d] ∧ p.Ok (tups H) ∧ PlanOk p ∧ Inp H d es ∧ (∀ x ∈ scans p, ∃ a ns, (x, a, ns) ∈ es) ∧ (∀ e ∈ es, e.2.2.length < sizeLine) ∧ (rowsT (lsOf es) p).length < sizeLine ∧ Tabs T H ∧
  ∀ H' l rs, ExtN H H' → Tabs T H' → New H l → H' l = some (.lst (vsR rs)) → RowsOk H' rs → rs.map Rw.t = rowsT (lsOf es) p → Q (.ref l) H'
section
variable {P : Program} {w : World} {K : PySem.W.Frag} {mg : Str → Option Value} {base : Heap} {T : List (Addr × Str)}
abbrev runN : List Str := ["plan", "inputs"]
theorem fs_run : FnScope runN runN (defScope srun) := ⟨rfl, rfl, rfl, by decide, rfl, by decide +kernel, by decide +kernel⟩
theorem c_run (Tx0 : Tx K mg) (M : Mod K mg base) (R : RowsCode K mg base T) : LCal P w K mg base 63 "run" (spRun T) := by
  refine lc_mk Tx0.frun fs_run (fun vs H Q h => by obtain ⟨_, _, _, rfl, _⟩ := h; rfl) (fun _ _ _ _ _ _ us hl => match us, hl with | [_, _], _ => rfl) fun f cdv A outer s H vs Q hr h => ?_
  obtain ⟨p, d, es, rfl, ok, pk, inp, hall, hsz, hz, tab, q⟩ := h
  refine ⟨_, sss_cons (ss_expr (lcal (c_check Tx0 M) hr (by decide) (by rfl) (pa_cons (pv 0) pa_nil)))
    (sss_cons (ss_expr (lcal (c_inputs Tx0 M) hr (by decide) (by rfl) (pa_cons (pv 0) (pa_cons (pv 1) pa_nil))))
    (sss_one (SS.of (ps_ret (pcal (c_rows Tx0 R) hr (by decide) (by rfl) (pa_cons (pv 0) (pa_cons (pv 1) pa_nil))))))), ?_⟩
  refine ⟨_, rfl, p, rfl, ok, pk, fun H1 s1 => ?_⟩
  refine ⟨_, rfl, _, rfl, p, d, es, rfl, ok_keeps (keeps_same s1) ok, pk, inp.same s1, hall, hsz, fun H2 s2 => ?_⟩
  have s02 := s1.trans s2
  exact ⟨_, rfl, _, rfl, p, d, es, rfl, ok_keeps (keeps_same s02) ok, pk.depth, inp.same s02, hall, hz, tab.ext s02, fun H3 l rs e3 tb nl hl ro m => q H3 l rs ((ExtN.of s02).trans e3) tb (New.back (.of s02) nl) hl ro m⟩
end
end Mu
end
section
set_option Elab.async false
set_option maxRecDepth 100000
set_option autoImplicit false
set_option linter.all false
/-! lead_in -/
namespace Mu
open PySem PySem.Spec L2 Gz PySem.W LamX
open PyProof.Rows hiding St
/-! ### the mirror -/
mutual
/-- is it the key; the others -/
def leadR : AP → Str → Bool × List Str
  | .scan _ _, _ => (false, [])
  | .sort _ _, _ => (true, [])
  | .many _ _ m ps, x => leadF m ps x []
def leadF (m : Bool) : List AP → Str → List Str → Bool × List Str
  | [], _, _ => (false, [])
  | p :: ps, x, b => if x ∈ scans p then ((leadR p x).1, if m then (leadR p x).2 else (leadR p x).2 ++ b) else leadF m ps x (b ++ scans p)
end
theorem scansL (ps : List AP) : (subsL ps).flatMap nm = ps.flatMap scans := by
  induction ps with
  | nil => rfl
  | cons p ps ih =>
    rw [subsL, List.flatMap_append, ih, List.flatMap_cons]
    rfl
theorem scans_many (a c : Addr) (m : Bool) (ps : List AP) : scans (.many a c m ps) = ps.flatMap scans := by
  unfold scans
  rw [subs, List.flatMap_cons, scansL]
  rfl
theorem scans_sort (a : Addr) (p : AP) : scans (.sort a p) = scans p := by
  unfold scans
  rw [subs, List.flatMap_cons]
  rfl
theorem scans_sub {p r : AP} (h : r ∈ p.kids) : (scans r).Sublist (scans p) := by
  cases p with
  | scan a x => cases h
  | sort a q =>
    obtain rfl : r = q := by simpa [AP.kids] using h
    rw [scans_sort]
    exact .refl _
  | many a c m ps =>
    rw [scans_many]
    obtain ⟨l1, l2, e⟩ := List.append_of_mem (show r ∈ ps from h)
    rw [e, List.flatMap_append, List.flatMap_cons]
    exact (List.sublist_append_left _ _).trans (List.sublist_append_right _ _)
theorem PlanOk.kid {p r : AP} (k : PlanOk p) (h : r ∈ p.kids) : PlanOk r := by
  refine ⟨?_, k.nd.sublist (scans_sub h), Nat.le_trans (scans_sub h).length_le k.few⟩
  have := AP.depth_kid h
  have := k.depth
  omega
mutual
theorem leadR_len : ∀ (p : AP) (x : Str), (leadR p x).2.length ≤ (scans p).length
  | .scan a y, x => Nat.zero_le _
  | .sort a p, x => Nat.zero_le _
  | .many a c m ps, x => by
    rw [scans_many, leadR]
    have := leadF_len m ps x []
    rw [List.length_nil, Nat.zero_add] at this
    exact this
theorem leadF_len (m : Bool) : ∀ (ps : List AP) (x : Str) (b : List Str), (leadF m ps x b).2.length ≤ b.length + (ps.flatMap scans).length
  | [], x, b => Nat.zero_le _
  | p :: ps, x, b => by
    rw [leadF, List.flatMap_cons, List.length_append]
    have h1 := leadR_len p x
    have h2 := leadF_len m ps x (b ++ scans p)
    rw [List.length_append] at h2
    by_cases c : x ∈ scans p
    · rw [if_pos c]
      cases m
      · rw [if_neg Bool.false_ne_true, List.length_append]
        omega
      · rw [if_pos rfl]
        show (leadR p x).2.length ≤ _
        omega
    · rw [if_neg c]
      omega
end
/-- the first parts hold it not -/
theorem leadF_skip (m : Bool) (x : Str) : ∀ (i : Nat) (ps : List AP) (b : List Str), (x ∉ (ps.take i).flatMap scans) → leadF m ps x b = leadF m (ps.drop i) x (b ++ (ps.take i).flatMap scans)
  | 0, ps, b, _ => by simp
  | i + 1, [], b, _ => by simp [leadF]
  | i + 1, p :: ps, b, h => by
    rw [List.take_succ_cons, List.flatMap_cons, List.mem_append, not_or] at h
    rw [leadF, if_neg h.1, List.drop_succ_cons, List.take_succ_cons, List.flatMap_cons, leadF_skip m x i ps (b ++ scans p) h.2, List.append_assoc]
def kindS (k : Bool) : Str := if k then "key" else "lead"
def spLeadIn (d : Nat) : Sp := fun vs H Q _ => ∃ (p : AP) (x : Str), vs = [.ref p.root, .str x] ∧ p.Ok (tups H) ∧ PlanOk p ∧ p.depth ≤ d ∧ x ∈ scans p ∧
  ∀ H' t l, Same H H' → H l = none → H t = none → H' t = some (.tup [.str (kindS (leadR p x).1), .ref l]) → H' l = some (.lst ((leadR p x).2.map V.str)) → Q (.ref t) H'
theorem none_back {H H' : Hp} {b : Addr} (s : Same H H') (h : H' b = none) : H b = none := by
  cases e : H b with
  | none => rfl
  | some o => rw [s _ _ e] at h; cases h
section
variable {P : Program} {w : World} {K : PySem.W.Frag} {mg : Str → Option Value} {base : Heap} {T : List (Addr × Str)}
abbrev leN : List Str := ["plan", "name", "before", "part", "kind", "others"]
theorem fs_leadin : FnScope leN ["plan", "name"] (defScope slead_in) := ⟨rfl, rfl, rfl, by decide, rfl, by decide +kernel, by decide +kernel⟩
/-- the two quick ways out -/
theorem quick {H : Hp} {Q : VK} {kw : Str} {nx : L2.St → Hp → Prop} {σ : L2.St} (q : ∀ H' t l, Same H H' → H l = none → H t = none → H' t = some (.tup [.str kw, .ref l]) → H' l = some (.lst []) → Q (.ref t) H') :
    tRet (tTup (tCons (tC (.str kw)) (tCons (tLst tNil) tNil))) { nx := nx, rt := Q } σ H := by
  refine ⟨Nat.zero_le _, fun l hl => ⟨by show 2 ≤ sizeLine; decide, fun t ht => ?_⟩⟩
  have lt : l ≠ t := fun z => by rw [← z, upd_same] at ht; cases ht
  exact q _ t l ((same_upd hl).trans (same_upd ht)) hl (none_back (same_upd hl) ht) upd_same (by rw [upd_ne lt, upd_same])
theorem c_leadin0 (Tx0 : Tx K mg) : LCal P w K mg base 62 "lead_in" (spLeadIn 0) := by
  refine lc_mk Tx0.flead_in fs_leadin (fun vs H Q h => by obtain ⟨_, _, rfl, _⟩ := h; rfl) (fun _ _ _ _ _ _ us hl => match us, hl with | [_, _], _ => rfl) fun f cdv A outer s H vs Q hr h => ?_
  obtain ⟨p, x, rfl, ok, pk, hd, hx, q⟩ := h
  have nd : leN.Nodup := by decide
  refine ⟨_, SSs.of (pss_cons (ps_if (pt_cmpR op_eq (pe_ix ix_tup (pv 0) pe_int (fun _ _ => rfl)) pe_str (nomark _)) (pss_one (ps_ret (pe_tup (pa_cons pe_str (pa_cons (pe_lst pa_nil) pa_nil))))) pss_nil) pss_never), ?_⟩
  obtain ⟨kw, v, hp, c3⟩ := ok_pair ok
  refine ⟨_, rfl, p.root, _, 0, _, rfl, rfl, .inl hp, ix0, rfl, _, rfl, ?_⟩
  rcases c3 with ⟨y, e, rfl, rfl, hy⟩ | ⟨r, e, rfl, rfl, hr2⟩ | ⟨c, m, ps, e, rfl, rfl, hc, hne, -⟩
  · have el : leadR p x = (false, []) := by rw [e, leadR]
    rw [el] at q
    exact iteT (quick q)
  · rw [e] at hd; simp [AP.depth] at hd
  · rw [e] at hd; simp [AP.depth] at hd
theorem c_leadinS (Tx0 : Tx K mg) (M : Mod K mg base) {d : Nat} (ih : LCal P w K mg base (62 + d) "lead_in" (spLeadIn d)) : LCal P w K mg base (63 + d) "lead_in" (spLeadIn (d + 1)) := by
  rw [show 63 + d = (62 + d) + 1 by omega]
  refine lc_mk Tx0.flead_in fs_leadin (fun vs H Q h => by obtain ⟨_, _, rfl, _⟩ := h; rfl) (fun _ _ _ _ _ _ us hl => match us, hl with | [_, _], _ => rfl) fun f cdv A outer s H vs Q hr h => ?_
  obtain ⟨p, x, rfl, ok, pk, hd, hx, q⟩ := h
  have nd : leN.Nodup := by decide
  refine ⟨_, sss_cons (SS.of (ps_if (pt_cmpR op_eq (pe_ix ix_tup (pv 0) pe_int (fun _ _ => rfl)) pe_str (nomark _)) (pss_one (ps_ret (pe_tup (pa_cons pe_str (pa_cons (pe_lst pa_nil) pa_nil))))) pss_nil))
    (sss_cons (SS.of (ps_if (pt_cmpR op_eq (pe_ix ix_tup (pv 0) pe_int (fun _ _ => rfl)) pe_str (nomark _)) (pss_one (ps_ret (pe_tup (pa_cons pe_str (pa_cons (pe_lst pa_nil) pa_nil))))) pss_nil))
    (sss_cons (SS.of (ps_set (i := 2) nd rfl (Or.inl rfl) (pe_lst pa_nil)))
    (sss_cons (ss_for rfl (IS.of (pi_tup (pe_ix ix_tup (pv 0) pe_int (fun _ _ => rfl)))) (pg_name (i := 3) nd rfl (Or.inl rfl))
      (sss_cons (ss_if (tst_cmp op_in_seq (ES.of (pv 1)) (lcal (c_names Tx0 M) hr (by omega) (by rfl) (pa_cons (pv 3) pa_nil)) (by with_unfolding_all rfl)) (SSs.of (pss_one ps_break)) (SSs.of pss_nil))
        (sss_one (ss_aug (i := 2) nd rfl rfl (lcal (c_names Tx0 M) hr (by omega) (by rfl) (pa_cons (pv 3) pa_nil)) iop_ext))))
    (sss_cons (ss_asg (lcal ih hr (Nat.le_refl _) (by rfl) (pa_cons (pv 3) (pa_cons (pv 1) pa_nil))) (pg_tup (by rfl) (pgs_cons (pg_name (i := 4) nd rfl (Or.inl rfl)) (pgs_cons (pg_name (i := 5) nd rfl (Or.inl rfl)) pgs_nil))))
    (sss_one (SS.of (ps_ret (pe_ifExp (pt_cmpR op_eq (pe_ix ix_tup (pv 0) pe_int (fun _ _ => rfl)) pe_str (nomark _)) (pe_tup (pa_cons (pv 4) (pa_cons (pe_op op_cat (pv 5) (pv 2)) pa_nil))) (pe_tup (pa_cons (pv 4) (pa_cons (pv 5) pa_nil))))))))))), ?_⟩
  obtain ⟨kw, v, hp, c3⟩ := ok_pair ok
  refine ⟨_, rfl, p.root, _, 0, _, rfl, rfl, .inl hp, ix0, rfl, _, rfl, ?_⟩
  rcases c3 with ⟨y, e, rfl, rfl, hy⟩ | ⟨r, e, rfl, rfl, hr2⟩ | ⟨c, m, ps, e, rfl, rfl, hc, hne, hok⟩
  · have el : leadR p x = (false, []) := by rw [e, leadR]
    rw [el] at q
    exact iteT (quick q)
  · have el : leadR p x = (true, []) := by rw [e, leadR]
    rw [el] at q
    exact iteF ⟨_, rfl, p.root, _, 0, _, rfl, rfl, .inl hp, ix0, rfl, _, rfl, iteT (quick q)⟩
  · have el : leadR p x = leadF m ps x [] := by rw [e, leadR]
    have esc : scans p = ps.flatMap scans := by rw [e, scans_many]
    have ek : p.kids = ps := by rw [e]; rfl
    have w1 : decide (V.str (word m) = V.str "scan") = false := by cases m <;> decide
    have w2 : decide (V.str (word m) = V.str "sort") = false := by cases m <;> decide
    rw [w1]
    refine iteF ⟨_, rfl, p.root, _, 0, _, rfl, rfl, .inl hp, ix0, rfl, _, rfl, ?_⟩
    rw [w2]
    refine iteF ⟨Nat.zero_le _, fun l hl => ?_⟩
    have s1 := same_upd (o := .lst []) hl
    have hl1 : upd H l (.lst []) l = some (.lst []) := upd_same
    have nl : ∀ {b o}, H b = some o → b ≠ l := fun {b o} e => ne_of_none e hl
    generalize upd H l (.lst []) = H1 at s1 hl1 ⊢
    have sub : ∀ {H' : Hp}, But l H1 H' → Same H H' := fun {H'} hb b o e => hb b o (nl e) (s1 b o e)
    have few : (ps.flatMap scans).length ≤ 6 := by rw [← esc]; exact pk.few
    have fewi : ∀ i, ((ps.take i).flatMap scans).length ≤ (ps.flatMap scans).length := fun i => by
      have e := congrArg (fun l => (l.flatMap scans).length) (List.take_append_drop i ps)
      simp only [List.flatMap_append, List.length_append] at e
      omega
    refine ⟨_, rfl, p.root, _, 1, _, rfl, rfl, .inl (keeps_same s1 _ _ hp), ix1, c, rfl, ⟨_, .inl (keeps_same s1 _ _ hc)⟩, for_tup (D := { nx := _, rt := Q }) (xs := rootsV ps) (fun i σ' H' => ∃ v3 v4 v5, σ' = [some (.ref p.root), some (.str x), some (.ref l), v3, v4, v5] ∧ But l H1 H' ∧ H' l = some (.lst (((ps.take i).flatMap scans).map V.str)) ∧ x ∉ (ps.take i).flatMap scans)
      ⟨none, none, none, rfl, fun b o _ e => e, hl1, by simp⟩ (fun i σ' H' _ h => ?_) (fun i xv σ' H' hxv h => ?_) fun σ' H' h => ?_⟩
    · obtain ⟨_, _, _, _, hb, _⟩ := h
      exact .inl (keeps_same (sub hb) _ _ hc)
    · obtain ⟨v3, v4, v5, rfl, hb, hl2, hnx⟩ := h
      unfold rootsV at hxv
      rw [List.getElem?_map] at hxv
      obtain ⟨r, hr1, rfl⟩ := Option.map_eq_some_iff.mp hxv
      have hrk : r ∈ p.kids := by rw [ek]; exact List.mem_of_getElem? hr1
      have pkr := pk.kid hrk
      have okr : ∀ {H' : Hp}, But l H1 H' → r.Ok (tups H') := fun {H'} b => (ok_keeps (keeps_same (sub b)) ok).kid hrk
      refine ⟨_, rfl, _, rfl, r, rfl, okr hb, pkr, fun H2 ln s2 _ hln => ⟨ln, _, rfl, .inl (SqL.of hln), rfl, flat_strs _, _, rfl, ?_⟩⟩
      have hb2 : But l H1 H2 := fun b o h1 e => s2 _ _ (hb b o h1 e)
      have hl3 := s2 _ _ hl2
      rw [inV_str]
      by_cases hxr : x ∈ scans r
      · rw [decide_eq_true hxr]
        refine iteT ?_
        have ed : ps.drop i = r :: ps.drop (i + 1) := by
          obtain ⟨hh, e⟩ := List.getElem?_eq_some_iff.mp hr1
          rw [List.drop_eq_getElem_cons hh, e]
        have elf : leadR p x = ((leadR r x).1, if m then (leadR r x).2 else (leadR r x).2 ++ (ps.take i).flatMap scans) := by
          rw [el, leadF_skip m x i ps [] hnx, ed, leadF, if_pos hxr, List.nil_append]
        refine ⟨_, rfl, _, rfl, r, x, rfl, okr hb2, pkr, by have := AP.depth_kid hrk; omega, hxr, fun H3 t3 l3 s3 n3 n3' ht3 hl3' => ?_⟩
        have hb3 : But l H1 H3 := fun b o h1 e => s3 _ _ (hb2 b o h1 e)
        have s03 := sub hb3
        have hl4 := s3 _ _ hl3
        have l6 : (leadR r x).2.length ≤ 6 := Nat.le_trans (leadR_len r x) pkr.few
        have b6 := fewi i
        refine ⟨t3, _, rfl, SqT.of ht3, rfl, _, _, rfl, _, _, rfl, rfl, ?_⟩
        refine ⟨_, rfl, p.root, _, 0, _, rfl, rfl, .inl (keeps_same s03 _ _ hp), ix0, rfl, _, rfl, ?_⟩
        cases m with
        | false =>
          rw [if_neg Bool.false_ne_true] at elf
          rw [elf] at q
          refine iteT ⟨_, rfl, _, rfl, _, rfl, l3, l, _, _, rfl, rfl, hl3', hl4, ?_, fun l4 n4 => ⟨by show 2 ≤ sizeLine; decide, fun t4 n5 => ?_⟩⟩
          · rw [List.length_map, List.length_map]
            exact Nat.le_trans (show _ ≤ 12 by omega) (by decide)
          · have s4 := same_upd (o := .lst ((leadR r x).2.map V.str ++ ((ps.take i).flatMap scans).map V.str)) n4
            have n54 : l4 ≠ t4 := fun z => by rw [← z, upd_same] at n5; cases n5
            exact q _ t4 l4 ((s03.trans s4).trans (same_upd n5)) (none_back s03 n4) (none_back (s03.trans s4) n5) upd_same (by rw [upd_ne n54, upd_same, List.map_append])
        | true =>
          rw [if_pos rfl] at elf
          rw [elf] at q
          refine iteF ⟨_, rfl, _, rfl, by show 2 ≤ sizeLine; decide, fun t4 n5 => ?_⟩
          exact q _ t4 l3 (s03.trans (same_upd n5)) (none_back (sub hb2) n3) (none_back s03 n5) upd_same (same_upd n5 _ _ hl3')
      · rw [decide_eq_false hxr]
        refine iteF ⟨_, rfl, _, rfl, r, rfl, okr hb2, pkr, fun H3 ln3 s3 _ hln3 => ⟨l, ln3, _, _, rfl, rfl, s3 _ _ hl3, hln3, ?_, ?_⟩⟩
        · rw [List.length_map, List.length_map]
          have := fewi i
          have := pkr.few
          exact Nat.le_trans (show _ ≤ 12 by omega) (by decide)
        · have et : (ps.take (i + 1)).flatMap scans = (ps.take i).flatMap scans ++ scans r := by
            rw [take_snoc hr1, List.flatMap_append]
            simp
          refine ⟨_, _, _, rfl, fun b o h1 e => by rw [upd_ne h1]; exact s3 _ _ (hb2 b o h1 e), by rw [upd_same, et, List.map_append], ?_⟩
          rw [et, List.mem_append, not_or]
          exact ⟨hnx, hxr⟩
    · obtain ⟨v3, v4, v5, rfl, hb, hl2, hnx⟩ := h
      rw [show (rootsV ps).length = ps.length from List.length_map .., List.take_length, ← esc] at hnx
      exact absurd hx hnx
/-- lead_in of any plan as deep as the law's -/
theorem c_leadinD (Tx0 : Tx K mg) (M : Mod K mg base) : ∀ d, LCal P w K mg base (62 + d) "lead_in" (spLeadIn d)
  | 0 => c_leadin0 Tx0
  | d + 1 => by
    rw [show 62 + (d + 1) = 63 + d by omega]
    exact c_leadinS Tx0 M (c_leadinD Tx0 M d)
theorem c_leadin (Tx0 : Tx K mg) (M : Mod K mg base) : LCal P w K mg base 80 "lead_in" (spLeadIn 18) := c_leadinD Tx0 M 18
end
end Mu
end
section
set_option Elab.async false
set_option maxRecDepth 100000
set_option autoImplicit false
set_option linter.all false
/-! lead -/
namespace Mu
open PySem PySem.Spec L2 Gz PySem.W LamX
open PyProof.Rows hiding St
/-- lead: the kind and, in some order, the others -/
def spLead : Sp := fun vs H Q _ => ∃ (p : AP) (x : Str), vs = [.ref p.root, .str x] ∧ p.Ok (tups H) ∧ PlanOk p ∧ x ∈ scans p ∧
  ∀ (H' : Hp) (t l : Addr) (ys : List Str), Same H H' → H' t = some (.tup [.str (kindS (leadR p x).1), .ref l]) → ys.Perm (leadR p x).2 → H' l = some (.lst (ys.map V.str)) → Q (.ref t) H'
section
variable {P : Program} {w : World} {K : PySem.W.Frag} {mg : Str → Option Value} {base : Heap} {T : List (Addr × Str)}
abbrev ldN : List Str := ["plan", "name", "kind", "others"]
theorem fs_lead : FnScope ldN ["plan", "name"] (defScope slead) := ⟨rfl, rfl, rfl, by decide, rfl, by decide +kernel, by decide +kernel⟩
theorem c_lead (Tx0 : Tx K mg) (M : Mod K mg base) : LCal P w K mg base 81 "lead" spLead := by
  refine lc_mk Tx0.flead fs_lead (fun vs H Q h => by obtain ⟨_, _, rfl, _⟩ := h; rfl) (fun _ _ _ _ _ _ us hl => match us, hl with | [_, _], _ => rfl) fun f cdv A outer s H vs Q hr h => ?_
  obtain ⟨p, x, rfl, ok, pk, hx, q⟩ := h
  have nd : ldN.Nodup := by decide
  refine ⟨_, sss_cons (ss_expr (lcal (c_check Tx0 M) hr (by decide) (by rfl) (pa_cons (pv 0) pa_nil)))
    (sss_cons (ss_if (WSt.pt (wst_or (TSt.of (pt_not (pt_val (pe_isi Tx0.bisinstance Tx0.bstr boot_str rfl rfl (pv 1) (by decide) (by decide) rfl rfl rfl)))) (wst_or1 (tst_cmp op_notIn_seq (ES.of (pv 1)) (lcal (c_names Tx0 M) hr (by decide) (by rfl) (pa_cons (pv 0) pa_nil)) (by with_unfolding_all rfl))))) (SSs.of pss_never) (SSs.of pss_nil))
    (sss_cons (ss_asg (lcal (c_leadin Tx0 M) hr (by decide) (by rfl) (pa_cons (pv 0) (pa_cons (pv 1) pa_nil))) (pg_tup (by rfl) (pgs_cons (pg_name (i := 2) nd rfl (Or.inl rfl)) (pgs_cons (pg_name (i := 3) nd rfl (Or.inl rfl)) pgs_nil))))
    (sss_one (SS.of (ps_ret (pe_tup (pa_cons (pv 2) (pa_cons (pe_callB cr_sortedS (by rfl) Tx0.bsorted boot_sorted (pa_cons (pv 3) pa_nil)) pa_nil)))))))), ?_⟩
  refine ⟨_, rfl, p, rfl, ok, pk, fun H1 s1 => ?_⟩
  refine ⟨_, rfl, _, .ty "str", _, _, true, rfl, .ty "str", .base (.str x), kit_ty (by decide +kernel), true, rfl, iteF ?_⟩
  refine ⟨_, rfl, _, rfl, p, rfl, ok_keeps (keeps_same s1) ok, pk, fun H2 ln s2 _ hln => ⟨ln, _, rfl, .inl (SqL.of hln), rfl, flat_strs _, _, rfl, ?_⟩⟩
  rw [inV_str, decide_eq_true hx]
  have s02 := s1.trans s2
  refine iteF ⟨_, rfl, _, rfl, p, x, rfl, ok_keeps (keeps_same s02) ok, pk, pk.depth, hx, fun H3 t3 l3 s3 n3 n3' ht3 hl3 => ?_⟩
  have s03 := s02.trans s3
  have len := Nat.le_trans (leadR_len p x) pk.few
  refine ⟨t3, _, rfl, SqT.of ht3, rfl, _, _, rfl, _, _, rfl, rfl, ?_⟩
  refine ⟨_, rfl, _, rfl, l3, _, rfl, SqL.of hl3, by omega, fun ys l4 perm _ n4 => ⟨by show 2 ≤ sizeLine; decide, fun t4 n5 => ?_⟩⟩
  have s4 := same_upd (o := .lst (ys.map V.str)) n4
  exact q _ t4 l4 ys ((s03.trans s4).trans (same_upd n5)) upd_same perm (same_upd n5 _ _ upd_same)
end
end Mu
end
section
set_option Elab.async false
set_option maxRecDepth 100000
set_option autoImplicit false
set_option linter.all false
/-! sum of lists -/
namespace Mu
open PySem PySem.Spec L2 Gz PySem.W LamX
open PyProof.Rows hiding St
theorem args_sum2 (a b : Value) : argsOk "sum" ⟨[a, b], []⟩ := by unfold argsOk; kernel_rfl
theorem sub_ls_str : isSubtype (.type "list") (.type "str") = pure false := by rw [isSubtype_type]; kernel_rfl
theorem sub_ls_bytes : isSubtype (.type "list") (.type "bytes") = pure false := by rw [isSubtype_type]; kernel_rfl
theorem sub_ls_bytearray : isSubtype (.type "list") (.type "bytearray") = pure false := by rw [isSubtype_type]; kernel_rfl
abbrev Pcs := List (Addr × List Value)
def flatP (es : Pcs) : List Value := es.flatMap (·.2)
/-- what lies there in the midst of the sum -/
structure SumAt (h : Heap) (it l S : Addr) (vs : Array Value) (i : Nat) (cur : Addr) (acc : List Value) (es : Pcs) : Prop where
  iter : h.IsListIter it l i
  list : h.IsList l vs
  ssum : ∃ c, PySem.IsL h S #[.ref cur] c
  scur : ∃ c, PySem.IsL h cur acc.toArray c
  svs : vs.toList.drop i = es.map fun e => Value.ref e.1
  ses : ∀ e ∈ es, ∃ c, PySem.IsL h e.1 e.2.toArray c
  d1 : S ≠ l
  d2 : S ≠ cur
  d3 : ∀ e ∈ es, S ≠ e.1
theorem iter_ne {h : Heap} {it l b : Addr} {i c : Nat} {xs : Array Value} (x : h.IsListIter it l i) (y : PySem.IsL h b xs c) : b ≠ it := fun z => by
  obtain ⟨o, e, hc, _⟩ := x
  rw [z] at y
  have e2 : h.get? it = _ := y
  rw [e] at e2
  cases e2
  injection hc with e3
  exact absurd e3 (by decide)
theorem iter_ne2 {h : Heap} {it l b : Addr} {i : Nat} {xs : Array Value} (x : h.IsListIter it l i) (y : h.IsList b xs) : b ≠ it := fun z => by
  obtain ⟨o, e, hc, _⟩ := x
  obtain ⟨o2, e2, hc2, _⟩ := y
  rw [z, e] at e2
  cases e2
  rw [hc] at hc2
  injection hc2 with e3
  exact absurd e3 (by decide)
section
variable {prog : Program} {w : World} {A : Around} {R : Result → Shared → Prop}
theorem sum_loop {it l S : Addr} {vs : Array Value} (hh : A.handled = none) : ∀ (es : Pcs) (i : Nat) (cur : Addr) (acc : List Value) (s : Shared), SumAt s.heap it l S vs i cur acc es → acc.length + (flatP es).length ≤ sizeLine →
    (∀ (h' : Heap) (tk : Tok) (p : Addr), (∀ b o, b ≠ it → b ≠ S → s.heap.get? b = some o → h'.get? b = some o) → (∃ c, PySem.IsL h' p (acc ++ flatP es).toArray c) → (es = [] → p = cur) → (es ≠ [] → s.heap.objs.size ≤ p) → R (.ok (.ret (.ref p))) { s with heap := h', toks := tk }) →
    codeAny (model prog w) A (.builtin "sum.loop" ⟨[.ref it, .ref S, rawInt 2, rawInt 0], []⟩) R s := by
  intro es
  induction es with
  | nil =>
    intro i cur acc s X hz hR
    obtain ⟨c, hS⟩ := X.ssum
    refine codeAny_builtin F.entry_sum_loop ?_
    rw [Around.under_plainId F.plain_sum_loop _]
    show wpAny _ A.in1 (seqItems? (.ref S) >>= _) _ _ s
    refine wpAny_bind (wpAny_seqItems hS rfl ?_)
    show wpAny _ A.in1 (tryCatch (pyNext (.ref it)) _ >>= _) _ _ s
    have hnone : vs[i]? = none := by
      have := X.svs
      rw [List.map_nil, List.drop_eq_nil_iff] at this
      rw [Array.getElem?_eq_none_iff]
      simpa using this
    refine wpAny_bind (wpAny_tryCatch (wpAny_pyNext_list_end hh X.iter X.list hnone fun h' hx => ?_))
    refine wpAny_pure (hR h' s.toks cur (fun b o h1 _ e => hx b o h1 e) ?_ (fun _ => rfl) fun z => absurd rfl z)
    obtain ⟨c2, hc⟩ := X.scur
    refine ⟨c2, ?_⟩
    have : flatP [] = [] := rfl
    rw [this, List.append_nil]
    exact hx _ _ (iter_ne X.iter hc) hc
  | cons e0 es ih =>
    intro i cur acc s X hz hR
    obtain ⟨c, hS⟩ := X.ssum
    obtain ⟨c2, hc⟩ := X.scur
    obtain ⟨c3, h3⟩ := X.ses e0 List.mem_cons_self
    refine codeAny_builtin F.entry_sum_loop ?_
    rw [Around.under_plainId F.plain_sum_loop _]
    show wpAny _ A.in1 (seqItems? (.ref S) >>= _) _ _ s
    refine wpAny_bind (wpAny_seqItems hS rfl ?_)
    show wpAny _ A.in1 (tryCatch (pyNext (.ref it)) _ >>= _) _ _ s
    have hsome : vs[i]? = some (.ref e0.1) := by
      have := congrArg (·[0]?) X.svs
      simp only [List.getElem?_drop, List.map_cons, List.getElem?_cons_zero, Nat.add_zero] at this
      simpa using this
    refine wpAny_bind (wpAny_tryCatch (wpAny_pyNext_list_item X.iter X.list hsome fun h1 hit1 hs1 => ?_))
    have k1 : ∀ b o, b ≠ it → s.heap.get? b = some o → h1.get? b = some o := fun b o hb e => by rw [hs1.2 b hb]; exact e
    have hc1 : PySem.IsL h1 cur acc.toArray c2 := k1 _ _ (iter_ne X.iter hc) hc
    have h31 : PySem.IsL h1 e0.1 e0.2.toArray c3 := k1 _ _ (iter_ne X.iter h3) h3
    have hS1 : PySem.IsL h1 S #[.ref cur] c := k1 _ _ (iter_ne X.iter hS) hS
    have hfl : (flatP (e0 :: es)).length = e0.2.length + (flatP es).length := by
      unfold flatP
      rw [List.flatMap_cons, List.length_append]
    show wpAny _ A.in1 ((holding [Value.ref e0.1] (binaryOp .Add (.ref cur) (.ref e0.1))).attempt >>= _) _ _ _
    refine wpAny_bind (wpAny_attempt (wpAny_holding (PySem.P.add_list hc1 h31 ?_ (by rw [List.size_toArray, List.size_toArray]; omega))))
    have hS2 : PySem.IsL (h1.push { cls := .type "list", data := .seq (acc.toArray ++ e0.2.toArray) }) S #[.ref cur] c := Heap.get?_push_of_some _ hS1
    show wpAny _ A.in1 (updateSeq S (fun _ => #[.ref h1.objs.size]) >>= _) _ _ _
    refine wpAny_bind (wpAny_updateSeq hS2 rfl ?_)
    have hS3 := Heap.get?_update_self (Obj.mapSeq fun _ => #[Value.ref h1.objs.size]) hS2 rfl
    refine wpAny_bind (wpAny_letGo ?_)
    refine wpAny_bind (wpAny_updateSeq hS3 rfl (wpAny_pure ⟨plainId_quiet F.plain_sum_loop _, ?_⟩))
    have k2 : ∀ b o, b ≠ S → h1.get? b = some o → (((h1.push { cls := .type "list", data := .seq (acc.toArray ++ e0.2.toArray) }).update S (Obj.mapSeq fun _ => #[Value.ref h1.objs.size])).update S (Obj.mapSeq fun _ => #[Value.ref h1.objs.size])).get? b = some o := fun b o hb e =>
      (Heap.get?_update_other _ _ (fun z => hb z.symm)).trans ((Heap.get?_update_other _ _ (fun z => hb z.symm)).trans (Heap.get?_push_of_some _ e))
    have k3 : s.heap.objs.size ≤ (((h1.push { cls := .type "list", data := .seq (acc.toArray ++ e0.2.toArray) }).update S (Obj.mapSeq fun _ => #[Value.ref h1.objs.size])).update S (Obj.mapSeq fun _ => #[Value.ref h1.objs.size])).objs.size := by
      rw [Heap.size_after_update, Heap.size_after_update, ← hs1.1]
      show h1.objs.size ≤ (h1.objs.push _).size
      rw [Array.size_push]
      exact Nat.le_succ _
    have kk : ∀ b o, b ≠ it → b ≠ S → s.heap.get? b = some o → _ := fun b o h1 h2 e => k2 b o h2 (k1 b o h1 e)
    have S1 : S ≠ h1.objs.size := Nat.ne_of_lt (Heap.lt_size hS1)
    refine ih (i + 1) h1.objs.size (acc ++ e0.2) _ ⟨?_, ?_, ⟨_, Heap.get?_update_self _ hS3 rfl⟩, ⟨0, ?_⟩, ?_, fun e he => ?_, X.d1, S1, fun e he => X.d3 e (List.mem_cons_of_mem _ he)⟩ ?_ fun h' tk p hk hp z1 z2 => ?_
    · obtain ⟨o, e, q⟩ := hit1
      exact ⟨o, k2 _ _ (iter_ne X.iter hS).symm e, q⟩
    · obtain ⟨o, e, q⟩ := X.list
      exact ⟨o, kk _ _ (iter_ne2 X.iter X.list) X.d1.symm e, q⟩
    · refine (Heap.get?_update_other _ _ S1).trans ((Heap.get?_update_other _ _ S1).trans ?_)
      have e : acc.toArray ++ e0.2.toArray = (acc ++ e0.2).toArray := by simp
      rw [← e]
      exact Heap.get?_push_size _ rfl
    · have := congrArg List.tail X.svs
      rw [List.tail_drop, List.map_cons, List.tail_cons] at this
      exact this
    · obtain ⟨c4, h4⟩ := X.ses e (List.mem_cons_of_mem _ he)
      exact ⟨c4, kk _ _ (iter_ne X.iter h4) (X.d3 e (List.mem_cons_of_mem _ he)).symm h4⟩
    · rw [List.length_append]; omega
    · refine hR h' tk p (fun b o h1 h2 e => hk b o h1 h2 (kk b o h1 h2 e)) ?_ (fun z => by cases z) fun _ => ?_
      · obtain ⟨c5, h5⟩ := hp
        refine ⟨c5, ?_⟩
        unfold flatP at h5 ⊢
        rw [List.flatMap_cons, ← List.append_assoc]
        exact h5
      · cases es with
        | nil => rw [z1 rfl, hs1.1]; exact Nat.le_refl _
        | cons a r =>
          exact Nat.le_trans k3 (z2 (by simp))
end
end Mu
end
section
set_option Elab.async false
set_option maxRecDepth 100000
set_option autoImplicit false
set_option linter.all false
/-! sum of lists: the rule -/
namespace Mu
open PySem PySem.Spec L2 Gz PySem.W LamX
open PyProof.Rows hiding St
theorem vals_refs : ∀ {es : List (Addr × List V)} {us : List Value}, Vals (es.map fun e => V.ref e.1) us → us = es.map fun e => Value.ref e.1
  | [], us, r => by cases r; rfl
  | e :: es, us, r => by
    have r' : Vals (V.ref e.1 :: es.map fun e => V.ref e.1) us := r
    cases r' with
    | cons a b =>
      rw [List.map_cons, vals_refs b]
      congr 1
theorem pcs_of {X : Cx} {pins : List (Addr × Obj)} {σ : L2.St} {H : Hp} {s : Shared} (I : Inv X pins σ H s) : ∀ (es : List (Addr × List V)), (∀ e ∈ es, H e.1 = some (.lst e.2)) →
    ∃ ps : Pcs, (∀ e ∈ ps, ∃ c, PySem.IsL s.heap e.1 e.2.toArray c) ∧ (ps.map fun e => Value.ref e.1) = (es.map fun e => Value.ref e.1) ∧ Vals (es.flatMap (·.2)) (flatP ps)
  | [], _ => ⟨[], fun e he => (by cases he), rfl, .nil⟩
  | e :: es, h => by
    obtain ⟨ps, h1, h2, h3⟩ := pcs_of I es fun x hx => h x (List.mem_cons_of_mem _ hx)
    obtain ⟨_, its, n, r, _, hl⟩ := I.lstM (h e List.mem_cons_self)
    refine ⟨(e.1, its) :: ps, fun x hx => ?_, ?_, ?_⟩
    · rcases List.mem_cons.mp hx with rfl | hx
      · exact ⟨n, hl⟩
      · exact h1 x hx
    · rw [List.map_cons, List.map_cons, h2]
    · rw [List.flatMap_cons]
      exact r.append h3
/-- sum(list of lists, []) -/
def rSumL (K : PySem.W.Frag) : List V → Hp → VK → Prop := fun vs H Q => ∃ (a z : Addr) (es : List (Addr × List V)), vs = [.ref a, .ref z] ∧ SqL K H a (es.map fun e => V.ref e.1) ∧ H z = some (.lst []) ∧ (∀ e ∈ es, H e.1 = some (.lst e.2)) ∧ (es.flatMap (·.2)).length ≤ sizeLine ∧
  (es = [] → Q (.ref z) H) ∧ (es ≠ [] → ∀ p, H p = none → Q (.ref p) (upd H p (.lst (es.flatMap (·.2)))))
section
variable {X : Cx}
theorem cr_sumL (hc : X.calm = true) : CallR X (.builtin "sum") (rSumL X.K) := by
  intro pins s σ H vs us Q I r h
  obtain ⟨a, z, es, rfl, hs, hz, hes, hlen, q1, q2⟩ := h
  obtain ⟨its, rv, hl, _⟩ := I.list hs
  obtain ⟨ps, p1, p2, p3⟩ := pcs_of I es hes
  obtain ⟨_, zi, zn, zr, _, hzl⟩ := I.lstM hz
  obtain rfl : zi = [] := by cases zr; rfl
  have hu : us = [.ref a, .ref z] := by
    cases r with
    | cons r1 r2 =>
      cases r2 with
      | cons r3 r4 =>
        cases r4
        have e1 : _ = Value.ref a := r1
        have e2 : _ = Value.ref z := r3
        rw [e1, e2]
  subst hu
  have hits := vals_refs rv
  refine call_function_tree F.kind_sum F.plain_sum F.entry_sum (args_sum2 _ _) ?_
  unfold Builtin.«sum»
  simp only [List.length_cons, List.length_nil]
  rw [if_neg (by decide)]
  refine wpAny_bind (wpAny_of_eq (show Builtin.Builtins.bindParams "sum" ["start"] 0 ⟨[.ref z], []⟩ = pure [some (.ref z)] from rfl) ?_)
  refine wpAny_bind (wpAny_pyIter_list hl.isList ?_)
  refine wpAny_bind (wpAny_pure ?_)
  have kz : PySem.IsL (s.heap.push { cls := .type "list_iterator", data := .fields #[.ref a, .int 0 0] }) z #[] zn := Heap.get?_push_of_some _ hzl
  simp only [List.forIn_cons, List.forIn_nil]
  refine wpAny_bind (wpAny_bind (wpAny_bind (wpAny_isInstance (T := "list") (b := false) ⟨_, kz, rfl⟩ sub_ls_str ?_)))
  simp only [Bool.false_eq_true, if_false]
  refine wpAny_pure (wpAny_bind (wpAny_bind (wpAny_isInstance (T := "list") (b := false) ⟨_, kz, rfl⟩ sub_ls_bytes ?_)))
  simp only [Bool.false_eq_true, if_false]
  refine wpAny_pure (wpAny_bind (wpAny_bind (wpAny_isInstance (T := "list") (b := false) ⟨_, kz, rfl⟩ sub_ls_bytearray ?_)))
  simp only [Bool.false_eq_true, if_false]
  refine wpAny_pure (wpAny_pure ?_)
  refine wpAny_bind (wpAny_newObj_type ?_)
  have sz1 : (s.heap.push { cls := .type "list_iterator", data := .fields #[.ref a, .int 0 0] }).objs.size = s.heap.objs.size + 1 := Array.size_push ..
  have lt : ∀ {b : Addr} {o : Obj}, s.heap.get? b = some o → b < s.heap.objs.size := fun {b o} e => Heap.lt_size e
  have k2 : ∀ b o, s.heap.get? b = some o → ((s.heap.push { cls := .type "list_iterator", data := .fields #[.ref a, .int 0 0] }).push { cls := .type "list", data := .seq #[.ref z] }).get? b = some o := fun b o e => Heap.get?_push_of_some _ (Heap.get?_push_of_some _ e)
  have ne2 : ∀ {b : Addr} {o : Obj}, s.heap.get? b = some o → (s.heap.push { cls := .type "list_iterator", data := .fields #[.ref a, .int 0 0] }).objs.size ≠ b := fun {b o} e w => by
    have l1 := lt e
    rw [← w, sz1] at l1
    exact Nat.lt_irrefl _ (Nat.lt_of_succ_lt l1)
  refine wpAny_pure ⟨plainId_quiet F.plain_sum_loop _, sum_loop (l := a) (vs := its.toArray) (I.ok.hd hc) ps 0 z [] _ ⟨⟨_, Heap.get?_push_of_some _ (Heap.get?_push_size _ rfl), rfl, rfl⟩, ?_, ⟨0, Heap.get?_push_size _ rfl⟩, ⟨zn, k2 _ _ hzl⟩, ?_, fun e he => ?_, ?_, ne2 hzl, fun e he => ?_⟩ ?_ fun h' tk p hk hp z1 z2 => ?_⟩
  · obtain ⟨o, e, x⟩ := hl.isList
    exact ⟨o, k2 _ _ e, x⟩
  · rw [p2, hits]
    rfl
  · obtain ⟨c, x⟩ := p1 e he
    exact ⟨c, k2 _ _ x⟩
  · obtain ⟨o, e, _⟩ := hl.isList
    exact ne2 e
  · obtain ⟨c, x⟩ := p1 e he
    exact ne2 x
  · rw [List.length_nil, Nat.zero_add, ← p3.length]
    exact hlen
  · have kk : ∀ b o, s.heap.get? b = some o → h'.get? b = some o := fun b o e => hk b o (Nat.ne_of_lt (lt e)) (ne2 e).symm (k2 _ _ e)
    obtain ⟨c, hp⟩ := hp
    rw [List.nil_append] at hp
    have hem : ps = [] ↔ es = [] := by
      have := congrArg List.length p2
      rw [List.length_map, List.length_map] at this
      rw [← List.length_eq_zero_iff, ← List.length_eq_zero_iff, this]
    by_cases c0 : es = []
    · rw [z1 (hem.mpr c0)]
      exact ⟨.ref z, H, I.kept (t' := tk) kk, rfl, q1 c0⟩
    · have hge := z2 fun x => c0 (hem.mp x)
      have hge2 : s.heap.objs.size ≤ p := by
        refine Nat.le_trans ?_ hge
        show s.heap.objs.size ≤ ((s.heap.objs.push _).push _).size
        rw [Array.size_push, Array.size_push]
        omega
      exact ⟨.ref p, _, I.laid (t' := tk) (o := .lst (es.flatMap (·.2))) kk hge2 ⟨hlen, _, c, p3, hp⟩, rfl, q2 c0 p (I.hok.fresh hge2)⟩
end
end Mu
end
section
set_option Elab.async false
set_option maxRecDepth 100000
set_option autoImplicit false
set_option linter.all false
/-! _law_scans -/
namespace Mu
open PySem PySem.Spec L2 Gz PySem.W LamX
open PyProof.Rows hiding St
/-- a new list of the names, in walk's order -/
def spScans (d : Nat) : Sp := fun vs H Q _ => ∃ p : AP, vs = [.ref p.root] ∧ p.Ok (tups H) ∧ p.depth ≤ d ∧ (scans p).length ≤ 6 ∧
  ∀ (H' : Hp) (l : Addr), Same H H' → H l = none → H' l = some (.lst ((scans p).map V.str)) → Q (.ref l) H'
mutual
theorem scans_pos {T : Hp} : ∀ p : AP, p.Ok T → 1 ≤ (scans p).length
  | .scan a x, _ => Nat.le_refl _
  | .sort a p, h => by
    rw [scans_sort]
    exact scans_pos p h.2
  | .many a c m ps, h => by
    rw [scans_many]
    refine Nat.le_trans ?_ (scansL_pos ps h.2.2.2)
    exact List.length_pos_iff.mpr h.2.2.1
theorem scansL_pos {T : Hp} : ∀ ps : List AP, okL T ps → ps.length ≤ (ps.flatMap scans).length
  | [], _ => Nat.le_refl _
  | p :: ps, h => by
    have h1 := scans_pos p h.1
    have h2 := scansL_pos ps h.2
    rw [List.flatMap_cons, List.length_append, List.length_cons]
    omega
end
theorem flat_of {es : List (Addr × List V)} {ps : List AP} (h : es.map (·.2) = ps.map fun p => (scans p).map V.str) : es.flatMap (·.2) = (ps.flatMap scans).map V.str := by
  rw [List.map_flatMap, List.flatMap_def, List.flatMap_def, h]
/-- the turns of the comprehension in the midst -/
def ScP (H : Hp) (D : Addr) (ps : List AP) (i : Nat) (H' : Hp) : Prop := ∃ es : List (Addr × List V), H' D = some (.lst (es.map fun e => V.ref e.1)) ∧ (∀ e ∈ es, e.1 ≠ D ∧ H' e.1 = some (.lst e.2)) ∧ es.map (·.2) = (ps.take i).map (fun p => (scans p).map V.str) ∧ Same H H'
section
variable {P : Program} {w : World} {K : PySem.W.Frag} {mg : Str → Option Value} {base : Heap} {T : List (Addr × Str)}
abbrev scN : List Str := ["_law_plan_here", "_law_part"]
theorem fs_scans : FnScope scN ["_law_plan_here"] (defScope sL_scans) := ⟨rfl, rfl, rfl, by decide, rfl, by decide +kernel, by decide +kernel⟩
theorem c_scans0 (Tx0 : Tx K mg) : PCal P w K mg base 1 "_law_scans" (spScans 0) := by
  refine pc_mk Tx0.f_law_scans fs_scans (fun vs H Q E h => by obtain ⟨_, rfl, _⟩ := h; rfl) (fun _ _ _ _ _ _ us hl => match us, hl with | [_], _ => rfl) fun f cdv A outer s H vs Q E hr h => ?_
  obtain ⟨p, rfl, ok, hd, h6, q⟩ := h
  have nd : scN.Nodup := by decide
  refine ⟨_, pss_cons (ps_if (pt_cmpR op_eq (pe_ix ix_tup (pv 0) pe_int (fun _ _ => rfl)) pe_str (nomark _)) (pss_one (ps_ret (pe_lst (pa_cons (pe_ix ix_tup (pv 0) pe_int (fun _ _ => rfl)) pa_nil)))) pss_nil) pss_never, ?_⟩
  obtain ⟨kw, v, hp, c3⟩ := ok_pair ok
  refine ⟨_, rfl, p.root, _, 0, _, rfl, rfl, .inl hp, ix0, rfl, _, rfl, ?_⟩
  rcases c3 with ⟨y, e, rfl, rfl, hy⟩ | ⟨r, e, rfl, rfl, hr2⟩ | ⟨c, m, ps, e, rfl, rfl, hc, hne, -⟩
  · refine iteT ⟨_, rfl, p.root, _, 1, _, rfl, rfl, .inl hp, ix1, by show 1 ≤ sizeLine; decide, fun l hl => q _ l (same_upd hl) hl ?_⟩
    rw [upd_same, e]
    rfl
  · rw [e] at hd; simp [AP.depth] at hd
  · rw [e] at hd; simp [AP.depth] at hd
theorem c_scansS (Tx0 : Tx K mg) {d k : Nat} (ih : PCal P w K mg base (k + 1) "_law_scans" (spScans d)) : PCal P w K mg base (k + 2) "_law_scans" (spScans (d + 1)) := by
  refine pc_mk Tx0.f_law_scans fs_scans (fun vs H Q E h => by obtain ⟨_, rfl, _⟩ := h; rfl) (fun _ _ _ _ _ _ us hl => match us, hl with | [_], _ => rfl) fun f cdv A outer s H vs Q E hr h => ?_
  obtain ⟨p, rfl, ok, hd, h6, q⟩ := h
  have nd : scN.Nodup := by decide
  refine ⟨_, pss_cons (ps_if (pt_cmpR op_eq (pe_ix ix_tup (pv 0) pe_int (fun _ _ => rfl)) pe_str (nomark _)) (pss_one (ps_ret (pe_lst (pa_cons (pe_ix ix_tup (pv 0) pe_int (fun _ _ => rfl)) pa_nil)))) pss_nil)
    (pss_cons (ps_if (pt_cmpR op_eq (pe_ix ix_tup (pv 0) pe_int (fun _ _ => rfl)) pe_str (nomark _)) (pss_one (ps_ret (pcal ih hr (Nat.le_refl _) (by rfl) (pa_cons (pe_ix ix_tup (pv 0) pe_int (fun _ _ => rfl)) pa_nil)))) pss_nil)
    (pss_one (ps_ret (pe_callB (cr_sumL rfl) (by rfl) Tx0.bsum (by decide +kernel) (pa_cons (pe_lc (own := [("_law_part", 1)]) (g := gName 1) (tt := tYes) (te := tCall (spScans d) [] E0 (tCons (tVar 1) tNil)) rfl nd
      (pi_tup (pe_ix ix_tup (pv 0) pe_int (fun _ _ => rfl))) (blkOk_by (N := scN) (sc := defScope sL_scans) (by decide +kernel)) (fun _ _ _ _ _ => pg_name (i := 1) nd rfl (Or.inl rfl)) (fun _ _ _ _ _ => pts_nil)
      (fun _ _ _ _ _ => pcal ih hr (Nat.le_refl _) (by rfl) (pa_cons (pv 1) pa_nil))) (pa_cons (pe_lst pa_nil) pa_nil)))))), ?_⟩
  obtain ⟨kw, v, hp, c3⟩ := ok_pair ok
  refine ⟨_, rfl, p.root, _, 0, _, rfl, rfl, .inl hp, ix0, rfl, _, rfl, ?_⟩
  rcases c3 with ⟨y, e, rfl, rfl, hy⟩ | ⟨r, e, rfl, rfl, hr2⟩ | ⟨c, m, ps, e, rfl, rfl, hc, hne, hok⟩
  · refine iteT ⟨_, rfl, p.root, _, 1, _, rfl, rfl, .inl hp, ix1, by show 1 ≤ sizeLine; decide, fun l hl => q _ l (same_upd hl) hl ?_⟩
    rw [upd_same, e]
    rfl
  · have es : scans p = scans r := by rw [e, scans_sort]
    have hrk : r ∈ p.kids := by rw [e]; simp [AP.kids]
    have hdk := AP.depth_kid hrk
    rw [es] at q h6
    exact iteF ⟨_, rfl, p.root, _, 0, _, rfl, rfl, .inl hp, ix0, rfl, _, rfl, iteT ⟨_, rfl, p.root, _, 1, _, rfl, rfl, .inl hp, ix1, r, rfl, hr2, by omega, h6, q⟩⟩
  · have w1 : decide (V.str (word m) = V.str "scan") = false := by cases m <;> decide
    have w2 : decide (V.str (word m) = V.str "sort") = false := by cases m <;> decide
    have esc : scans p = ps.flatMap scans := by rw [e, scans_many]
    have ek : p.kids = ps := by rw [e]; rfl
    rw [w1]
    refine iteF ⟨_, rfl, p.root, _, 0, _, rfl, rfl, .inl hp, ix0, rfl, _, rfl, ?_⟩
    rw [w2]
    refine iteF ?_
    refine ⟨_, rfl, p.root, _, 1, _, rfl, rfl, .inl hp, ix1, c, rfl, ⟨_, .inl hc⟩, fun D hD => lc_it (walk_tup (xs := rootsV ps)) (ScP H D ps)
      ⟨[], upd_same, fun e he => (by cases he), rfl, same_upd hD⟩ (fun i H' _ h => ?_) (fun i v H1 H2 hi hp hv => ?_) fun H1 hp => ?_⟩
    · obtain ⟨_, _, _, _, s⟩ := h
      exact .inl (keeps_same s _ _ hc)
    · obtain ⟨rfl, hv⟩ := hv
      obtain ⟨es, h1, h2, h3, h4⟩ := hp
      unfold rootsV at hv
      rw [List.getElem?_map] at hv
      obtain ⟨r, hr1, rfl⟩ := Option.map_eq_some_iff.mp hv
      have hrk : r ∈ p.kids := by rw [ek]; exact List.mem_of_getElem? hr1
      have hdk := AP.depth_kid hrk
      have hl3 : es.length = i := by
        have := congrArg List.length h3
        rw [List.length_map, List.length_map, List.length_take] at this
        have hi' : i < ps.length := (List.getElem?_eq_some_iff.mp hr1).1
        omega
      have hps := scansL_pos ps hok
      rw [← esc] at hps
      refine ⟨rfl, iteT (B := ScP H D ps (i + 1) H2) ⟨_, rfl, r, rfl, (ok_keeps (keeps_same h4) ok).kid hrk, by omega, Nat.le_trans (scans_sub hrk).length_le h6, fun H3 l3 s3 n3 hl => ⟨_, s3 _ _ h1, ?_, es ++ [(l3, (scans r).map V.str)], ?_, fun e he => ?_, ?_, ?_⟩⟩⟩
      · rw [List.length_map, hl3]
        have hi' : i < ps.length := (List.getElem?_eq_some_iff.mp hr1).1
        exact Nat.lt_of_lt_of_le (show i < 7 by omega) (by decide)
      · rw [upd_same, List.map_append]; rfl
      · rcases List.mem_append.mp he with he | he
        · obtain ⟨y1, y2⟩ := h2 e he
          exact ⟨y1, by rw [upd_ne y1]; exact s3 _ _ y2⟩
        · obtain rfl : e = (l3, (scans r).map V.str) := by simpa using he
          have : l3 ≠ D := fun z => by rw [z, h1] at n3; cases n3
          exact ⟨this, by rw [upd_ne this]; exact hl⟩
      · rw [List.map_append, h3, take_snoc hr1, List.map_append]; rfl
      · exact fun b o e => by rw [upd_ne (ne_of_none e hD)]; exact s3 _ _ (h4 _ _ e)
    · obtain ⟨es, h1, h2, h3, h4⟩ := hp
      rw [show (rootsV ps).length = ps.length from List.length_map .., List.take_length] at h3
      have hfl := flat_of h3
      refine ⟨Nat.zero_le _, fun z hz => ⟨D, z, es, rfl, SqL.of (same_upd hz _ _ h1), upd_same, fun e he => same_upd hz _ _ (h2 e he).2, ?_, fun c0 => ?_, fun _ p4 n4 => ?_⟩⟩
      · rw [hfl, List.length_map, ← esc]
        exact Nat.le_trans h6 (by decide)
      · rw [c0] at h3
        cases ps with
        | nil => exact absurd rfl hne
        | cons a b => cases h3
      · have sz := h4.trans (same_upd (o := .lst []) hz)
        refine q _ p4 (sz.trans (same_upd n4)) (none_back sz n4) ?_
        rw [upd_same, hfl, esc]
theorem c_scansD (Tx0 : Tx K mg) : ∀ d, PCal P w K mg base (d + 1) "_law_scans" (spScans d)
  | 0 => c_scans0 Tx0
  | d + 1 => c_scansS Tx0 (c_scansD Tx0 d)
theorem c_scans (Tx0 : Tx K mg) : PCal P w K mg base 19 "_law_scans" (spScans 18) := c_scansD Tx0 18
end
end Mu
end
section
set_option Elab.async false
set_option maxRecDepth 100000
set_option autoImplicit false
set_option linter.all false
/-! _law_is_sorted -/
namespace Mu
open PySem PySem.Spec L2 Gz PySem.W LamX
open PyProof.Rows hiding St
mutual
/-- is there a sort above the scan of x -/
def sortedR : AP → Str → Bool
  | .scan _ _, _ => false
  | .sort _ _, _ => true
  | .many _ _ _ ps, x => sortedL ps x
def sortedL : List AP → Str → Bool
  | [], _ => false
  | p :: ps, x => if x ∈ scans p then sortedR p x else sortedL ps x
end
abbrev pick (x : Str) (ps : List AP) : List AP := ps.filter fun r => decide (x ∈ scans r)
theorem sortedL_pick : ∀ {ps : List AP} {x : Str} {r : AP} {rest : List AP}, pick x ps = r :: rest → sortedL ps x = sortedR r x
  | [], _, _, _, h => by cases h
  | p :: ps, x, r, rest, h => by
    rw [sortedL]
    by_cases c : x ∈ scans p
    · rw [if_pos c]
      rw [pick, List.filter_cons_of_pos (by simpa using c)] at h
      injection h with h1 h2
      rw [h1]
    · rw [if_neg c]
      rw [pick, List.filter_cons_of_neg (by simpa using c)] at h
      exact sortedL_pick h
theorem pick_some {ps : List AP} {x : Str} (h : x ∈ ps.flatMap scans) : ∃ r rest, pick x ps = r :: rest ∧ r ∈ ps ∧ x ∈ scans r := by
  obtain ⟨r, hr, hx⟩ := List.mem_flatMap.mp h
  have hm : r ∈ pick x ps := List.mem_filter.mpr ⟨hr, by simpa using hx⟩
  cases e : pick x ps with
  | nil => rw [e] at hm; cases hm
  | cons a b =>
    have ha : a ∈ pick x ps := by rw [e]; exact List.mem_cons_self
    obtain ⟨h1, h2⟩ := List.mem_filter.mp ha
    exact ⟨a, b, rfl, h1, by simpa using h2⟩
/-- the picking in the midst -/
def PkP (H : Hp) (D : Addr) (x : Str) (ps : List AP) (i : Nat) (H' : Hp) : Prop := H' D = some (.lst (rootsV (pick x (ps.take i)))) ∧ Same H H'
def spIsSorted (d : Nat) : Sp := fun vs H Q _ => ∃ (p : AP) (x : Str), vs = [.ref p.root, .str x] ∧ p.Ok (tups H) ∧ PlanOk p ∧ p.depth ≤ d ∧ x ∈ scans p ∧ ∀ H', Same H H' → Q (.bl (sortedR p x)) H'
section
variable {P : Program} {w : World} {K : PySem.W.Frag} {mg : Str → Option Value} {base : Heap} {T : List (Addr × Str)}
theorem kids_scans {p : AP} (h : isScan p = false) : scans p = p.kids.flatMap scans := by
  cases p with
  | scan a y => cases h
  | sort a r => rw [scans_sort]; simp [AP.kids]
  | many a c m ps => rw [scans_many]; rfl
theorem kids_few {p : AP} {U : Hp} (ok : p.Ok U) (pk : PlanOk p) (h : isScan p = false) : p.kids.length ≤ 6 := by
  have := scansL_pos p.kids (okL_iff.mpr fun r hr => ok.kid hr)
  rw [← kids_scans h] at this
  exact Nat.le_trans this pk.few
theorem pick_pos {x : Str} {l : List AP} {r : AP} (c : x ∈ scans r) : pick x (l ++ [r]) = pick x l ++ [r] := by simp [pick, List.filter_append, c]
theorem pick_neg {x : Str} {l : List AP} {r : AP} (c : x ∉ scans r) : pick x (l ++ [r]) = pick x l := by simp [pick, List.filter_append, c]
/-- the picking's reading -/
theorem pick_read {K : PySem.W.Frag} {H H1 : Hp} {Q : VK} {p : AP} {x : Str} {l : Addr} {a : V} {v4 v3 : Option V} (ok : p.Ok (tups H)) (pk : PlanOk p) (hsc : isScan p = false) (hx : x ∈ scans p) (s1 : Same H H1) (hl : H1 l = some (.lst (rootsV p.kids)))
    (q : ∀ (H2 : Hp) (r : AP) (rest : List AP), Same H H2 → r ∈ p.kids → x ∈ scans r → pick x p.kids = r :: rest → Q (.ref r.root) H2) :
    tOp (rIxL K) (tLc (iList K (tVar 2)) (gName 4) (tTest (tOp (rIn K false) (tVar 1) (tCall (spScans 18) [] E0 (tCons (tVar 4) tNil)))) (tVar 4) [4]) (tC (.int 0)) [some a, some (.str x), some (.ref l), v3, v4] H1 Q := by
  have kl := kids_few ok pk hsc
  refine ⟨_, rfl, l, rfl, ⟨_, SqL.of hl⟩, fun D hD => lc_it (walk_list (xs := rootsV p.kids)) (PkP H1 D x p.kids) ⟨by rw [upd_same]; rfl, same_upd hD⟩ (fun i H' _ h => SqL.of (h.2 _ _ hl)) (fun i v H2 H3 hi hp hv => ?_) fun H2 hp => ?_⟩
  · obtain ⟨rfl, hv⟩ := hv
    obtain ⟨h1, h2⟩ := hp
    unfold rootsV at hv
    rw [List.getElem?_map] at hv
    obtain ⟨r, hr1, rfl⟩ := Option.map_eq_some_iff.mp hv
    have hrk : r ∈ p.kids := List.mem_of_getElem? hr1
    have pkr := pk.kid hrk
    have hi' : i < p.kids.length := (List.getElem?_eq_some_iff.mp hr1).1
    refine ⟨rfl, _, rfl, _, rfl, r, rfl, (ok_keeps (keeps_same (s1.trans h2)) ok).kid hrk, pkr.depth, pkr.few, fun H4 l4 s4 n4 hl4 => ⟨l4, _, rfl, .inl (SqL.of hl4), rfl, flat_strs _, _, rfl, ?_⟩⟩
    have h14 := s4 _ _ h1
    rw [inV_str]
    by_cases c : x ∈ scans r
    · rw [decide_eq_true c]
      refine iteT (B := PkP H1 D x p.kids (i + 1) H4) ⟨_, rfl, _, h14, ?_, ?_, fun b o e => ?_⟩
      · rw [show (rootsV (pick x (p.kids.take i))).length = (pick x (p.kids.take i)).length from List.length_map ..]
        have h1 := List.length_filter_le (fun r => decide (x ∈ scans r)) (p.kids.take i)
        rw [List.length_take] at h1
        exact Nat.lt_of_le_of_lt h1 (Nat.lt_of_lt_of_le (show _ < 7 by omega) (by decide))
      · rw [upd_same, take_snoc hr1, pick_pos c]
        unfold rootsV
        rw [List.map_append]
        rfl
      · rw [upd_ne (ne_of_none e hD)]
        exact s4 _ _ (h2 _ _ e)
    · rw [decide_eq_false c]
      refine iteF ⟨?_, h2.trans s4⟩
      rw [take_snoc hr1, pick_neg c]
      exact h14
  · obtain ⟨h1, h2⟩ := hp
    rw [show (rootsV p.kids).length = p.kids.length from List.length_map .., List.take_length] at h1
    rw [kids_scans hsc] at hx
    obtain ⟨r, rest, e, hr, hxr⟩ := pick_some hx
    rw [e] at h1
    exact ⟨D, _, 0, _, rfl, rfl, SqL.of h1, atI_nat (show (rootsV (r :: rest))[0]? = some (.ref r.root) from rfl), q H2 r rest (s1.trans h2) hr hxr e⟩
abbrev isN : List Str := ["_law_plan_here", "_law_name", "_law_parts", "_law_below", "_law_part"]
theorem fs_issorted : FnScope isN ["_law_plan_here", "_law_name"] (defScope sL_is_sorted) := ⟨rfl, rfl, rfl, by decide, rfl, by decide +kernel, by decide +kernel⟩
theorem c_issorted0 (Tx0 : Tx K mg) : PCal P w K mg base 20 "_law_is_sorted" (spIsSorted 0) := by
  refine pc_mk Tx0.f_law_is_sorted fs_issorted (fun vs H Q E h => by obtain ⟨_, _, rfl, _⟩ := h; rfl) (fun _ _ _ _ _ _ us hl => match us, hl with | [_, _], _ => rfl) fun f cdv A outer s H vs Q E hr h => ?_
  obtain ⟨p, x, rfl, ok, pk, hd, hx, q⟩ := h
  refine ⟨_, pss_cons (ps_if (pt_cmpR op_eq (pe_ix ix_tup (pv 0) pe_int (fun _ _ => rfl)) pe_str (nomark _)) (pss_one (ps_ret pe_bl)) pss_nil) pss_never, ?_⟩
  obtain ⟨kw, v, hp, c3⟩ := ok_pair ok
  refine ⟨_, rfl, p.root, _, 0, _, rfl, rfl, .inl hp, ix0, rfl, _, rfl, ?_⟩
  rcases c3 with ⟨y, e, rfl, rfl, hy⟩ | ⟨r, e, rfl, rfl, hr2⟩ | ⟨c, m, ps, e, rfl, rfl, hc, hne, -⟩
  · have el : sortedR p x = false := by rw [e, sortedR]
    rw [el] at q
    exact iteT (q H (Same.refl H))
  · rw [e] at hd; simp [AP.depth] at hd
  · rw [e] at hd; simp [AP.depth] at hd
theorem c_issortedS (Tx0 : Tx K mg) {d : Nat} (ih : PCal P w K mg base (20 + d) "_law_is_sorted" (spIsSorted d)) : PCal P w K mg base (21 + d) "_law_is_sorted" (spIsSorted (d + 1)) := by
  rw [show 21 + d = (20 + d) + 1 by omega]
  refine pc_mk Tx0.f_law_is_sorted fs_issorted (fun vs H Q E h => by obtain ⟨_, _, rfl, _⟩ := h; rfl) (fun _ _ _ _ _ _ us hl => match us, hl with | [_, _], _ => rfl) fun f cdv A outer s H vs Q E hr h => ?_
  obtain ⟨p, x, rfl, ok, pk, hd, hx, q⟩ := h
  have nd : isN.Nodup := by decide
  refine ⟨_, pss_cons (ps_if (pt_cmpR op_eq (pe_ix ix_tup (pv 0) pe_int (fun _ _ => rfl)) pe_str (nomark _)) (pss_one (ps_ret pe_bl)) pss_nil)
    (pss_cons (ps_set (i := 2) nd rfl (Or.inl rfl) (pe_ifExp (pt_cmpR op_eq (pe_ix ix_tup (pv 0) pe_int (fun _ _ => rfl)) pe_str (nomark _)) (pe_lst (pa_cons (pe_ix ix_tup (pv 0) pe_int (fun _ _ => rfl)) pa_nil)) (pe_callTy call_list_of (by rfl) Tx0.blist boot_list (pa_cons (pe_ix ix_tup (pv 0) pe_int (fun _ _ => rfl)) pa_nil))))
    (pss_cons (ps_set (i := 3) nd rfl (Or.inl rfl) (pe_ix ix_list (pe_lc (own := [("_law_part", 4)]) (g := gName 4) (tt := tTest (tOp (rIn K false) (tVar 1) (tCall (spScans 18) [] E0 (tCons (tVar 4) tNil)))) (te := tVar 4) rfl nd (pi_list (pv 2)) (blkOk_by (N := isN) (sc := defScope sL_is_sorted) (by decide +kernel)) (fun _ _ _ _ _ => pg_name (i := 4) nd rfl (Or.inl rfl))
      (fun _ _ _ _ _ => pts_one (pt_cmpR op_in_seq (pv 1) (pcal (c_scans Tx0) hr (by omega) (by rfl) (pa_cons (pv 4) pa_nil)) (by with_unfolding_all rfl))) (fun _ _ _ _ _ => pv 4)) pe_int (fun _ _ => rfl)))
    (pss_one (ps_ret (pe_or (pe_cmpR op_eq (pe_ix ix_tup (pv 0) pe_int (fun _ _ => rfl)) pe_str (nomark _)) (pe_one (pcal ih hr (Nat.le_refl _) (by rfl) (pa_cons (pv 3) (pa_cons (pv 1) pa_nil)))))))))
    , ?_⟩
  obtain ⟨kw, v, hp, c3⟩ := ok_pair ok
  refine ⟨_, rfl, p.root, _, 0, _, rfl, rfl, .inl hp, ix0, rfl, _, rfl, ?_⟩
  rcases c3 with ⟨y, e, rfl, rfl, hy⟩ | ⟨r, e, rfl, rfl, hr2⟩ | ⟨c, m, ps, e, rfl, rfl, hc, hne, hok⟩
  · have el : sortedR p x = false := by rw [e, sortedR]
    rw [el] at q
    exact iteT (q H (Same.refl H))
  · have el : sortedR p x = true := by rw [e, sortedR]
    have ek : p.kids = [r] := by rw [e]; rfl
    rw [el] at q
    have hs1 : isScan p = false := by rw [e]; rfl
    refine iteF ⟨_, rfl, p.root, _, 0, _, rfl, rfl, .inl hp, ix0, rfl, _, rfl, iteT ⟨_, rfl, p.root, _, 1, _, rfl, rfl, .inl hp, ix1, by show 1 ≤ sizeLine; decide, fun l hl => ?_⟩⟩
    have s1 := same_upd (o := .lst [V.ref r.root]) hl
    have hl1 : upd H l (.lst [V.ref r.root]) l = some (.lst (rootsV p.kids)) := by rw [upd_same, ek]; rfl
    generalize upd H l (.lst [V.ref r.root]) = H1 at s1 hl1 ⊢
    dsimp only [tSeq, tAsg, gName]
    exact pick_read ok pk hs1 hx s1 hl1 fun H2 r rest s2 hrk hxr hpk => ⟨_, rfl, p.root, _, 0, _, rfl, rfl, .inl (keeps_same s2 _ _ hp), ix0, rfl, true, rfl, q H2 s2⟩
  · have el : sortedR p x = sortedL ps x := by rw [e, sortedR]
    have ek : p.kids = ps := by rw [e]; rfl
    have hs1 : isScan p = false := by rw [e]; rfl
    have w1 : decide (V.str (word m) = V.str "scan") = false := by cases m <;> decide
    have w2 : decide (V.str (word m) = V.str "sort") = false := by cases m <;> decide
    rw [w1]
    refine iteF ⟨_, rfl, p.root, _, 0, _, rfl, rfl, .inl hp, ix0, rfl, _, rfl, ?_⟩
    rw [w2]
    refine iteF ⟨_, rfl, p.root, _, 1, _, rfl, rfl, .inl hp, ix1, c, _, rfl, .inr (.inl hc), fun l hl => ?_⟩
    have s1 := same_upd (o := .lst (rootsV ps)) hl
    have hl1 : upd H l (.lst (rootsV ps)) l = some (.lst (rootsV p.kids)) := by rw [upd_same, ek]
    generalize upd H l (.lst (rootsV ps)) = H1 at s1 hl1 ⊢
    dsimp only [tSeq, tAsg, gName]
    refine pick_read ok pk hs1 hx s1 hl1 fun H2 r rest s2 hrk hxr hpk => ⟨_, rfl, p.root, _, 0, _, rfl, rfl, .inl (keeps_same s2 _ _ hp), ix0, rfl, ?_⟩
    have hdk := AP.depth_kid hrk
    rw [w2]
    refine ⟨false, rfl, ?_⟩
    refine ⟨_, rfl, _, rfl, r, x, rfl, (ok_keeps (keeps_same s2) ok).kid hrk, pk.kid hrk, by omega, hxr, fun H3 s3 => ?_⟩
    have e3 : sortedR p x = sortedR r x := by rw [el, ← ek]; exact sortedL_pick hpk
    rw [← e3]
    exact q H3 (s2.trans s3)
theorem c_issortedD (Tx0 : Tx K mg) : ∀ d, PCal P w K mg base (20 + d) "_law_is_sorted" (spIsSorted d)
  | 0 => c_issorted0 Tx0
  | d + 1 => by
    rw [show 20 + (d + 1) = 21 + d by omega]
    exact c_issortedS Tx0 (c_issortedD Tx0 d)
theorem c_issorted (Tx0 : Tx K mg) : PCal P w K mg base 38 "_law_is_sorted" (spIsSorted 18) := c_issortedD Tx0 18
end
end Mu
end
section
set_option Elab.async false
set_option maxRecDepth 100000
set_option autoImplicit false
set_option linter.all false
/-! _law_draws, _law_next -/
namespace Mu
open PySem PySem.Spec L2 Gz PySem.W LamX
open PyProof.Rows hiding St
/-- a power of a great number -/
theorem op_powB {X : Cx} : OpR X (binaryOp .Pow) (rI (fun i j => 0 ≤ j ∧ (Builtin.Int.intBits i : Int) * j ≤ 2 ^ 27) fun i j => .int (i ^ j.toNat)) := opI fun _ _ _ _ _ _ _ hc q => pow_int hc.1 hc.2 q
def bigM : Int := (((10 : Int) ^ (60 : Int).toNat) ^ (60 : Int).toNat) ^ (4 : Int).toNat
theorem bigM_pos : 0 < bigM := by decide +kernel
theorem bits1 : 0 ≤ (60 : Int) ∧ (Builtin.Int.intBits ((10 : Int) ^ (60 : Int).toNat) : Int) * 60 ≤ 2 ^ 27 := by decide +kernel
theorem bits2 : 0 ≤ (4 : Int) ∧ (Builtin.Int.intBits (((10 : Int) ^ (60 : Int).toNat) ^ (60 : Int).toNat) : Int) * 4 ≤ 2 ^ 27 := by decide +kernel
/-- a draw's state at l -/
structure Drw (H : Hp) (l : Addr) (k : Int) : Prop where
  ex : ∃ (a : Int) (b : Bool), H l = some (.lst [.int a, .int k, .bl b]) ∧ 0 ≤ a
  nn : 0 ≤ k
def Only (l : Addr) (H H' : Hp) : Prop := ∀ b, b ≠ l → H' b = H b
def spDraws : Sp := fun vs H Q _ => ∃ c : Int, vs = [.int c] ∧ ∀ (H' : Hp) (l : Addr), Same H H' → H l = none → Drw H' l 0 → Q (.ref l) H'
def spNext : Sp := fun vs H Q _ => ∃ (l : Addr) (k : Int), vs = [.ref l] ∧ Drw H l k ∧ k < 1000000 ∧ ∀ (n : Int) (H' : Hp), 0 ≤ n → Only l H H' → Drw H' l (k + 1) → Q (.int n) H'
section
variable {P : Program} {w : World} {K : PySem.W.Frag} {mg : Str → Option Value} {base : Heap} {T : List (Addr × Str)}
theorem fs_draws : FnScope ["_law_cell"] ["_law_cell"] (defScope sL_draws) := ⟨rfl, rfl, rfl, by decide, rfl, by decide +kernel, by decide +kernel⟩
theorem c_draws (Tx0 : Tx K mg) : PCal P w K mg base 1 "_law_draws" spDraws := by
  refine pc_mk Tx0.f_law_draws fs_draws (fun vs H Q E h => by obtain ⟨_, rfl, _⟩ := h; rfl) (fun _ _ _ _ _ _ us hl => match us, hl with | [_], _ => rfl) fun f cdv A outer s H vs Q E hr h => ?_
  obtain ⟨c, rfl, q⟩ := h
  refine ⟨_, pss_one (ps_ret (pe_lst (pa_cons (pe_op op_mod (pe_callTy call_int1 (by rfl) Tx0.bint boot_int (pa_cons (pv 0) pa_nil)) (pe_op op_powB (pe_op op_powB (pe_op op_pow pe_int pe_int) pe_int) pe_int)) (pa_cons pe_int (pa_cons (pe_cmpR op_ge (pv 0) (pe_op op_pow pe_int pe_int) (nomark _)) pa_nil))))), ?_⟩
  refine ⟨_, rfl, .inl ⟨c, rfl, _, _, rfl, rfl, ⟨by decide, by decide, by decide⟩, _, _, rfl, rfl, bits1, _, _, rfl, rfl, bits2, _, _, rfl, rfl, bigM_pos, _, rfl, _, _, rfl, rfl, ⟨by decide, by decide, by decide⟩, _, _, rfl, rfl, by show 3 ≤ sizeLine; decide, fun l hl => ?_⟩⟩
  exact q _ l (same_upd hl) hl ⟨⟨_, _, upd_same, Int.emod_nonneg _ (Int.ne_of_gt bigM_pos)⟩, Int.le_refl _⟩
end
end Mu
end
section
set_option Elab.async false
set_option maxRecDepth 100000
set_option autoImplicit false
set_option linter.all false
/-! _law_next -/
namespace Mu
open PySem PySem.Spec L2 Gz PySem.W LamX
open PyProof.Rows hiding St
theorem mul64 {i j : Int} (h1 : -(2 ^ 64) < i) (h2 : i < 2 ^ 64) : CMul i j := .inl ⟨h1, h2⟩
theorem sq_lt {k : Int} (h0 : 0 ≤ k) (h : k ≤ 1000000) : 0 ≤ k * k ∧ k * k ≤ 1000000000000 := ⟨Int.mul_nonneg h0 h0, by
  have := Int.mul_le_mul h h h0 (by decide)
  omega⟩
section
variable {P : Program} {w : World} {K : PySem.W.Frag} {mg : Str → Option Value} {base : Heap} {T : List (Addr × Str)}
abbrev nxN : List Str := ["_law_draws_here", "_law_k", "_law_number"]
theorem fs_next : FnScope nxN ["_law_draws_here"] (defScope sL_next) := ⟨rfl, rfl, rfl, by decide, rfl, by decide +kernel, by decide +kernel⟩
theorem c_next (Tx0 : Tx K mg) : PCal P w K mg base 1 "_law_next" spNext := by
  refine pc_mk Tx0.f_law_next fs_next (fun vs H Q E h => by obtain ⟨_, _, rfl, _⟩ := h; rfl) (fun _ _ _ _ _ _ us hl => match us, hl with | [_], _ => rfl) fun f cdv A outer s H vs Q E hr h => ?_
  obtain ⟨l, k, rfl, ⟨⟨a, b, ha, ha0⟩, hk0⟩, hk, q⟩ := h
  have nd : nxN.Nodup := by decide
  refine ⟨_, pss_cons (ps_asg (pe_op op_add (pe_ix ix_list (pv 0) pe_int (fun _ _ => rfl)) pe_int) (pg_sub (pv 0) pe_int set_list))
    (pss_cons (ps_set (i := 1) nd rfl (Or.inl rfl) (pe_ix ix_list (pv 0) pe_int (fun _ _ => rfl)))
    (pss_cons (ps_if (pt_val (pe_ix ix_list (pv 0) pe_int (fun _ _ => rfl)))
      (pss_cons (ps_set (i := 2) nd rfl (Or.inl rfl) (pe_op op_mod (pe_callTy call_int1 (by rfl) Tx0.bint boot_int (pa_cons (pe_ix ix_list (pv 0) pe_int (fun _ _ => rfl)) pa_nil)) (pe_op op_pow pe_int pe_int)))
      (pss_cons (ps_asg (pe_op op_fdiv (pe_ix ix_list (pv 0) pe_int (fun _ _ => rfl)) (pe_op op_pow pe_int pe_int)) (pg_sub (pv 0) pe_int set_list))
      (pss_one (ps_ret (pv 2))))) pss_nil)
    (pss_cons (ps_set (i := 2) nd rfl (Or.inl rfl) (pe_op op_mod (pe_callTy call_int1 (by rfl) Tx0.bint boot_int (pa_cons (pe_op op_mul (pe_op op_add (pe_op op_add (pe_op op_mod (pe_callTy call_int1 (by rfl) Tx0.bint boot_int (pa_cons (pe_ix ix_list (pv 0) pe_int (fun _ _ => rfl)) pa_nil)) pe_int) (pe_op op_mul (pe_op op_mul (pv 1) (pv 1)) pe_int)) (pv 1)) pe_int) pa_nil)) pe_int))
    (pss_cons (ps_set (i := 2) nd rfl (Or.inl rfl) (pe_op op_mod (pe_callTy call_int1 (by rfl) Tx0.bint boot_int (pa_cons (pe_op op_mul (pv 2) (pv 2)) pa_nil)) pe_int))
    (pss_one (ps_ret (pe_op op_fdiv (pe_op op_mod (pe_callTy call_int1 (by rfl) Tx0.bint boot_int (pa_cons (pe_op op_mul (pv 2) (pe_op op_add (pv 2) pe_int)) pa_nil)) pe_int) pe_int))))))), ?_⟩
  refine ⟨_, rfl, l, _, 1, _, rfl, rfl, SqL.of ha, rfl, _, _, rfl, rfl, _, rfl, l, _, _, 1, rfl, rfl, ha, rfl, ?_⟩
  have h1 : upd H l (.lst [.int a, .int (k + 1), .bl b]) l = some (.lst [.int a, .int (k + 1), .bl b]) := upd_same
  have o1 : Only l H (upd H l (.lst [.int a, .int (k + 1), .bl b])) := fun c hc => upd_ne hc
  show tSeq _ _ _ _ (upd H l (.lst [.int a, .int (k + 1), .bl b]))
  generalize upd H l (.lst [.int a, .int (k + 1), .bl b]) = H1 at h1 o1 ⊢
  refine ⟨_, rfl, l, _, 1, _, rfl, rfl, SqL.of h1, rfl, ?_⟩
  refine ⟨_, rfl, l, _, 2, _, rfl, rfl, SqL.of h1, rfl, b, rfl, ?_⟩
  cases b with
  | true =>
    refine iteT ⟨_, rfl, l, _, 0, _, rfl, rfl, SqL.of h1, rfl, .inl ⟨_, rfl, _, _, rfl, rfl, ⟨by decide, by decide, by decide⟩, _, _, rfl, rfl, by show (0 : Int) < 10 ^ (6 : Int).toNat; decide, ?_⟩⟩
    refine ⟨_, rfl, l, _, 0, _, rfl, rfl, SqL.of h1, rfl, _, _, rfl, rfl, ⟨by decide, by decide, by decide⟩, _, _, rfl, rfl, ⟨by decide, by decide⟩, _, rfl, l, _, _, 0, rfl, rfl, h1, rfl, ?_⟩
    refine ⟨_, rfl, q _ _ (Int.emod_nonneg _ (by decide)) (fun c hc => by rw [upd_ne hc]; exact o1 c hc) ⟨⟨_, _, upd_same, Int.ediv_nonneg ha0 (by decide)⟩, by omega⟩⟩
  | false =>
    have s1 := sq_lt (k := k + 1) (by omega) (by omega)
    refine iteF ⟨_, rfl, l, _, 0, _, rfl, rfl, SqL.of h1, rfl, .inl ⟨_, rfl, _, _, rfl, rfl, (show (0 : Int) < 1000003 by decide), _, rfl, _, rfl, _, _, rfl, rfl, mul64 (by omega) (by omega), _, _, rfl, rfl, mul64 (by omega) (by omega), _, _, rfl, rfl, _, rfl, _, _, rfl, rfl, _, _, rfl, rfl, ?_, .inl ⟨_, rfl, _, _, rfl, rfl, (show (0 : Int) < 2147483629 by decide), ?_⟩⟩⟩
    · have m1 := Int.emod_nonneg a (b := 1000003) (by decide)
      have m2 := Int.emod_lt_of_pos a (b := 1000003) (by decide)
      exact mul64 (by omega) (by omega)
    · generalize hx : (a % 1000003 + (k + 1) * (k + 1) * 7919 + (k + 1)) * 48271 % 2147483629 = x
      have x1 : 0 ≤ x := by rw [← hx]; exact Int.emod_nonneg _ (by decide)
      have x2 : x < 2147483629 := by rw [← hx]; exact Int.emod_lt_of_pos _ (by decide)
      refine ⟨_, rfl, _, rfl, _, _, rfl, rfl, mul64 (by omega) (by omega), .inl ⟨_, rfl, _, _, rfl, rfl, (show (0 : Int) < 2147483587 by decide), ?_⟩⟩
      generalize hy : x * x % 2147483587 = y
      have y1 : 0 ≤ y := by rw [← hy]; exact Int.emod_nonneg _ (by decide)
      have y2 : y < 2147483587 := by rw [← hy]; exact Int.emod_lt_of_pos _ (by decide)
      refine ⟨_, rfl, _, rfl, _, _, rfl, rfl, _, _, rfl, rfl, mul64 (by omega) (by omega), .inl ⟨_, rfl, _, _, rfl, rfl, (show (0 : Int) < 2147483579 by decide), _, _, rfl, rfl, ⟨by decide, by decide⟩, ?_⟩⟩
      exact q _ _ (Int.ediv_nonneg (Int.emod_nonneg _ (by decide)) (by decide)) o1 ⟨⟨_, _, h1, ha0⟩, by omega⟩
end
end Mu
end
section
set_option Elab.async false
set_option maxRecDepth 100000
set_option autoImplicit false
set_option linter.all false
/-! _law_names -/
namespace Mu
open PySem PySem.Spec L2 Gz PySem.W LamX
open PyProof.Rows hiding St
def baseA : List Str := ["a", "b", "c", "dd", "e", "longer"]
def baseB : List Str := ["sort", "merge", "a", "ab", "merged", "sorts"]
def pool (b : Bool) : List Str := if b then baseB else baseA
theorem pool_ok : ∀ b, (pool b).Nodup ∧ (pool b).length = 6 ∧ ∀ x ∈ pool b, x ∈ names := by decide +kernel
/-- the names that a plan may have -/
structure SomeOk (zs : List Str) : Prop where
  nd : zs.Nodup
  lo : 1 ≤ zs.length
  hi : zs.length ≤ 6
  mem : ∀ x ∈ zs, x ∈ names
def spSome : Sp := fun vs H Q _ => ∃ (l : Addr) (k : Int), vs = [.ref l, .int 6] ∧ Drw H l k ∧ k < 900000 ∧ ∀ (H' : Hp) (r : Addr) (zs : List Str) (k' : Int), But l H H' → Drw H' l k' → k' ≤ k + 8 → H r = none → H' r = some (.lst (zs.map V.str)) → SomeOk zs → Q (.ref r) H'
theorem Drw.same {H H' : Hp} {l : Addr} {k : Int} (d : Drw H l k) (s : Same H H') : Drw H' l k := by
  obtain ⟨⟨a, b, h, ha⟩, n⟩ := d
  exact ⟨⟨a, b, s _ _ h, ha⟩, n⟩
theorem Drw.at {H : Hp} {l : Addr} {k : Int} (d : Drw H l k) : H l ≠ none := by
  obtain ⟨⟨a, b, h, ha⟩, n⟩ := d
  rw [h]
  exact fun z => by cases z
theorem Drw.ne {H : Hp} {l p : Addr} {k : Int} (d : Drw H l k) (h : H p = none) : p ≠ l := fun z => d.at (by rw [← z]; exact h)
theorem Drw.only {H H' : Hp} {l p : Addr} {k : Int} {o : HO} (d : Drw H l k) (h : p ≠ l) (n : ∀ b, b ≠ l → b ≠ p → H' b = H b) (e : H' l = H l) : Drw H' l k := by
  obtain ⟨⟨a, b, h2, ha⟩, nn⟩ := d
  exact ⟨⟨a, b, by rw [e]; exact h2, ha⟩, nn⟩
theorem seq_nat {i : Int} {n : Nat} (h0 : 0 ≤ i) (h1 : i < n) : seqIndex? i n = some i.toNat := by
  unfold seqIndex?
  rw [if_neg (show ¬ i < 0 by omega)]
  have e : (decide ((0 : Int) ≤ i) && decide (i < (n : Int))) = true := by
    rw [Bool.and_eq_true, decide_eq_true_eq, decide_eq_true_eq]
    omega
  exact if_pos e
theorem cut_pool (b : Bool) : cutV ((pool b).map V.str) none (some 6) = (pool b).map V.str := by cases b <;> rfl
theorem perm_pop {zs ys base : List Str} {j : Nat} {y : Str} (h : (zs ++ ys).Perm base) (hj : ys[j]? = some y) : ((zs ++ [y]) ++ ys.eraseIdx j).Perm base := by
  refine List.Perm.trans ?_ h
  rw [List.append_assoc]
  refine List.Perm.append_left zs ?_
  obtain ⟨hh, e⟩ := List.getElem?_eq_some_iff.mp hj
  rw [List.eraseIdx_eq_take_drop_succ]
  have e2 : ys = ys.take j ++ y :: ys.drop (j + 1) := by
    rw [← e, List.getElem_cons_drop hh, List.take_append_drop]
  conv => rhs; rw [e2]
  show (y :: (ys.take j ++ ys.drop (j + 1))).Perm _
  exact List.perm_middle.symm
section
variable {P : Program} {w : World} {K : PySem.W.Frag} {mg : Str → Option Value} {base : Heap} {T : List (Addr × Str)}
abbrev snN : List Str := ["_law_draws_here", "_law_most", "_law_left", "_law_told", "_law_k"]
theorem fs_some : FnScope snN ["_law_draws_here", "_law_most"] (defScope sL_names) := ⟨rfl, rfl, rfl, by decide, rfl, by decide +kernel, by decide +kernel⟩
theorem c_some (Tx0 : Tx K mg) : PCal P w K mg base 2 "_law_names" spSome := by
  refine pc_mk Tx0.f_law_names fs_some (fun vs H Q E h => by obtain ⟨_, _, rfl, _⟩ := h; rfl) (fun _ _ _ _ _ _ us hl => match us, hl with | [_, _], _ => rfl) fun f cdv A outer s H vs Q E hr h => ?_
  obtain ⟨l, k, rfl, dr, hk, q⟩ := h
  have nd : snN.Nodup := by decide
  refine ⟨_, pss_cons (ps_set (i := 2) nd rfl (Or.inl rfl) (pe_lst (pa_cons pe_str (pa_cons pe_str (pa_cons pe_str (pa_cons pe_str (pa_cons pe_str (pa_cons pe_str pa_nil))))))))
    (pss_cons (ps_if (pt_cmpR op_eq (pe_op op_mod (pe_callTy call_int1 (by rfl) Tx0.bint boot_int (pa_cons (pcal (c_next Tx0) hr (by omega) (by rfl) (pa_cons (pv 0) pa_nil)) pa_nil)) pe_int) pe_int (nomark _)) (pss_one (ps_set (i := 2) nd rfl (Or.inl rfl) (pe_lst (pa_cons pe_str (pa_cons pe_str (pa_cons pe_str (pa_cons pe_str (pa_cons pe_str (pa_cons pe_str pa_nil))))))))) pss_nil)
    (pss_cons (ps_set (i := 2) nd rfl (Or.inl rfl) (pe_slice sl_list (pv 2) po_none (po_some (pv 1))))
    (pss_cons (ps_set (i := 3) nd rfl (Or.inl rfl) (pe_lst pa_nil))
    (pss_cons (ps_for PassesOwn.never rfl (pi_range1 (by rfl) Tx0.brange (pa_cons (pe_op op_add pe_int (pe_op op_mod (pe_callTy call_int1 (by rfl) Tx0.bint boot_int (pa_cons (pcal (c_next Tx0) hr (by omega) (by rfl) (pa_cons (pv 0) pa_nil)) pa_nil)) (pv 1))) pa_nil)) (pg_name (i := 4) nd rfl (Or.inl rfl))
      (pss_one (ps_expr (pe_bm PySem.F.plainAttrs_list PySem.F.slot_list_append PySem.F.type_list_append mt_append (pv 3) (pa_cons
        (pe_bm PySem.F.plainAttrs_list PySem.F.slot_list_pop PySem.F.type_list_pop mt_popAt (pv 2) (pa_cons (pe_op op_mod (pe_callTy call_int1 (by rfl) Tx0.bint boot_int (pa_cons (pcal (c_next Tx0) hr (by omega) (by rfl) (pa_cons (pv 0) pa_nil)) pa_nil)) (pe_callB call_len_seq (by rfl) Tx0.blen PySem.boot_len (pa_cons (pv 2) pa_nil))) pa_nil)) pa_nil)))))
    (pss_one (ps_ret (pv 3))))))), ?_⟩
  refine ⟨by show 6 ≤ sizeLine; decide, fun p hp => ?_⟩
  have s1 := same_upd (o := .lst (baseA.map V.str)) hp
  have hp1 : upd H p (.lst (baseA.map V.str)) p = some (.lst (baseA.map V.str)) := upd_same
  have pl := dr.ne hp
  have dr1 := dr.same s1
  refine ⟨_, rfl, l, k, rfl, dr1, by omega, fun n H1 n0 on1 dr2 => .inl ⟨n, rfl, _, _, rfl, rfl, (show (0 : Int) < 2 by decide), rfl, _, rfl, ?_⟩⟩
  have b1 : But l H H1 := fun b o hb e => by rw [on1 b hb]; exact s1 _ _ e
  have hp2 : H1 p = some (.lst ((pool false).map V.str)) := (on1 p pl).trans hp1
  have join : ∀ (G : Addr → Hp → Prop), (∀ p b H2, p ≠ l → But l H H2 → Drw H2 l (k + 1) → H2 p = some (.lst ((pool b).map V.str)) → G p H2) → ∀ c : Bool, if c = true then (6 ≤ sizeLine ∧ ∀ p2, H1 p2 = none → G p2 (upd H1 p2 (.lst (baseB.map V.str)))) else G p H1 := fun G g c => by
    cases c with
    | false => exact iteF (g p false H1 pl b1 dr2 hp2)
    | true => exact iteT ⟨by decide, fun p2 hp2 => g p2 true _ (dr2.ne hp2) (fun b o hb e => same_upd hp2 _ _ (b1 b o hb e)) (dr2.same (same_upd hp2)) upd_same⟩
  refine join _ (fun p b H2 pl b2 dr2 hp2 => ?_) _
  obtain ⟨pn, pc, pm⟩ := pool_ok b
  refine ⟨_, rfl, _, rfl, 6, rfl, p, _, rfl, SqL.of hp2, fun p1 hp1 => ?_⟩
  rw [cut_pool]
  have s3 := same_upd (o := .lst ((pool b).map V.str)) hp1
  have b3 : But l H (upd H2 p1 (.lst ((pool b).map V.str))) := fun c o hb e => s3 _ _ (b2 c o hb e)
  have dr3 := dr2.same s3
  have pl1 := dr2.ne hp1
  have hq1 : upd H2 p1 (.lst ((pool b).map V.str)) p1 = some (.lst ((pool b).map V.str)) := upd_same
  generalize upd H2 p1 (.lst ((pool b).map V.str)) = H3 at s3 b3 dr3 hq1 ⊢
  refine ⟨Nat.zero_le _, fun t ht => ?_⟩
  have s4 := same_upd (o := .lst []) ht
  have b4 : But l H (upd H3 t (.lst [])) := fun c o hb e => s4 _ _ (b3 c o hb e)
  have dr4 := dr3.same s4
  have tl := dr3.ne ht
  have t1 : t ≠ p1 := fun z => by rw [z, hq1] at ht; cases ht
  have hq4 : upd H3 t (.lst []) p1 = some (.lst ((pool b).map V.str)) := s4 _ _ hq1
  have ht4 : upd H3 t (.lst []) t = some (.lst []) := upd_same
  have htn : H t = none := by
    cases e : H t with
    | none => rfl
    | some o => rw [b3 t o tl e] at ht; cases ht
  generalize upd H3 t (.lst []) = H4 at s4 b4 dr4 hq4 ht4 ⊢
  refine ⟨_, rfl, l, k + 1, rfl, dr4, by omega, fun n2 H5 n20 on5 dr5 => .inl ⟨n2, rfl, _, rfl, _, _, rfl, rfl, (show (0 : Int) < 6 by decide), _, _, rfl, rfl, _, rfl, ?_⟩⟩
  have m1 := Int.emod_nonneg n2 (b := 6) (by decide)
  have m2 := Int.emod_lt_of_pos n2 (b := 6) (by decide)
  generalize n2 % 6 = r6 at m1 m2 ⊢
  refine ⟨by omega, by omega, for_range (D := { nx := _, rt := Q }) (lo := 0) (n := (1 + r6).toNat) (fun i σ' H' => ∃ (v4 : Option V) (ys zs : List Str), σ' = [some (.ref l), some (.int 6), some (.ref p1), some (.ref t), v4] ∧ H' p1 = some (.lst (ys.map V.str)) ∧ H' t = some (.lst (zs.map V.str)) ∧ (zs ++ ys).Perm (pool b) ∧ zs.length = i ∧ Drw H' l (k + 2 + i) ∧
      ∀ c o, c ≠ l → H c = some o → H' c = some o) ⟨none, pool b, [], rfl, (on5 _ pl1).trans hq4, (on5 _ tl).trans ht4, .refl _, rfl, by rw [show k + 2 + ((0 : Nat) : Int) = k + 1 + 1 by omega]; exact dr5, fun c o hb e => by rw [on5 c hb]; exact b4 c o hb e⟩ (fun i σ' H' hi h => ?_) fun σ' H' h => ?_⟩
  · obtain ⟨v4, ys, zs, rfl, hp', ht', pm', hlen, dr', bt⟩ := h
    have hl := pm'.length_eq
    rw [List.length_append, pc, hlen] at hl
    refine ⟨_, rfl, .inl ⟨rfl, _, SqL.of ht'⟩, _, rfl, .inl ⟨rfl, _, SqL.of hp'⟩, _, rfl, l, _, rfl, dr', by omega, fun n3 H6 n30 on6 dr6 => .inl ⟨n3, rfl, _, rfl, p1, _, rfl, .inl (SqL.of ((on6 _ pl1).trans hp')), _, _, rfl, rfl, ?_, ?_⟩⟩
    · show (0 : Int) < ((ys.map V.str).length : Int)
      rw [List.length_map]
      omega
    · have m3 := Int.emod_nonneg n3 (b := ((ys.map V.str).length : Int)) (by rw [List.length_map]; omega)
      have m4 := Int.emod_lt_of_pos n3 (b := ((ys.map V.str).length : Int)) (by rw [List.length_map]; omega)
      generalize hj0 : n3 % ((ys.map V.str).length : Int) = j at m3 m4
      have ml : ((ys.map V.str).length : Int) = ys.length := by rw [List.length_map]
      have hj : j.toNat < ys.length := by omega
      have hy : ys[j.toNat]? = some ys[j.toNat] := List.getElem?_eq_getElem hj
      refine ⟨p1, _, j, j.toNat, .str ys[j.toNat], rfl, congrArg (fun z => [V.int z]) hj0, (on6 _ pl1).trans hp', by omega, by omega, seq_nat m3 m4, by rw [List.getElem?_map, hy]; rfl, ?_⟩
      refine ⟨t, _, _, rfl, rfl, (upd_ne t1).trans ((on6 _ tl).trans ht'), ?_, ?_⟩
      · rw [List.length_map, hlen]
        exact Nat.lt_of_lt_of_le (show i < 7 by omega) (by decide)
      · refine ⟨_, ys.eraseIdx j.toNat, zs ++ [ys[j.toNat]], rfl, ?_, ?_, perm_pop pm' hy, by rw [List.length_append, hlen]; rfl, ?_, fun c o hb e => ?_⟩
        · rw [upd_ne t1.symm, upd_same, List.eraseIdx_eq_take_drop_succ, List.eraseIdx_eq_take_drop_succ, List.map_append, List.map_take, List.map_drop]
        · rw [upd_same, List.map_append]; rfl
        · rw [show k + 2 + ((i + 1 : Nat) : Int) = k + 2 + i + 1 by omega]
          obtain ⟨⟨a, b', h6, ha⟩, nn⟩ := dr6
          exact ⟨⟨a, b', by rw [upd_ne tl.symm, upd_ne pl1.symm]; exact h6, ha⟩, nn⟩
        · have h6 : H6 c = some o := (on6 c hb).trans (bt c o hb e)
          have c1 : c ≠ t := fun z => by rw [z, htn] at e; cases e
          have c2 : c ≠ p1 := fun z => by
            rw [z] at e
            rw [b2 p1 o pl1 e] at hp1
            cases hp1
          rw [upd_ne c1, upd_ne c2]
          exact h6
  · obtain ⟨v4, ys, zs, rfl, hp', ht', pm', hlen, dr', bt⟩ := h
    have hl := pm'.length_eq
    rw [List.length_append, pc] at hl
    have zin : ∀ x ∈ zs, x ∈ pool b := fun x hx => pm'.mem_iff.mp (List.mem_append_left _ hx)
    exact ⟨_, rfl, q H' t zs _ (fun c o hb e => bt c o hb e) dr' (by omega) htn ht' ⟨(List.nodup_append.mp (pm'.nodup_iff.mpr pn)).1, by omega, by omega, fun x hx => pm x (zin x hx)⟩⟩
end
end Mu
end
section
set_option Elab.async false
set_option maxRecDepth 100000
set_option autoImplicit false
set_option linter.all false
/-! _law_lead -/
namespace Mu
open PySem PySem.Spec L2 Gz PySem.W LamX
open PyProof.Rows hiding St
mutual
theorem leadR_sub : ∀ (p : AP) (x y : Str), y ∈ (leadR p x).2 → y ∈ scans p
  | .scan _ _, x, y, h => by rw [leadR] at h; cases h
  | .sort _ _, x, y, h => by rw [leadR] at h; cases h
  | .many _ _ m ps, x, y, h => by
    rw [leadR] at h
    rw [scans_many]
    rcases leadF_sub m ps x [] y h with z | z
    · cases z
    · exact z
theorem leadF_sub (m : Bool) : ∀ (ps : List AP) (x : Str) (b : List Str) (y : Str), y ∈ (leadF m ps x b).2 → y ∈ b ∨ y ∈ ps.flatMap scans
  | [], x, b, y, h => by rw [leadF] at h; cases h
  | p :: ps, x, b, y, h => by
    rw [leadF] at h
    rw [List.flatMap_cons, List.mem_append]
    by_cases c : x ∈ scans p
    · rw [if_pos c] at h
      cases m with
      | true =>
        rw [if_pos rfl] at h
        exact .inr (.inl (leadR_sub p x y h))
      | false =>
        rw [if_neg Bool.false_ne_true] at h
        rcases List.mem_append.mp h with z | z
        · exact .inr (.inl (leadR_sub p x y z))
        · exact .inl z
    · rw [if_neg c] at h
      rcases leadF_sub m ps x (b ++ scans p) y h with z | z
      · rcases List.mem_append.mp z with z | z
        · exact .inl z
        · exact .inr (.inl z)
      · exact .inr (.inr z)
end
/-- the numbers whose greatest is the lead of a row -/
def leadL (ls : Str → List Int) (p : AP) (r : Tri) : List Int := (if (leadR p r.2.1).1 then [r.1] else (ls r.2.1).take (r.2.2 + 1)) ++ (leadR p r.2.1).2.flatMap ls
def IsMax (m : Int) (l : List Int) : Prop := m ∈ l ∧ ∀ y ∈ l, y ≤ m
theorem IsMax.perm {m : Int} {a b : List Int} (h : IsMax m a) (e : ∀ y, y ∈ a ↔ y ∈ b) : IsMax m b := ⟨(e m).mp h.1, fun y hy => h.2 y ((e y).mpr hy)⟩
theorem cut_to {xs : List V} {n : Nat} : cutV xs none (some (n : Int)) = xs.take n := by
  unfold cutV
  rw [HT.sIx_nat, HT.sIx_none]
  show (xs.drop 0).take _ = _
  rw [List.drop_zero, List.take_eq_take_iff]
  omega
def spLawLead : Sp := fun vs H Q _ => ∃ (p : AP) (d : Addr) (es : Ents) (r : Rw), vs = [.ref p.root, .ref d, .ref r.at_] ∧ p.Ok (tups H) ∧ PlanOk p ∧ Inp H d es ∧ (∀ x ∈ scans p, ∃ a ns, (x, a, ns) ∈ es) ∧ (∀ e ∈ es, e.2.2.length ≤ 6) ∧ RowsOk H [r] ∧ r.name ∈ scans p ∧ r.place < (lsOf es r.name).length ∧
  ∀ (H' : Hp) (m : Int), Same H H' → IsMax m (leadL (lsOf es) p r.t) → Q (.int m) H'
theorem kind_key (k : Bool) : decide (V.str (kindS k) = V.str "key") = k := by cases k <;> decide
/-- the own part of the lead -/
theorem own_read {K : PySem.W.Frag} {H : Hp} {Q : VK} {d a : Addr} {es : Ents} {r : Rw} {ns : List Int} {k : Bool} {v0 v4 v5 v6 : Option V} (inp : Inp H d es) (hin : (r.name, a, ns) ∈ es) (hrw : Rd H r.at_ (.tup [.int r.key, .str r.name, .int (r.place : Nat)]))
    (q : ∀ (H2 : Hp) (l : Addr), Same H H2 → H2 l = some (.lst ((if k then [r.key] else ns.take (r.place + 1)).map V.int)) → Q (.ref l) H2) :
    tIf (tTest (tOp rEq (tVar 3) (tC (.str "key")))) (tLst (tCons (tOp (rIxT K) (tVar 2) (tC (.int 0))) tNil)) (tSl (rSlL K) (tDGet (tVar 1) (tOp (rIxT K) (tVar 2) (tC (.int 1)))) tNoPart (tPart (tOp (rI0 fun i j => .int (i + j)) (tOp (rIxT K) (tVar 2) (tC (.int 2))) (tC (.int 1)))))
      [v0, some (.ref d), some (.ref r.at_), some (.str (kindS k)), v4, v5, v6] H Q := by
  have sq : SqT K H r.at_ [.int r.key, .str r.name, .int (r.place : Nat)] := .inl hrw
  refine ⟨_, rfl, rfl, _, rfl, ?_⟩
  rw [kind_key]
  cases k with
  | true => exact iteT ⟨_, rfl, r.at_, _, 0, _, rfl, rfl, sq, rfl, by show 1 ≤ sizeLine; decide, fun l hl => q _ l (same_upd hl) upd_same⟩
  | false =>
    have ha := inp.rows _ hin
    have hg : DGet H d (.str r.name) (some (.ref a)) := by
      have := DGet.k (k := Sum.inr r.name) inp.dict
      rw [valV_ents inp.nd hin] at this
      exact this
    refine iteF ⟨_, rfl, _, rfl, r.at_, _, 1, _, rfl, rfl, sq, rfl, d, .ref a, rfl, hg, _, rfl, r.at_, _, 2, _, rfl, rfl, sq, rfl, _, _, rfl, rfl, _, rfl, a, _, rfl, SqL.of ha, fun l hl => q _ l (same_upd hl) ?_⟩
    have e : ((r.place : Nat) : Int) + 1 = ((r.place + 1 : Nat) : Int) := rfl
    rw [upd_same, e, cut_to]
    show _ = some (HO.lst ((ns.take (r.place + 1)).map V.int))
    rw [List.map_take]
theorem flat_lists {its : List (Addr × List V)} {ys : List Str} {ls : Str → List Int} (h : its.map (·.2) = ys.map fun y => (ls y).map V.int) : its.flatMap (·.2) = (ys.flatMap ls).map V.int := by
  rw [List.map_flatMap, List.flatMap_def, List.flatMap_def, h]
theorem flat_len {ys : List Str} {ls : Str → List Int} (h : ∀ y ∈ ys, (ls y).length ≤ 6) : (ys.flatMap ls).length ≤ 6 * ys.length := by
  induction ys with
  | nil => exact Nat.zero_le _
  | cons y ys ih =>
    have h1 := h y List.mem_cons_self
    have h2 := ih fun z hz => h z (List.mem_cons_of_mem _ hz)
    rw [List.flatMap_cons, List.length_append, List.length_cons]
    omega
def OtP (H : Hp) (D : Addr) (es : Ents) (ys : List Str) (i : Nat) (H' : Hp) : Prop := ∃ its : List (Addr × List V), H' D = some (.lst (its.map fun e => V.ref e.1)) ∧ (∀ e ∈ its, H e.1 = some (.lst e.2)) ∧ its.map (·.2) = (ys.take i).map (fun y => (lsOf es y).map V.int) ∧ Same H H'
/-- the others' part of the lead -/
theorem others_read {K : PySem.W.Frag} {H : Hp} {Q : VK} {d l4 : Addr} {es : Ents} {ys : List Str} {v0 v2 v3 v5 v6 : Option V} (inp : Inp H d es) (hys : ∀ y ∈ ys, ∃ a ns, (y, a, ns) ∈ es) (h6 : ∀ e ∈ es, e.2.2.length ≤ 6) (hy6 : ys.length ≤ 6) (hl4 : H l4 = some (.lst (ys.map V.str)))
    (q : ∀ (H2 : Hp) (l : Addr), Same H H2 → H2 l = some (.lst ((ys.flatMap (lsOf es)).map V.int)) → Q (.ref l) H2) :
    tCB (rSumL K) (tCons (tLc (iList K (tVar 4)) (gName 6) tYes (tDGet (tVar 1) (tVar 6)) [6]) (tCons (tLst tNil) tNil)) [v0, some (.ref d), v2, v3, some (.ref l4), v5, v6] H Q := by
  have len6 : ∀ y ∈ ys, (lsOf es y).length ≤ 6 := fun y hy => by
    obtain ⟨a, ns, hin⟩ := hys y hy
    rw [lsOf_at inp.nd hin]
    exact h6 _ hin
  refine ⟨_, rfl, l4, rfl, ⟨_, SqL.of hl4⟩, fun D hD => lc_it (walk_list (xs := ys.map V.str)) (OtP H D es ys) ⟨[], upd_same, fun e he => (by cases he), rfl, same_upd hD⟩ (fun i H' _ h => ?_) (fun i v H1 H2 hi hp hv => ?_) fun H1 hp => ?_⟩
  · obtain ⟨_, _, _, _, s⟩ := h
    exact SqL.of (s _ _ hl4)
  · obtain ⟨rfl, hv⟩ := hv
    obtain ⟨its, h1, h2, h3, h4⟩ := hp
    rw [List.getElem?_map] at hv
    obtain ⟨y, hy, rfl⟩ := Option.map_eq_some_iff.mp hv
    have hym : y ∈ ys := List.mem_of_getElem? hy
    obtain ⟨a, ns, hin⟩ := hys y hym
    have hg : DGet H2 d (.str y) (some (.ref a)) := by
      have := DGet.k (k := Sum.inr y) (inp.same h4).dict
      rw [valV_ents inp.nd hin] at this
      exact this
    have hl : its.length = i := by
      have := congrArg List.length h3
      rw [List.length_map, List.length_map, List.length_take] at this
      have := (List.getElem?_eq_some_iff.mp hy).1
      omega
    have hi' := (List.getElem?_eq_some_iff.mp hy).1
    refine ⟨rfl, iteT (B := OtP H D es ys (i + 1) H2) ⟨_, rfl, _, rfl, d, .ref a, rfl, hg, _, h1, ?_, its ++ [(a, ns.map V.int)], ?_, fun e he => ?_, ?_, fun b o e => ?_⟩⟩
    · rw [List.length_map, hl]
      exact Nat.lt_of_lt_of_le (show i < 7 by omega) (by decide)
    · rw [upd_same, List.map_append]; rfl
    · rcases List.mem_append.mp he with z | z
      · exact h2 e z
      · obtain rfl : e = (a, ns.map V.int) := by simpa using z
        exact inp.rows _ hin
    · rw [List.map_append, h3, take_snoc hy, List.map_append, ← lsOf_at inp.nd hin]; rfl
    · rw [upd_ne (ne_of_none e hD)]; exact h4 _ _ e
  · obtain ⟨its, h1, h2, h3, h4⟩ := hp
    rw [List.length_map, List.take_length] at h3
    have hfl := flat_lists h3
    refine ⟨Nat.zero_le _, fun z hz => ⟨D, z, its, rfl, SqL.of (same_upd hz _ _ h1), upd_same, fun e he => same_upd hz _ _ (h4 _ _ (h2 e he)), ?_, fun c0 => ?_, fun _ p4 n4 => ?_⟩⟩
    · rw [hfl, List.length_map]
      have := flat_len len6
      exact Nat.le_trans (show _ ≤ 36 by omega) (by decide)
    · refine q _ z (h4.trans (same_upd hz)) ?_
      rw [← hfl, c0]
      exact upd_same
    · refine q _ p4 ((h4.trans (same_upd hz)).trans (same_upd n4)) ?_
      rw [← hfl]
      exact upd_same
section
variable {P : Program} {w : World} {K : PySem.W.Frag} {mg : Str → Option Value} {base : Heap} {T : List (Addr × Str)}
abbrev llN : List Str := ["_law_part", "_law_lists", "_law_row", "_law_kind", "_law_others", "_law_own", "_law_other"]
theorem fs_lawlead : FnScope llN ["_law_part", "_law_lists", "_law_row"] (defScope sL_lead) := ⟨rfl, rfl, rfl, by decide, rfl, by decide +kernel, by decide +kernel⟩
theorem c_lawlead (Tx0 : Tx K mg) (M : Mod K mg base) : LCal P w K mg base 82 "_law_lead" spLawLead := by
  refine lc_mk Tx0.f_law_lead fs_lawlead (fun vs H Q h => by obtain ⟨_, _, _, _, rfl, _⟩ := h; rfl) (fun _ _ _ _ _ _ us hl => match us, hl with | [_, _, _], _ => rfl) fun f cdv A outer s H vs Q hr h => ?_
  obtain ⟨p, d, es, r, rfl, ok, pk, inp, hall, h6, hrw, hx, hpl, q⟩ := h
  have nd : llN.Nodup := by decide
  have hu := hu_of hr
  refine ⟨_, sss_cons (ss_asg (lcal (c_lead Tx0 M) hr (by decide) (by rfl) (pa_cons (pv 0) (pa_cons (pe_ix ix_tup (pv 2) pe_int (fun _ _ => rfl)) pa_nil))) (pg_tup (by rfl) (pgs_cons (pg_name (i := 3) nd rfl (Or.inl rfl)) (pgs_cons (pg_name (i := 4) nd rfl (Or.inl rfl)) pgs_nil))))
    (SSs.of (pss_cons (ps_set (i := 5) nd rfl (Or.inl rfl) (pe_ifExp (pt_cmpR op_eq (pv 3) pe_str (nomark _)) (pe_lst (pa_cons (pe_ix ix_tup (pv 2) pe_int (fun _ _ => rfl)) pa_nil))
      (pe_slice sl_list (pe_dget hu (pv 1) (pe_ix ix_tup (pv 2) pe_int (fun _ _ => rfl)) (fun _ _ => rfl)) po_none (po_some (pe_op op_add (pe_ix ix_tup (pv 2) pe_int (fun _ _ => rfl)) pe_int)))))
    (pss_one (ps_ret (pe_callB (cr_max rfl) (by rfl) Tx0.bmax (by decide +kernel) (pa_cons (pe_op op_cat (pv 5) (pe_callB (cr_sumL rfl) (by rfl) Tx0.bsum (by decide +kernel) (pa_cons
      (pe_lc (own := [("_law_other", 6)]) (g := gName 6) (tt := tYes) (te := tDGet (tVar 1) (tVar 6)) rfl nd (pi_list (pv 4)) (blkOk_by (N := llN) (sc := defScope sL_lead) (by decide +kernel)) (fun _ _ _ _ _ => pg_name (i := 6) nd rfl (Or.inl rfl)) (fun _ _ _ _ _ => pts_nil)
        (fun _ _ _ _ _ => pe_dget hu (pv 1) (pv 6) (fun _ _ => rfl))) (pa_cons (pe_lst pa_nil) pa_nil)))) pa_nil)))))), ?_⟩
  obtain ⟨a, ns, hin⟩ := hall r.name hx
  have el := lsOf_at inp.nd hin
  rw [el] at hpl
  have hr1 : Rd H r.at_ (.tup [.int r.key, .str r.name, .int (r.place : Nat)]) := hrw r List.mem_cons_self
  refine ⟨_, rfl, _, rfl, r.at_, _, 1, _, rfl, rfl, .inl hr1, rfl, p, r.name, rfl, ok, pk, hx, fun H1 t3 l3 ys s1 ht3 perm hl3 => ?_⟩
  refine ⟨t3, _, rfl, SqT.of ht3, rfl, _, _, rfl, _, _, rfl, rfl, ?_⟩
  have ysub : ∀ y ∈ ys, ∃ a ns, (y, a, ns) ∈ es := fun y hy => hall y (leadR_sub p r.name y (perm.mem_iff.mp hy))
  have ylen : ys.length ≤ 6 := by
    rw [perm.length_eq]
    exact Nat.le_trans (leadR_len p r.name) pk.few
  have ll6 : ∀ y ∈ ys, (lsOf es y).length ≤ 6 := fun y hy => by
    obtain ⟨a, ns, hin⟩ := ysub y hy
    rw [lsOf_at inp.nd hin]
    exact h6 _ hin
  dsimp only [tSeq, tAsg, gName]
  refine own_read (inp.same s1) hin (keeps_same s1 _ _ hr1) fun H2 l5 s2 hl5 => ?_
  have s02 := s1.trans s2
  refine ⟨_, rfl, ?_⟩
  refine others_read (inp.same s02) ysub h6 ylen (s2 _ _ hl3) fun H3 l6 s3 hl6 => ?_
  generalize ho : (if (leadR p r.name).1 then [r.key] else ns.take (r.place + 1)) = own at hl5
  have olen : 1 ≤ own.length ∧ own.length ≤ 6 := by
    have n6 := h6 _ hin
    rw [← ho]
    split
    · exact ⟨Nat.le_refl _, show 1 ≤ 6 by decide⟩
    · rw [List.length_take]
      have : ns.length ≤ 6 := n6
      omega
  have fl := flat_len ll6
  refine ⟨l5, l6, _, _, rfl, rfl, s3 _ _ hl5, hl6, ?_, fun l7 n7 => ⟨l7, own ++ ys.flatMap (lsOf es), rfl, ?_, ?_, fun m m1 m2 => ?_⟩⟩
  · rw [List.length_map, List.length_map]
    exact Nat.le_trans (show _ ≤ 42 by omega) (by decide)
  · rw [List.map_append]
    exact SqL.of upd_same
  · rw [List.length_append]; omega
  · refine q _ m ((s02.trans s3).trans (same_upd n7)) (IsMax.perm ⟨m1, m2⟩ fun y => ?_)
    unfold leadL Rw.t
    show _ ↔ y ∈ (if (leadR p r.name).1 then [r.key] else (lsOf es r.name).take (r.place + 1)) ++ (leadR p r.name).2.flatMap (lsOf es)
    rw [el, ho, List.mem_append, List.mem_append, List.mem_flatMap, List.mem_flatMap]
    simp only [perm.mem_iff]
end
end Mu
end
section
set_option Elab.async false
set_option maxRecDepth 100000
set_option autoImplicit false
set_option linter.all false
/-! the mathematics: merging and sorting rows -/
namespace Mu
open PySem Gz
/-- L tells, over l, the greatest key so far (o ahead of all) -/
def AnnP (L : Tri → Int) : Int → List Tri → Prop
  | _, [] => True
  | o, r :: l => L r = max o r.1 ∧ AnnP L (max o r.1) l
def topT : Int → List Tri → Int
  | o, [] => o
  | o, r :: l => topT (max o r.1) l
theorem topT_le : ∀ (l : List Tri) (o b : Int), topT o l ≤ b ↔ o ≤ b ∧ ∀ r ∈ l, r.1 ≤ b
  | [], o, b => by simp [topT]
  | r :: l, o, b => by
    rw [topT, topT_le l]
    constructor
    · rintro ⟨h1, h2⟩
      refine ⟨by omega, fun x hx => ?_⟩
      rcases List.mem_cons.mp hx with rfl | hx
      · omega
      · exact h2 x hx
    · rintro ⟨h1, h2⟩
      have := h2 r List.mem_cons_self
      exact ⟨by omega, fun x hx => h2 x (List.mem_cons_of_mem _ hx)⟩
theorem annP_ge {L : Tri → Int} : ∀ {l : List Tri} {o : Int}, AnnP L o l → ∀ r ∈ l, o ≤ L r
  | r :: l, o, h, x, hx => by
    rcases List.mem_cons.mp hx with rfl | hx
    · rw [h.1]; omega
    · have := annP_ge h.2 x hx
      omega
theorem annP_map {L L' : Tri → Int} {c : Int} : ∀ {l : List Tri} {o : Int}, AnnP L o l → (∀ r ∈ l, L' r = max c (L r)) → AnnP L' (max c o) l
  | [], _, _, _ => trivial
  | r :: l, o, h, e => by
    have e1 := e r List.mem_cons_self
    rw [h.1] at e1
    have z : max (max c o) r.1 = max c (max o r.1) := by omega
    refine ⟨by rw [e1, z], ?_⟩
    rw [z]
    exact annP_map h.2 fun x hx => e x (List.mem_cons_of_mem _ hx)
theorem annP_eq {L L' : Tri → Int} : ∀ {l : List Tri} {o : Int}, AnnP L o l → (∀ r ∈ l, L' r = L r) → AnnP L' o l
  | [], _, _, _ => trivial
  | r :: l, o, h, e => ⟨by rw [e r List.mem_cons_self, h.1], annP_eq h.2 fun x hx => e x (List.mem_cons_of_mem _ hx)⟩
theorem annP_app {L : Tri → Int} : ∀ {A B : List Tri} {o : Int}, AnnP L o A → AnnP L (topT o A) B → AnnP L o (A ++ B)
  | [], _, _, _, h => h
  | r :: A, B, o, h, k => ⟨h.1, annP_app h.2 k⟩
theorem annP_sorted : ∀ {l : List Tri} {o : Int}, (∀ r ∈ l, o ≤ r.1) → l.Pairwise (fun x y => x.1 ≤ y.1) → AnnP (fun r => r.1) o l
  | [], _, _, _ => trivial
  | r :: l, o, h, p => by
    obtain ⟨p1, p2⟩ := List.pairwise_cons.mp p
    have h1 := h r List.mem_cons_self
    have z : max o r.1 = r.1 := by omega
    refine ⟨z.symm, ?_⟩
    rw [z]
    exact annP_sorted p1 p2
theorem mergeT_perm : ∀ (xs ys : List Tri), (mergeT xs ys).Perm (xs ++ ys)
  | [], ys => by simp [mergeT]
  | x :: xs, [] => by simp [mergeT]
  | x :: xs, y :: ys => by
    rw [mergeT]
    split
    · refine ((mergeT_perm (x :: xs) ys).cons y).trans ?_
      exact List.perm_middle.symm
    · exact (mergeT_perm xs (y :: ys)).cons x
termination_by xs ys => xs.length + ys.length
/-- THE MERGE: two lists, merged by their keys, stand by their greatest keys so far -/
theorem mergeT_rule {L : Tri → Int} {R : Tri → Tri → Prop} : ∀ (X Y : List Tri) (a b : Int), AnnP L a X → AnnP L b Y → (∀ x, X.head? = some x → b < max a x.1) → (∀ y, Y.head? = some y → a ≤ max b y.1) → X.Pairwise R → Y.Pairwise R →
    (∀ x ∈ X, ∀ y ∈ Y, L x ≤ L y → R x y) → (∀ x ∈ X, ∀ y ∈ Y, L y < L x → R y x) → AnnP L (max a b) (mergeT X Y) ∧ (mergeT X Y).Pairwise R
  | [], Y, a, b, _, hY, _, h2, _, pY, _, _ => by
    rw [mergeT]
    refine ⟨?_, pY⟩
    cases Y with
    | nil => trivial
    | cons y ys =>
      have := h2 y rfl
      have z : max (max a b) y.1 = max b y.1 := by omega
      refine ⟨by rw [z]; exact hY.1, ?_⟩
      rw [z]
      exact hY.2
  | x :: xs, [], a, b, hX, _, h1, _, pX, _, _, _ => by
    rw [mergeT]
    refine ⟨?_, pX⟩
    have := h1 x rfl
    have z : max (max a b) x.1 = max a x.1 := by omega
    refine ⟨by rw [z]; exact hX.1, ?_⟩
    rw [z]
    exact hX.2
  | x :: xs, y :: ys, a, b, hX, hY, h1, h2, pX, pY, c1, c2 => by
    have q1 := h1 x rfl
    have q2 := h2 y rfl
    obtain ⟨pX1, pX2⟩ := List.pairwise_cons.mp pX
    obtain ⟨pY1, pY2⟩ := List.pairwise_cons.mp pY
    have lx : ∀ z ∈ x :: xs, max a x.1 ≤ L z := fun z hz => by
      rcases List.mem_cons.mp hz with rfl | hz
      · rw [hX.1]; omega
      · exact annP_ge hX.2 z hz
    have ly : ∀ z ∈ y :: ys, max b y.1 ≤ L z := fun z hz => by
      rcases List.mem_cons.mp hz with rfl | hz
      · rw [hY.1]; omega
      · exact annP_ge hY.2 z hz
    have ex := hX.1
    have ey := hY.1
    rw [mergeT]
    by_cases c : y.1 < x.1
    · rw [if_pos c]
      obtain ⟨i1, i2⟩ := mergeT_rule (x :: xs) ys a (max b y.1) hX hY.2 (fun z e => by cases e; omega) (fun z _ => by omega) pX pY2 (fun u hu v hv => c1 u hu v (List.mem_cons_of_mem _ hv)) (fun u hu v hv => c2 u hu v (List.mem_cons_of_mem _ hv))
      have z : max (max a b) y.1 = max a (max b y.1) := by omega
      refine ⟨⟨by rw [ey]; omega, by rw [z]; exact i1⟩, List.pairwise_cons.mpr ⟨fun u hu => ?_, i2⟩⟩
      rcases List.mem_append.mp ((mergeT_perm _ _).mem_iff.mp hu) with hu | hu
      · refine c2 u hu y List.mem_cons_self ?_
        have := lx u hu
        omega
      · exact pY1 u hu
    · rw [if_neg c]
      obtain ⟨i1, i2⟩ := mergeT_rule xs (y :: ys) (max a x.1) b hX.2 hY (fun z _ => by omega) (fun z e => by cases e; omega) pX2 pY (fun u hu v hv => c1 u (List.mem_cons_of_mem _ hu) v hv) (fun u hu v hv => c2 u (List.mem_cons_of_mem _ hu) v hv)
      have z : max (max a b) x.1 = max (max a x.1) b := by omega
      refine ⟨⟨by rw [ex]; omega, by rw [z]; exact i1⟩, List.pairwise_cons.mpr ⟨fun u hu => ?_, i2⟩⟩
      rcases List.mem_append.mp ((mergeT_perm _ _).mem_iff.mp hu) with hu | hu
      · exact pX1 u hu
      · refine c1 x List.mem_cons_self u hu ?_
        have := ly u hu
        omega
termination_by X Y => X.length + Y.length
/-- THE SORT: by the keys, ties as they stood -/
theorem byKeyT_rule {S : Tri → Tri → Prop} {l : List Tri} (nd : l.Nodup) (h : l.Pairwise S) : (byKeyT l).Pairwise (fun x y => x.1 < y.1 ∨ (x.1 = y.1 ∧ S x y)) := by
  have tr : ∀ a b c : Tri, decide (a.1 ≤ b.1) = true → decide (b.1 ≤ c.1) = true → decide (a.1 ≤ c.1) = true := fun a b c h1 h2 => by
    have h1 := of_decide_eq_true h1
    have h2 := of_decide_eq_true h2
    exact decide_eq_true (by omega)
  have tot : ∀ a b : Tri, (decide (a.1 ≤ b.1) || decide (b.1 ≤ a.1)) = true := fun a b => by
    rw [Bool.or_eq_true, decide_eq_true_eq, decide_eq_true_eq]
    omega
  have srt : (byKeyT l).Pairwise (fun x y => decide (x.1 ≤ y.1) = true) := List.pairwise_mergeSort tr tot l
  have pm : (byKeyT l).Perm l := List.mergeSort_perm l _
  have nd2 : (byKeyT l).Nodup := pm.nodup_iff.mpr nd
  rw [List.pairwise_iff_forall_sublist] at srt h ⊢
  intro a b hs
  have le := of_decide_eq_true (srt hs)
  by_cases e : a.1 = b.1
  · refine .inr ⟨e, ?_⟩
    have hne : a ≠ b := by
      have := nd2.sublist hs
      simp at this
      exact this
    have ma : a ∈ l := pm.mem_iff.mp (hs.subset (by simp))
    have mb : b ∈ l := pm.mem_iff.mp (hs.subset (by simp))
    have two : [a, b].Sublist l ∨ [b, a].Sublist l := by
      obtain ⟨s, t, rfl⟩ := List.append_of_mem ma
      rcases List.mem_append.mp mb with hb | hb
      · right
        have h1 : [b].Sublist s := List.singleton_sublist.mpr hb
        have h2 : [a].Sublist (a :: t) := List.singleton_sublist.mpr List.mem_cons_self
        exact h1.append h2
      · left
        rcases List.mem_cons.mp hb with hb | hb
        · exact absurd hb.symm hne
        · have h1 : [a, b].Sublist (a :: t) := (List.singleton_sublist.mpr hb).cons_cons a
          exact h1.trans (List.sublist_append_right _ _)
    rcases two with t | t
    · exact h t
    · exfalso
      have t2 : [b, a].Sublist (byKeyT l) := List.pair_sublist_mergeSort tr tot (decide_eq_true (by omega)) t
      have cp : ∀ {m : List Tri}, m.Nodup → [a, b].Sublist m → [b, a].Sublist m → False := by
        intro m
        induction m with
        | nil => intro _ h1 _; cases h1
        | cons x m ih =>
          intro n h1 h2
          obtain ⟨n1, n2⟩ := List.nodup_cons.mp n
          cases h1 with
          | cons _ h1 =>
            cases h2 with
            | cons _ h2 => exact ih n2 h1 h2
            | cons_cons _ h2 => exact n1 (h1.subset (by simp))
          | cons_cons _ h1 =>
            cases h2 with
            | cons _ h2 => exact n1 (h2.subset (by simp))
            | cons_cons _ h2 => exact hne rfl
      exact cp nd2 hs t2
  · exact .inl (by omega)
end Mu
end
section
set_option Elab.async false
set_option maxRecDepth 100000
set_option autoImplicit false
set_option linter.all false
/-! the mathematics: the rule for two rows -/
namespace Mu
open PySem Gz
/-! ### the greatest of a list -/
def maxL : List Int → Int
  | [] => 0
  | x :: l => l.foldl max x
theorem foldl_max_le : ∀ (l : List Int) (o b : Int), l.foldl max o ≤ b ↔ o ≤ b ∧ ∀ y ∈ l, y ≤ b
  | [], o, b => by simp
  | x :: l, o, b => by
    rw [List.foldl_cons, foldl_max_le l]
    constructor
    · rintro ⟨h1, h2⟩
      refine ⟨by omega, fun y hy => ?_⟩
      rcases List.mem_cons.mp hy with rfl | hy
      · omega
      · exact h2 y hy
    · rintro ⟨h1, h2⟩
      have := h2 x List.mem_cons_self
      exact ⟨by omega, fun y hy => h2 y (List.mem_cons_of_mem _ hy)⟩
theorem maxL_le {l : List Int} (h : l ≠ []) (b : Int) : maxL l ≤ b ↔ ∀ y ∈ l, y ≤ b := by
  cases l with
  | nil => exact absurd rfl h
  | cons x l =>
    rw [maxL, foldl_max_le]
    simp
theorem le_eq {a c : Int} (h : ∀ b, a ≤ b ↔ c ≤ b) : a = c := by
  have h1 := (h a).mp (Int.le_refl _)
  have h2 := (h c).mpr (Int.le_refl _)
  omega
theorem maxL_is {m : Int} {l : List Int} (h : IsMax m l) : m = maxL l := by
  have hne : l ≠ [] := fun z => by rw [z] at h; cases h.1
  refine le_eq fun b => ?_
  rw [maxL_le hne]
  exact ⟨fun hb y hy => Int.le_trans (h.2 y hy) hb, fun hb => hb m h.1⟩
/-! ### the rule for two rows -/
def leadV (ls : Str → List Int) (p : AP) (r : Tri) : Int := maxL (leadL ls p r)
/-- where two lists part: was a sort passed, is it a merge, the places, the parts -/
structure PartInfo where
  keyed : Bool
  m : Bool
  i : Nat
  j : Nat
  ps : List AP
def idx (x : Str) (ps : List AP) : Nat := ps.findIdx fun p => decide (x ∈ scans p)
mutual
def partR : AP → Str → Str → PartInfo
  | .scan _ _, _, _ => ⟨false, false, 0, 0, []⟩
  | .sort _ p, x, y => { partR p x y with keyed := true }
  | .many _ _ m ps, x, y => if idx x ps = idx y ps then partL ps x y else ⟨false, m, idx x ps, idx y ps, ps⟩
def partL : List AP → Str → Str → PartInfo
  | [], _, _ => ⟨false, false, 0, 0, []⟩
  | p :: ps, x, y => if x ∈ scans p then partR p x y else partL ps x y
end
def leadAt (ls : Str → List Int) (ps : List AP) (i : Nat) (r : Tri) : Int := match ps[i]? with
  | some p => leadV ls p r
  | none => 0
def cmpB (ls : Str → List Int) (m : Bool) (i j : Nat) (ps : List AP) (x y : Tri) : Bool := if m then (if i < j then decide (leadAt ls ps i x ≤ leadAt ls ps j y) else decide (leadAt ls ps i x < leadAt ls ps j y)) else decide (i < j)
def firstB (ls : Str → List Int) (q : PartInfo) (x y : Tri) : Bool := if q.keyed = true ∧ x.1 ≠ y.1 then decide (x.1 < y.1) else cmpB ls q.m q.i q.j q.ps x y
def pairB (ls : Str → List Int) (p : AP) (x y : Tri) : Bool := if x.2.1 ≠ y.2.1 then firstB ls (partR p x.2.1 y.2.1) x y else if sortedR p x.2.1 = true ∧ x.1 ≠ y.1 then decide (x.1 < y.1) else decide (x.2.2 < y.2.2)
theorem pairB_sort (ls : Str → List Int) (a : Addr) (p : AP) (x y : Tri) : pairB ls (.sort a p) x y = if x.1 ≠ y.1 then decide (x.1 < y.1) else pairB ls p x y := by
  unfold pairB
  rw [partR, sortedR]
  unfold firstB
  by_cases n : x.2.1 ≠ y.2.1
  · rw [if_pos n, if_pos n]
    by_cases k : x.1 ≠ y.1
    · rw [if_pos ⟨rfl, k⟩, if_pos k]
    · rw [if_neg (fun z => k z.2), if_neg k, if_neg (fun z => k z.2)]
  · rw [if_neg n, if_neg n]
    by_cases k : x.1 ≠ y.1
    · rw [if_pos ⟨rfl, k⟩, if_pos k]
    · rw [if_neg (fun z => k z.2), if_neg k, if_neg (fun z => k z.2)]
/-! ### the parts of a list -/
section
variable {x : Str} {p : AP} {rest : List AP}
theorem no_head {q : AP} {done : List AP} (h : x ∉ (q :: done).flatMap scans) : x ∉ scans q ∧ x ∉ done.flatMap scans := by
  rw [List.flatMap_cons, List.mem_append, not_or] at h
  exact h
theorem idx_at : ∀ {done : List AP}, x ∉ done.flatMap scans → x ∈ scans p → idx x (done ++ p :: rest) = done.length
  | [], _, hx => by
    show List.findIdx _ (p :: rest) = 0
    rw [List.findIdx_cons, decide_eq_true hx]
    rfl
  | q :: done, h, hx => by
    obtain ⟨h1, h2⟩ := no_head h
    have ih : List.findIdx (fun p => decide (x ∈ scans p)) (done ++ p :: rest) = done.length := idx_at h2 hx
    show List.findIdx _ (q :: (done ++ p :: rest)) = done.length + 1
    rw [List.findIdx_cons, decide_eq_false h1, ih]
    rfl
theorem partL_at {y : Str} : ∀ {done : List AP}, x ∉ done.flatMap scans → x ∈ scans p → partL (done ++ p :: rest) x y = partR p x y
  | [], _, hx => by
    rw [List.nil_append, partL, if_pos hx]
  | q :: done, h, hx => by
    obtain ⟨h1, h2⟩ := no_head h
    rw [List.cons_append, partL, if_neg h1]
    exact partL_at h2 hx
theorem sortedL_at : ∀ {done : List AP}, x ∉ done.flatMap scans → x ∈ scans p → sortedL (done ++ p :: rest) x = sortedR p x
  | [], _, hx => by
    rw [List.nil_append, sortedL, if_pos hx]
  | q :: done, h, hx => by
    obtain ⟨h1, h2⟩ := no_head h
    rw [List.cons_append, sortedL, if_neg h1]
    exact sortedL_at h2 hx
theorem leadF_at {m : Bool} : ∀ {done : List AP} {b : List Str}, x ∉ done.flatMap scans → x ∈ scans p → leadF m (done ++ p :: rest) x b = ((leadR p x).1, if m then (leadR p x).2 else (leadR p x).2 ++ (b ++ done.flatMap scans))
  | [], b, _, hx => by
    rw [List.nil_append, leadF, if_pos hx, List.flatMap_nil, List.append_nil]
  | q :: done, b, h, hx => by
    obtain ⟨h1, h2⟩ := no_head h
    rw [List.cons_append, leadF, if_neg h1, leadF_at h2 hx, List.flatMap_cons, List.append_assoc]
theorem idx_some : ∀ {ps : List AP}, x ∈ ps.flatMap scans → ∃ done p rest, ps = done ++ p :: rest ∧ x ∉ done.flatMap scans ∧ x ∈ scans p
  | q :: ps, h => by
    by_cases c : x ∈ scans q
    · exact ⟨[], q, ps, rfl, List.not_mem_nil, c⟩
    · rw [List.flatMap_cons, List.mem_append] at h
      obtain ⟨done, p, rest, e, h1, h2⟩ := idx_some (h.resolve_left c)
      refine ⟨q :: done, p, rest, by rw [e]; rfl, ?_, h2⟩
      rw [List.flatMap_cons, List.mem_append, not_or]
      exact ⟨c, h1⟩
end
section
variable {ls : Str → List Int} {a c : Addr} {m : Bool}
/-- two rows of one part -/
theorem pairB_same {x y : Tri} {done rest : List AP} {p : AP} (hx : x.2.1 ∉ done.flatMap scans) (hy : y.2.1 ∉ done.flatMap scans) (px : x.2.1 ∈ scans p) (py : y.2.1 ∈ scans p) : pairB ls (.many a c m (done ++ p :: rest)) x y = pairB ls p x y := by
  unfold pairB
  rw [partR, sortedR, idx_at hx px, idx_at hy py, if_pos rfl, partL_at hx px, sortedL_at hx px]
/-- two rows of two parts -/
theorem pairB_apart {x y : Tri} {ps : List AP} (h : idx x.2.1 ps ≠ idx y.2.1 ps) : pairB ls (.many a c m ps) x y = cmpB ls m (idx x.2.1 ps) (idx y.2.1 ps) ps x y := by
  have n : x.2.1 ≠ y.2.1 := fun z => h (by rw [z])
  unfold pairB
  rw [if_pos n, partR, if_neg h]
  unfold firstB
  rw [if_neg (fun z => Bool.false_ne_true z.1)]
theorem leadAt_at {x : Tri} {done rest : List AP} {p : AP} (hx : x.2.1 ∉ done.flatMap scans) (px : x.2.1 ∈ scans p) : leadAt ls (done ++ p :: rest) (idx x.2.1 (done ++ p :: rest)) x = leadV ls p x := by
  unfold leadAt
  rw [idx_at hx px, List.getElem?_append_right (Nat.le_refl _), Nat.sub_self]
  rfl
/-- a merge's leads are its parts' -/
theorem leadV_merge {x : Tri} {done rest : List AP} {p : AP} (hx : x.2.1 ∉ done.flatMap scans) (px : x.2.1 ∈ scans p) : leadV ls (.many a c true (done ++ p :: rest)) x = leadV ls p x := by
  unfold leadV leadL
  rw [leadR, leadF_at hx px]
  rfl
theorem leadL_append {x : Tri} {done rest : List AP} {p : AP} (hx : x.2.1 ∉ done.flatMap scans) (px : x.2.1 ∈ scans p) : leadL ls (.many a c false (done ++ p :: rest)) x = leadL ls p x ++ (done.flatMap scans).flatMap ls := by
  unfold leadL
  rw [leadR, leadF_at hx px, List.nil_append, List.append_assoc, ← List.flatMap_append]
  rfl
end
/-! ### all rows, list by list -/
def dueT (ls : Str → List Int) (zs : List Str) : List Tri := zs.flatMap fun x => (ls x).zipIdx.map fun e => (e.1, x, e.2)
theorem mem_due {ls : Str → List Int} {zs : List Str} {r : Tri} : r ∈ dueT ls zs ↔ r.2.1 ∈ zs ∧ (ls r.2.1)[r.2.2]? = some r.1 := by
  unfold dueT
  rw [List.mem_flatMap]
  constructor
  · rintro ⟨x, hx, h⟩
    obtain ⟨e, he, rfl⟩ := List.mem_map.mp h
    obtain ⟨k, i⟩ := e
    exact ⟨hx, List.mk_mem_zipIdx_iff_getElem?.mp he⟩
  · rintro ⟨h1, h2⟩
    exact ⟨r.2.1, h1, List.mem_map.mpr ⟨(r.1, r.2.2), List.mk_mem_zipIdx_iff_getElem?.mpr h2, rfl⟩⟩
theorem block_pw (x : Str) : ∀ (l : List Int) (k : Nat), ((l.zipIdx k).map fun e => ((e.1, x, e.2) : Tri)).Pairwise (fun u v => u.2.2 < v.2.2) ∧ ∀ r ∈ (l.zipIdx k).map fun e => ((e.1, x, e.2) : Tri), k ≤ r.2.2
  | [], k => ⟨.nil, fun r h => by cases h⟩
  | n :: l, k => by
    obtain ⟨h1, h2⟩ := block_pw x l (k + 1)
    rw [List.zipIdx_cons, List.map_cons]
    refine ⟨List.pairwise_cons.mpr ⟨fun r hr => ?_, h1⟩, fun r hr => ?_⟩
    · have := h2 r hr
      show k < r.2.2
      omega
    · rcases List.mem_cons.mp hr with rfl | hr
      · exact Nat.le_refl _
      · have := h2 r hr
        omega
theorem due_nodup {ls : Str → List Int} : ∀ {zs : List Str}, zs.Nodup → (dueT ls zs).Nodup
  | [], _ => List.nodup_nil
  | z :: zs, h => by
    obtain ⟨h1, h2⟩ := List.nodup_cons.mp h
    have e : dueT ls (z :: zs) = ((ls z).zipIdx.map fun e => ((e.1, z, e.2) : Tri)) ++ dueT ls zs := by
      unfold dueT
      rw [List.flatMap_cons]
    rw [e]
    refine List.nodup_append.mpr ⟨((block_pw z (ls z) 0).1).imp fun h e => by rw [e] at h; omega, due_nodup h2, fun u hu v hv e => ?_⟩
    obtain ⟨q, _, rfl⟩ := List.mem_map.mp hu
    have := (mem_due.mp hv).1
    rw [← e] at this
    exact h1 this
theorem due_append {ls : Str → List Int} {a b : List Str} : dueT ls (a ++ b) = dueT ls a ++ dueT ls b := List.flatMap_append
theorem scan_ann {ls : Str → List Int} {a : Addr} {x : Str} {o : Int} : ∀ (suf pre : List Int), ls x = pre ++ suf → (∀ k ∈ ls x, o < k) → AnnP (leadV ls (.scan a x)) (pre.foldl max o) ((suf.zipIdx pre.length).map fun e => (e.1, x, e.2))
  | [], _, _, _ => trivial
  | k :: suf, pre, e, hb => by
    have ok : o < k := hb k (by rw [e]; simp)
    have e2 : ls x = (pre ++ [k]) ++ suf := by rw [e, List.append_assoc]; rfl
    have ih := scan_ann (a := a) suf (pre ++ [k]) e2 hb
    rw [List.length_append, List.foldl_append] at ih
    rw [List.zipIdx_cons, List.map_cons]
    refine ⟨?_, ih⟩
    have el : leadL ls (.scan a x) (k, x, pre.length) = pre ++ [k] := by
      unfold leadL
      rw [leadR]
      show (ls x).take (pre.length + 1) ++ [] = _
      rw [List.append_nil, e2, List.take_append_of_le_length (by rw [List.length_append]; exact Nat.le_refl _), List.take_of_length_le (by rw [List.length_append]; exact Nat.le_refl _)]
    refine le_eq fun b => ?_
    have h1 := foldl_max_le pre o b
    unfold leadV
    rw [el, maxL_le (by simp)]
    constructor
    · intro h
      have hk := h k (by simp)
      have hp : pre.foldl max o ≤ b := h1.mpr ⟨by omega, fun y hy => h y (List.mem_append_left _ hy)⟩
      show max (pre.foldl max o) k ≤ b
      omega
    · intro h y hy
      have h' : max (pre.foldl max o) k ≤ b := h
      rcases List.mem_append.mp hy with hy | hy
      · exact (h1.mp (by omega)).2 y hy
      · rw [List.mem_singleton.mp hy]; omega
/-- what stands of the rows of a plan -/
structure GoodT (ls : Str → List Int) (o : Int) (L : Tri → Int) (p : AP) (zs : List Str) (l : List Tri) : Prop where
  ann : AnnP L o l
  pw : l.Pairwise fun x y => pairB ls p x y = true
  perm : l.Perm (dueT ls zs)
theorem nodup_parts {done rest : List AP} {p : AP} (nd : ((done ++ p :: rest).flatMap scans).Nodup) : (scans p).Nodup ∧ ∀ x ∈ scans p, x ∉ done.flatMap scans := by
  rw [List.flatMap_append, List.flatMap_cons] at nd
  obtain ⟨_, h2, h3⟩ := List.nodup_append.mp nd
  exact ⟨(List.nodup_append.mp h2).1, fun x hx hd => h3 x hd x (List.mem_append_left _ hx) rfl⟩
theorem leadL_ne {ls : Str → List Int} {p : AP} {r : Tri} (h : (ls r.2.1)[r.2.2]? = some r.1) : leadL ls p r ≠ [] := by
  unfold leadL
  intro z
  have z := (List.append_eq_nil_iff.mp z).1
  split at z
  · cases z
  · obtain ⟨h1, _⟩ := List.getElem?_eq_some_iff.mp h
    have := congrArg List.length z
    rw [List.length_take, List.length_nil] at this
    omega
mutual
/-- THE LAW of a plan's rows -/
theorem goodT {ls : Str → List Int} {o : Int} : ∀ p : AP, (scans p).Nodup → (∀ x ∈ scans p, ∀ k ∈ ls x, o < k) → GoodT ls o (leadV ls p) p (scans p) (rowsT ls p)
  | .scan a x, _, hb => by
    have es : scans (.scan a x) = [x] := rfl
    rw [rowsT]
    refine ⟨scan_ann (ls x) [] rfl (hb x (by rw [es]; simp)), ?_, ?_⟩
    · refine List.Pairwise.imp_of_mem (fun {u v} hu hv h => ?_) (block_pw x (ls x) 0).1
      obtain ⟨q, _, rfl⟩ := List.mem_map.mp hu
      obtain ⟨q', _, rfl⟩ := List.mem_map.mp hv
      unfold pairB
      rw [if_neg (fun z => z rfl), sortedR, if_neg (fun z => Bool.false_ne_true z.1)]
      exact decide_eq_true h
    · rw [es]
      unfold dueT
      rw [List.flatMap_cons, List.flatMap_nil, List.append_nil]
  | .sort a p, nd, hb => by
    rw [scans_sort] at nd hb ⊢
    obtain ⟨g1, g2, g3⟩ := goodT p nd hb
    rw [rowsT]
    have pm : (byKeyT (rowsT ls p)).Perm (rowsT ls p) := List.mergeSort_perm _ _
    have ndr : (rowsT ls p).Nodup := g3.nodup_iff.mpr (due_nodup nd)
    have rule := byKeyT_rule ndr g2
    refine ⟨?_, rule.imp fun {u v} h => ?_, pm.trans g3⟩
    · have low : ∀ r ∈ byKeyT (rowsT ls p), o ≤ r.1 := fun r hr => by
        obtain ⟨h1, h2⟩ := mem_due.mp (g3.mem_iff.mp (pm.mem_iff.mp hr))
        exact Int.le_of_lt (hb _ h1 _ (List.mem_of_getElem? h2))
      refine annP_eq (annP_sorted low (rule.imp fun h => by rcases h with h | h <;> omega)) fun r _ => ?_
      unfold leadV leadL
      rw [leadR]
      rfl
    · rw [pairB_sort]
      rcases h with h | ⟨h, s⟩
      · rw [if_pos (show u.1 ≠ v.1 by omega)]
        exact decide_eq_true h
      · rw [if_neg (fun z => z h)]
        exact s
  | .many a c m ps, nd, hb => by
    rw [scans_many] at nd hb ⊢
    rw [rowsT]
    have h0 : GoodT ls o (leadV ls (.many a c m ps)) (.many a c m ps) (([] : List AP).flatMap scans) [] := ⟨trivial, .nil, .refl _⟩
    exact goodF a c m ps [] ps [] rfl nd hb h0
theorem goodF {ls : Str → List Int} {o : Int} (a c : Addr) (m : Bool) : ∀ (todo done W : List AP) (told : List Tri), W = done ++ todo → (W.flatMap scans).Nodup → (∀ x ∈ W.flatMap scans, ∀ k ∈ ls x, o < k) → GoodT ls o (leadV ls (.many a c m W)) (.many a c m W) (done.flatMap scans) told →
    GoodT ls o (leadV ls (.many a c m W)) (.many a c m W) (W.flatMap scans) (rowsF ls m todo told)
  | [], done, W, told, e, _, _, g => by
    rw [List.append_nil] at e
    subst e
    rw [rowsF]
    exact g
  | p :: todo, done, W, told, e, nd, hb, g => by
    subst e
    rw [rowsF]
    obtain ⟨ndp, apart⟩ := nodup_parts nd
    have hbp : ∀ x ∈ scans p, ∀ k ∈ ls x, o < k := fun x hx => hb x (by rw [List.flatMap_append, List.flatMap_cons]; exact List.mem_append_right _ (List.mem_append_left _ hx))
    obtain ⟨r1, r2, r3⟩ := goodT p ndp hbp
    obtain ⟨g1, g2, g3⟩ := g
    refine goodF a c m todo (done ++ [p]) (done ++ p :: todo) _ (by rw [List.append_assoc]; rfl) nd hb ?_
    have zs : (done ++ [p]).flatMap scans = done.flatMap scans ++ scans p := by rw [List.flatMap_append, List.flatMap_cons, List.flatMap_nil, List.append_nil]
    have inR : ∀ r ∈ rowsT ls p, r.2.1 ∈ scans p ∧ r.2.1 ∉ done.flatMap scans ∧ (ls r.2.1)[r.2.2]? = some r.1 := fun r hr => by
      obtain ⟨h1, h2⟩ := mem_due.mp (r3.mem_iff.mp hr)
      exact ⟨h1, apart _ h1, h2⟩
    have inT : ∀ r ∈ told, idx r.2.1 (done ++ p :: todo) < done.length ∧ ∃ d q d', done = d ++ q :: d' ∧ r.2.1 ∉ d.flatMap scans ∧ r.2.1 ∈ scans q := fun r hr => by
      obtain ⟨h1, _⟩ := mem_due.mp (g3.mem_iff.mp hr)
      obtain ⟨d, q, d', e, k1, k2⟩ := idx_some h1
      refine ⟨?_, d, q, d', e, k1, k2⟩
      rw [e, List.append_assoc, List.cons_append, idx_at k1 k2, List.length_append, List.length_cons]
      omega
    have rowsPw : (rowsT ls p).Pairwise fun x y => pairB ls (.many a c m (done ++ p :: todo)) x y = true := List.Pairwise.imp_of_mem (fun {u v} hu hv h => by
      rw [pairB_same (inR u hu).2.1 (inR v hv).2.1 (inR u hu).1 (inR v hv).1]
      exact h) r2
    have two : ∀ x ∈ told, ∀ y ∈ rowsT ls p, idx x.2.1 (done ++ p :: todo) < idx y.2.1 (done ++ p :: todo) := fun x hx y hy => by
      rw [idx_at (inR y hy).2.1 (inR y hy).1]
      exact (inT x hx).1
    unfold stepT
    cases m with
    | false =>
      rw [if_neg Bool.false_ne_true]
      refine ⟨annP_app g1 ?_, List.pairwise_append.mpr ⟨g2, rowsPw, fun x hx y hy => ?_⟩, ?_⟩
      · have z : max (topT o told) o = topT o told := by
          have := (topT_le told o (topT o told)).mp (Int.le_refl _)
          omega
        rw [← z]
        refine annP_map r1 fun r hr => ?_
        obtain ⟨k1, k2, k3⟩ := inR r hr
        refine le_eq fun b => ?_
        have h1 := topT_le told o b
        have h2 := annP_ge r1 r hr
        have h3 : leadV ls p r ≤ b ↔ ∀ y ∈ leadL ls p r, y ≤ b := maxL_le (leadL_ne k3) b
        have h4 : (∀ r ∈ told, r.1 ≤ b) ↔ ∀ y ∈ (done.flatMap scans).flatMap ls, y ≤ b := by
          constructor
          · intro h y hy
            obtain ⟨x, hx, hy⟩ := List.mem_flatMap.mp hy
            obtain ⟨i, hi⟩ := List.getElem?_of_mem hy
            exact h (y, x, i) (g3.mem_iff.mpr (mem_due.mpr ⟨hx, hi⟩))
          · intro h u hu
            obtain ⟨q1, q2⟩ := mem_due.mp (g3.mem_iff.mp hu)
            exact h u.1 (List.mem_flatMap.mpr ⟨_, q1, List.mem_of_getElem? q2⟩)
        show maxL (leadL ls (.many a c false (done ++ p :: todo)) r) ≤ b ↔ _
        rw [leadL_append k2 k1, maxL_le (by
          intro z
          exact leadL_ne (p := p) k3 (List.append_eq_nil_iff.mp z).1)]
        constructor
        · intro h
          have u1 := h3.mpr fun y hy => h y (List.mem_append_left _ hy)
          have u2 := h4.mpr fun y hy => h y (List.mem_append_right _ hy)
          have u3 := h1.mpr ⟨by omega, u2⟩
          omega
        · intro h y hy
          rcases List.mem_append.mp hy with hy | hy
          · exact h3.mp (by omega) y hy
          · exact h4.mp (h1.mp (by omega)).2 y hy
      · have lt := two x hx y hy
        rw [pairB_apart (by omega)]
        unfold cmpB
        rw [if_neg Bool.false_ne_true]
        exact decide_eq_true lt
      · rw [zs, due_append]
        exact g3.append r3
    | true =>
      rw [if_pos rfl]
      have la : ∀ x ∈ told, leadAt ls (done ++ p :: todo) (idx x.2.1 (done ++ p :: todo)) x = leadV ls (.many a c true (done ++ p :: todo)) x := fun x hx => by
        obtain ⟨_, d, q, d', e, k1, k2⟩ := inT x hx
        rw [e, List.append_assoc, List.cons_append, leadAt_at k1 k2, leadV_merge k1 k2]
      have lb : ∀ y ∈ rowsT ls p, leadV ls (.many a c true (done ++ p :: todo)) y = leadV ls p y := fun y hy => leadV_merge (inR y hy).2.1 (inR y hy).1
      have lc : ∀ y ∈ rowsT ls p, leadAt ls (done ++ p :: todo) (idx y.2.1 (done ++ p :: todo)) y = leadV ls (.many a c true (done ++ p :: todo)) y := fun y hy => by
        rw [leadAt_at (inR y hy).2.1 (inR y hy).1, lb y hy]
      have lowT : ∀ r ∈ told, o < r.1 := fun r hr => by
        obtain ⟨h1, h2⟩ := mem_due.mp (g3.mem_iff.mp hr)
        exact hb _ (by rw [List.flatMap_append]; exact List.mem_append_left _ h1) _ (List.mem_of_getElem? h2)
      have rule := mergeT_rule (R := fun x y => pairB ls (.many a c true (done ++ p :: todo)) x y = true) told (rowsT ls p) o o g1 (annP_eq r1 lb) (fun x hx => by
          have := lowT x (List.mem_of_mem_head? hx)
          omega) (fun y _ => by omega) g2 rowsPw (fun x hx y hy h => ?_) (fun x hx y hy h => ?_)
      · have z : max o o = o := by omega
        rw [z] at rule
        refine ⟨rule.1, rule.2, ?_⟩
        rw [zs, due_append]
        exact (mergeT_perm _ _).trans (g3.append r3)
      · have lt := two x hx y hy
        rw [pairB_apart (by omega)]
        unfold cmpB
        rw [if_pos rfl, if_pos lt, la x hx, lc y hy]
        exact decide_eq_true h
      · have lt := two x hx y hy
        rw [pairB_apart (by omega)]
        unfold cmpB
        rw [if_pos rfl, if_neg (by omega), la x hx, lc y hy]
        exact decide_eq_true h
end
/-- a number below all the keys -/
theorem below_all (ls : Str → List Int) (zs : List Str) : ∃ o : Int, ∀ x ∈ zs, ∀ k ∈ ls x, o < k := by
  have one : ∀ l : List Int, ∃ o : Int, ∀ k ∈ l, o < k := fun l => by
    induction l with
    | nil => exact ⟨0, fun k hk => by cases hk⟩
    | cons y l ih =>
      obtain ⟨o, h⟩ := ih
      refine ⟨min o (y - 1), fun k hk => ?_⟩
      rcases List.mem_cons.mp hk with rfl | hk
      · omega
      · have := h k hk
        omega
  obtain ⟨o, h⟩ := one (zs.flatMap ls)
  exact ⟨o, fun x hx k hk => h k (List.mem_flatMap.mpr ⟨x, hx, hk⟩)⟩
theorem rows_law (ls : Str → List Int) (p : AP) (nd : (scans p).Nodup) : (rowsT ls p).Pairwise (fun x y => pairB ls p x y = true) ∧ (rowsT ls p).Perm (dueT ls (scans p)) := by
  obtain ⟨o, h⟩ := below_all ls (scans p)
  obtain ⟨_, h2, h3⟩ := goodT p nd h
  exact ⟨h2, h3⟩
end Mu
end
section
set_option Elab.async false
set_option maxRecDepth 100000
set_option autoImplicit false
set_option linter.all false
/-! _law_random_lists -/
namespace Mu
open PySem PySem.Spec L2 Gz PySem.W LamX
open PyProof.Rows hiding St
abbrev rInt1 : List V → Hp → VK → Prop := fun xs H Q => (∃ i, xs = [.int i] ∧ Q (.int i) H) ∨ ∃ k, xs = [.bl k] ∧ Q (.int (if k then 1 else 0)) H
/-- a new dict of lists, one a name -/
def spLists : Sp := fun vs H Q _ => ∃ (l s : Addr) (k : Int) (zs : List Str), vs = [.ref l, .ref s] ∧ Drw H l k ∧ k < 800000 ∧ H s = some (.lst (zs.map V.str)) ∧ zs.Nodup ∧ zs.length ≤ 6 ∧
  ∀ (H' : Hp) (d : Addr) (es : Ents) (k' : Int), But l H H' → Drw H' l k' → k' ≤ k + 100 → Inp H' d es → es.map (·.1) = zs → (∀ e ∈ es, e.2.2.length ≤ 6) → Q (.ref d) H'
theorem put_new {es : Ents} {x : Str} {a : Addr} (ns : List Int) (h : x ∉ es.map (·.1)) : putK (kvsOf es) (Sum.inr x) (.ref a) = kvsOf (es ++ [(x, a, ns)]) := by
  unfold putK
  have e : ((kvsOf es).any fun kv => decide (kv.1 = Sum.inr x)) = false := by
    rw [List.any_eq_false]
    intro kv hkv hd
    obtain ⟨e, he, rfl⟩ := List.mem_map.mp hkv
    have := of_decide_eq_true hd
    exact h (List.mem_map.mpr ⟨e, he, Sum.inr.inj this⟩)
  rw [e, if_neg Bool.false_ne_true]
  unfold kvsOf
  rw [List.map_append]
  rfl
def Kp (l : Addr) (H H' : Hp) : Prop := ∀ c o, c ≠ l → H c = some o → H' c = some o
/-- a row in the midst -/
def RlP (H3 : Hp) (l D : Addr) (k1 : Int) (i : Nat) (H' : Hp) : Prop := ∃ ns : List Int, H' D = some (.lst (ns.map V.int)) ∧ ns.length = i ∧ Drw H' l (k1 + 1 + i) ∧ Kp l H3 H'
/-- the dict in the midst -/
structure LsP (H : Hp) (l d : Addr) (k : Int) (zs : List Str) (i : Nat) (es : Ents) (H' : Hp) : Prop where
  keys : es.map (·.1) = zs.take i
  inp : Inp H' d es
  rows : ∀ e ∈ es, e.2.2.length ≤ 6 ∧ e.2.1 ≠ l
  drw : ∃ k', Drw H' l k' ∧ k' ≤ k + 1 + 10 * i
  kp : Kp l H H'
theorem lsP_step {H H7 : Hp} {l d a : Addr} {k k' : Int} {zs : List Str} {i : Nat} {es : Ents} {z : Str} {ns : List Int} (Xk : es.map (·.1) = zs.take i) (Xi : Inp H7 d es) (Xr : ∀ e ∈ es, e.2.2.length ≤ 6 ∧ e.2.1 ≠ l) (Xp : Kp l H H7) (hd : H d = none) (dl : d ≠ l) (al : a ≠ l) (hz : zs[i]? = some z) (hnd : zs.Nodup) (ha : H7 a = some (.lst (ns.map V.int))) (h6 : ns.length ≤ 6) (hk : Drw H7 l k') (hk2 : k' ≤ k + 1 + 10 * (i + 1 : Nat)) :
    LsP H l d k zs (i + 1) (es ++ [(z, a, ns)]) (upd H7 d (.dK (putK (kvsOf es) (Sum.inr z) (.ref a)))) := by
  have hzn : z ∉ es.map (·.1) := by
    rw [Xk]
    intro hm
    have := hnd.sublist (List.take_sublist (i + 1) zs)
    rw [take_snoc hz] at this
    exact (List.nodup_append.mp this).2.2 z hm z List.mem_cons_self rfl
  have had : a ≠ d := fun e => by rw [e, Xi.dict] at ha; cases ha
  refine ⟨?_, ⟨?_, fun e he => ?_, ?_⟩, fun e he => ?_, ⟨k', ?_, hk2⟩, fun c o hc e => ?_⟩
  · rw [List.map_append, Xk, take_snoc hz]; rfl
  · rw [upd_same, put_new ns hzn]
  · rcases List.mem_append.mp he with y | y
    · have h := Xi.rows e y
      have : e.2.1 ≠ d := fun e2 => by rw [e2, Xi.dict] at h; cases h
      rw [upd_ne this]; exact h
    · obtain rfl : e = (z, a, ns) := by simpa using y
      rw [upd_ne had]; exact ha
  · rw [List.map_append, Xk]
    have := hnd.sublist (List.take_sublist (i + 1) zs)
    rw [take_snoc hz] at this
    exact this
  · rcases List.mem_append.mp he with y | y
    · exact Xr e y
    · obtain rfl : e = (z, a, ns) := by simpa using y
      exact ⟨h6, al⟩
  · obtain ⟨⟨x, b, h2, hx⟩, nn⟩ := hk
    exact ⟨⟨x, b, by rw [upd_ne dl.symm]; exact h2, hx⟩, nn⟩
  · have : c ≠ d := fun e2 => by rw [e2, hd] at e; cases e
    rw [upd_ne this]
    exact Xp c o hc e
section
variable {P : Program} {w : World} {K : PySem.W.Frag} {mg : Str → Option Value} {base : Heap} {T : List (Addr × Str)}
abbrev rlN : List Str := ["_law_draws_here", "_law_some", "_law_wide", "_law_told", "_law_name", "_law_row", "_law_k"]
theorem fs_lists : FnScope rlN ["_law_draws_here", "_law_some"] (defScope sL_random_lists) := ⟨rfl, rfl, rfl, by decide, rfl, by decide +kernel, by decide +kernel⟩
theorem c_lists (Tx0 : Tx K mg) : PCal P w K mg base 2 "_law_random_lists" spLists := by
  refine pc_mk Tx0.f_law_random_lists fs_lists (fun vs H Q E h => by obtain ⟨_, _, _, _, rfl, _⟩ := h; rfl) (fun _ _ _ _ _ _ us hl => match us, hl with | [_, _], _ => rfl) fun f cdv A outer s H vs Q E hr h => ?_
  obtain ⟨l, sa, k, zs, rfl, dr, hk, hs, hnd, h6, q⟩ := h
  have nd : rlN.Nodup := by decide
  have hu := hu_of hr
  refine ⟨_, pss_cons (ps_set (i := 2) nd rfl (Or.inr rfl) (pe_op op_add pe_int (pe_op op_mod (pe_callTy call_int1 (by rfl) Tx0.bint boot_int (pa_cons (pcal (c_next Tx0) hr (by omega) (by rfl) (pa_cons (pv 0) pa_nil)) pa_nil)) pe_int)))
    (pss_cons (ps_set (i := 3) nd rfl (Or.inl rfl) pe_dnewK)
    (pss_cons (ps_for PassesOwn.never rfl (pi_list (pv 1)) (pg_name (i := 4) nd rfl (Or.inl rfl))
      (pss_cons (ps_setLc (i := 5) (own := [("_law_k", 6)]) (g := gName 6) (tt := tYes) (te := tOp (rI0 fun i j => .int (i - j)) (tOp (rI (fun _ j => 0 < j) fun i j => .int (i % j)) (tCB rInt1 (tCons (tCall spNext [] E0 (tCons (tVar 0) tNil)) tNil)) (tVar 2)) (tC (.int 2))) rfl nd rfl rfl (sw_true rfl rfl rfl (by decide +kernel))
        (pi_range1 (by rfl) Tx0.brange (pa_cons (pe_op op_mod (pe_callTy call_int1 (by rfl) Tx0.bint boot_int (pa_cons (pcal (c_next Tx0) hr (by omega) (by rfl) (pa_cons (pv 0) pa_nil)) pa_nil)) pe_int) pa_nil)) (blkOk_by (N := rlN) (sc := defScope sL_random_lists) (by decide +kernel)) (fun _ _ _ _ _ => pg_name (i := 6) nd rfl (Or.inl rfl)) (fun _ _ _ _ _ => pts_nil)
        (fun _ _ _ _ _ => pe_op op_sub (pe_op op_mod (pe_callTy call_int1 (by rfl) Tx0.bint boot_int (pa_cons (pcal (c_next Tx0) hr (by omega) (by rfl) (pa_cons (pv 0) pa_nil)) pa_nil)) (pv 2)) pe_int))
      (pss_one (ps_dput hu (pv 3) (pv 4) (pe_ifExp (pt_cmpR op_eq (pe_op op_mod (pe_callTy call_int1 (by rfl) Tx0.bint boot_int (pa_cons (pcal (c_next Tx0) hr (by omega) (by rfl) (pa_cons (pv 0) pa_nil)) pa_nil)) pe_int) pe_int (nomark _)) (pe_callB cr_sortedI (by rfl) Tx0.bsorted boot_sorted (pa_cons (pv 5) pa_nil)) (pv 5)) rfl))))
    (pss_one (ps_ret (pv 3))))), ?_⟩
  have sl : sa ≠ l := fun z => by
    obtain ⟨⟨a, b, h, _⟩, _⟩ := dr
    rw [z, h] at hs
    cases zs <;> cases hs
  refine ⟨_, rfl, l, k, rfl, dr, by omega, fun n H1 n0 on1 dr1 => .inl ⟨n, rfl, _, _, rfl, rfl, (show (0 : Int) < 9 by decide), _, _, rfl, rfl, ?_⟩⟩
  have w0 : 1 ≤ 1 + n % 9 := by
    have := Int.emod_nonneg n (b := 9) (by decide)
    omega
  refine fun d hd => ?_
  have dl : d ≠ l := dr1.ne hd
  have hdn : H d = none := (on1 d dl).symm.trans hd
  have s2 := same_upd (o := .dK []) hd
  refine ⟨_, rfl, sa, rfl, ⟨_, SqL.of (s2 _ _ ((on1 sa sl).trans hs))⟩, for_list (D := { nx := _, rt := Q }) (xs := zs.map V.str) (fun i σ' H' => ∃ (v4 v5 v6 : Option V) (es : Ents), σ' = [some (.ref l), some (.ref sa), some (.int (1 + n % 9)), some (.ref d), v4, v5, v6] ∧ LsP H l d k zs i es H')
    ⟨none, none, none, [], rfl, rfl, ⟨upd_same, fun e he => (by cases he), .nil⟩, fun e he => (by cases he), ⟨_, dr1.same s2, by omega⟩, fun c o hc e => s2 _ _ ((on1 c hc).trans e)⟩ (fun i σ' H' _ h => ?_) (fun i x σ' H' hx h => ?_) fun σ' H' h => ?_⟩
  · obtain ⟨_, _, _, _, _, X⟩ := h
    exact SqL.of (X.kp _ _ sl hs)
  · obtain ⟨v4, v5, v6, es, rfl, X⟩ := h
    rw [List.getElem?_map] at hx
    obtain ⟨z, hz, rfl⟩ := Option.map_eq_some_iff.mp hx
    have hi := (List.getElem?_eq_some_iff.mp hz).1
    obtain ⟨k1, d1, hk1⟩ := X.drw
    refine ⟨_, rfl, l, _, rfl, d1, by omega, fun n2 H3 n20 on3 dr3 => .inl ⟨n2, rfl, _, _, rfl, rfl, (show (0 : Int) < 7 by decide), ?_⟩⟩
    have m1 := Int.emod_nonneg n2 (b := 7) (by decide)
    have m2 := Int.emod_lt_of_pos n2 (b := 7) (by decide)
    refine ⟨n2 % 7, rfl, by omega, by omega, fun D hD => ?_⟩
    have Dl : D ≠ l := dr3.ne hD
    refine lc_it (walk_range (lo := 0) (n := (n2 % 7).toNat)) (RlP H3 l D k1) ⟨[], upd_same, rfl, by rw [show k1 + 1 + ((0 : Nat) : Int) = k1 + 1 by omega]; exact dr3.same (same_upd hD), fun c o _ e => same_upd hD _ _ e⟩ (fun _ _ _ _ => trivial) (fun j v H4 H5 hj hp hv => ?_) fun H4 hp => ?_
    · obtain ⟨rfl, rfl⟩ := hv
      obtain ⟨ns, h1, h2, h3, h4⟩ := hp
      refine ⟨rfl, iteT (B := RlP H3 l D k1 (j + 1) H5) ⟨_, rfl, l, _, rfl, h3, by omega, fun n3 H6 n30 on6 dr6 => .inl ⟨n3, rfl, _, rfl, _, _, rfl, rfl, (show (0 : Int) < 1 + n % 9 by omega), _, _, rfl, rfl, _, (on6 _ Dl).trans h1, ?_, ns ++ [n3 % (1 + n % 9) - 2], ?_, ?_, ?_, fun c o hc e => ?_⟩⟩⟩
      · rw [List.length_map, h2]
        exact Nat.lt_of_lt_of_le (show j < 7 by omega) (by decide)
      · rw [upd_same, List.map_append]; rfl
      · rw [List.length_append, h2]; rfl
      · obtain ⟨⟨x, b, h6', hx'⟩, nn⟩ := dr6
        rw [show k1 + 1 + ((j + 1 : Nat) : Int) = k1 + 1 + j + 1 by omega]
        exact ⟨⟨x, b, by rw [upd_ne Dl.symm]; exact h6', hx'⟩, nn⟩
      · have : c ≠ D := fun e2 => by rw [e2, hD] at e; cases e
        rw [upd_ne this]
        exact (on6 c hc).trans (h4 c o hc e)
    · obtain ⟨ns, h1, h2, h3, h4⟩ := hp
      have ns6 : ns.length ≤ 6 := by omega
      have kp3 : Kp l H' H4 := fun c o hc e => h4 c o hc ((on3 c hc).trans e)
      refine ⟨_, rfl, l, _, rfl, h3, by omega, fun n4 H6 n40 on6 dr6 => .inl ⟨n4, rfl, _, _, rfl, rfl, (show (0 : Int) < 3 by decide), rfl, _, rfl, ?_⟩⟩
      have h16 := (on6 _ Dl).trans h1
      have kp6 : Kp l H' H6 := fun c o hc e => (on6 c hc).trans (kp3 c o hc e)
      have fin : ∀ (a : Addr) (ms : List Int) (H7 : Hp), Same H6 H7 → a ≠ l → ms.length ≤ 6 → H7 a = some (.lst (ms.map V.int)) → LsP H l d k zs (i + 1) (es ++ [(z, a, ms)]) (upd H7 d (.dK (putK (kvsOf es) (Sum.inr z) (.ref a)))) ∧ H7 d = some (.dK (kvsOf es)) := fun a ms H7 s7 al m6 ha => by
        have kp7 : Kp l H' H7 := fun c o hc e => s7 _ _ (kp6 c o hc e)
        have inp7 : Inp H7 d es := ⟨kp7 _ _ dl X.inp.dict, fun e he => kp7 _ _ (X.rows e he).2 (X.inp.rows e he), X.inp.nd⟩
        refine ⟨?_, inp7.dict⟩
        have dr7 : Drw H7 l (k1 + 1 + (n2 % 7).toNat + 1) := dr6.same s7
        exact lsP_step X.keys inp7 X.rows (fun c o hc e => kp7 _ _ hc (X.kp c o hc e)) hdn dl al hz hnd ha m6 dr7 (by omega)
      have len : (kvsOf es).length < sizeLine := by
        unfold kvsOf
        have := congrArg List.length X.keys
        rw [List.length_map, List.length_take] at this
        rw [List.length_map]
        exact Nat.lt_of_lt_of_le (show es.length < 7 by omega) (by decide)
      generalize hc : decide (V.int (n4 % 3) = V.int 0) = cc
      cases cc with
      | true =>
        refine iteT ⟨_, rfl, D, ns, rfl, SqL.of h16, fun ms p pm _ hp => ?_⟩
        have s7 := same_upd (o := .lst (ms.map V.int)) hp
        obtain ⟨f1, f2⟩ := fin p ms _ s7 (dr6.ne hp) (by rw [pm.length_eq]; exact ns6) upd_same
        exact ⟨_, rfl, _, rfl, d, _, rfl, DPut.k (k := Sum.inr z) f2 len, _, _, _, _, rfl, f1⟩
      | false =>
        obtain ⟨f1, f2⟩ := fin D ns H6 (Same.refl _) Dl ns6 h16
        exact iteF ⟨_, rfl, _, rfl, _, rfl, d, _, rfl, DPut.k (k := Sum.inr z) f2 len, _, _, _, _, rfl, f1⟩
  · obtain ⟨v4, v5, v6, es, rfl, X⟩ := h
    obtain ⟨k1, d1, hk1⟩ := X.drw
    have ek := X.keys
    rw [List.length_map, List.take_length] at ek
    rw [List.length_map] at hk1
    exact ⟨_, rfl, q H' d es k1 X.kp d1 (by omega) X.inp ek fun e he => (X.rows e he).1⟩
end
end Mu
end
section
set_option Elab.async false
set_option maxRecDepth 100000
set_option autoImplicit false
set_option linter.all false
/-! _law_parting -/
namespace Mu
open PySem PySem.Spec L2 Gz PySem.W LamX
open PyProof.Rows hiding St
/-- the places of the parts that tell x -/
def spots (x : Str) : List AP → Nat → List Int
  | [], _ => []
  | p :: ps, k => if x ∈ scans p then (k : Int) :: spots x ps (k + 1) else spots x ps (k + 1)
theorem spots_snoc {x : Str} {r : AP} : ∀ (l : List AP) (k : Nat), spots x (l ++ [r]) k = spots x l k ++ (if x ∈ scans r then [((k + l.length : Nat) : Int)] else [])
  | [], k => by
    rw [List.nil_append, spots, spots, spots, List.nil_append]
    rfl
  | p :: l, k => by
    rw [List.cons_append, spots, spots, spots_snoc l (k + 1), List.length_cons, show k + 1 + l.length = k + (l.length + 1) by omega]
    by_cases c : x ∈ scans p
    · rw [if_pos c, if_pos c, List.cons_append]
    · rw [if_neg c, if_neg c]
theorem spots_len {x : Str} : ∀ (l : List AP) (k : Nat), (spots x l k).length ≤ l.length
  | [], _ => Nat.le_refl _
  | p :: l, k => by
    have := spots_len (x := x) l (k + 1)
    rw [spots, List.length_cons]
    split
    · rw [List.length_cons]; omega
    · omega
theorem spots_first {x : Str} : ∀ {ps : List AP} {k : Nat}, x ∈ ps.flatMap scans → ∃ rest, spots x ps k = ((k + idx x ps : Nat) : Int) :: rest
  | p :: ps, k, h => by
    rw [spots]
    by_cases c : x ∈ scans p
    · have e : idx x (p :: ps) = 0 := idx_at (done := []) List.not_mem_nil c
      rw [if_pos c, e]
      exact ⟨_, rfl⟩
    · rw [List.flatMap_cons, List.mem_append] at h
      obtain ⟨rest, e⟩ := spots_first (k := k + 1) (h.resolve_left c)
      refine ⟨rest, ?_⟩
      have e2 : idx x (p :: ps) = idx x ps + 1 := by
        show List.findIdx _ (p :: ps) = _
        rw [List.findIdx_cons, decide_eq_false c]
        rfl
      rw [if_neg c, e, e2, show k + 1 + idx x ps = k + (idx x ps + 1) by omega]
theorem idx_get {x : Str} {ps : List AP} (h : x ∈ ps.flatMap scans) : ∃ r, ps[idx x ps]? = some r ∧ r ∈ ps ∧ x ∈ scans r ∧ ∀ y, partL ps x y = partR r x y := by
  obtain ⟨done, p, rest, e, h1, h2⟩ := idx_some h
  subst e
  refine ⟨p, ?_, by simp, h2, fun y => partL_at h1 h2⟩
  rw [idx_at h1 h2, List.getElem?_append_right (Nat.le_refl _), Nat.sub_self]
  rfl
/-- the finding in the midst -/
def FdP (H : Hp) (D : Addr) (x : Str) (ps : List AP) (i : Nat) (H' : Hp) : Prop := H' D = some (.lst ((spots x (ps.take i) 0).map V.int)) ∧ Same H H'
abbrev tFind (K : PySem.W.Frag) (i : Nat) : TE := tLc (iEnum K (tCons (tVar 4) tNil)) (gTup K 2 (gCons (gName 7) (gCons (gName 8) gNil))) (tTest (tOp (rIn K false) (tVar i) (tCall (spScans 18) [] E0 (tCons (tVar 8) tNil)))) (tVar 7) [7, 8]
theorem find_read {K : PySem.W.Frag} {H H1 : Hp} {Q : VK} {p : AP} {x y z : Str} {i : Nat} {l : Addr} {a : V} {v3 v5 v6 v7 v8 : Option V} (hi : (i = 1 ∧ z = x) ∨ (i = 2 ∧ z = y)) (ok : p.Ok (tups H)) (pk : PlanOk p) (hsc : isScan p = false) (hx : z ∈ scans p) (s1 : Same H H1) (hl : H1 l = some (.lst (rootsV p.kids)))
    (q : ∀ H2 : Hp, Same H1 H2 → Q (.int ((idx z p.kids : Nat) : Int)) H2) : tOp (rIxL K) (tFind K i) (tC (.int 0)) [some a, some (.str x), some (.str y), v3, some (.ref l), v5, v6, v7, v8] H1 Q := by
  have hσ : ∀ u7 u8 : Option V, ([some a, some (.str x), some (.str y), v3, some (.ref l), v5, v6, u7, u8] : L2.St)[i]? = some (some (.str z)) := fun u7 u8 => by
    rcases hi with ⟨rfl, rfl⟩ | ⟨rfl, rfl⟩ <;> rfl
  have kl := kids_few ok pk hsc
  refine ⟨_, rfl, l, _, rfl, SqL.of hl, fun D hD => lc_it (walk_enum (xs := rootsV p.kids)) (FdP H1 D z p.kids) ⟨by rw [upd_same]; rfl, same_upd hD⟩ (fun i H' _ h => SqL.of (h.2 _ _ hl)) (fun i v H2 H3 hi hp hv => ?_) fun H2 hp => ?_⟩
  · obtain ⟨h1, h2⟩ := hp
    obtain ⟨Tp, x1, y1, rfl, hTp, rfl, e1, e2⟩ := hv
    obtain rfl : V.int (i : Nat) = x1 := Option.some.inj e1
    have e2 : (rootsV p.kids)[i]? = some y1 := e2
    unfold rootsV at e2
    rw [List.getElem?_map] at e2
    obtain ⟨r, hr1, rfl⟩ := Option.map_eq_some_iff.mp e2
    have hrk : r ∈ p.kids := List.mem_of_getElem? hr1
    have pkr := pk.kid hrk
    have hi' : i < p.kids.length := (List.getElem?_eq_some_iff.mp hr1).1
    have s2 := h2.trans (same_upd (o := .tup [.int (i : Nat), .ref r.root]) hTp)
    have h1' := same_upd (o := .tup [.int (i : Nat), .ref r.root]) hTp _ _ h1
    refine ⟨Tp, _, rfl, SqT.of upd_same, rfl, _, _, rfl, _, _, rfl, rfl, rfl, _, hσ _ _, _, rfl, r, rfl, (ok_keeps (keeps_same (s1.trans s2)) ok).kid hrk, pkr.depth, pkr.few, fun H4 l4 s4 n4 hl4 => ⟨l4, _, rfl, .inl (SqL.of hl4), rfl, flat_strs _, _, rfl, ?_⟩⟩
    have h14 := s4 _ _ h1'
    have s14 := s2.trans s4
    rw [inV_str]
    have len : (spots z (p.kids.take i) 0).length ≤ 6 := by
      have := spots_len (x := z) (p.kids.take i) 0
      rw [List.length_take] at this
      omega
    have hli : (p.kids.take i).length = i := by rw [List.length_take]; omega
    by_cases c : z ∈ scans r
    · rw [decide_eq_true c]
      refine iteT (B := FdP H1 D z p.kids (i + 1) H4) ⟨_, rfl, _, h14, ?_, ?_, fun b o e => ?_⟩
      · rw [List.length_map]
        exact Nat.lt_of_le_of_lt len (by decide)
      · rw [upd_same, take_snoc hr1, spots_snoc, if_pos c, hli, List.map_append, Nat.zero_add]
        rfl
      · rw [upd_ne (ne_of_none e hD)]
        exact s14 _ _ e
    · rw [decide_eq_false c]
      refine iteF ⟨?_, s14⟩
      rw [take_snoc hr1, spots_snoc, if_neg c, List.append_nil]
      exact h14
  · obtain ⟨h1, h2⟩ := hp
    rw [show (rootsV p.kids).length = p.kids.length from List.length_map .., List.take_length] at h1
    rw [kids_scans hsc] at hx
    obtain ⟨rest, e⟩ := spots_first (k := 0) hx
    rw [e, Nat.zero_add] at h1
    exact ⟨D, _, 0, _, rfl, rfl, SqL.of h1, atI_nat (show ((((idx z p.kids : Nat) : Int) :: rest).map V.int)[0]? = some (.int ((idx z p.kids : Nat) : Int)) from rfl), q H2 h2⟩
/-- the word of a plan -/
def keyK (k : Bool) (q : PartInfo) : PartInfo := { q with keyed := k || q.keyed }
theorem keyK_idem (k j : Bool) (q : PartInfo) : keyK k (keyK j q) = keyK (k || j) q := by
  cases k <;> cases j <;> rfl
theorem partR_sort (a : Addr) (p : AP) (x y : Str) : partR (.sort a p) x y = keyK true (partR p x y) := by
  rw [partR]; rfl
def tupP (q : PartInfo) (pl : Addr) : HO := .tup [.bl q.keyed, .str (word q.m), .int (q.i : Nat), .int (q.j : Nat), .ref pl]
def spParting : Sp := fun vs H Q _ => ∃ (p : AP) (x y : Str), vs = [.ref p.root, .str x, .str y] ∧ p.Ok (tups H) ∧ PlanOk p ∧ x ∈ scans p ∧ y ∈ scans p ∧ x ≠ y ∧
  ∀ (H' : Hp) (t pl : Addr), Same H H' → H' t = some (tupP (partR p x y) pl) → H' pl = some (.lst (rootsV (partR p x y).ps)) → Q (.ref t) H'
section
variable {P : Program} {w : World} {K : PySem.W.Frag} {mg : Str → Option Value} {base : Heap} {T : List (Addr × Str)}
abbrev paN : List Str := ["_law_plan_here", "_law_one", "_law_other", "_law_keyed", "_law_parts", "_law_first", "_law_second", "_law_at", "_law_part"]
theorem fs_parting : FnScope paN ["_law_plan_here", "_law_one", "_law_other"] (defScope sL_parting) := ⟨rfl, rfl, rfl, by decide, rfl, by decide +kernel, by decide +kernel⟩
theorem c_parting (Tx0 : Tx K mg) : PCal P w K mg base 20 "_law_parting" spParting := by
  refine pc_mk Tx0.f_law_parting fs_parting (fun vs H Q E h => by obtain ⟨_, _, _, rfl, _⟩ := h; rfl) (fun _ _ _ _ _ _ us hl => match us, hl with | [_, _, _], _ => rfl) fun f cdv A outer s H vs Q E hr h => ?_
  have nd : paN.Nodup := by decide
  refine ⟨_, pss_cons (ps_set (i := 3) nd rfl (Or.inl rfl) pe_bl)
    (pss_one (ps_while PassesOwn.never (pt_val pe_bl)
      (pss_cons (ps_if (pt_cmpR op_eq (pe_ix ix_tup (pv 0) pe_int (fun _ _ => rfl)) pe_str (nomark _)) (pss_one (ps_set (i := 3) nd rfl (Or.inl rfl) pe_bl)) pss_nil)
      (pss_cons (ps_set (i := 4) nd rfl (Or.inl rfl) (pe_ifExp (pt_cmpR op_eq (pe_ix ix_tup (pv 0) pe_int (fun _ _ => rfl)) pe_str (nomark _)) (pe_lst (pa_cons (pe_ix ix_tup (pv 0) pe_int (fun _ _ => rfl)) pa_nil)) (pe_callTy call_list_of (by rfl) Tx0.blist boot_list (pa_cons (pe_ix ix_tup (pv 0) pe_int (fun _ _ => rfl)) pa_nil))))
      (pss_cons (ps_set (i := 5) nd rfl (Or.inl rfl) (pe_ix ix_list (pe_lc (own := [("_law_at", 7), ("_law_part", 8)]) (g := gTup K 2 (gCons (gName 7) (gCons (gName 8) gNil))) (tt := tTest (tOp (rIn K false) (tVar 1) (tCall (spScans 18) [] E0 (tCons (tVar 8) tNil)))) (te := tVar 7) rfl nd (pi_enum (by rfl) Tx0.benumerate (pa_cons (pv 4) pa_nil)) (blkOk_by (N := paN) (sc := defScope sL_parting) (by decide +kernel))
        (fun _ _ _ _ _ => pg_tup rfl (pgs_cons (pg_name (i := 7) nd rfl (Or.inl rfl) (Or.inr rfl)) (pgs_cons (pg_name (i := 8) nd rfl (Or.inl rfl) (Or.inr rfl)) pgs_nil))) (fun _ _ _ _ _ => pts_one (pt_cmpR op_in_seq (pv 1) (pcal (c_scans Tx0) hr (by omega) (by rfl) (pa_cons (pv 8) pa_nil)) (by with_unfolding_all rfl))) (fun _ _ _ _ _ => pv 7)) pe_int (fun _ _ => rfl)))
      (pss_cons (ps_set (i := 6) nd rfl (Or.inl rfl) (pe_ix ix_list (pe_lc (own := [("_law_at", 7), ("_law_part", 8)]) (g := gTup K 2 (gCons (gName 7) (gCons (gName 8) gNil))) (tt := tTest (tOp (rIn K false) (tVar 2) (tCall (spScans 18) [] E0 (tCons (tVar 8) tNil)))) (te := tVar 7) rfl nd (pi_enum (by rfl) Tx0.benumerate (pa_cons (pv 4) pa_nil)) (blkOk_by (N := paN) (sc := defScope sL_parting) (by decide +kernel))
        (fun _ _ _ _ _ => pg_tup rfl (pgs_cons (pg_name (i := 7) nd rfl (Or.inl rfl) (Or.inr rfl)) (pgs_cons (pg_name (i := 8) nd rfl (Or.inl rfl) (Or.inr rfl)) pgs_nil))) (fun _ _ _ _ _ => pts_one (pt_cmpR op_in_seq (pv 2) (pcal (c_scans Tx0) hr (by omega) (by rfl) (pa_cons (pv 8) pa_nil)) (by with_unfolding_all rfl))) (fun _ _ _ _ _ => pv 7)) pe_int (fun _ _ => rfl)))
      (pss_cons (ps_if (pt_cmpR op_ne (pv 5) (pv 6) (nomark _)) (pss_one (ps_ret (pe_tup (pa_cons (pv 3) (pa_cons (pe_ix ix_tup (pv 0) pe_int (fun _ _ => rfl)) (pa_cons (pv 5) (pa_cons (pv 6) (pa_cons (pv 4) pa_nil)))))))) pss_nil)
      (pss_one (ps_set (i := 0) nd rfl (Or.inl rfl) (pe_ix ix_list (pv 4) (pv 5) (fun _ _ => rfl)))))))))))
    , ?_⟩
  obtain ⟨p, x, y, rfl, ok, pk, hx, hy, hne, q⟩ := h
  refine ⟨fun m σ H' => ∃ (r : AP) (k : Bool) (v4 v5 v6 v7 v8 : Option V), m = r.depth ∧ σ = [some (.ref r.root), some (.str x), some (.str y), some (.bl k), v4, v5, v6, v7, v8] ∧ r.Ok (tups H) ∧ PlanOk r ∧ x ∈ scans r ∧ y ∈ scans r ∧ keyK k (partR r x y) = partR p x y ∧ Same H H',
    ⟨_, p, false, none, none, none, none, none, rfl, rfl, ok, pk, hx, hy, rfl, Same.refl H⟩, fun m σ H' h => ?_⟩
  obtain ⟨r, k, v4, v5, v6, v7, v8, rfl, rfl, okr, pkr, hxr, hyr, ek, s0⟩ := h
  refine ⟨true, rfl, iteT ⟨_, fun _ _ z => z, ?_⟩⟩
  obtain ⟨kw, v, hp0, c3⟩ := ok_pair okr
  have hp : Rd H' r.root (.tup [.str kw, v]) := keeps_same s0 _ _ hp0
  have okr1 := ok_keeps (keeps_same s0) okr
  rcases c3 with ⟨z, e, rfl, rfl, hz⟩ | ⟨r1, e, rfl, rfl, hr1⟩ | ⟨c, m, ps, e, rfl, rfl, hc, hpne, hok⟩
  · have es : scans r = [z] := by rw [e]; rfl
    rw [es] at hxr hyr
    exact absurd ((List.mem_singleton.mp hxr).trans (List.mem_singleton.mp hyr).symm) hne
  · have ek1 : r.kids = [r1] := by rw [e]; rfl
    have hs1 : isScan r = false := by rw [e]; rfl
    have hx1 : x ∈ scans r1 := by rw [e, scans_sort] at hxr; exact hxr
    have hy1 : y ∈ scans r1 := by rw [e, scans_sort] at hyr; exact hyr
    have i0 : ∀ u, u ∈ scans r1 → idx u r.kids = 0 := fun u hu => by rw [ek1]; exact idx_at (done := []) List.not_mem_nil hu
    refine ⟨_, rfl, r.root, _, 0, _, rfl, rfl, .inl hp, ix0, rfl, _, rfl, iteT ?_⟩
    refine ⟨_, rfl, r.root, _, 0, _, rfl, rfl, .inl hp, ix0, rfl, _, rfl, iteT ⟨_, rfl, r.root, _, 1, _, rfl, rfl, .inl hp, ix1, by show 1 ≤ sizeLine; decide, fun l hl => ?_⟩⟩
    have s1 := same_upd (o := .lst [V.ref r1.root]) hl
    have hl1 : upd H' l (.lst [V.ref r1.root]) l = some (.lst (rootsV r.kids)) := by rw [upd_same, ek1]; rfl
    generalize upd H' l (.lst [V.ref r1.root]) = H1 at s1 hl1 ⊢
    dsimp only [tSeq, tAsg, gName]
    refine find_read (H := H') (x := x) (y := y) (.inl ⟨rfl, rfl⟩) okr1 pkr hs1 hxr s1 hl1 fun H2 s2 => ?_
    refine find_read (H := H') (x := x) (y := y) (.inr ⟨rfl, rfl⟩) okr1 pkr hs1 hyr (s1.trans s2) (s2 _ _ hl1) fun H3 s3 => ?_
    rw [i0 x hx1, i0 y hy1]
    refine ⟨_, rfl, _, rfl, rfl, false, rfl, iteF ⟨_, rfl, _, rfl, l, _, 0, _, rfl, rfl, SqL.of (s3 _ _ (s2 _ _ hl1)), atI_nat (show (rootsV r.kids)[0]? = some (.ref r1.root) by rw [ek1]; rfl), ?_⟩⟩
    have hrk : r1 ∈ r.kids := by rw [ek1]; exact List.mem_singleton.mpr rfl
    refine ⟨r1.depth, AP.depth_kid hrk, r1, true, _, _, _, _, _, rfl, rfl, okr.kid hrk, pkr.kid hrk, hx1, hy1, ?_, s0.trans (s1.trans (s2.trans s3))⟩
    rw [e, partR_sort, keyK_idem] at ek
    rw [← ek]
    cases k <;> rfl
  · have ek1 : r.kids = ps := by rw [e]; rfl
    have hs1 : isScan r = false := by rw [e]; rfl
    have w2 : decide (V.str (word m) = V.str "sort") = false := by cases m <;> decide
    have hc' : Rd H' c (.tup (rootsV ps)) := keeps_same s0 _ _ hc
    refine ⟨_, rfl, r.root, _, 0, _, rfl, rfl, .inl hp, ix0, rfl, _, rfl, ?_⟩
    rw [w2]
    refine iteF ⟨_, rfl, r.root, _, 0, _, rfl, rfl, .inl hp, ix0, rfl, _, rfl, ?_⟩
    rw [w2]
    refine iteF ⟨_, rfl, r.root, _, 1, _, rfl, rfl, .inl hp, ix1, c, _, rfl, .inr (.inl hc'), fun l hl => ?_⟩
    have s1 := same_upd (o := .lst (rootsV ps)) hl
    have hl1 : upd H' l (.lst (rootsV ps)) l = some (.lst (rootsV r.kids)) := by rw [upd_same, ek1]
    generalize upd H' l (.lst (rootsV ps)) = H1 at s1 hl1 ⊢
    dsimp only [tSeq, tAsg, gName]
    refine find_read (H := H') (x := x) (y := y) (.inl ⟨rfl, rfl⟩) okr1 pkr hs1 hxr s1 hl1 fun H2 s2 => ?_
    refine find_read (H := H') (x := x) (y := y) (.inr ⟨rfl, rfl⟩) okr1 pkr hs1 hyr (s1.trans s2) (s2 _ _ hl1) fun H3 s3 => ?_
    rw [ek1] at hl1 ⊢
    have s13 := s1.trans (s2.trans s3)
    have hl3 := s3 _ _ (s2 _ _ hl1)
    refine ⟨_, rfl, _, rfl, rfl, _, rfl, ?_⟩
    by_cases ei : idx x ps = idx y ps
    · have en : (!decide (V.int ((idx x ps : Nat) : Int) = V.int ((idx y ps : Nat) : Int))) = false := by rw [ei]; simp
      rw [en]
      have hxp : x ∈ ps.flatMap scans := by rw [e, scans_many] at hxr; exact hxr
      have hyp : y ∈ ps.flatMap scans := by rw [e, scans_many] at hyr; exact hyr
      obtain ⟨r1, g1, g2, g3, g4⟩ := idx_get hxp
      obtain ⟨r2, k1, _, k3, _⟩ := idx_get hyp
      rw [ei, k1] at g1
      obtain rfl : r2 = r1 := Option.some.inj g1
      have hrk : r2 ∈ r.kids := by rw [ek1]; exact g2
      refine iteF ⟨_, rfl, _, rfl, l, _, _, _, rfl, rfl, SqL.of hl3, atI_nat (show (rootsV ps)[idx x ps]? = some (.ref r2.root) by
        unfold rootsV
        rw [List.getElem?_map, ei, k1]
        rfl), ?_⟩
      refine ⟨r2.depth, AP.depth_kid hrk, r2, k, _, _, _, _, _, rfl, rfl, okr.kid hrk, pkr.kid hrk, g3, k3, ?_, s0.trans s13⟩
      rw [← ek, e, partR, if_pos ei, g4]
    · have en : (!decide (V.int ((idx x ps : Nat) : Int) = V.int ((idx y ps : Nat) : Int))) = true := by
        rw [decide_eq_false fun z => ei (by have := V.int.inj z; omega)]
        rfl
      rw [en]
      have pe : partR p x y = ⟨k, m, idx x ps, idx y ps, ps⟩ := by
        rw [← ek, e, partR, if_neg ei]
        cases k <;> rfl
      refine iteT ⟨_, rfl, _, rfl, r.root, _, 0, _, rfl, rfl, .inl (keeps_same s13 _ _ hp), ix0, _, rfl, _, rfl, _, rfl, by show 5 ≤ sizeLine; decide, fun t ht => ?_⟩
      have s4 := same_upd (o := .tup [.bl k, .str (word m), .int (idx x ps : Nat), .int (idx y ps : Nat), .ref l]) ht
      refine q _ t l (s0.trans (s13.trans s4)) ?_ ?_
      · rw [pe, upd_same]
        rfl
      · rw [pe]
        exact s4 _ _ hl3
end
end Mu
end
section
set_option Elab.async false
set_option maxRecDepth 100000
set_option autoImplicit false
set_option linter.all false
/-! _law_is_first -/
namespace Mu
open PySem PySem.Spec L2 Gz PySem.W LamX
open PyProof.Rows hiding St
/-- what stands of the parting -/
structure PartOk (T : Hp) (p : AP) (x y : Str) (q : PartInfo) : Prop where
  ex : ∃ u v : AP, q.ps[q.i]? = some u ∧ q.ps[q.j]? = some v ∧ x ∈ scans u ∧ y ∈ scans v ∧ u.Ok T ∧ v.Ok T ∧ PlanOk u ∧ PlanOk v ∧ (∀ z ∈ scans u, z ∈ scans p) ∧ ∀ z ∈ scans v, z ∈ scans p
theorem partR_ok {T : Hp} {x y : Str} (hne : x ≠ y) : ∀ (n : Nat) (p : AP), p.depth ≤ n → p.Ok T → PlanOk p → x ∈ scans p → y ∈ scans p → PartOk T p x y (partR p x y)
  | n, .scan a z, _, _, _, hx, hy => by
    have hx : x ∈ [z] := hx
    have hy : y ∈ [z] := hy
    exact absurd ((List.mem_singleton.mp hx).trans (List.mem_singleton.mp hy).symm) hne
  | 0, .sort a r, hd, _, _, _, _ => by simp [AP.depth] at hd
  | 0, .many a c m ps, hd, _, _, _, _ => by simp [AP.depth] at hd
  | n + 1, .sort a r, hd, ok, pk, hx, hy => by
    have hrk : r ∈ (AP.sort a r).kids := by simp [AP.kids]
    have hdk := AP.depth_kid hrk
    rw [scans_sort] at hx hy
    obtain ⟨u, v, h⟩ := (partR_ok hne n r (by omega) (ok.kid hrk) (pk.kid hrk) hx hy).ex
    rw [partR]
    refine ⟨u, v, ?_⟩
    rw [scans_sort]
    exact h
  | n + 1, .many a c m ps, hd, ok, pk, hx, hy => by
    have sub : ∀ r ∈ ps, ∀ z ∈ scans r, z ∈ scans (.many a c m ps) := fun r hr z hz => by
      rw [scans_many]
      exact List.mem_flatMap.mpr ⟨r, hr, hz⟩
    have hx' := hx
    have hy' := hy
    rw [scans_many] at hx' hy'
    obtain ⟨r1, g1, g2, g3, g4⟩ := idx_get hx'
    obtain ⟨r2, k1, k2, k3, _⟩ := idx_get hy'
    have hr1 : r1 ∈ (AP.many a c m ps).kids := g2
    have hr2 : r2 ∈ (AP.many a c m ps).kids := k2
    rw [partR]
    by_cases e : idx x ps = idx y ps
    · rw [if_pos e, g4]
      rw [e, k1] at g1
      obtain rfl : r2 = r1 := Option.some.inj g1
      have hdk := AP.depth_kid hr1
      obtain ⟨u, v, h1, h2, h3, h4, h5, h6, h7, h8, h9, h10⟩ := (partR_ok hne n r2 (by omega) (ok.kid hr1) (pk.kid hr1) g3 k3).ex
      exact ⟨u, v, h1, h2, h3, h4, h5, h6, h7, h8, fun z hz => sub r2 g2 z (h9 z hz), fun z hz => sub r2 g2 z (h10 z hz)⟩
    · rw [if_neg e]
      exact ⟨r1, r2, g1, k1, g3, k3, ok.kid hr1, ok.kid hr2, pk.kid hr1, pk.kid hr2, sub r1 g2, sub r2 k2⟩
/-- what is asked of a row -/
structure RowIn (H : Hp) (p : AP) (es : Ents) (r : Rw) : Prop where
  at_ : Rd H r.at_ (.tup [.int r.key, .str r.name, .int (r.place : Nat)])
  name : r.name ∈ scans p
  place : r.place < (lsOf es r.name).length
theorem RowIn.same {H H' : Hp} {p : AP} {es : Ents} {r : Rw} (h : RowIn H p es r) (s : Same H H') : RowIn H' p es r := ⟨keeps_same s _ _ h.at_, h.name, h.place⟩
theorem RowIn.sq {K : PySem.W.Frag} {H : Hp} {p : AP} {es : Ents} {r : Rw} (h : RowIn H p es r) : SqT K H r.at_ [.int r.key, .str r.name, .int (r.place : Nat)] := .inl h.at_
/-- what is asked of plan and lists -/
structure PL (H : Hp) (p : AP) (d : Addr) (es : Ents) : Prop where
  ok : p.Ok (tups H)
  pk : PlanOk p
  inp : Inp H d es
  all : ∀ x ∈ scans p, ∃ a ns, (x, a, ns) ∈ es
  six : ∀ e ∈ es, e.2.2.length ≤ 6
theorem PL.same {H H' : Hp} {p : AP} {d : Addr} {es : Ents} (h : PL H p d es) (s : Same H H') : PL H' p d es := ⟨ok_keeps (keeps_same s) h.ok, h.pk, h.inp.same s, h.all, h.six⟩
def spFirst : Sp := fun vs H Q _ => ∃ (p : AP) (d : Addr) (es : Ents) (r1 r2 : Rw), vs = [.ref p.root, .ref d, .ref r1.at_, .ref r2.at_] ∧ PL H p d es ∧ RowIn H p es r1 ∧ RowIn H p es r2 ∧ r1.name ≠ r2.name ∧
  ∀ H' : Hp, Same H H' → Q (.bl (firstB (lsOf es) (partR p r1.name r2.name) r1.t r2.t)) H'
theorem word_append (m : Bool) : decide (V.str (word m) = V.str "append") = !m := by cases m <;> decide
section
variable {P : Program} {w : World} {K : PySem.W.Frag} {mg : Str → Option Value} {base : Heap} {T : List (Addr × Str)}
abbrev fiN : List Str := ["_law_plan_here", "_law_lists", "_law_one", "_law_other", "_law_keyed", "_law_word", "_law_first", "_law_second", "_law_parts", "_law_mine", "_law_more"]
theorem fs_first : FnScope fiN ["_law_plan_here", "_law_lists", "_law_one", "_law_other"] (defScope sL_is_first) := ⟨rfl, rfl, rfl, by decide, rfl, by decide +kernel, by decide +kernel⟩
theorem c_first (Tx0 : Tx K mg) (M : Mod K mg base) : LCal P w K mg base 83 "_law_is_first" spFirst := by
  refine lc_mk Tx0.f_law_is_first fs_first (fun vs H Q h => by obtain ⟨_, _, _, _, _, rfl, _⟩ := h; rfl) (fun _ _ _ _ _ _ us hl => match us, hl with | [_, _, _, _], _ => rfl) fun f cdv A outer s H vs Q hr h => ?_
  obtain ⟨p, d, es, r1, r2, rfl, pl, i1, i2, hne, q⟩ := h
  have nd : fiN.Nodup := by decide
  refine ⟨_, sss_cons (SS.of (ps_asg (pcal (c_parting Tx0) hr (by omega) (by rfl) (pa_cons (pv 0) (pa_cons (pe_ix ix_tup (pv 2) pe_int (fun _ _ => rfl)) (pa_cons (pe_ix ix_tup (pv 3) pe_int (fun _ _ => rfl)) pa_nil))))
      (pg_tup (by rfl) (pgs_cons (pg_name (i := 4) nd rfl (Or.inl rfl)) (pgs_cons (pg_name (i := 5) nd rfl (Or.inl rfl)) (pgs_cons (pg_name (i := 6) nd rfl (Or.inl rfl)) (pgs_cons (pg_name (i := 7) nd rfl (Or.inl rfl)) (pgs_cons (pg_name (i := 8) nd rfl (Or.inl rfl)) pgs_nil))))))))
    (sss_cons (SS.of (ps_if (PW.pt (pw_and (pt_val (pv 4)) (pw_and1 (pt_cmpR op_ne (pe_ix ix_tup (pv 2) pe_int (fun _ _ => rfl)) (pe_ix ix_tup (pv 3) pe_int (fun _ _ => rfl)) (nomark _))))) (pss_one (ps_ret (pe_cmpR op_lt (pe_ix ix_tup (pv 2) pe_int (fun _ _ => rfl)) (pe_ix ix_tup (pv 3) pe_int (fun _ _ => rfl)) (nomark _)))) pss_nil))
    (sss_cons (SS.of (ps_if (pt_cmpR op_eq (pv 5) pe_str (nomark _)) (pss_one (ps_ret (pe_cmpR op_lt (pv 6) (pv 7) (nomark _)))) pss_nil))
    (sss_cons (ss_par (i := 9) (j := 10) rfl nd rfl rfl (by decide) rfl rfl (as_cons (lcal (c_lawlead Tx0 M) hr (by decide) (by rfl) (pa_cons (pe_ix ix_list (pv 8) (pv 6) (fun _ _ => rfl)) (pa_cons (pv 1) (pa_cons (pv 2) pa_nil))))
      (as_cons (lcal (c_lawlead Tx0 M) hr (by decide) (by rfl) (pa_cons (pe_ix ix_list (pv 8) (pv 7) (fun _ _ => rfl)) (pa_cons (pv 1) (pa_cons (pv 3) pa_nil)))) as_nil)) (by rfl))
    (sss_one (SS.of (ps_ret (pe_ifExp (pt_cmpR op_lt (pv 6) (pv 7) (nomark _)) (pe_cmpR op_le (pv 9) (pv 10) (nomark _)) (pe_cmpR op_lt (pv 9) (pv 10) (nomark _))))))))), ?_⟩
  refine ⟨_, rfl, _, rfl, r1.at_, _, 1, _, rfl, rfl, i1.sq, rfl, _, rfl, r2.at_, _, 1, _, rfl, rfl, i2.sq, rfl, p, r1.name, r2.name, rfl, pl.ok, pl.pk, i1.name, i2.name, hne, fun H1 t l s1 ht hl => ?_⟩
  obtain ⟨u, v, hu, hv, hxu, hyv, oku, okv, pku, pkv, subu, subv⟩ := (partR_ok hne p.depth p (Nat.le_refl _) pl.ok pl.pk i1.name i2.name).ex
  generalize partR p r1.name r2.name = pq at ht hl hu hv q
  obtain ⟨ky, m, i, j, ps⟩ := pq
  have j1 := i1.same s1
  have j2 := i2.same s1
  refine ⟨t, _, rfl, SqT.of ht, rfl, _, _, rfl, _, _, rfl, _, _, rfl, _, _, rfl, _, _, rfl, rfl, ?_⟩
  have rest : (∀ H', Same H1 H' → Q (.bl (cmpB (lsOf es) m i j ps r1.t r2.t)) H') → tSeq (tIfS (tTest (tOp rEq (tVar 5) (tC (.str "append")))) (tSeq (tRet (tOp (rI0 fun i j => .bl (decide (i < j))) (tVar 6) (tVar 7))) tNext) tNext)
      (tSeq (tPar 9 10 (tCons (tCall spLawLead [] E0 (tCons (tOp (rIxL K) (tVar 8) (tVar 6)) (tCons (tVar 1) (tCons (tVar 2) tNil)))) (tCons (tCall spLawLead [] E0 (tCons (tOp (rIxL K) (tVar 8) (tVar 7)) (tCons (tVar 1) (tCons (tVar 3) tNil)))) tNil)))
        (tRet (tIf (tTest (tOp (rI0 fun i j => .bl (decide (i < j))) (tVar 6) (tVar 7))) (tOp (rI0 fun i j => .bl (decide (i ≤ j))) (tVar 9) (tVar 10)) (tOp (rI0 fun i j => .bl (decide (i < j))) (tVar 9) (tVar 10)))))
      { nx := fun _ H' => Q .non H', rt := Q } [some (.ref p.root), some (.ref d), some (.ref r1.at_), some (.ref r2.at_), some (.bl ky), some (.str (word m)), some (.int (i : Nat)), some (.int (j : Nat)), some (.ref l), none, none] H1 := fun qc => by
    refine ⟨_, rfl, rfl, _, rfl, ?_⟩
    rw [word_append]
    have dlt : decide (((i : Nat) : Int) < ((j : Nat) : Int)) = decide (i < j) := by
      rw [Bool.eq_iff_iff, decide_eq_true_eq, decide_eq_true_eq]
      omega
    cases m with
    | false =>
      refine iteT ⟨_, rfl, _, rfl, _, _, rfl, rfl, ?_⟩
      have z := qc H1 (Same.refl _)
      unfold cmpB at z
      rw [if_neg Bool.false_ne_true, ← dlt] at z
      exact z
    | true =>
      have gi : (rootsV ps)[i]? = some (.ref u.root) := by unfold rootsV; rw [List.getElem?_map, hu]; rfl
      have gj : (rootsV ps)[j]? = some (.ref v.root) := by unfold rootsV; rw [List.getElem?_map, hv]; rfl
      have one : ∀ (t : AP) (r : Rw) (H' : Hp), t.Ok (tups H) → PlanOk t → (∀ z ∈ scans t, z ∈ scans p) → RowIn H p es r → r.name ∈ scans t → Same H1 H' → p.Ok (tups H') ∧ t.Ok (tups H') ∧ Inp H' d es ∧ RowsOk H' [r] := fun t r H' okt _ _ ir _ s => by
        have s' := s1.trans s
        refine ⟨ok_keeps (keeps_same s') pl.ok, ok_keeps (keeps_same s') okt, pl.inp.same s', fun r' hr' => ?_⟩
        rw [List.mem_singleton.mp hr']
        exact (ir.same s').at_
      obtain ⟨_, a1, a2, a3⟩ := one u r1 H1 oku pku subu i1 hxu (Same.refl _)
      refine iteF ⟨_, rfl, _, rfl, l, _, ((i : Nat) : Int), _, rfl, rfl, SqL.of hl, atI_nat gi, _, rfl, _, rfl, u, d, es, r1, rfl, a1, pku, a2, fun z hz => pl.all z (subu z hz), pl.six, a3, hxu, i1.place, fun H2 m1 s2 max1 => ?_⟩
      obtain ⟨_, b1, b2, b3⟩ := one v r2 H2 okv pkv subv i2 hyv s2
      refine ⟨_, rfl, _, rfl, l, _, ((j : Nat) : Int), _, rfl, rfl, SqL.of (s2 _ _ hl), atI_nat gj, _, rfl, _, rfl, v, d, es, r2, rfl, b1, pkv, b2, fun z hz => pl.all z (subv z hz), pl.six, b3, hyv, i2.place, fun H3 m2 s3 max2 => ?_⟩
      have l1 : leadAt (lsOf es) ps i r1.t = m1 := by unfold leadAt; rw [hu]; exact (maxL_is max1).symm
      have l2 : leadAt (lsOf es) ps j r2.t = m2 := by unfold leadAt; rw [hv]; exact (maxL_is max2).symm
      have qc := qc H3 (s2.trans s3)
      unfold cmpB at qc
      rw [if_pos rfl, l1, l2] at qc
      refine ⟨_, _, rfl, _, rfl, _, rfl, _, _, rfl, rfl, _, rfl, ?_⟩
      rw [dlt]
      by_cases c : i < j
      · rw [if_pos c] at qc
        rw [decide_eq_true c]
        exact iteT ⟨_, rfl, _, rfl, _, _, rfl, rfl, qc⟩
      · rw [if_neg c] at qc
        rw [decide_eq_false c]
        exact iteF ⟨_, rfl, _, rfl, _, _, rfl, rfl, qc⟩
  unfold firstB at q
  have q : ∀ H' : Hp, Same H H' → Q (.bl (if ky = true ∧ r1.key ≠ r2.key then decide (r1.key < r2.key) else cmpB (lsOf es) m i j ps r1.t r2.t)) H' := q
  refine ⟨_, rfl, ky, rfl, ?_⟩
  have q1 : ∀ c : Bool, (c = decide (ky = true ∧ r1.key ≠ r2.key)) → (c = true → Q (.bl (decide (r1.key < r2.key))) H1) ∧ (c = false → ∀ H', Same H1 H' → Q (.bl (cmpB (lsOf es) m i j ps r1.t r2.t)) H') := fun c ec => by
    constructor
    · intro z
      rw [z] at ec
      have h := of_decide_eq_true ec.symm
      have := q H1 s1
      rw [if_pos h] at this
      exact this
    · intro z H' s'
      rw [z] at ec
      have h := of_decide_eq_false ec.symm
      have := q H' (s1.trans s')
      rw [if_neg h] at this
      exact this
  cases ky with
  | false =>
    obtain ⟨_, q3⟩ := q1 false (by simp)
    exact iteF (iteF (rest (q3 rfl)))
  | true =>
    refine iteT ⟨_, rfl, r1.at_, _, 0, _, rfl, rfl, j1.sq, rfl, _, rfl, r2.at_, _, 0, _, rfl, rfl, j2.sq, rfl, rfl, _, rfl, ?_⟩
    by_cases c : r1.key = r2.key
    · obtain ⟨_, q3⟩ := q1 false (by simp [c])
      rw [show (!decide (V.int r1.key = V.int r2.key)) = false by rw [c]; simp]
      exact iteF (rest (q3 rfl))
    · obtain ⟨q3, _⟩ := q1 true (by simp [c])
      rw [show (!decide (V.int r1.key = V.int r2.key)) = true by rw [decide_eq_false fun z => c (V.int.inj z)]; rfl]
      exact iteT ⟨_, rfl, r1.at_, _, 0, _, rfl, rfl, j1.sq, rfl, _, rfl, r2.at_, _, 0, _, rfl, rfl, j2.sq, rfl, _, _, rfl, rfl, q3 rfl⟩
end
end Mu
end
section
set_option Elab.async false
set_option maxRecDepth 100000
set_option autoImplicit false
set_option linter.all false
/-! _law_pair_right -/
namespace Mu
open PySem PySem.Spec L2 Gz PySem.W LamX
open PyProof.Rows hiding St
def spPair : Sp := fun vs H Q _ => ∃ (p : AP) (d : Addr) (es : Ents) (r1 r2 : Rw), vs = [.ref p.root, .ref d, .ref r1.at_, .ref r2.at_] ∧ PL H p d es ∧ RowIn H p es r1 ∧ RowIn H p es r2 ∧ ∀ H' : Hp, Same H H' → Q (.bl (pairB (lsOf es) p r1.t r2.t)) H'
section
variable {P : Program} {w : World} {K : PySem.W.Frag} {mg : Str → Option Value} {base : Heap} {T : List (Addr × Str)}
abbrev prN : List Str := ["_law_plan_here", "_law_lists", "_law_one", "_law_other"]
theorem fs_pair : FnScope prN ["_law_plan_here", "_law_lists", "_law_one", "_law_other"] (defScope sL_pair_right) := ⟨rfl, rfl, rfl, by decide, rfl, by decide +kernel, by decide +kernel⟩
theorem c_pair (Tx0 : Tx K mg) (M : Mod K mg base) : LCal P w K mg base 84 "_law_pair_right" spPair := by
  refine lc_mk Tx0.f_law_pair_right fs_pair (fun vs H Q h => by obtain ⟨_, _, _, _, _, rfl, _⟩ := h; rfl) (fun _ _ _ _ _ _ us hl => match us, hl with | [_, _, _, _], _ => rfl) fun f cdv A outer s H vs Q hr h => ?_
  obtain ⟨p, d, es, r1, r2, rfl, pl, i1, i2, q⟩ := h
  have nd : prN.Nodup := by decide
  refine ⟨_, sss_cons (ss_if (TSt.of (pt_cmpR op_ne (pe_ix ix_tup (pv 2) pe_int (fun _ _ => rfl)) (pe_ix ix_tup (pv 3) pe_int (fun _ _ => rfl)) (nomark _))) (sss_one (ss_ret (lcal (c_first Tx0 M) hr (by decide) (by rfl) (pa_cons (pv 0) (pa_cons (pv 1) (pa_cons (pv 2) (pa_cons (pv 3) pa_nil))))))) (SSs.of pss_nil))
    (SSs.of (pss_cons (ps_if (PW.pt (pw_and (pt_val (pcal (c_issorted Tx0) hr (by omega) (by rfl) (pa_cons (pv 0) (pa_cons (pe_ix ix_tup (pv 2) pe_int (fun _ _ => rfl)) pa_nil)))) (pw_and1 (pt_cmpR op_ne (pe_ix ix_tup (pv 2) pe_int (fun _ _ => rfl)) (pe_ix ix_tup (pv 3) pe_int (fun _ _ => rfl)) (nomark _)))))
      (pss_one (ps_ret (pe_cmpR op_lt (pe_ix ix_tup (pv 2) pe_int (fun _ _ => rfl)) (pe_ix ix_tup (pv 3) pe_int (fun _ _ => rfl)) (nomark _)))) pss_nil)
      (pss_one (ps_ret (pe_cmpR op_lt (pe_ix ix_tup (pv 2) pe_int (fun _ _ => rfl)) (pe_ix ix_tup (pv 3) pe_int (fun _ _ => rfl)) (nomark _)))))), ?_⟩
  unfold pairB at q
  have q : ∀ H' : Hp, Same H H' → Q (.bl (if r1.name ≠ r2.name then firstB (lsOf es) (partR p r1.name r2.name) r1.t r2.t else if sortedR p r1.name = true ∧ r1.key ≠ r2.key then decide (r1.key < r2.key) else decide (r1.place < r2.place))) H' := q
  refine ⟨_, rfl, r1.at_, _, 1, _, rfl, rfl, i1.sq, rfl, _, rfl, r2.at_, _, 1, _, rfl, rfl, i2.sq, rfl, rfl, _, rfl, ?_⟩
  by_cases n : r1.name = r2.name
  · rw [show (!decide (V.str r1.name = V.str r2.name)) = false by rw [n]; simp]
    refine iteF ⟨_, rfl, _, rfl, r1.at_, _, 1, _, rfl, rfl, i1.sq, rfl, p, r1.name, rfl, pl.ok, pl.pk, pl.pk.depth, i1.name, fun H1 s1 => ?_⟩
    have j1 := i1.same s1
    have j2 := i2.same s1
    have q1 := q H1 s1
    rw [if_neg (fun z => z n)] at q1
    have dlt : decide (((r1.place : Nat) : Int) < ((r2.place : Nat) : Int)) = decide (r1.place < r2.place) := by
      rw [Bool.eq_iff_iff, decide_eq_true_eq, decide_eq_true_eq]
      omega
    have last : Q (.bl (decide (r1.place < r2.place))) H1 → tRet (tOp (rI0 fun i j => .bl (decide (i < j))) (tOp (rIxT K) (tVar 2) (tC (.int 2))) (tOp (rIxT K) (tVar 3) (tC (.int 2)))) { nx := fun _ H' => Q .non H', rt := Q } [some (.ref p.root), some (.ref d), some (.ref r1.at_), some (.ref r2.at_)] H1 := fun z => by
      rw [← dlt] at z
      exact ⟨_, rfl, r1.at_, _, 2, _, rfl, rfl, j1.sq, rfl, _, rfl, r2.at_, _, 2, _, rfl, rfl, j2.sq, rfl, _, _, rfl, rfl, z⟩
    refine ⟨sortedR p r1.name, rfl, ?_⟩
    cases hs : sortedR p r1.name with
    | false =>
      rw [hs, if_neg (fun z => Bool.false_ne_true z.1)] at q1
      exact iteF (iteF (last q1))
    | true =>
      rw [hs] at q1
      refine iteT ⟨_, rfl, r1.at_, _, 0, _, rfl, rfl, j1.sq, rfl, _, rfl, r2.at_, _, 0, _, rfl, rfl, j2.sq, rfl, rfl, _, rfl, ?_⟩
      by_cases c : r1.key = r2.key
      · rw [if_neg (fun z => z.2 c)] at q1
        rw [show (!decide (V.int r1.key = V.int r2.key)) = false by rw [c]; simp]
        exact iteF (last q1)
      · rw [if_pos ⟨rfl, c⟩] at q1
        rw [show (!decide (V.int r1.key = V.int r2.key)) = true by rw [decide_eq_false fun z => c (V.int.inj z)]; rfl]
        exact iteT ⟨_, rfl, r1.at_, _, 0, _, rfl, rfl, j1.sq, rfl, _, rfl, r2.at_, _, 0, _, rfl, rfl, j2.sq, rfl, _, _, rfl, rfl, q1⟩
  · rw [show (!decide (V.str r1.name = V.str r2.name)) = true by rw [decide_eq_false fun z => n (V.str.inj z)]; rfl]
    refine iteT ⟨_, rfl, _, rfl, _, rfl, _, rfl, p, d, es, r1, r2, rfl, pl, i1, i2, n, fun H1 s1 => ?_⟩
    have q1 := q H1 s1
    rw [if_pos n] at q1
    exact q1
end
end Mu
end
section
set_option Elab.async false
set_option maxRecDepth 100000
set_option autoImplicit false
set_option linter.all false
/-! _law_plan -/
namespace Mu
open PySem PySem.Spec L2 Gz PySem.W LamX
open PyProof.Rows hiding St
/-- a plan over the names of a list -/
def spPlanL (n : Nat) : Sp := fun vs H Q _ => ∃ (l s : Addr) (k : Int) (zs : List Str), vs = [.ref l, .ref s] ∧ Drw H l k ∧ k + 2 * zs.length < 1000000 ∧ H s = some (.lst (zs.map V.str)) ∧ 1 ≤ zs.length ∧ zs.length ≤ n ∧ zs.length ≤ 6 ∧ (∀ x ∈ zs, x ∈ names) ∧
  ∀ (H' : Hp) (p : AP) (k' : Int), But l H H' → Drw H' l k' → k' + 1 ≤ k + 2 * zs.length → p.Ok (tups H') → scans p = zs → p.depth + 1 ≤ 3 * zs.length → Q (.ref p.root) H'
/-- the words' pick and the tests -/
abbrev tPick (d c : Int) : TE := tOp (rI (fun _ j => 0 < j) fun i j => .int (i % j)) (tCB rInt1 (tCons (tOp (rI CDiv fun i j => .int (i / j)) (tVar 2) (tC (.int d))) tNil)) (tC (.int c))
abbrev tWord (K : PySem.W.Frag) (d : Int) : TE := tOp (rIxL K) (tLst (tCons (tC (.str "append")) (tCons (tC (.str "merge")) tNil))) (tPick d 2)
theorem tPick_read {σ : L2.St} {H : Hp} {Q : VK} {d c n : Int} (hσ : σ[2]? = some (some (.int n))) (hd : CDiv n d) (hc : 0 < c) (q : Q (.int (n / d % c)) H) : tPick d c σ H Q := ⟨_, hσ, _, _, rfl, rfl, hd, .inl ⟨_, rfl, _, _, rfl, rfl, hc, q⟩⟩
theorem tTest_read {σ : L2.St} {H : Hp} {Q : Bool → Hp → Prop} {d c n e : Int} (hσ : σ[2]? = some (some (.int n))) (hd : CDiv n d) (hc : 0 < c) (q : ∀ b, Q b H) : tTest (tOp rEq (tPick d c) (tC (.int e))) σ H Q := ⟨_, hσ, _, _, rfl, rfl, hd, .inl ⟨_, rfl, _, _, rfl, rfl, hc, rfl, _, rfl, q _⟩⟩
theorem tWord_read {K : PySem.W.Frag} {σ : L2.St} {H : Hp} {Q : VK} {d n : Int} (hσ : σ[2]? = some (some (.int n))) (hd : CDiv n d) (q : ∀ m H', Same H H' → Q (.str (word m)) H') : tWord K d σ H Q := by
  refine ⟨by show 2 ≤ sizeLine; decide, fun p hp => ?_⟩
  refine tPick_read hσ hd (by decide) ?_
  have h1 := Int.emod_nonneg (n / d) (b := 2) (by decide)
  have h2 := Int.emod_lt_of_pos (n / d) (b := 2) (by decide)
  generalize n / d % 2 = r at h1 h2
  obtain rfl | rfl : r = 0 ∨ r = 1 := by omega
  · exact ⟨p, _, 0, _, rfl, rfl, SqL.of upd_same, rfl, q false _ (same_upd hp)⟩
  · exact ⟨p, _, 1, _, rfl, rfl, SqL.of upd_same, rfl, q true _ (same_upd hp)⟩
theorem But.same {l : Addr} {H H1 H2 : Hp} (b : But l H H1) (s : Same H1 H2) : But l H H2 := fun c o h e => s _ _ (b c o h e)
theorem But.trans {l : Addr} {H H1 H2 : Hp} (b : But l H H1) (s : But l H1 H2) : But l H H2 := fun c o h e => s c o h (b c o h e)
theorem Drw.keeps {H H' : Hp} {l : Addr} {k : Int} (d : Drw H l k) (b : But l H H') : Keeps H H' := by
  obtain ⟨⟨a, c, h, _⟩, _⟩ := d
  exact keeps_but h b
theorem Drw.apart {H : Hp} {l a : Addr} {k : Int} {xs : List V} (d : Drw H l k) (h : H a = some (.lst xs)) (hx : ∀ x ∈ xs, ∀ i, x ≠ .int i) : a ≠ l := fun z => by
  obtain ⟨⟨x, c, h2, _⟩, _⟩ := d
  rw [z, h2] at h
  cases h
  exact hx _ List.mem_cons_self _ rfl
theorem no_int_str (ys : List Str) : ∀ x ∈ ys.map V.str, ∀ i, x ≠ V.int i := fun x hx i e => by
  obtain ⟨y, _, rfl⟩ := List.mem_map.mp hx
  cases e
theorem no_int_ref (ps : List AP) : ∀ x ∈ rootsV ps, ∀ i, x ≠ V.int i := fun x hx i e => by
  obtain ⟨y, _, rfl⟩ := List.mem_map.mp hx
  cases e
theorem depthL_all : ∀ {ps : List AP} {n : Nat}, (∀ p ∈ ps, p.depth ≤ n) → depthL ps ≤ n
  | [], _, _ => Nat.zero_le _
  | p :: ps, n, h => by
    have h1 := h p List.mem_cons_self
    have h2 := depthL_all fun q hq => h q (List.mem_cons_of_mem _ hq)
    rw [depthL]
    omega
/-- the ends of the plan's making: a sort, a single part -/
theorem fin_read {K : PySem.W.Frag} {D : Ends} {H : Hp} {l s : Addr} {n : Int} {p : AP} {v4 v5 v6 v7 : Option V} (ok : p.Ok (tups H)) (q : ∀ (H' : Hp) (p' : AP), Same H H' → p'.Ok (tups H') → scans p' = scans p → p'.depth ≤ p.depth + 2 → D.rt (.ref p'.root) H') :
    tSeq (tIfS (tTest (tOp rEq (tPick 128 4) (tC (.int 0)))) (tAsg (tTup (tCons (tC (.str "sort")) (tCons (tVar 3) tNil))) (gName 3)) tNext) (tSeq (tIfS (tTest (tOp rEq (tPick 512 9) (tC (.int 0)))) (tAsg (tTup (tCons (tWord K 8192) (tCons (tTup (tCons (tVar 3) tNil)) tNil))) (gName 3)) tNext) (tRet (tVar 3)))
      D [some (.ref l), some (.ref s), some (.int n), some (.ref p.root), v4, v5, v6, v7] H := by
  have two : ∀ (p1 : AP) (H1 : Hp), p1.Ok (tups H1) → Same H H1 → scans p1 = scans p → p1.depth ≤ p.depth + 1 → tSeq (tIfS (tTest (tOp rEq (tPick 512 9) (tC (.int 0)))) (tAsg (tTup (tCons (tWord K 8192) (tCons (tTup (tCons (tVar 3) tNil)) tNil))) (gName 3)) tNext) (tRet (tVar 3))
      D [some (.ref l), some (.ref s), some (.int n), some (.ref p1.root), v4, v5, v6, v7] H1 := fun p1 H1 ok1 s1 e1 d1 => by
    refine tTest_read rfl ⟨by decide, by decide⟩ (by decide) fun b => ?_
    cases b with
    | false => exact iteF ⟨_, rfl, q H1 p1 s1 ok1 e1 (by omega)⟩
    | true =>
      refine iteT (tWord_read rfl ⟨by decide, by decide⟩ fun m H2 s2 => ⟨_, rfl, by show 1 ≤ sizeLine; decide, fun c hc => ⟨by show 2 ≤ sizeLine; decide, fun t ht => ⟨_, rfl, ?_⟩⟩⟩)
      have s3 := same_upd (o := .tup [V.ref p1.root]) hc
      have s4 := same_upd (o := .tup [V.str (word m), .ref c]) ht
      refine q _ (.many t c m [p1]) (s1.trans (s2.trans (s3.trans s4))) ⟨tups_rd.mpr (.inl upd_same), tups_rd.mpr (.inl (s4 _ _ upd_same)), by simp, ok_keeps (keeps_same (s2.trans (s3.trans s4))) ok1, trivial⟩ ?_ ?_
      · rw [scans_many, List.flatMap_cons, List.flatMap_nil, List.append_nil, e1]
      · simp only [AP.depth, depthL]
        omega
  refine tTest_read rfl ⟨by decide, by decide⟩ (by decide) fun b => ?_
  cases b with
  | false => exact iteF (two p H ok (Same.refl H) rfl (by omega))
  | true =>
    refine iteT ⟨_, rfl, by show 2 ≤ sizeLine; decide, fun t ht => ?_⟩
    have s1 := same_upd (o := .tup [V.str "sort", .ref p.root]) ht
    exact two (.sort t p) _ ⟨tups_rd.mpr (.inl upd_same), ok_keeps (keeps_same s1) ok⟩ s1 (scans_sort _ _) (by simp only [AP.depth]; omega)
/-- the parts of a plan to be made -/
structure PartsIn (H : Hp) (l5 : Addr) (zs : List Str) (L : List (Addr × List Str)) : Prop where
  lst : H l5 = some (.lst (L.map fun e => V.ref e.1))
  at_ : ∀ e ∈ L, H e.1 = some (.lst (e.2.map V.str))
  pos : ∀ e ∈ L, 1 ≤ e.2.length
  flat : L.flatMap (·.2) = zs
  two : 2 ≤ L.length
theorem flat_ge : ∀ {L : List (Addr × List Str)}, (∀ e ∈ L, 1 ≤ e.2.length) → L.length ≤ (L.flatMap (·.2)).length
  | [], _ => Nat.le_refl _
  | e :: L, h => by
    have h1 := h e List.mem_cons_self
    have h2 := flat_ge fun x hx => h x (List.mem_cons_of_mem _ hx)
    rw [List.flatMap_cons, List.length_append, List.length_cons]
    omega
theorem PartsIn.lt {H : Hp} {l5 : Addr} {zs : List Str} {L : List (Addr × List Str)} (X : PartsIn H l5 zs L) {e : Addr × List Str} (he : e ∈ L) : e.2.length < zs.length := by
  obtain ⟨A, B, rfl⟩ := List.append_of_mem he
  have hA := flat_ge (L := A) fun x hx => X.pos x (List.mem_append_left _ hx)
  have hB := flat_ge (L := B) fun x hx => X.pos x (List.mem_append_right _ (List.mem_cons_of_mem _ hx))
  have h2 := X.two
  have hf := X.flat
  rw [List.flatMap_append, List.flatMap_cons] at hf
  rw [← hf, List.length_append, List.length_append]
  rw [List.length_append, List.length_cons] at h2
  omega
theorem PartsIn.sub {H : Hp} {l5 : Addr} {zs : List Str} {L : List (Addr × List Str)} (X : PartsIn H l5 zs L) {e : Addr × List Str} (he : e ∈ L) {x : Str} (hx : x ∈ e.2) : x ∈ zs := by
  rw [← X.flat]
  exact List.mem_flatMap.mpr ⟨e, he, hx⟩
/-- the parts in the midst -/
def PlP (H : Hp) (l D : Addr) (k : Int) (L : List (Addr × List Str)) (i : Nat) (H' : Hp) : Prop := ∃ ps : List AP, H' D = some (.lst (rootsV ps)) ∧ okL (tups H') ps ∧ ps.map scans = (L.take i).map (·.2) ∧ (∀ p ∈ ps, p.depth + 1 ≤ 3 * (scans p).length) ∧
  (∃ k', Drw H' l k' ∧ k' + i ≤ k + 2 * ((L.take i).flatMap (·.2)).length) ∧ But l H H'
abbrev rTupOf (K : PySem.W.Frag) : List V → Hp → VK → Prop := fun xs H Q => ∃ p ys, xs = [.ref p] ∧ ((SqL K H p ys ∧ ∀ l, H l = none → Q (.ref l) (upd H l (.tup ys))) ∨ (SqT K H p ys ∧ Q (.ref p) H))
theorem many_read {K : PySem.W.Frag} {n : Nat} {D : Ends} {H : Hp} {l s t l5 : Addr} {n0 k : Int} {zs : List Str} {L : List (Addr × List Str)} {v4 v6 v7 : Option V} (dr : Drw H l k) (hk : k + 2 * zs.length ≤ 1000000) (hn : zs.length ≤ n + 1) (h6 : zs.length ≤ 6) (hnm : ∀ x ∈ zs, x ∈ names)
    (X : PartsIn H l5 zs L) (q : ∀ (H' : Hp) (p : AP) (k' : Int), But l H H' → Drw H' l k' → k' + 2 ≤ k + 2 * zs.length → p.Ok (tups H') → scans p = zs → p.depth + 3 ≤ 3 * zs.length → D.nx [some (.ref l), some (.ref s), some (.int n0), some (.ref p.root), v4, some (.ref l5), v6, v7] H') :
    tAsg (tTup (tCons (tWord K 64) (tCons (tCB (rTupOf K) (tCons (tLc (iList K (tVar 5)) (gName 7) tYes (tCall (spPlanL n) [] E0 (tCons (tVar 0) (tCons (tVar 7) tNil))) [7]) tNil)) tNil))) (gName 3) D [some (.ref l), some (.ref s), some (.int n0), some (.ref t), v4, some (.ref l5), v6, v7] H := by
  refine tWord_read rfl ⟨by decide, by decide⟩ fun m H1 s1 => ?_
  have hl1 := s1 _ _ X.lst
  have l5l : l5 ≠ l := dr.apart X.lst fun x hx i e => by
    obtain ⟨y, _, rfl⟩ := List.mem_map.mp hx
    cases e
  have dr1 := dr.same s1
  have Llen := flat_ge X.pos
  rw [X.flat] at Llen
  refine ⟨_, rfl, l5, rfl, ⟨_, SqL.of hl1⟩, fun D0 hD => lc_it (walk_list (xs := L.map fun e => V.ref e.1)) (PlP H1 l D0 k L) ⟨[], upd_same, trivial, rfl, fun p hp => (by cases hp), ⟨k, dr1.same (same_upd hD), by simp⟩, fun b o _ e => same_upd hD _ _ e⟩ (fun i H' _ h => ?_) (fun i v H2 H3 hi hp hv => ?_) fun H2 hp => ?_⟩
  · obtain ⟨_, _, _, _, _, _, b⟩ := h
    exact SqL.of (b _ _ l5l hl1)
  · obtain ⟨rfl, hv⟩ := hv
    obtain ⟨ps, h1, h2, h3, h4, ⟨k1, d1, hk1⟩, b1⟩ := hp
    rw [List.getElem?_map] at hv
    obtain ⟨e, he, rfl⟩ := Option.map_eq_some_iff.mp hv
    have hel : e ∈ L := List.mem_of_getElem? he
    have hi' := (List.getElem?_eq_some_iff.mp he).1
    have lt := X.lt hel
    have psl : ps.length = i := by
      have := congrArg List.length h3
      rw [List.length_map, List.length_map, List.length_take] at this
      omega
    have ea := s1 _ _ (X.at_ e hel)
    have al : e.1 ≠ l := dr1.apart ea (no_int_str _)
    have take1 := take_snoc he
    have lsum : ((L.take (i + 1)).flatMap (·.2)).length = ((L.take i).flatMap (·.2)).length + e.2.length := by
      rw [take1, List.flatMap_append, List.length_append, List.flatMap_cons, List.flatMap_nil, List.append_nil]
    have lall : ((L.take (i + 1)).flatMap (·.2)).length + (L.length - (i + 1)) ≤ zs.length := by
      have hd := flat_ge (L := L.drop (i + 1)) fun x hx => X.pos x (List.mem_of_mem_drop hx)
      rw [List.length_drop] at hd
      rw [← X.flat]
      conv => rhs; rw [← List.take_append_drop (i + 1) L]
      rw [List.flatMap_append, List.length_append]
      omega
    have two := X.two
    refine ⟨rfl, iteT (B := PlP H1 l D0 k L (i + 1) H3) ⟨_, rfl, _, rfl, l, e.1, k1, e.2, rfl, d1, by omega, b1 _ _ al ea, X.pos e hel, by omega, by omega, fun x hx => hnm x (X.sub hel hx), fun H4 p k2 b2 d2 hk2 okp ep dp => ?_⟩⟩
    have Dl : D0 ≠ l := d1.apart h1 (no_int_ref _)
    have h14 := b2 _ _ Dl h1
    have hDp : ∀ p' ∈ ps, p'.Ok (tups H4) := fun p' hp' => ok_keeps (d1.keeps b2) (okL_iff.mp h2 p' hp')
    have up : ∀ p' : AP, p'.Ok (tups H4) → p'.Ok (tups (upd H4 D0 (.lst (rootsV ps ++ [V.ref p.root])))) := fun p' h => h.mono fun b xs e => by
      refine tups_rd.mpr ?_
      have hb : b ≠ D0 := fun z => by
        have := tups_rd.mp e
        rw [z] at this
        rcases this with y | ⟨o, y⟩ <;> (rw [h14] at y; cases y)
      rcases tups_rd.mp e with y | ⟨o, y⟩
      · exact .inl (by rw [upd_ne hb]; exact y)
      · exact .inr ⟨o, by rw [upd_ne hb]; exact y⟩
    refine ⟨_, h14, ?_, ps ++ [p], ?_, okL_iff.mpr fun p' hp' => ?_, ?_, fun p' hp' => ?_, ⟨k2, ?_, ?_⟩, fun b o hb e => ?_⟩
    · rw [show (rootsV ps).length = ps.length from List.length_map .., psl]
      exact Nat.lt_of_lt_of_le (show i < 7 by omega) (by decide)
    · rw [upd_same]
      unfold rootsV
      rw [List.map_append]
      rfl
    · rcases List.mem_append.mp hp' with z | z
      · exact up _ (hDp _ z)
      · rw [List.mem_singleton.mp z]
        exact up _ okp
    · rw [List.map_append, h3, take1, List.map_append]
      show _ ++ [scans p] = _
      rw [ep]
      rfl
    · rcases List.mem_append.mp hp' with z | z
      · exact h4 _ z
      · rw [List.mem_singleton.mp z, ep]
        exact dp
    · obtain ⟨⟨x, b, h5, hx⟩, nn⟩ := d2
      exact ⟨⟨x, b, by rw [upd_ne Dl.symm]; exact h5, hx⟩, nn⟩
    · rw [lsum]
      omega
    · have hbD : b ≠ D0 := fun z => by rw [z, hD] at e; cases e
      rw [upd_ne hbD]
      exact b2 b o hb (b1 b o hb e)
  · obtain ⟨ps, h1, h2, h3, h4, ⟨k1, d1, hk1⟩, b1⟩ := hp
    rw [List.length_map] at hk1 h3
    rw [List.take_length] at hk1 h3
    rw [X.flat] at hk1
    have two := X.two
    have psl : ps.length = L.length := by
      have := congrArg List.length h3
      rw [List.length_map, List.length_map] at this
      exact this
    refine ⟨D0, _, rfl, .inl ⟨SqL.of h1, fun c hc => ⟨by show 2 ≤ sizeLine; decide, fun t2 ht2 => ?_⟩⟩⟩
    have s3 := same_upd (o := .tup (rootsV ps)) hc
    have s4 := same_upd (o := .tup [V.str (word m), .ref c]) ht2
    have s34 := s3.trans s4
    have es : scans (.many t2 c m ps) = zs := by
      rw [scans_many, List.flatMap_def, h3, ← List.flatMap_def, X.flat]
    refine q _ (.many t2 c m ps) k1 (fun b o hb e => s34 _ _ (b1 b o hb (s1 _ _ e))) (d1.same s34) (by omega) ⟨tups_rd.mpr (.inl upd_same), tups_rd.mpr (.inl (s4 _ _ upd_same)), fun z => ?_, okL_iff.mpr fun p hp => ok_keeps (keeps_same s34) (okL_iff.mp h2 p hp)⟩ es ?_
    · rw [z] at psl
      rw [List.length_nil] at psl
      omega
    · have hd : depthL ps ≤ 3 * zs.length - 4 := depthL_all fun p hp => by
        have hp1 := h4 p hp
        have hin : scans p ∈ ps.map scans := List.mem_map.mpr ⟨p, hp, rfl⟩
        rw [h3] at hin
        obtain ⟨e, he, ee⟩ := List.mem_map.mp hin
        have lt := X.lt he
        rw [ee] at lt
        omega
      have z2 : 2 ≤ zs.length := by omega
      simp only [AP.depth]
      omega
theorem cut_mid {xs : List V} (h : 2 ≤ xs.length) : cutV xs (some 1) (some 2) = (xs.drop 1).take 1 := by
  unfold cutV
  have e1 : HT.sIx xs.length 0 (some 1) = 1 := by
    rw [show (1 : Int) = ((1 : Nat) : Int) from rfl, HT.sIx_nat]
    omega
  have e2 : HT.sIx xs.length xs.length (some 2) = 2 := by
    rw [show (2 : Int) = ((2 : Nat) : Int) from rfl, HT.sIx_nat]
    omega
  rw [e1, e2]
/-- the single names, in the midst -/
def SgP (H : Hp) (D : Addr) (zs : List Str) (i : Nat) (H' : Hp) : Prop := ∃ L : List (Addr × List Str), H' D = some (.lst (L.map fun e => V.ref e.1)) ∧ (∀ e ∈ L, e.1 ≠ D ∧ H' e.1 = some (.lst (e.2.map V.str))) ∧ L.map (·.2) = (zs.take i).map (fun z => [z]) ∧ Same H H'
theorem flat_single (zs : List Str) : (zs.map fun z => [z]).flatten = zs := by
  induction zs with
  | nil => rfl
  | cons z zs ih =>
    rw [List.map_cons, List.flatten_cons, ih]
    rfl
abbrev tManyA (K : PySem.W.Frag) (n : Nat) : TS := tAsg (tTup (tCons (tWord K 64) (tCons (tCB (rTupOf K) (tCons (tLc (iList K (tVar 5)) (gName 7) tYes (tCall (spPlanL n) [] E0 (tCons (tVar 0) (tCons (tVar 7) tNil))) [7]) tNil)) tNil))) (gName 3)
theorem core_read {K : PySem.W.Frag} {n : Nat} {D : Ends} {H : Hp} {l s t l5 : Addr} {n0 k : Int} {zs : List Str} {L : List (Addr × List Str)} {v4 v6 v7 : Option V} (dr : Drw H l k) (hs : H s = some (.lst (zs.map V.str))) (h2 : 2 ≤ zs.length) (hk : k + 2 * zs.length ≤ 1000000) (hn : zs.length ≤ n + 1) (h6 : zs.length ≤ 6) (hnm : ∀ x ∈ zs, x ∈ names)
    (X : PartsIn H l5 zs L) (q : ∀ (H' : Hp) (p : AP) (k' : Int) (v4 v5 v6 v7 : Option V), But l H H' → Drw H' l k' → k' + 2 ≤ k + 2 * zs.length → p.Ok (tups H') → scans p = zs → p.depth + 3 ≤ 3 * zs.length → D.nx [some (.ref l), some (.ref s), some (.int n0), some (.ref p.root), v4, v5, v6, v7] H') :
    tSeq (tIfS (tTest (tOp rEq (tOp (rI (fun _ j => 0 < j) fun i j => .int (i % j)) (tCB rInt1 (tCons (tVar 2) tNil)) (tC (.int 8))) (tC (.int 7)))) (tAsg (tLc (iList K (tVar 1)) (gName 6) tYes (tLst (tCons (tVar 6) tNil)) [6]) (gName 5)) tNext) (tManyA K n) D [some (.ref l), some (.ref s), some (.int n0), some (.ref t), v4, some (.ref l5), v6, v7] H := by
  refine ⟨_, rfl, .inl ⟨_, rfl, _, _, rfl, rfl, (show (0 : Int) < 8 by decide), rfl, _, rfl, ?_⟩⟩
  generalize decide (V.int (n0 % 8) = V.int 7) = b
  cases b with
  | false => exact iteF (many_read dr hk hn h6 hnm X fun H' p k' b d kk ok e dp => q H' p k' _ _ _ _ b d kk ok e dp)
  | true =>
    refine iteT ⟨_, rfl, s, rfl, ⟨_, SqL.of hs⟩, fun D0 hD => lc_it (walk_list (xs := zs.map V.str)) (SgP H D0 zs) ⟨[], upd_same, fun e he => (by cases he), rfl, same_upd hD⟩ (fun i H' _ h => ?_) (fun i v H2 H3 hi hp hv => ?_) fun H2 hp => ?_⟩
    · obtain ⟨_, _, _, _, s2⟩ := h
      exact SqL.of (s2 _ _ hs)
    · obtain ⟨rfl, hv⟩ := hv
      obtain ⟨L1, g1, g2, g3, g4⟩ := hp
      rw [List.getElem?_map] at hv
      obtain ⟨z, hz, rfl⟩ := Option.map_eq_some_iff.mp hv
      have hi' := (List.getElem?_eq_some_iff.mp hz).1
      have ll : L1.length = i := by
        have := congrArg List.length g3
        rw [List.length_map, List.length_map, List.length_take] at this
        omega
      refine ⟨rfl, iteT (B := SgP H D0 zs (i + 1) H3) ⟨_, rfl, by show 1 ≤ sizeLine; decide, fun a ha => ?_⟩⟩
      have s5 := same_upd (o := .lst [V.str z]) ha
      have aD : a ≠ D0 := fun e => by rw [e, g1] at ha; cases ha
      refine ⟨_, s5 _ _ g1, ?_, L1 ++ [(a, [z])], ?_, fun e he => ?_, ?_, fun b o e => ?_⟩
      · rw [List.length_map, ll]
        exact Nat.lt_of_lt_of_le (show i < 7 by omega) (by decide)
      · rw [upd_same, List.map_append]; rfl
      · rcases List.mem_append.mp he with y | y
        · obtain ⟨y1, y2⟩ := g2 e y
          exact ⟨y1, by rw [upd_ne y1]; exact s5 _ _ y2⟩
        · obtain rfl : e = (a, [z]) := by simpa using y
          exact ⟨aD, by rw [upd_ne aD, upd_same]; rfl⟩
      · rw [List.map_append, g3, take_snoc hz, List.map_append]; rfl
      · rw [upd_ne (ne_of_none e hD)]
        exact s5 _ _ (g4 _ _ e)
    · obtain ⟨L1, g1, g2, g3, g4⟩ := hp
      rw [List.length_map, List.take_length] at g3
      have ll : L1.length = zs.length := by
        have := congrArg List.length g3
        rw [List.length_map, List.length_map] at this
        exact this
      have X2 : PartsIn H2 D0 zs L1 := ⟨g1, fun e he => (g2 e he).2, fun e he => by
        have hin : e.2 ∈ L1.map (·.2) := List.mem_map.mpr ⟨e, he, rfl⟩
        rw [g3] at hin
        obtain ⟨z, _, ez⟩ := List.mem_map.mp hin
        rw [← ez]
        exact Nat.le_refl _, by rw [List.flatMap_def, g3, flat_single], by omega⟩
      exact many_read (dr.same g4) hk hn h6 hnm X2 fun H' p k' b d kk ok e dp => q H' p k' _ _ _ _ (fun c o hc y => b c o hc (g4 _ _ y)) d kk ok e dp
section
variable {P : Program} {w : World} {K : PySem.W.Frag} {mg : Str → Option Value} {base : Heap} {T : List (Addr × Str)}
abbrev plN : List Str := ["_law_draws_here", "_law_some", "_law_pick", "_law_told", "_law_at", "_law_parts", "_law_name", "_law_part"]
theorem fs_plan : FnScope plN ["_law_draws_here", "_law_some"] (defScope sL_plan) := ⟨rfl, rfl, rfl, by decide, rfl, by decide +kernel, by decide +kernel⟩
theorem c_plan0 (Tx0 : Tx K mg) : PCal P w K mg base 2 "_law_plan" (spPlanL 0) := by
  refine pc_mk Tx0.f_law_plan fs_plan (fun vs H Q E h => by obtain ⟨_, _, _, _, rfl, _⟩ := h; rfl) (fun _ _ _ _ _ _ us hl => match us, hl with | [_, _], _ => rfl) fun f cdv A outer s H vs Q E hr h => ?_
  obtain ⟨l, s, k, zs, rfl, _, _, _, h1, h2, _⟩ := h
  omega
theorem c_planS (Tx0 : Tx K mg) {n k0 : Nat} (ih : PCal P w K mg base (k0 + 2) "_law_plan" (spPlanL n)) : PCal P w K mg base (k0 + 3) "_law_plan" (spPlanL (n + 1)) := by
  refine pc_mk Tx0.f_law_plan fs_plan (fun vs H Q E h => by obtain ⟨_, _, _, _, rfl, _⟩ := h; rfl) (fun _ _ _ _ _ _ us hl => match us, hl with | [_, _], _ => rfl) fun f cdv A outer s H vs Q E hr h => ?_
  obtain ⟨l, s, k, zs, rfl, dr, hk, hs, h1, hn, h6, hnm, q⟩ := h
  have nd : plN.Nodup := by decide
  refine ⟨_, pss_cons (ps_set (i := 2) nd rfl (Or.inl rfl) (pcal (c_next Tx0) hr (by omega) (by rfl) (pa_cons (pv 0) pa_nil)))
    (pss_cons (ps_set (i := 3) nd rfl (Or.inl rfl) (pe_tup (pa_cons pe_str (pa_cons (pe_ix ix_list (pv 1) pe_int (fun _ _ => rfl)) pa_nil))))
    (pss_cons (ps_if (pt_cmpR op_gt (pe_callB call_len_seq (by rfl) Tx0.blen PySem.boot_len (pa_cons (pv 1) pa_nil)) pe_int (nomark _))
      (pss_cons (ps_set (i := 4) nd rfl (Or.inl rfl) (pe_op op_add pe_int (pe_op op_mod (pe_callTy call_int1 (by rfl) Tx0.bint boot_int (pa_cons (pe_op op_fdiv (pv 2) pe_int) pa_nil)) (pe_op op_sub (pe_callB call_len_seq (by rfl) Tx0.blen PySem.boot_len (pa_cons (pv 1) pa_nil)) pe_int))))
      (pss_cons (ps_set (i := 5) nd rfl (Or.inl rfl) (pe_lst (pa_cons (pe_slice sl_list (pv 1) po_none (po_some (pv 4))) (pa_cons (pe_slice sl_list (pv 1) (po_some (pv 4)) po_none) pa_nil))))
      (pss_cons (ps_if (PW.pt (pw_and (pt_cmpR op_gt (pe_callB call_len_seq (by rfl) Tx0.blen PySem.boot_len (pa_cons (pv 1) pa_nil)) pe_int (nomark _)) (pw_and1 (pt_cmpR op_lt (pe_op op_mod (pe_callTy call_int1 (by rfl) Tx0.bint boot_int (pa_cons (pv 2) pa_nil)) pe_int) pe_int (nomark _)))))
        (pss_one (ps_set (i := 5) nd rfl (Or.inl rfl) (pe_lst (pa_cons (pe_slice sl_list (pv 1) po_none (po_some pe_int)) (pa_cons (pe_slice sl_list (pv 1) (po_some pe_int) (po_some pe_int)) (pa_cons (pe_slice sl_list (pv 1) (po_some pe_int) po_none) pa_nil)))))) pss_nil)
      (pss_cons (ps_if (pt_cmpR op_eq (pe_op op_mod (pe_callTy call_int1 (by rfl) Tx0.bint boot_int (pa_cons (pv 2) pa_nil)) pe_int) pe_int (nomark _))
        (pss_one (ps_setLc (i := 5) (own := [("_law_name", 6)]) (g := gName 6) (tt := tYes) (te := tLst (tCons (tVar 6) tNil)) rfl nd rfl rfl (sw_true rfl rfl rfl (by decide +kernel)) (pi_list (pv 1)) (blkOk_by (N := plN) (sc := defScope sL_plan) (by decide +kernel)) (fun _ _ _ _ _ => pg_name (i := 6) nd rfl (Or.inl rfl)) (fun _ _ _ _ _ => pts_nil)
          (fun _ _ _ _ _ => pe_lst (pa_cons (pv 6) pa_nil)))) pss_nil)
      (pss_one (ps_set (i := 3) nd rfl (Or.inl rfl) (pe_tup (pa_cons (pe_ix ix_list (pe_lst (pa_cons pe_str (pa_cons pe_str pa_nil))) (pe_op op_mod (pe_callTy call_int1 (by rfl) Tx0.bint boot_int (pa_cons (pe_op op_fdiv (pv 2) pe_int) pa_nil)) pe_int) (fun _ _ => rfl))
        (pa_cons (pe_callTy call_tuple_of (by rfl) Tx0.btuple boot_tuple (pa_cons (pe_lc (own := [("_law_part", 7)]) (g := gName 7) (tt := tYes) (te := tCall (spPlanL n) [] E0 (tCons (tVar 0) (tCons (tVar 7) tNil))) rfl nd (pi_list (pv 5)) (blkOk_by (N := plN) (sc := defScope sL_plan) (by decide +kernel)) (fun _ _ _ _ _ => pg_name (i := 7) nd rfl (Or.inl rfl)) (fun _ _ _ _ _ => pts_nil)
          (fun _ _ _ _ _ => pcal ih hr (Nat.le_refl _) (by rfl) (pa_cons (pv 0) (pa_cons (pv 7) pa_nil)))) pa_nil)) pa_nil)))))))))
      pss_nil)
    (pss_cons (ps_if (pt_cmpR op_eq (pe_op op_mod (pe_callTy call_int1 (by rfl) Tx0.bint boot_int (pa_cons (pe_op op_fdiv (pv 2) pe_int) pa_nil)) pe_int) pe_int (nomark _)) (pss_one (ps_set (i := 3) nd rfl (Or.inl rfl) (pe_tup (pa_cons pe_str (pa_cons (pv 3) pa_nil))))) pss_nil)
    (pss_cons (ps_if (pt_cmpR op_eq (pe_op op_mod (pe_callTy call_int1 (by rfl) Tx0.bint boot_int (pa_cons (pe_op op_fdiv (pv 2) pe_int) pa_nil)) pe_int) pe_int (nomark _))
      (pss_one (ps_set (i := 3) nd rfl (Or.inl rfl) (pe_tup (pa_cons (pe_ix ix_list (pe_lst (pa_cons pe_str (pa_cons pe_str pa_nil))) (pe_op op_mod (pe_callTy call_int1 (by rfl) Tx0.bint boot_int (pa_cons (pe_op op_fdiv (pv 2) pe_int) pa_nil)) pe_int) (fun _ _ => rfl)) (pa_cons (pe_tup (pa_cons (pv 3) pa_nil)) pa_nil))))) pss_nil)
    (pss_one (ps_ret (pv 3))))))), ?_⟩
  obtain ⟨z0, zr, ez⟩ : ∃ z0 zr, zs = z0 :: zr := by
    cases zs with
    | nil => exact absurd h1 (by decide)
    | cons z0 zr => exact ⟨z0, zr, rfl⟩
  have sl : s ≠ l := dr.apart hs (no_int_str _)
  refine ⟨_, rfl, l, k, rfl, dr, by omega, fun n0 H1 _ on1 dr1 => ?_⟩
  have hs1 : H1 s = some (.lst (zs.map V.str)) := (on1 s sl).trans hs
  have b1 : But l H H1 := fun c o hc e => (on1 c hc).trans e
  have g0 : (zs.map V.str)[0]? = some (.str z0) := by rw [ez]; rfl
  refine ⟨_, rfl, s, _, 0, _, rfl, rfl, SqL.of hs1, atI_nat g0, by show 2 ≤ sizeLine; decide, fun t ht => ?_⟩
  have s2 := same_upd (o := .tup [V.str "scan", .str z0]) ht
  have hs2 := s2 _ _ hs1
  have dr2 := dr1.same s2
  have b2 := b1.same s2
  have okt : (AP.scan t z0).Ok (tups (upd H1 t (.tup [V.str "scan", .str z0]))) := ⟨tups_rd.mpr (.inl upd_same), hnm z0 (by rw [ez]; exact List.mem_cons_self)⟩
  generalize upd H1 t (.tup [V.str "scan", .str z0]) = H2 at s2 hs2 dr2 b2 okt ⊢
  have fin : ∀ (H' : Hp) (p : AP) (k' : Int) (v4 v5 v6 v7 : Option V), But l H2 H' → Drw H' l k' → k' + 1 ≤ k + 2 * zs.length → p.Ok (tups H') → scans p = zs → p.depth + 3 ≤ 3 * zs.length →
      tSeq (tIfS (tTest (tOp rEq (tPick 128 4) (tC (.int 0)))) (tAsg (tTup (tCons (tC (.str "sort")) (tCons (tVar 3) tNil))) (gName 3)) tNext) (tSeq (tIfS (tTest (tOp rEq (tPick 512 9) (tC (.int 0)))) (tAsg (tTup (tCons (tWord K 8192) (tCons (tTup (tCons (tVar 3) tNil)) tNil))) (gName 3)) tNext) (tRet (tVar 3)))
        { nx := fun _ H' => Q .non H', rt := Q } [some (.ref l), some (.ref s), some (.int n0), some (.ref p.root), v4, v5, v6, v7] H' := fun H' p k' v4 v5 v6 v7 b d kk ok e dp =>
    fin_read (D := { nx := fun _ H' => Q .non H', rt := Q }) ok fun H'' p' s' ok' e' d' => q H'' p' k' ((b2.trans b).same s') (d.same s') kk ok' (e'.trans e) (by omega)
  have ml : ((zs.map V.str).length : Int) = zs.length := by rw [List.length_map]
  refine ⟨_, rfl, s, _, rfl, .inl (SqL.of hs2), _, _, rfl, rfl, _, rfl, ?_⟩
  by_cases c1 : zs.length = 1
  · rw [show decide ((1 : Int) < ((zs.map V.str).length : Int)) = false from decide_eq_false (by omega)]
    have es : scans (.scan t z0) = zs := by
      have : zr = [] := by
        rw [ez, List.length_cons] at c1
        exact List.length_eq_zero_iff.mp (by omega)
      rw [ez, this]
      rfl
    exact iteF (fin H2 (.scan t z0) _ _ _ _ _ (fun _ _ _ e => e) dr2 (by omega) okt es (by simp only [AP.depth]; omega))
  · have h2 : 2 ≤ zs.length := by omega
    rw [show decide ((1 : Int) < ((zs.map V.str).length : Int)) = true from decide_eq_true (by omega)]
    refine iteT ⟨_, rfl, _, _, rfl, rfl, ⟨by decide, by decide⟩, .inl ⟨_, rfl, _, rfl, s, _, rfl, .inl (SqL.of hs2), _, _, rfl, rfl, _, _, rfl, rfl, (show (0 : Int) < ((zs.map V.str).length : Int) - 1 by omega), _, _, rfl, rfl, ?_⟩⟩
    have m1 := Int.emod_nonneg (n0 / 8) (b := ((zs.map V.str).length : Int) - 1) (by omega)
    have m2 := Int.emod_lt_of_pos (n0 / 8) (b := ((zs.map V.str).length : Int) - 1) (by omega)
    generalize n0 / 8 % (((zs.map V.str).length : Int) - 1) = r at m1 m2
    obtain ⟨a, ea⟩ : ∃ a : Nat, 1 + r = (a : Int) := ⟨(1 + r).toNat, by omega⟩
    dsimp only [gName]
    rw [ea]
    have a1 : 1 ≤ a ∧ a < zs.length := by omega
    refine ⟨_, rfl, _, rfl, _, rfl, s, _, rfl, SqL.of hs2, fun p1 hp1 => ?_⟩
    have s3 := same_upd (o := .lst (cutV (zs.map V.str) none (some (a : Int)))) hp1
    have hp1' : upd H2 p1 (.lst (cutV (zs.map V.str) none (some (a : Int)))) p1 = some (.lst ((zs.take a).map V.str)) := by rw [upd_same, cut_to, List.map_take]
    generalize upd H2 p1 (.lst (cutV (zs.map V.str) none (some (a : Int)))) = H3 at s3 hp1' ⊢
    refine ⟨_, rfl, _, rfl, _, rfl, s, _, rfl, SqL.of (s3 _ _ hs2), fun p2 hp2 => ⟨by show 2 ≤ sizeLine; decide, fun l5 hl5 => ?_⟩⟩
    have s4 := same_upd (o := .lst (cutV (zs.map V.str) (some (a : Int)) none)) hp2
    have hp2' : upd H3 p2 (.lst (cutV (zs.map V.str) (some (a : Int)) none)) p2 = some (.lst ((zs.drop a).map V.str)) := by rw [upd_same, cut_from (by omega), List.map_drop]
    generalize upd H3 p2 (.lst (cutV (zs.map V.str) (some (a : Int)) none)) = H4 at s4 hp2' hl5 ⊢
    have s5 := same_upd (o := .lst [V.ref p1, .ref p2]) hl5
    have X : PartsIn (upd H4 l5 (.lst [V.ref p1, .ref p2])) l5 zs [(p1, zs.take a), (p2, zs.drop a)] := by
      refine ⟨upd_same, fun e he => ?_, fun e he => ?_, ?_, Nat.le_refl _⟩
      · rcases List.mem_cons.mp he with rfl | he
        · exact s5 _ _ (s4 _ _ hp1')
        · rw [List.mem_singleton.mp he]
          exact s5 _ _ hp2'
      · rcases List.mem_cons.mp he with rfl | he
        · show 1 ≤ (zs.take a).length
          rw [List.length_take]
          omega
        · rw [List.mem_singleton.mp he]
          show 1 ≤ (zs.drop a).length
          rw [List.length_drop]
          omega
      · show zs.take a ++ (zs.drop a ++ []) = zs
        rw [List.append_nil, List.take_append_drop]
    have s25 := s3.trans (s4.trans s5)
    generalize upd H4 l5 (.lst [V.ref p1, .ref p2]) = H5 at s5 s25 X ⊢
    have hs5 := s25 _ _ hs2
    have dr5 := dr2.same s25
    have go : ∀ (H' : Hp) (p : AP) (k' : Int) (v4 v5 v6 v7 : Option V), But l H5 H' → Drw H' l k' → k' + 2 ≤ k + 1 + 2 * zs.length → p.Ok (tups H') → scans p = zs → p.depth + 3 ≤ 3 * zs.length → _ := fun H' p k' v4 v5 v6 v7 b d kk ok e dp => fin H' p k' v4 v5 v6 v7 (fun c o hc y => b c o hc (s25 _ _ y)) d (by omega) ok e dp
    refine ⟨_, rfl, s, _, rfl, .inl (SqL.of hs5), _, _, rfl, rfl, _, rfl, ?_⟩
    by_cases c2 : 2 < zs.length
    · rw [show decide ((2 : Int) < ((zs.map V.str).length : Int)) = true from decide_eq_true (by omega)]
      refine iteT ⟨_, rfl, .inl ⟨_, rfl, _, _, rfl, rfl, (show (0 : Int) < 8 by decide), _, _, rfl, rfl, _, rfl, ?_⟩⟩
      generalize decide (n0 % 8 < 3) = b
      cases b with
      | false => exact iteF (core_read dr5 hs5 h2 (by omega) hn h6 hnm X go)
      | true =>
        refine iteT ⟨_, rfl, _, rfl, s, _, rfl, SqL.of hs5, fun q1 hq1 => ?_⟩
        have u1 := same_upd (o := .lst (cutV (zs.map V.str) none (some 1))) hq1
        have hq1' : upd H5 q1 (.lst (cutV (zs.map V.str) none (some 1))) q1 = some (.lst ((zs.take 1).map V.str)) := by rw [upd_same, show (1 : Int) = ((1 : Nat) : Int) from rfl, cut_to, List.map_take]
        generalize upd H5 q1 (.lst (cutV (zs.map V.str) none (some 1))) = H6 at u1 hq1' ⊢
        refine ⟨_, rfl, _, rfl, _, rfl, s, _, rfl, SqL.of (u1 _ _ hs5), fun q2 hq2 => ?_⟩
        have u2 := same_upd (o := .lst (cutV (zs.map V.str) (some 1) (some 2))) hq2
        have hq2' : upd H6 q2 (.lst (cutV (zs.map V.str) (some 1) (some 2))) q2 = some (.lst (((zs.drop 1).take 1).map V.str)) := by rw [upd_same, cut_mid (by omega), List.map_take, List.map_drop]
        generalize upd H6 q2 (.lst (cutV (zs.map V.str) (some 1) (some 2))) = H7 at u2 hq2' ⊢
        refine ⟨_, rfl, _, rfl, s, _, rfl, SqL.of (u2 _ _ (u1 _ _ hs5)), fun q3 hq3 => ⟨by show 3 ≤ sizeLine; decide, fun l6 hl6 => ?_⟩⟩
        have u3 := same_upd (o := .lst (cutV (zs.map V.str) (some 2) none)) hq3
        have hq3' : upd H7 q3 (.lst (cutV (zs.map V.str) (some 2) none)) q3 = some (.lst ((zs.drop 2).map V.str)) := by rw [upd_same, show (2 : Int) = ((2 : Nat) : Int) from rfl, cut_from (by rw [List.length_map]; omega), List.map_drop]
        generalize upd H7 q3 (.lst (cutV (zs.map V.str) (some 2) none)) = H8 at u3 hq3' hl6 ⊢
        have u4 := same_upd (o := .lst [V.ref q1, .ref q2, .ref q3]) hl6
        have X3 : PartsIn (upd H8 l6 (.lst [V.ref q1, .ref q2, .ref q3])) l6 zs [(q1, zs.take 1), (q2, (zs.drop 1).take 1), (q3, zs.drop 2)] := by
          refine ⟨upd_same, fun e he => ?_, fun e he => ?_, ?_, by show 2 ≤ 3; decide⟩
          · rcases List.mem_cons.mp he with rfl | he
            · exact u4 _ _ (u3 _ _ (u2 _ _ hq1'))
            · rcases List.mem_cons.mp he with rfl | he
              · exact u4 _ _ (u3 _ _ hq2')
              · rw [List.mem_singleton.mp he]
                exact u4 _ _ hq3'
          · rcases List.mem_cons.mp he with rfl | he
            · show 1 ≤ (zs.take 1).length
              rw [List.length_take]
              omega
            · rcases List.mem_cons.mp he with rfl | he
              · show 1 ≤ ((zs.drop 1).take 1).length
                rw [List.length_take, List.length_drop]
                omega
              · rw [List.mem_singleton.mp he]
                show 1 ≤ (zs.drop 2).length
                rw [List.length_drop]
                omega
          · show zs.take 1 ++ ((zs.drop 1).take 1 ++ (zs.drop 2 ++ [])) = zs
            have e2 : zs.drop 2 = (zs.drop 1).drop 1 := by rw [List.drop_drop]
            rw [List.append_nil, e2, List.take_append_drop, List.take_append_drop]
        have u14 := u1.trans (u2.trans (u3.trans u4))
        exact core_read (dr5.same u14) (u14 _ _ hs5) h2 (by omega) hn h6 hnm X3 fun H' p k' v4 v5 v6 v7 b d kk ok e dp => go H' p k' v4 v5 v6 v7 (fun c o hc y => b c o hc (u14 _ _ y)) d kk ok e dp
    · rw [show decide ((2 : Int) < ((zs.map V.str).length : Int)) = false from decide_eq_false (by omega)]
      exact iteF (iteF (core_read dr5 hs5 h2 (by omega) hn h6 hnm X go))
theorem c_planD (Tx0 : Tx K mg) : ∀ n, PCal P w K mg base (n + 2) "_law_plan" (spPlanL n)
  | 0 => c_plan0 Tx0
  | n + 1 => c_planS Tx0 (c_planD Tx0 n)
theorem c_plan (Tx0 : Tx K mg) : PCal P w K mg base 8 "_law_plan" (spPlanL 6) := c_planD Tx0 6
end
end Mu
end
section
set_option Elab.async false
set_option maxRecDepth 100000
set_option autoImplicit false
set_option linter.all false
/-! sorted(rows), rows == rows -/
namespace Mu
open PySem PySem.Spec L2 Gz PySem.W LamX
open PyProof.Rows hiding St
/-- a row as data -/
def encT (t : Tri) : PyData := .tuple [.int t.1, .str t.2.1, .int (t.2.2 : Nat)]
def leT : Tri → Tri → Bool := dataLe false encT
theorem toks_encT (t : Tri) : keyToks (encT t) = [.inl 1, .inl t.1, .inl 1, .inr t.2.1.cps.toList, .inl 1, .inl (t.2.2 : Nat), .inl 0] := by
  unfold encT
  simp [keyToks, keyToksAll]
theorem leT_anti {a b : Tri} (h1 : leT a b = true) (h2 : leT b a = true) : a = b := by
  have q1 : (!(listOrd itemOrd).blt (keyToks (encT b)) (keyToks (encT a))) = true := h1
  have q2 : (!(listOrd itemOrd).blt (keyToks (encT a)) (keyToks (encT b))) = true := h2
  rw [Bool.not_eq_true'] at q1 q2
  have e := (listOrd itemOrd).total _ _ q1 q2
  rw [toks_encT, toks_encT] at e
  injection e with _ e
  injection e with e1 e
  injection e with _ e
  injection e with e2 e
  injection e with _ e
  injection e with e3 _
  injection e1 with e1
  injection e2 with e2
  injection e3 with e3
  obtain ⟨a1, a2, a3⟩ := a
  obtain ⟨b1, b2, b3⟩ := b
  have e2' : a2 = b2 := (str_of_cps e2).symm
  have e1' : a1 = b1 := Eq.symm e1
  have e3' : a3 = b3 := by
    have e3 : ((b3 : Nat) : Int) = (a3 : Nat) := e3
    omega
  rw [e1', e2', e3']
theorem leT_srt (l : List Tri) : (l.mergeSort leT).Pairwise (fun a b => leT a b = true) :=
  have T : TotalLe leT := sortLe_total (listOrd itemOrd) false fun b => keyToks (encT b)
  List.pairwise_mergeSort T.trans (fun a b => by
    rw [Bool.or_eq_true]
    exact T.total a b) l
theorem pw_uniq : ∀ {l m : List Tri}, l.Pairwise (fun a b => leT a b = true) → m.Pairwise (fun a b => leT a b = true) → l.Perm m → l = m
  | [], m, _, _, h => h.nil_eq
  | x :: l, [], _, _, h => by cases h.eq_nil
  | x :: l, y :: m, hl, hm, h => by
    obtain ⟨l1, l2⟩ := List.pairwise_cons.mp hl
    obtain ⟨m1, m2⟩ := List.pairwise_cons.mp hm
    have e : x = y := by
      rcases List.mem_cons.mp (h.mem_iff.mp List.mem_cons_self) with e | hx
      · exact e
      · rcases List.mem_cons.mp (h.mem_iff.mpr (List.mem_cons_self (a := y) (l := m))) with e | hy
        · exact e.symm
        · exact leT_anti (l1 y hy) (m1 x hx)
    subst e
    rw [pw_uniq l2 m2 h.cons_inv]
theorem sort_uniq {l m : List Tri} (h : l.Perm m) : l.mergeSort leT = m.mergeSort leT :=
  pw_uniq (leT_srt l) (leT_srt m) ((List.mergeSort_perm l leT).trans (h.trans (List.mergeSort_perm m leT).symm))
/-- rows, sorted as Python sorts tuples -/
def byTri (rs : List Rw) : List Rw := rs.mergeSort (dataLe false fun r => encT r.t)
theorem byTri_map (rs : List Rw) : (byTri rs).map Rw.t = (rs.map Rw.t).mergeSort leT := List.map_mergeSort fun a _ b _ => rfl
theorem byTri_perm (rs : List Rw) : (byTri rs).Perm rs := List.mergeSort_perm _ _
theorem dp_row {K : PySem.W.Frag} {H : Hp} {r : Rw} (h : Rd H r.at_ (.tup [.int r.key, .str r.name, .int (r.place : Nat)])) : Dp K H (.ref r.at_) (encT r.t) := .tup (.inl h) (.cons (.int _) (.cons (.str _) (.cons (.int _) .nil)))
theorem dp_rows {K : PySem.W.Frag} {H : Hp} : ∀ {rs : List Rw}, RowsOk H rs → DpAll K H (vsR rs) (rs.map fun r => encT r.t)
  | [], _ => .nil
  | r :: rs, h => .cons (dp_row (h r List.mem_cons_self)) (dp_rows fun x hx => h x (List.mem_cons_of_mem _ hx))
theorem each_reads {h : Heap} : ∀ {rs : List Rw} {us : List Value}, Vals (vsR rs) us → (∀ r ∈ rs, ∃ as, Reads h (.ref r.at_) (encT r.t) as) → EachIs (fun v b => ∃ as, Reads h v (encT b.t) as) us rs
  | [], us, r, _ => by
    cases r
    exact .nil
  | x :: rs, us, r, k => by
    have r' : Vals (x.v :: vsR rs) us := r
    cases r' with
    | cons a b =>
      obtain rfl := show _ = Value.ref x.at_ from a
      exact .cons (k x List.mem_cons_self) (each_reads b fun y hy => k y (List.mem_cons_of_mem _ hy))
theorem alike_rows (rs : List Rw) : AllAlike (rs.map fun r => encT r.t) := fun d hd d' hd' => by
  obtain ⟨r, _, rfl⟩ := List.mem_map.mp hd
  obtain ⟨r', _, rfl⟩ := List.mem_map.mp hd'
  rfl
theorem sortable_rows (rs : List Rw) : PySem.W.Sortable (rs.map fun r => encT r.t) := .inl fun d hd => by
  obtain ⟨r, _, rfl⟩ := List.mem_map.mp hd
  exact ⟨_, _, rfl⟩
def rSortedRw : List V → Hp → VK → Prop := fun vs H Q => ∃ (a : Addr) (rs : List Rw), vs = [V.ref a] ∧ H a = some (.lst (vsR rs)) ∧ RowsOk H rs ∧ ∀ p, H p = none → Q (.ref p) (upd H p (.lst (vsR (byTri rs))))
theorem cr_sortedRw {X : Cx} (hu : X.A.units + 64 < cLine) : CallR X (.builtin "sorted") rSortedRw := by
  intro pins s σ H vs us Q I r h
  obtain ⟨a, rs, rfl, ha, hrs, q⟩ := h
  rw [Vals.ref1 r]
  obtain ⟨hlen, its, nn, rv, hget⟩ := I.hok a _ ha
  have hlist : s.heap.IsList a its.toArray := ⟨_, hget, rfl, nn, rfl⟩
  have hrow : ∀ r ∈ rs, ∃ its, Vals [.int r.key, .str r.name, .int (r.place : Nat)] its ∧ IsTup s.heap r.at_ its.toArray := fun r hr => by
    obtain ⟨_, its, rv, ht⟩ := (hrs r hr).ok I.hok
    exact ⟨its, rv, ht⟩
  have hlr : rs.length ≤ sizeLine := by
    unfold vsR at hlen
    rw [List.length_map] at hlen
    exact hlen
  refine PySem.W.sorted_data (bs := rs) (R := IsRw s.heap) (enc := fun r => encT r.t) hlist (each_rows rv hrow) (each_reads rv fun r hr => Dp.reads I _ _ _ (dp_row (K := X.K) (hrs r hr)) rfl) (alike_rows rs) (sortable_rows rs) hlr (fun r hr => ?_) fun out hl hout => ?_
  · have e : (encT r.t).depth = 1 := by simp [encT, PyData.depth, PyData.depthAll]
    rw [e]
    omega
  · have rvo : Vals (vsR (byTri rs)) out := vals_each hout
    obtain ⟨ep, he⟩ := PyProof.Rows.sortedAll_at s.heap its out.toArray
    have hbl : (byTri rs).length = rs.length := (byTri_perm rs).length_eq
    refine ⟨.ref _, upd H (s.heap.objs.size + 1) (.lst (vsR (byTri rs))), I.laid (t' := s.toks) (fun _ _ => PyProof.Rows.sortedAll_old) (Nat.le_succ _) ⟨?_, out, ep, rvo, he⟩, rfl, q _ (I.hok.fresh (Nat.le_succ _))⟩
    unfold vsR
    rw [List.length_map, hbl]
    exact hlr
theorem names_strOk : ∀ x ∈ names, PyData.strOk x = true := by decide +kernel
theorem can_rows : ∀ {l : List Tri}, (∀ t ∈ l, t.2.1 ∈ names) → PyData.canLayAll0 (l.map encT) = true ∧ PyData.depthAll (l.map encT) ≤ 1
  | [], _ => ⟨rfl, Nat.zero_le _⟩
  | t :: l, h => by
    obtain ⟨h1, h2⟩ := can_rows fun x hx => h x (List.mem_cons_of_mem _ hx)
    have n1 := names_strOk _ (h t List.mem_cons_self)
    rw [List.map_cons, PyData.canLayAll0, PyData.depthAll, h1]
    have e : (encT t).canLay0 = true := by simp [encT, PyData.canLay0, PyData.canLayAll0, n1]
    have e2 : (encT t).depth = 1 := by simp [encT, PyData.depth, PyData.depthAll]
    rw [e, e2]
    exact ⟨rfl, by omega⟩
theorem shaped_rows {l : List Tri} (h : ∀ t ∈ l, t.2.1 ∈ names) : SeqAt.shaped (.list (l.map encT)) = true := by
  obtain ⟨h1, h2⟩ := can_rows h
  unfold SeqAt.shaped
  rw [Bool.and_eq_true, decide_eq_true_eq, PyData.canLay0, PyData.depth]
  exact ⟨h1, by omega⟩
end Mu
end
section
set_option Elab.async false
set_option maxRecDepth 100000
set_option autoImplicit false
set_option linter.all false
/-! _law_right -/
namespace Mu
open PySem PySem.Spec L2 Gz PySem.W LamX
open PyProof.Rows hiding St
/-- all but the tables and the one at l -/
def ButN (l : Addr) (H H' : Hp) : Prop := ∀ b o, b ≠ l → H b = some o → (∀ ps, o ≠ .tbl ps) → H' b = some o
def spRight (T : List (Addr × Str)) : Sp := fun vs H Q _ => ∃ (l : Addr) (k : Int), vs = [.ref l] ∧ Drw H l k ∧ k < 700000 ∧ Tabs T H ∧ ∀ (H' : Hp) (k' : Int), ButN l H H' → Drw H' l k' → k' ≤ k + 200 → Tabs T H' → Q (.bl true) H'
theorem ButN.of {l : Addr} {H H' : Hp} (b : But l H H') : ButN l H H' := fun c o h e _ => b c o h e
theorem Drw.ext {H H' : Hp} {l : Addr} {k : Int} (d : Drw H l k) (e : ExtN H H') : Drw H' l k := by
  obtain ⟨⟨a, c, h, ha⟩, n⟩ := d
  exact ⟨⟨a, c, e _ _ h (fun ps z => by cases z), ha⟩, n⟩
theorem tabs_but {T : List (Addr × Str)} {H H' : Hp} {l : Addr} {k : Int} (t : Tabs T H) (d : Drw H l k) (b : But l H H') : Tabs T H' := fun p hp => by
  obtain ⟨⟨a, c, h, _⟩, _⟩ := d
  obtain ⟨ps, h1, h2, h3⟩ := t p hp
  have n1 : p.1 ≠ l := fun z => by rw [z, h] at h1; cases h1
  refine ⟨ps, b _ _ n1 h1, h2, fun pos cv hc => ?_⟩
  obtain ⟨c0, e1, e2⟩ := h3 pos cv hc
  have n2 : c0 ≠ l := fun z => by rw [z, h] at e2; cases e2
  exact ⟨c0, e1, b _ _ n2 e2⟩
theorem due_len {ls : Str → List Int} {zs : List Str} (h : ∀ x ∈ zs, (ls x).length ≤ 6) : (dueT ls zs).length ≤ 6 * zs.length := by
  induction zs with
  | nil => exact Nat.zero_le _
  | cons z zs ih =>
    have h1 := h z List.mem_cons_self
    have h2 := ih fun x hx => h x (List.mem_cons_of_mem _ hx)
    have e : dueT ls (z :: zs) = ((ls z).zipIdx.map fun e => ((e.1, z, e.2) : Tri)) ++ dueT ls zs := by
      unfold dueT
      rw [List.flatMap_cons]
    rw [e, List.length_append, List.length_map, List.length_zipIdx, List.length_cons]
    omega
theorem pw_at {R : Tri → Tri → Prop} {rs : List Rw} {i : Nat} {r : Rw} (h : (rs.map Rw.t).Pairwise R) (hr : rs[i]? = some r) {r2 : Rw} (h2 : r2 ∈ rs.drop (i + 1)) : R r.t r2.t := by
  have h := List.pairwise_map.mp h
  obtain ⟨hh, e⟩ := List.getElem?_eq_some_iff.mp hr
  have hd : rs.drop i = r :: rs.drop (i + 1) := by rw [List.drop_eq_getElem_cons hh, e]
  have := h.sublist (List.drop_sublist i rs)
  rw [hd] at this
  exact (List.pairwise_cons.mp this).1 r2 h2
/-- the test of a row against the later ones -/
abbrev tLate (K : PySem.W.Frag) : TT := tTest (tOp (rNeD K) (tLc (iList K (tSl (rSlL K) (tVar 4) (tPart (tOp (rI0 fun i j => .int (i + j)) (tVar 5) (tC (.int 1)))) tNoPart)) (gName 7) (tNot (tB (tCall spPair [] E0 (tCons (tVar 2) (tCons (tVar 3) (tCons (tVar 6) (tCons (tVar 7) tNil))))))) (tVar 7) [7]) (tLst tNil))
theorem late_read {K : PySem.W.Frag} {H : Hp} {Q : Bool → Hp → Prop} {l sa d lt : Addr} {p : AP} {es : Ents} {rs : List Rw} {i : Nat} {r : Rw} {v7 v8 v9 v10 : Option V} (pl : PL H p d es) (hlt : H lt = some (.lst (vsR rs))) (hin : ∀ r ∈ rs, RowIn H p es r) (hr : rs[i]? = some r)
    (pw : (rs.map Rw.t).Pairwise fun x y => pairB (lsOf es) p x y = true) (q : ∀ H' : Hp, Same H H' → Q false H') : tLate K [some (.ref l), some (.ref sa), some (.ref p.root), some (.ref d), some (.ref lt), some (.int (i : Nat)), some (.ref r.at_), v7, v8, v9, v10] H Q := by
  have hi := (List.getElem?_eq_some_iff.mp hr).1
  have hrm := List.mem_of_getElem? hr
  refine ⟨_, rfl, _, rfl, _, _, rfl, rfl, _, rfl, lt, _, rfl, SqL.of hlt, fun p1 hp1 => ?_⟩
  have s1 := same_upd (o := .lst (cutV (vsR rs) (some (((i : Nat) : Int) + 1)) none)) hp1
  have h1 : upd H p1 (.lst (cutV (vsR rs) (some (((i : Nat) : Int) + 1)) none)) p1 = some (.lst (vsR (rs.drop (i + 1)))) := by
    rw [upd_same, show ((i : Nat) : Int) + 1 = ((i + 1 : Nat) : Int) from rfl, cut_from (by unfold vsR; rw [List.length_map]; omega), vsR_drop]
  generalize upd H p1 (.lst (cutV (vsR rs) (some (((i : Nat) : Int) + 1)) none)) = H1 at s1 h1 ⊢
  refine ⟨p1, rfl, ⟨_, SqL.of h1⟩, fun D hD => lc_it (walk_list (xs := vsR (rs.drop (i + 1)))) (fun _ H' => H' D = some (.lst []) ∧ Same H1 H') ⟨upd_same, same_upd hD⟩ (fun j H' _ h => SqL.of (h.2 _ _ h1)) (fun j v H2 H3 hj hp hv => ?_) fun H2 hp => ?_⟩
  · obtain ⟨rfl, hv⟩ := hv
    obtain ⟨g1, g2⟩ := hp
    unfold vsR at hv
    rw [List.getElem?_map] at hv
    obtain ⟨r2, hr2, rfl⟩ := Option.map_eq_some_iff.mp hv
    have hm2 := List.mem_of_getElem? hr2
    have s2 := s1.trans g2
    refine ⟨rfl, _, rfl, _, rfl, _, rfl, _, rfl, p, d, es, r, r2, rfl, pl.same s2, (hin r hrm).same s2, (hin r2 (List.mem_of_mem_drop hm2)).same s2, fun H4 s4 => ⟨_, rfl, ?_⟩⟩
    rw [pw_at pw hr hm2]
    exact iteF ⟨s4 _ _ g1, g2.trans s4⟩
  · obtain ⟨g1, g2⟩ := hp
    refine ⟨Nat.zero_le _, fun e he => ⟨.list [], .list [], .lst (SqL.of (same_upd he _ _ g1)) .nil, .lst (SqL.of upd_same) .nil, by decide, by decide, _, rfl, ?_⟩⟩
    have z : (!PyData.eqv (.list []) (.list [])) = false := by simp [PyData.eqv, PyData.eqvAll]
    rw [z]
    exact q _ (s1.trans (g2.trans (same_upd he)))
/-- a list's due rows -/
abbrev tDueIn (K : PySem.W.Frag) : TE := tLc (iEnum K (tCons (tDGet (tVar 3) (tVar 10)) tNil)) (gTup K 2 (gCons (gName 5) (gCons (gName 9) gNil))) tYes (tTup (tCons (tVar 9) (tCons (tVar 10) (tCons (tVar 5) tNil)))) [5, 9]
theorem due_in {K : PySem.W.Frag} {H : Hp} {Q : VK} {d a : Addr} {es : Ents} {x : Str} {ns : List Int} {v0 v1 v2 v4 v5 v6 v7 v8 v9 : Option V} (inp : Inp H d es) (hin : (x, a, ns) ∈ es) (h6 : ns.length ≤ 6)
    (q : ∀ (H' : Hp) (l : Addr) (rs : List Rw), Same H H' → H l = none → H' l = some (.lst (vsR rs)) → RowsOk H' rs → rs.map Rw.t = ns.zipIdx.map (fun e => (e.1, x, e.2)) → Q (.ref l) H') : tDueIn K [v0, v1, v2, some (.ref d), v4, v5, v6, v7, v8, v9, some (.str x)] H Q := by
  have ha := inp.rows _ hin
  have hg : DGet H d (.str x) (some (.ref a)) := by
    have := DGet.k (k := Sum.inr x) inp.dict
    rw [valV_ents inp.nd hin] at this
    exact this
  refine ⟨_, rfl, _, rfl, d, .ref a, rfl, hg, a, _, rfl, SqL.of ha, fun D hD => lc_it (walk_enum (xs := ns.map V.int))
    (fun i H' => ∃ rs : List Rw, H' D = some (.lst (vsR rs)) ∧ RowsOk H' rs ∧ rs.map Rw.t = (ns.zipIdx.take i).map (fun e => (e.1, x, e.2)) ∧ Same H H') ⟨[], upd_same, fun r hr => (by cases hr), rfl, same_upd hD⟩ (fun i H' _ h => ?_) (fun i v H1 H2 hi hp hv => ?_) fun H1 hp => ?_⟩
  · obtain ⟨_, _, _, _, s⟩ := h
    exact SqL.of (s _ _ ha)
  · obtain ⟨rs, h1, h2, h3, h4⟩ := hp
    obtain ⟨Tp, x1, y1, rfl, hTp, rfl, e1, e2⟩ := hv
    obtain rfl : V.int (i : Nat) = x1 := Option.some.inj e1
    have e2 : (ns.map V.int)[i]? = some y1 := e2
    rw [List.getElem?_map] at e2
    obtain ⟨k, hk, rfl⟩ := Option.map_eq_some_iff.mp e2
    have hi' : i < ns.length := by rw [List.length_map] at hi; exact hi
    have s1 := h4.trans (same_upd (o := .tup [.int (i : Nat), .int k]) hTp)
    have h1' := same_upd (o := .tup [.int (i : Nat), .int k]) hTp _ _ h1
    have h2' : RowsOk (upd H1 Tp (.tup [.int (i : Nat), .int k])) rs := h2.same (keeps_same (same_upd hTp))
    refine ⟨Tp, _, rfl, SqT.of upd_same, rfl, _, _, rfl, _, _, rfl, rfl, rfl, ?_⟩
    refine iteT (B := ∃ rs : List Rw, upd H1 Tp (.tup [.int (i : Nat), .int k]) D = some (.lst (vsR rs)) ∧ RowsOk (upd H1 Tp (.tup [.int (i : Nat), .int k])) rs ∧ rs.map Rw.t = (ns.zipIdx.take (i + 1)).map (fun e => (e.1, x, e.2)) ∧ Same H (upd H1 Tp (.tup [.int (i : Nat), .int k]))) ?_
    generalize upd H1 Tp (.tup [.int (i : Nat), .int k]) = H2 at s1 h1' h2'
    have hrl : rs.length = i := by
      have := congrArg List.length h3
      rw [List.length_map, List.length_map, List.length_take, List.length_zipIdx] at this
      omega
    refine ⟨_, rfl, _, rfl, _, rfl, by show 3 ≤ sizeLine; decide, fun tt htt => ?_⟩
    have Dt : D ≠ tt := fun z => by rw [z, htt] at h1'; cases h1'
    have s3 := same_upd (o := .tup [.int k, .str x, .int (i : Nat)]) htt
    refine ⟨vsR rs, s3 _ _ h1', ?_, rs ++ [⟨tt, k, x, i⟩], ?_, fun r hr => ?_, ?_, fun b o e => ?_⟩
    · unfold vsR
      rw [List.length_map, hrl]
      exact Nat.lt_of_lt_of_le (show i < 7 by omega) (by decide)
    · rw [upd_same, vsR_app]; rfl
    · have tD : ∀ (b : Addr) (xs : List V), Rd (upd H2 tt (.tup [.int k, .str x, .int (i : Nat)])) b (.tup xs) → Rd (upd (upd H2 tt (.tup [.int k, .str x, .int (i : Nat)])) D (.lst (vsR rs ++ [.ref tt]))) b (.tup xs) := fun b xs hb => by
        have hbD : b ≠ D := fun z => by
          rw [z] at hb
          rcases hb with y | ⟨o, y⟩ <;> (rw [s3 _ _ h1'] at y; cases y)
        rcases hb with y | ⟨o, y⟩
        · exact .inl (by rw [upd_ne hbD]; exact y)
        · exact .inr ⟨o, by rw [upd_ne hbD]; exact y⟩
      rcases List.mem_append.mp hr with z | z
      · exact tD _ _ (keeps_same s3 _ _ (h2' r z))
      · rw [List.mem_singleton.mp z]
        exact tD _ _ (.inl upd_same)
    · rw [List.map_append, h3]
      have hz : ns.zipIdx[i]? = some (k, i) := by
        rw [List.getElem?_zipIdx, hk]
        simp
      rw [take_snoc hz, List.map_append]
      rfl
    · rw [upd_ne (ne_of_none e hD)]
      exact s3 _ _ (s1 _ _ e)
  · obtain ⟨rs, h1, h2, h3, h4⟩ := hp
    rw [List.length_map, show ns.length = ns.zipIdx.length from List.length_zipIdx.symm, List.take_length] at h3
    exact q H1 D rs h4 hD h1 h2 h3
section
variable {P : Program} {w : World} {K : PySem.W.Frag} {mg : Str → Option Value} {base : Heap} {T : List (Addr × Str)}
abbrev riN : List Str := ["_law_draws_here", "_law_some", "_law_plan_here", "_law_lists", "_law_told", "_law_at", "_law_one", "_law_other", "_law_due", "_law_key", "_law_name"]
theorem fs_right : FnScope riN ["_law_draws_here"] (defScope sL_right) := ⟨rfl, rfl, rfl, by decide, rfl, by decide +kernel, by decide +kernel⟩
abbrev scDue : Scope := { kind := .function, names := [(".0", .local), ("_law_name", .cell), ("enumerate", .globalImplicit), ("_law_lists", .cell)], isGenerator := false, isCoroutine := false }
theorem u64 {k : Nat} {A : Around} (r : Room k A) : A.units + 64 < cLine := by
  have := r.un
  omega
theorem c_right (Tx0 : Tx K mg) (M : Mod K mg base) (R : RowsCode K mg base T) : LCal P w K mg base 85 "_law_right" (spRight T) := by
  refine lc_mk Tx0.f_law_right fs_right (fun vs H Q h => by obtain ⟨_, _, rfl, _⟩ := h; rfl) (fun _ _ _ _ _ _ us hl => match us, hl with | [_], _ => rfl) fun f cdv A outer s H vs Q hr h => ?_
  obtain ⟨l, k, rfl, dr, hk, tab, q⟩ := h
  have nd : riN.Nodup := by decide
  have hu := hu_of hr
  have h64 := u64 hr
  refine ⟨_, sss_cons (SS.of (ps_set (i := 1) nd rfl (Or.inl rfl) (pcal (c_some Tx0) hr (by omega) (by rfl) (pa_cons (pv 0) (pa_cons pe_int pa_nil)))))
    (sss_cons (SS.of (ps_set (i := 2) nd rfl (Or.inr rfl) (pcal (c_plan Tx0) hr (by omega) (by rfl) (pa_cons (pv 0) (pa_cons (pv 1) pa_nil)))))
    (sss_cons (SS.of (ps_set (i := 3) nd rfl (Or.inr rfl) (pcal (c_lists Tx0) hr (by omega) (by rfl) (pa_cons (pv 0) (pa_cons (pv 1) pa_nil)))))
    (sss_cons (ss_set (i := 4) nd rfl (Or.inl rfl) (lcal (c_run Tx0 M R) hr (by decide) (by rfl) (pa_cons (pv 2) (pa_cons (pv 3) pa_nil))))
    (sss_cons (ss_for rfl (IS.of (pi_enum (by rfl) Tx0.benumerate (pa_cons (pv 4) pa_nil))) (pg_tup rfl (pgs_cons (pg_name (i := 5) nd rfl (Or.inl rfl)) (pgs_cons (pg_name (i := 6) nd rfl (Or.inr rfl)) pgs_nil)))
      (sss_one (ss_if (tst_cmp (op_neD h64) (es_lc (own := [("_law_other", 7)]) (g := gName 7) (tt := tNot (tB (tCall spPair [] E0 (tCons (tVar 2) (tCons (tVar 3) (tCons (tVar 6) (tCons (tVar 7) tNil))))))) (te := tVar 7) rfl nd (IS.of (pi_list (pe_slice sl_list (pv 4) (po_some (pe_op op_add (pv 5) pe_int)) po_none)))
        (blkOk_by (N := riN) (sc := defScope sL_right) (by decide +kernel)) (fun _ _ _ _ _ => pg_name (i := 7) nd rfl (Or.inl rfl)) (fun _ _ _ _ _ => tss_one (tst_not (tst_val (lcal (c_pair Tx0 M) hr (by decide) (by rfl) (pa_cons (pv 2) (pa_cons (pv 3) (pa_cons (pv 6) (pa_cons (pv 7) pa_nil)))))))) (fun _ _ _ _ _ => pv 7)) (ES.of (pe_lst pa_nil)) (nomark _)) (SSs.of pss_never) (SSs.of pss_nil))))
    (SSs.of (pss_cons (ps_set (i := 8) nd rfl (Or.inl rfl) (pe_callB (cr_sumL rfl) (by rfl) Tx0.bsum (by decide +kernel) (pa_cons
      (pe_lc (own := [("_law_name", 10)]) (g := gName 10) (tt := tYes) (te := tLc (iEnum K (tCons (tDGet (tVar 3) (tVar 10)) tNil)) (gTup K 2 (gCons (gName 5) (gCons (gName 9) gNil))) tYes (tTup (tCons (tVar 9) (tCons (tVar 10) (tCons (tVar 5) tNil)))) [5, 9]) rfl nd (pi_list (pv 1)) (blkOk_by (N := riN) (sc := defScope sL_right) (by decide +kernel)) (fun _ _ _ _ _ => pg_name (i := 10) nd rfl (Or.inr rfl)) (fun _ _ _ _ _ => pts_nil)
        (fun _ _ _ _ _ => pe_lc (own := [("_law_at", 5), ("_law_key", 9)]) (g := gTup K 2 (gCons (gName 5) (gCons (gName 9) gNil))) (tt := tYes) (te := tTup (tCons (tVar 9) (tCons (tVar 10) (tCons (tVar 5) tNil)))) rfl nd (pi_enum (by rfl) Tx0.benumerate (pa_cons (pe_dget hu (pv 3) (pv 10) (fun _ _ => rfl)) pa_nil)) (blkOk_by (N := riN) (sc := scDue) (by decide +kernel))
          (fun _ _ _ _ _ => pg_tup rfl (pgs_cons (pg_name (i := 5) nd rfl (Or.inl rfl) (Or.inr rfl)) (pgs_cons (pg_name (i := 9) nd rfl (Or.inl rfl) (Or.inr rfl)) pgs_nil))) (fun _ _ _ _ _ => pts_nil) (fun _ _ _ _ _ => pe_tup (pa_cons (pv 9) (pa_cons (pv 10) (pa_cons (pv 5) pa_nil)))))) (pa_cons (pe_lst pa_nil) pa_nil))))
      (pss_one (ps_ret (pe_cmpR (op_eqD h64) (pe_callB (cr_sortedRw h64) (by rfl) Tx0.bsorted boot_sorted (pa_cons (pv 4) pa_nil)) (pe_callB (cr_sortedRw h64) (by rfl) Tx0.bsorted boot_sorted (pa_cons (pv 8) pa_nil)) (nomark _)))))))))), ?_⟩
  refine ⟨_, rfl, l, k, rfl, dr, by omega, fun H1 sa zs k1 b1 d1 hk1 _ hsa so => ?_⟩
  have sal : sa ≠ l := d1.apart hsa (no_int_str _)
  refine ⟨_, rfl, _, rfl, l, sa, k1, zs, rfl, d1, by have := so.hi; omega, hsa, so.lo, so.hi, so.hi, so.mem, fun H2 p k2 b2 d2 hk2 okp ep dp => ?_⟩
  have pk : PlanOk p := ⟨by have := so.hi; omega, by rw [ep]; exact so.nd, by rw [ep]; exact so.hi⟩
  have hsa2 := b2 _ _ sal hsa
  refine ⟨_, rfl, _, rfl, l, sa, k2, zs, rfl, d2, by have := so.hi; omega, hsa2, so.nd, so.hi, fun H3 d es k3 b3 d3 hk3 inp ek h6 => ?_⟩
  have hsa3 := b3 _ _ sal hsa2
  have okp3 := ok_keeps (d2.keeps b3) okp
  have b03 := b1.trans (b2.trans b3)
  have tab3 := tabs_but tab dr b03
  have hall : ∀ x ∈ scans p, ∃ a ns, (x, a, ns) ∈ es := fun x hx => by
    rw [ep, ← ek] at hx
    obtain ⟨⟨y, a, ns⟩, he, rfl⟩ := List.mem_map.mp hx
    exact ⟨a, ns, he⟩
  have l6 : ∀ x ∈ scans p, (lsOf es x).length ≤ 6 := fun x hx => by
    obtain ⟨a, ns, he⟩ := hall x hx
    rw [lsOf_at inp.nd he]
    exact h6 _ he
  obtain ⟨pw, perm⟩ := rows_law (lsOf es) p pk.nd
  have rl36 : (rowsT (lsOf es) p).length ≤ 36 := by
    have h1 := due_len l6
    have h2 := pk.few
    rw [perm.length_eq]
    omega
  have small : 36 < sizeLine := by decide
  refine ⟨_, rfl, _, rfl, p, d, es, rfl, okp3, pk, inp, hall, fun e he => Nat.lt_of_le_of_lt (h6 e he) (by decide), Nat.lt_of_le_of_lt rl36 small, tab3, fun H4 lt rs e4 tab4 _ hlt ro em => ?_⟩
  have d4 := d3.ext e4
  have pl4 : PL H4 p d es := ⟨ok_keeps (keeps_ext e4) okp3, pk, inp.ext e4, hall, h6⟩
  have hsa4 : H4 sa = some (.lst (zs.map V.str)) := e4 _ _ hsa3 (fun ps z => by cases z)
  have rin : ∀ r ∈ rs, RowIn H4 p es r ∧ r.t ∈ dueT (lsOf es) (scans p) := fun r hr => by
    have hm : r.t ∈ rowsT (lsOf es) p := by rw [← em]; exact List.mem_map.mpr ⟨r, hr, rfl⟩
    have hm := perm.mem_iff.mp hm
    obtain ⟨m1, m2⟩ := mem_due.mp hm
    exact ⟨⟨ro r hr, m1, (List.getElem?_eq_some_iff.mp m2).1⟩, hm⟩
  have pwr : (rs.map Rw.t).Pairwise fun x y => pairB (lsOf es) p x y = true := by rw [em]; exact pw
  have but4 : ∀ H', Same H4 H' → ButN l H H' := fun H' s' b o hb e ho => s' _ _ (e4 _ _ (b03 b o hb e) ho)
  refine ⟨_, rfl, lt, _, rfl, SqL.of hlt, for_it (D := { nx := _, rt := Q }) (walk_enum (xs := vsR rs)) (fun i σ' H' => ∃ v5 v6 v7 : Option V, σ' = [some (.ref l), some (.ref sa), some (.ref p.root), some (.ref d), some (.ref lt), v5, v6, v7, none, none, none] ∧ Same H4 H')
    ⟨none, none, none, rfl, Same.refl _⟩ (fun i σ' H' _ h => ?_) (fun i v σ' H' H5 hi h hv => ?_) fun σ' H' h => ?_⟩
  · obtain ⟨_, _, _, _, s'⟩ := h
    exact SqL.of (s' _ _ hlt)
  · obtain ⟨v5, v6, v7, rfl, s'⟩ := h
    obtain ⟨Tp, x1, y1, rfl, hTp, rfl, e1, e2⟩ := hv
    obtain rfl : V.int (i : Nat) = x1 := Option.some.inj e1
    have e2 : (vsR rs)[i]? = some y1 := e2
    unfold vsR at e2
    rw [List.getElem?_map] at e2
    obtain ⟨r, hr, rfl⟩ := Option.map_eq_some_iff.mp e2
    have s5 := s'.trans (same_upd (o := .tup [.int (i : Nat), r.v]) hTp)
    refine ⟨Tp, _, rfl, SqT.of upd_same, rfl, _, _, rfl, _, _, rfl, rfl, ?_⟩
    generalize upd H' Tp (.tup [.int (i : Nat), r.v]) = H6 at s5 ⊢
    exact late_read (pl4.same s5) (s5 _ _ hlt) (fun r hr => (rin r hr).1.same s5) hr pwr fun H7 s7 => iteF ⟨_, _, _, rfl, s5.trans s7⟩
  · obtain ⟨v5, v6, v7, rfl, s'⟩ := h
    have inp' := pl4.inp.same s'
    have hsa' := s' _ _ hsa4
    have zall : ∀ x ∈ zs, ∃ a ns, (x, a, ns) ∈ es := by rw [← ep]; exact hall
    refine ⟨_, rfl, sa, rfl, ⟨_, SqL.of hsa'⟩, fun D hD => lc_it (walk_list (xs := zs.map V.str)) (fun i H5 => ∃ its : List (Addr × List Rw), H5 D = some (.lst (its.map fun e => V.ref e.1)) ∧ (∀ e ∈ its, e.1 ≠ D ∧ H5 e.1 = some (.lst (vsR e.2)) ∧ RowsOk H5 e.2) ∧
      (its.flatMap (·.2)).map Rw.t = dueT (lsOf es) (zs.take i) ∧ its.length = i ∧ Same H' H5) ⟨[], upd_same, fun e he => (by cases he), rfl, rfl, same_upd hD⟩ (fun i H5 _ h => ?_) (fun i v H5 H6 hi hp hv => ?_) fun H5 hp => ?_⟩
    · obtain ⟨_, _, _, _, _, s5⟩ := h
      exact SqL.of (s5 _ _ hsa')
    · obtain ⟨rfl, hv⟩ := hv
      obtain ⟨its, g1, g2, g3, g5, g4⟩ := hp
      rw [List.getElem?_map] at hv
      obtain ⟨x, hx, rfl⟩ := Option.map_eq_some_iff.mp hv
      have hi' := (List.getElem?_eq_some_iff.mp hx).1
      obtain ⟨a, ns, he⟩ := zall x (List.mem_of_getElem? hx)
      refine ⟨rfl, ?_⟩
      dsimp only [tYes]
      rw [if_pos rfl]
      refine due_in (v0 := some (.ref l)) (v1 := some (.ref sa)) (v2 := some (.ref p.root)) (v4 := some (.ref lt)) (v5 := v5) (v6 := v6) (v7 := v7) (v8 := none) (v9 := none) (inp'.same g4) he (h6 _ he) fun H7 lx rsx s7 n7 h7 ro7 m7 => ?_
      have lxD : lx ≠ D := fun z => by rw [z, g1] at n7; cases n7
      have upR : ∀ rs' : List Rw, RowsOk H7 rs' → RowsOk (upd H7 D (.lst ((its.map fun e => V.ref e.1) ++ [.ref lx]))) rs' := fun rs' h r hr => by
        have hb := h r hr
        have hbD : r.at_ ≠ D := fun z => by
          rw [z] at hb
          rcases hb with y | ⟨o, y⟩ <;> (rw [s7 _ _ g1] at y; cases y)
        rcases hb with y | ⟨o, y⟩
        · exact .inl (by rw [upd_ne hbD]; exact y)
        · exact .inr ⟨o, by rw [upd_ne hbD]; exact y⟩
      refine ⟨_, s7 _ _ g1, ?_, its ++ [(lx, rsx)], ?_, fun e he => ?_, ?_, ?_, fun b o e => ?_⟩
      · rw [List.length_map, g5]
        have := so.hi
        exact Nat.lt_of_lt_of_le (show i < 7 by omega) (by decide)
      · rw [upd_same, List.map_append]; rfl
      · rcases List.mem_append.mp he with y | y
        · obtain ⟨y1, y2, y3⟩ := g2 e y
          exact ⟨y1, by rw [upd_ne y1]; exact s7 _ _ y2, upR _ (y3.same (keeps_same s7))⟩
        · rw [List.mem_singleton.mp y]
          exact ⟨lxD, by rw [upd_ne lxD]; exact h7, upR _ ro7⟩
      · rw [List.flatMap_append, List.map_append, g3, take_snoc hx, due_append, List.flatMap_cons, List.flatMap_nil, List.append_nil, m7]
        unfold dueT
        rw [List.flatMap_cons, List.flatMap_nil, List.append_nil, lsOf_at inp.nd he]
      · rw [List.length_append, g5]; rfl
      · rw [upd_ne (ne_of_none e hD)]
        exact s7 _ _ (g4 _ _ e)
    · obtain ⟨its, g1, g2, g3, g5, g4⟩ := hp
      rw [List.length_map, List.take_length] at g3
      rw [List.length_map] at g5
      have hfl : (its.map fun e => (e.1, vsR e.2)).flatMap (·.2) = vsR (its.flatMap (·.2)) := by
        rw [List.flatMap_map]
        unfold vsR
        rw [List.map_flatMap]
      have len36 : (its.flatMap (·.2)).length ≤ 36 := by
        have h1 := congrArg List.length g3
        rw [List.length_map] at h1
        have h2 := due_len l6
        have h3 := pk.few
        rw [ep] at h2 h3
        omega
      refine ⟨Nat.zero_le _, fun z hz => ⟨D, z, its.map fun e => (e.1, vsR e.2), rfl, ?_, upd_same, fun e he => ?_, ?_, fun c0 => ?_, fun _ p4 n4 => ?_⟩⟩
      · rw [List.map_map]
        exact SqL.of (same_upd hz _ _ g1)
      · obtain ⟨e', he', rfl⟩ := List.mem_map.mp he
        exact same_upd hz _ _ (g2 e' he').2.1
      · rw [hfl]
        unfold vsR
        rw [List.length_map]
        exact Nat.le_trans len36 (Nat.le_of_lt small)
      · have := so.lo
        have c1 : its = [] := List.map_eq_nil_iff.mp c0
        rw [c1, List.length_nil] at g5
        omega
      · rw [hfl]
        have s8 := (g4.trans (same_upd (o := .lst []) hz)).trans (same_upd (o := .lst (vsR (its.flatMap (·.2)))) n4)
        have hp4 : upd (upd H5 z (.lst [])) p4 (.lst (vsR (its.flatMap (·.2)))) p4 = some (.lst (vsR (its.flatMap (·.2)))) := upd_same
        have ro8 : RowsOk (upd (upd H5 z (.lst [])) p4 (.lst (vsR (its.flatMap (·.2))))) (its.flatMap (·.2)) := fun r hr => by
          obtain ⟨e, he, hre⟩ := List.mem_flatMap.mp hr
          exact keeps_same ((same_upd hz).trans (same_upd n4)) _ _ ((g2 e he).2.2 r hre)
        generalize upd (upd H5 z (.lst [])) p4 (.lst (vsR (its.flatMap (·.2)))) = H8 at s8 hp4 ro8 ⊢
        generalize its.flatMap (·.2) = rd at g3 hp4 ro8 ⊢
        have s48 := s'.trans s8
        have roL : RowsOk H8 rs := RowsOk.same ro (keeps_same s48)
        refine ⟨_, rfl, lt, rs, rfl, s48 _ _ hlt, roL, fun p5 n5 => ?_⟩
        have s9 := same_upd (o := .lst (vsR (byTri rs))) n5
        refine ⟨_, rfl, p4, rd, rfl, s9 _ _ hp4, ro8.same (keeps_same s9), fun p6 n6 => ?_⟩
        have s10 := same_upd (o := .lst (vsR (byTri rd))) n6
        have eq : (byTri rs).map Rw.t = (byTri rd).map Rw.t := by
          rw [byTri_map, byTri_map]
          refine sort_uniq ?_
          rw [em, g3, ← ep]
          exact perm
        have eqd : (byTri rd).map (fun r => encT r.t) = (byTri rs).map (fun r => encT r.t) := by
          have : ∀ q : List Rw, q.map (fun r => encT r.t) = (q.map Rw.t).map encT := fun q => by rw [List.map_map]; rfl
          rw [this, this, eq]
        have nmT : ∀ t ∈ (byTri rs).map Rw.t, t.2.1 ∈ names := fun t ht => by
          obtain ⟨r, hr, rfl⟩ := List.mem_map.mp ht
          have hr2 := (byTri_perm rs).mem_iff.mp hr
          have := (mem_due.mp (rin r hr2).2).1
          rw [ep] at this
          exact so.mem _ this
        have sh : SeqAt.shaped (.list ((byTri rs).map fun r => encT r.t)) = true := by
          have : (byTri rs).map (fun r => encT r.t) = ((byTri rs).map Rw.t).map encT := by rw [List.map_map]; rfl
          rw [this]
          exact shaped_rows nmT
        have ra : RowsOk (upd (upd H8 p5 (.lst (vsR (byTri rs)))) p6 (.lst (vsR (byTri rd)))) (byTri rs) := fun r hr => keeps_same (s9.trans s10) _ _ (roL r ((byTri_perm rs).mem_iff.mp hr))
        have rb : RowsOk (upd (upd H8 p5 (.lst (vsR (byTri rs)))) p6 (.lst (vsR (byTri rd)))) (byTri rd) := fun r hr => keeps_same (s9.trans s10) _ _ (ro8 r ((byTri_perm rd).mem_iff.mp hr))
        have db := dp_rows (K := K) rb
        rw [eqd] at db
        refine ⟨_, _, .lst (SqL.of (s10 _ _ upd_same)) (dp_rows ra), .lst (SqL.of upd_same) db, sh, sh, ?_⟩
        rw [SeqAt.eqv_refl _ (SeqAt.canLay_of_shaped sh)]
        have sAll := s48.trans (s9.trans s10)
        exact q _ k3 (but4 _ sAll) (d4.same sAll) (by have := so.hi; omega) (tab4.ext sAll)
end
end Mu
end
section
set_option Elab.async false
set_option maxRecDepth 100000
set_option autoImplicit false
set_option linter.all false
/-! law -/
namespace Mu
open PySem PySem.Spec L2 Gz PySem.W LamX
open PyProof.Rows hiding St
def spLaw (K : PySem.W.Frag) (T : List (Addr × Str)) : Sp := fun vs H Q _ => ∃ (a : Addr) (ns : List Int), vs = [.ref a] ∧ SqL K H a (ns.map V.int) ∧ ns.length ≤ 63 ∧ Tabs T H ∧ ∀ H', Q (.bl true) H'
/-- the draws' lists in the midst -/
def LwP (H : Hp) (D : Addr) (i : Nat) (H' : Hp) : Prop := ∃ ls : List Addr, H' D = some (.lst (ls.map V.ref)) ∧ (∀ x ∈ ls, Drw H' x 0) ∧ ls.Nodup ∧ ls.length = i ∧ Same H H'
theorem Drw.upd {H : Hp} {x D : Addr} {k : Int} {o : HO} (d : Drw H x k) (h : x ≠ D) : Drw (upd H D o) x k := by
  obtain ⟨⟨a, b, e, ha⟩, n⟩ := d
  exact ⟨⟨a, b, by rw [upd_ne h]; exact e, ha⟩, n⟩
theorem Drw.butN {H H' : Hp} {x y : Addr} {k : Int} (d : Drw H y k) (b : ButN x H H') (h : y ≠ x) : Drw H' y k := by
  obtain ⟨⟨a, c, e, ha⟩, n⟩ := d
  exact ⟨⟨a, c, b _ _ h e (fun ps z => by cases z), ha⟩, n⟩
theorem no_int_addr (ls : List Addr) : ∀ x ∈ ls.map V.ref, ∀ i, x ≠ V.int i := fun x hx i e => by
  obtain ⟨y, _, rfl⟩ := List.mem_map.mp hx
  cases e
section
variable {P : Program} {w : World} {K : PySem.W.Frag} {mg : Str → Option Value} {base : Heap} {T : List (Addr × Str)}
abbrev lwN : List Str := ["_law_script", "_law_draws_here", "_law_cell"]
theorem fs_law : FnScope lwN ["_law_script"] (defScope slaw) := ⟨rfl, rfl, rfl, by decide, rfl, by decide +kernel, by decide +kernel⟩
theorem law_body (Tx0 : Tx K mg) (M : Mod K mg base) (R : RowsCode K mg base T) {f : Addr} {cdv : Value} {A : Around} {outer : List Env} {s : Shared} {H : Hp} {vs : List V} {Q : VK} (hr : Room 86 (A.deeper (envOfC "law" (defScope slaw) s.heap.objs.size f cdv))) (h : spLaw K T vs H Q E0) :
    ∃ t, SSs (cxOf CX0 P w K mg base lwN "law" (defScope slaw) f cdv A outer s H E0).nox (defBody slaw) t ∧ t { nx := fun _ H' => Q .non H', rt := Q } (start lwN vs) H := by
  obtain ⟨a, ns, rfl, hS, h63, tab, q⟩ := h
  have nd : lwN.Nodup := by decide
  refine ⟨_, sss_cons (ss_for rfl (IS.of (pi_list (pe_lc (own := [("_law_cell", 2)]) (g := gName 2) (tt := tYes) (te := tCall spDraws [] E0 (tCons (tVar 2) tNil)) rfl nd (pi_list (pe_op op_cat (pe_slice sl_list (pv 0) po_none (po_some pe_int)) (pe_lst (pa_cons pe_int pa_nil)))) (blkOk_by (N := lwN) (sc := defScope slaw) (by decide +kernel))
      (fun _ _ _ _ _ => pg_name (i := 2) nd rfl (Or.inl rfl)) (fun _ _ _ _ _ => pts_nil) (fun _ _ _ _ _ => pcal (c_draws Tx0) hr (by omega) (by rfl) (pa_cons (pv 2) pa_nil))))) (pg_name (i := 1) nd rfl (Or.inl rfl))
      (sss_one (ss_if (WSt.pt (wst_or (tst_not (tst_val (lcal (c_right Tx0 M R) hr (by decide) (by rfl) (pa_cons (pv 1) pa_nil)))) (wst_or1 (tst_not (tst_val (lcal (c_right Tx0 M R) hr (by decide) (by rfl) (pa_cons (pv 1) pa_nil))))))) (SSs.of pss_never) (SSs.of pss_nil))))
    (sss_one (SS.of (ps_ret pe_bl))), ?_⟩
  refine ⟨_, rfl, 6, rfl, a, _, rfl, hS, fun p1 hp1 => ?_⟩
  have s1 := same_upd (o := .lst (cutV (ns.map V.int) none (some 6))) hp1
  have h1 : upd H p1 (.lst (cutV (ns.map V.int) none (some 6))) p1 = some (.lst ((ns.take 6).map V.int)) := by
    rw [upd_same, show (6 : Int) = ((6 : Nat) : Int) from rfl, cut_to, List.map_take]
  generalize upd H p1 (.lst (cutV (ns.map V.int) none (some 6))) = H1 at s1 h1 ⊢
  refine ⟨by show 1 ≤ sizeLine; decide, fun p2 hp2 => ?_⟩
  have s2 := same_upd (o := .lst [V.int 0]) hp2
  have l6 : ((ns.take 6).map V.int).length ≤ 6 := by rw [List.length_map, List.length_take]; omega
  refine ⟨p1, p2, _, _, rfl, rfl, s2 _ _ h1, upd_same, Nat.le_trans (Nat.add_le_add_right l6 1) (by decide), fun p3 hp3 => ?_⟩
  have s3 := same_upd (o := .lst ((ns.take 6).map V.int ++ [V.int 0])) hp3
  have h3 : upd (upd H1 p2 (.lst [V.int 0])) p3 (.lst ((ns.take 6).map V.int ++ [V.int 0])) p3 = some (.lst ((ns.take 6 ++ [0]).map V.int)) := by rw [upd_same, List.map_append]; rfl
  have s13 := s1.trans (s2.trans s3)
  generalize upd (upd H1 p2 (.lst [V.int 0])) p3 (.lst ((ns.take 6).map V.int ++ [V.int 0])) = H3 at h3 s13 ⊢
  generalize hms : ns.take 6 ++ [0] = ms at h3
  have ml : ms.length ≤ 7 := by
    rw [← hms, List.length_append, List.length_take]
    show _ + 1 ≤ 7
    omega
  refine ⟨p3, rfl, ⟨_, SqL.of h3⟩, fun D hD => lc_it (walk_list (xs := ms.map V.int)) (LwP H3 D) ⟨[], upd_same, fun x hx => (by cases hx), .nil, rfl, same_upd hD⟩ (fun i H' _ h => ?_) (fun i v H4 H5 hi hp hv => ?_) fun H4 hp => ?_⟩
  · obtain ⟨_, _, _, _, _, s'⟩ := h
    exact SqL.of (s' _ _ h3)
  · obtain ⟨rfl, hv⟩ := hv
    obtain ⟨ls, g1, g2, g3, g4, g5⟩ := hp
    rw [List.getElem?_map] at hv
    obtain ⟨c, hc, rfl⟩ := Option.map_eq_some_iff.mp hv
    have hi' := (List.getElem?_eq_some_iff.mp hc).1
    refine ⟨rfl, iteT (B := LwP H3 D (i + 1) H5) ⟨_, rfl, c, rfl, fun H6 l s6 n6 d6 => ?_⟩⟩
    have lD : l ≠ D := fun z => by rw [z, g1] at n6; cases n6
    have g16 := s6 _ _ g1
    have xD : ∀ x ∈ ls, x ≠ D := fun x hx => ((g2 x hx).apart g1 (no_int_addr _)).symm
    refine ⟨_, g16, ?_, ls ++ [l], ?_, fun x hx => ?_, ?_, ?_, fun b o e => ?_⟩
    · rw [List.length_map, g4]
      exact Nat.lt_of_lt_of_le (show i < 8 by omega) (by decide)
    · rw [upd_same, List.map_append]; rfl
    · rcases List.mem_append.mp hx with y | y
      · exact ((g2 x y).same s6).upd (xD x y)
      · rw [List.mem_singleton.mp y]
        exact d6.upd lD
    · refine List.nodup_append.mpr ⟨g3, List.nodup_cons.mpr ⟨List.not_mem_nil, .nil⟩, fun x hx y hy e => ?_⟩
      rw [List.mem_singleton.mp hy] at e
      have := (g2 x hx).at
      rw [e] at this
      exact this n6
    · rw [List.length_append, g4]; rfl
    · rw [upd_ne (ne_of_none e hD)]
      exact s6 _ _ (g5 _ _ e)
  · obtain ⟨ls, g1, g2, g3, g4, g5⟩ := hp
    have tab4 := tab.ext (s13.trans g5)
    refine ⟨D, rfl, ⟨_, SqL.of g1⟩, for_list (D := { nx := _, rt := Q }) (xs := ls.map V.ref) (fun i σ' H' => ∃ v : Option V, σ' = [some (.ref a), v, none] ∧ H' D = some (.lst (ls.map V.ref)) ∧ (∀ j x, i ≤ j → ls[j]? = some x → Drw H' x 0) ∧ Tabs T H')
      ⟨none, rfl, g1, fun j x _ hx => g2 x (List.mem_of_getElem? hx), tab4⟩ (fun i σ' H' _ h => ?_) (fun i x σ' H' hx h => ?_) fun σ' H' h => ?_⟩
    · obtain ⟨_, _, hd, _⟩ := h
      exact SqL.of hd
    · obtain ⟨v, rfl, hd, hdr, ht⟩ := h
      rw [List.getElem?_map] at hx
      obtain ⟨x, hxi, rfl⟩ := Option.map_eq_some_iff.mp hx
      have dx := hdr i x (Nat.le_refl _) hxi
      refine ⟨_, rfl, x, 0, rfl, dx, by decide, ht, fun H5 k5 b5 d5 hk5 t5 => ⟨true, rfl, iteF ⟨_, rfl, x, k5, rfl, d5, by omega, t5, fun H6 k6 b6 d6 hk6 t6 => ⟨true, rfl, iteF ?_⟩⟩⟩⟩
      have xD : D ≠ x := dx.apart hd (no_int_addr _)
      refine ⟨_, rfl, b6 _ _ xD (b5 _ _ xD hd (fun ps z => by cases z)) (fun ps z => by cases z), fun j y hj hy => ?_, t6⟩
      have yx : y ≠ x := fun z => by
        rw [z] at hy
        obtain ⟨i1, e1⟩ := List.getElem?_eq_some_iff.mp hxi
        obtain ⟨j1, e2⟩ := List.getElem?_eq_some_iff.mp hy
        exact (List.pairwise_iff_getElem.mp g3) i j i1 j1 (by omega) (e1.trans e2.symm)
      exact ((hdr j y (by omega) hy).butN b5 yx).butN b6 yx
    · obtain ⟨v, rfl, _⟩ := h
      exact q H'
end
end Mu
end
section
set_option Elab.async false
set_option maxRecDepth 100000
set_option autoImplicit false
set_option linter.all false
/-! the facts of the head, joined -/
namespace Mu
open PySem PySem.Spec PySem.Calls PySem.W L2 Gz LamX
open PyProof.Rows hiding St
theorem tabs_start {H : Hp} {P : Addr} (h : H P = some (.tbl #[])) : Tabs [(P, lamQ)] H := fun p hp => by
  rw [List.mem_singleton.mp hp]
  refine ⟨#[], h, ?_, fun pos cv hc => ?_⟩
  · simp [TriplesOk]
  · simp [codeAmong] at hc
theorem all_mk {l : PySem.W.OpenLaw} {w : World} {K : PySem.W.Frag} {h : Heap} {mg : Str → Option Value} {fa Pt cR : Addr} (X : K.In h) (G : h.Ns mainGlobals mg) (hfa : mg "law" = some (.ref fa)) (Y : ∀ P ∈ ([Pt] : List Addr), h.get? P = some (tabObj #[]))
    {f0 : Addr} {oc0 kV0 dc0 pm0 cd0 ct0 : Value} {od0 an0 : Option Addr} {sl0 : Array (Option Value)} (a0 : PySem.W.nsIn K mainGlobals "is_whole" = some (some (.ref f0))) (l0 : K.lookup f0 = some ⟨oc0, od0, .func (PySem.W.fnOf "is_whole" "is_whole" (defArgs sis_whole) (defBody sis_whole) (defScope sis_whole) .none kV0 dc0 pm0 an0 cd0 ct0), sl0⟩) (c0 : PySem.W.codeIn K cd0 "is_whole" = true) (k0 : PySem.W.keepIn K (.ref f0) = true)
    {f1 : Addr} {oc1 kV1 dc1 pm1 cd1 ct1 : Value} {od1 an1 : Option Addr} {sl1 : Array (Option Value)} (a1 : PySem.W.nsIn K mainGlobals "is_name" = some (some (.ref f1))) (l1 : K.lookup f1 = some ⟨oc1, od1, .func (PySem.W.fnOf "is_name" "is_name" (defArgs sis_name) (defBody sis_name) (defScope sis_name) .none kV1 dc1 pm1 an1 cd1 ct1), sl1⟩) (c1 : PySem.W.codeIn K cd1 "is_name" = true) (k1 : PySem.W.keepIn K (.ref f1) = true)
    {f2 : Addr} {oc2 kV2 dc2 pm2 cd2 ct2 : Value} {od2 an2 : Option Addr} {sl2 : Array (Option Value)} (a2 : PySem.W.nsIn K mainGlobals "is_form" = some (some (.ref f2))) (l2 : K.lookup f2 = some ⟨oc2, od2, .func (PySem.W.fnOf "is_form" "is_form" (defArgs sis_form) (defBody sis_form) (defScope sis_form) .none kV2 dc2 pm2 an2 cd2 ct2), sl2⟩) (c2 : PySem.W.codeIn K cd2 "is_form" = true) (k2 : PySem.W.keepIn K (.ref f2) = true)
    {f3 : Addr} {oc3 kV3 dc3 pm3 cd3 ct3 : Value} {od3 an3 : Option Addr} {sl3 : Array (Option Value)} (a3 : PySem.W.nsIn K mainGlobals "parts_of" = some (some (.ref f3))) (l3 : K.lookup f3 = some ⟨oc3, od3, .func (PySem.W.fnOf "parts_of" "parts_of" (defArgs sparts_of) (defBody sparts_of) (defScope sparts_of) .none kV3 dc3 pm3 an3 cd3 ct3), sl3⟩) (c3 : PySem.W.codeIn K cd3 "parts_of" = true) (k3 : PySem.W.keepIn K (.ref f3) = true)
    {f4 : Addr} {oc4 kV4 dc4 pm4 cd4 ct4 : Value} {od4 an4 : Option Addr} {sl4 : Array (Option Value)} (a4 : PySem.W.nsIn K mainGlobals "walk" = some (some (.ref f4))) (l4 : K.lookup f4 = some ⟨oc4, od4, .func (PySem.W.fnOf "walk" "walk" (defArgs swalk) (defBody swalk) (defScope swalk) .none kV4 dc4 pm4 an4 cd4 ct4), sl4⟩) (c4 : PySem.W.codeIn K cd4 "walk" = true) (k4 : PySem.W.keepIn K (.ref f4) = true)
    {f5 : Addr} {oc5 kV5 dc5 pm5 cd5 ct5 : Value} {od5 an5 : Option Addr} {sl5 : Array (Option Value)} (a5 : PySem.W.nsIn K mainGlobals "check_plan" = some (some (.ref f5))) (l5 : K.lookup f5 = some ⟨oc5, od5, .func (PySem.W.fnOf "check_plan" "check_plan" (defArgs scheck_plan) (defBody scheck_plan) (defScope scheck_plan) .none kV5 dc5 pm5 an5 cd5 ct5), sl5⟩) (c5 : PySem.W.codeIn K cd5 "check_plan" = true) (k5 : PySem.W.keepIn K (.ref f5) = true)
    {f6 : Addr} {oc6 kV6 dc6 pm6 cd6 ct6 : Value} {od6 an6 : Option Addr} {sl6 : Array (Option Value)} (a6 : PySem.W.nsIn K mainGlobals "names_in" = some (some (.ref f6))) (l6 : K.lookup f6 = some ⟨oc6, od6, .func (PySem.W.fnOf "names_in" "names_in" (defArgs snames_in) (defBody snames_in) (defScope snames_in) .none kV6 dc6 pm6 an6 cd6 ct6), sl6⟩) (c6 : PySem.W.codeIn K cd6 "names_in" = true) (k6 : PySem.W.keepIn K (.ref f6) = true)
    {f7 : Addr} {oc7 kV7 dc7 pm7 cd7 ct7 : Value} {od7 an7 : Option Addr} {sl7 : Array (Option Value)} (a7 : PySem.W.nsIn K mainGlobals "is_row" = some (some (.ref f7))) (l7 : K.lookup f7 = some ⟨oc7, od7, .func (PySem.W.fnOf "is_row" "is_row" (defArgs sis_row) (defBody sis_row) (defScope sis_row) .none kV7 dc7 pm7 an7 cd7 ct7), sl7⟩) (c7 : PySem.W.codeIn K cd7 "is_row" = true) (k7 : PySem.W.keepIn K (.ref f7) = true)
    {f8 : Addr} {oc8 kV8 dc8 pm8 cd8 ct8 : Value} {od8 an8 : Option Addr} {sl8 : Array (Option Value)} (a8 : PySem.W.nsIn K mainGlobals "check_inputs" = some (some (.ref f8))) (l8 : K.lookup f8 = some ⟨oc8, od8, .func (PySem.W.fnOf "check_inputs" "check_inputs" (defArgs scheck_inputs) (defBody scheck_inputs) (defScope scheck_inputs) .none kV8 dc8 pm8 an8 cd8 ct8), sl8⟩) (c8 : PySem.W.codeIn K cd8 "check_inputs" = true) (k8 : PySem.W.keepIn K (.ref f8) = true)
    {f9 : Addr} {oc9 kV9 dc9 pm9 cd9 ct9 : Value} {od9 an9 : Option Addr} {sl9 : Array (Option Value)} (a9 : PySem.W.nsIn K mainGlobals "merged_rows" = some (some (.ref f9))) (l9 : K.lookup f9 = some ⟨oc9, od9, .func (PySem.W.fnOf "merged_rows" "merged_rows" (defArgs smerged_rows) (defBody smerged_rows) (defScope smerged_rows) .none kV9 dc9 pm9 an9 cd9 ct9), sl9⟩) (c9 : PySem.W.codeIn K cd9 "merged_rows" = true) (k9 : PySem.W.keepIn K (.ref f9) = true)
    {f10 : Addr} {oc10 kV10 dc10 pm10 ct10 : Value} {od10 an10 : Option Addr} {sl10 : Array (Option Value)} (a10 : PySem.W.nsIn K mainGlobals "rows_of" = some (some (.ref f10))) (l10 : K.lookup f10 = some ⟨oc10, od10, .func (PySem.W.fnOf "rows_of" "rows_of" (defArgs srows_of) (defBody srows_of) (defScope srows_of) .none kV10 dc10 pm10 an10 (Value.ref cR) ct10), sl10⟩) (c10 : PySem.W.codeIn K (Value.ref cR) "rows_of" = true) (k10 : PySem.W.keepIn K (.ref f10) = true)
    {f11 : Addr} {oc11 kV11 dc11 pm11 cd11 ct11 : Value} {od11 an11 : Option Addr} {sl11 : Array (Option Value)} (a11 : PySem.W.nsIn K mainGlobals "run" = some (some (.ref f11))) (l11 : K.lookup f11 = some ⟨oc11, od11, .func (PySem.W.fnOf "run" "run" (defArgs srun) (defBody srun) (defScope srun) .none kV11 dc11 pm11 an11 cd11 ct11), sl11⟩) (c11 : PySem.W.codeIn K cd11 "run" = true) (k11 : PySem.W.keepIn K (.ref f11) = true)
    {f12 : Addr} {oc12 kV12 dc12 pm12 cd12 ct12 : Value} {od12 an12 : Option Addr} {sl12 : Array (Option Value)} (a12 : PySem.W.nsIn K mainGlobals "lead_in" = some (some (.ref f12))) (l12 : K.lookup f12 = some ⟨oc12, od12, .func (PySem.W.fnOf "lead_in" "lead_in" (defArgs slead_in) (defBody slead_in) (defScope slead_in) .none kV12 dc12 pm12 an12 cd12 ct12), sl12⟩) (c12 : PySem.W.codeIn K cd12 "lead_in" = true) (k12 : PySem.W.keepIn K (.ref f12) = true)
    {f13 : Addr} {oc13 kV13 dc13 pm13 cd13 ct13 : Value} {od13 an13 : Option Addr} {sl13 : Array (Option Value)} (a13 : PySem.W.nsIn K mainGlobals "lead" = some (some (.ref f13))) (l13 : K.lookup f13 = some ⟨oc13, od13, .func (PySem.W.fnOf "lead" "lead" (defArgs slead) (defBody slead) (defScope slead) .none kV13 dc13 pm13 an13 cd13 ct13), sl13⟩) (c13 : PySem.W.codeIn K cd13 "lead" = true) (k13 : PySem.W.keepIn K (.ref f13) = true)
    {f14 : Addr} {oc14 kV14 dc14 pm14 cd14 ct14 : Value} {od14 an14 : Option Addr} {sl14 : Array (Option Value)} (a14 : PySem.W.nsIn K mainGlobals "_law_draws" = some (some (.ref f14))) (l14 : K.lookup f14 = some ⟨oc14, od14, .func (PySem.W.fnOf "_law_draws" "_law_draws" (defArgs sL_draws) (defBody sL_draws) (defScope sL_draws) .none kV14 dc14 pm14 an14 cd14 ct14), sl14⟩) (c14 : PySem.W.codeIn K cd14 "_law_draws" = true) (k14 : PySem.W.keepIn K (.ref f14) = true)
    {f15 : Addr} {oc15 kV15 dc15 pm15 cd15 ct15 : Value} {od15 an15 : Option Addr} {sl15 : Array (Option Value)} (a15 : PySem.W.nsIn K mainGlobals "_law_next" = some (some (.ref f15))) (l15 : K.lookup f15 = some ⟨oc15, od15, .func (PySem.W.fnOf "_law_next" "_law_next" (defArgs sL_next) (defBody sL_next) (defScope sL_next) .none kV15 dc15 pm15 an15 cd15 ct15), sl15⟩) (c15 : PySem.W.codeIn K cd15 "_law_next" = true) (k15 : PySem.W.keepIn K (.ref f15) = true)
    {f16 : Addr} {oc16 kV16 dc16 pm16 cd16 ct16 : Value} {od16 an16 : Option Addr} {sl16 : Array (Option Value)} (a16 : PySem.W.nsIn K mainGlobals "_law_names" = some (some (.ref f16))) (l16 : K.lookup f16 = some ⟨oc16, od16, .func (PySem.W.fnOf "_law_names" "_law_names" (defArgs sL_names) (defBody sL_names) (defScope sL_names) .none kV16 dc16 pm16 an16 cd16 ct16), sl16⟩) (c16 : PySem.W.codeIn K cd16 "_law_names" = true) (k16 : PySem.W.keepIn K (.ref f16) = true)
    {f17 : Addr} {oc17 kV17 dc17 pm17 cd17 ct17 : Value} {od17 an17 : Option Addr} {sl17 : Array (Option Value)} (a17 : PySem.W.nsIn K mainGlobals "_law_plan" = some (some (.ref f17))) (l17 : K.lookup f17 = some ⟨oc17, od17, .func (PySem.W.fnOf "_law_plan" "_law_plan" (defArgs sL_plan) (defBody sL_plan) (defScope sL_plan) .none kV17 dc17 pm17 an17 cd17 ct17), sl17⟩) (c17 : PySem.W.codeIn K cd17 "_law_plan" = true) (k17 : PySem.W.keepIn K (.ref f17) = true)
    {f18 : Addr} {oc18 kV18 dc18 pm18 cd18 ct18 : Value} {od18 an18 : Option Addr} {sl18 : Array (Option Value)} (a18 : PySem.W.nsIn K mainGlobals "_law_scans" = some (some (.ref f18))) (l18 : K.lookup f18 = some ⟨oc18, od18, .func (PySem.W.fnOf "_law_scans" "_law_scans" (defArgs sL_scans) (defBody sL_scans) (defScope sL_scans) .none kV18 dc18 pm18 an18 cd18 ct18), sl18⟩) (c18 : PySem.W.codeIn K cd18 "_law_scans" = true) (k18 : PySem.W.keepIn K (.ref f18) = true)
    {f19 : Addr} {oc19 kV19 dc19 pm19 cd19 ct19 : Value} {od19 an19 : Option Addr} {sl19 : Array (Option Value)} (a19 : PySem.W.nsIn K mainGlobals "_law_random_lists" = some (some (.ref f19))) (l19 : K.lookup f19 = some ⟨oc19, od19, .func (PySem.W.fnOf "_law_random_lists" "_law_random_lists" (defArgs sL_random_lists) (defBody sL_random_lists) (defScope sL_random_lists) .none kV19 dc19 pm19 an19 cd19 ct19), sl19⟩) (c19 : PySem.W.codeIn K cd19 "_law_random_lists" = true) (k19 : PySem.W.keepIn K (.ref f19) = true)
    {f20 : Addr} {oc20 kV20 dc20 pm20 cd20 ct20 : Value} {od20 an20 : Option Addr} {sl20 : Array (Option Value)} (a20 : PySem.W.nsIn K mainGlobals "_law_lead" = some (some (.ref f20))) (l20 : K.lookup f20 = some ⟨oc20, od20, .func (PySem.W.fnOf "_law_lead" "_law_lead" (defArgs sL_lead) (defBody sL_lead) (defScope sL_lead) .none kV20 dc20 pm20 an20 cd20 ct20), sl20⟩) (c20 : PySem.W.codeIn K cd20 "_law_lead" = true) (k20 : PySem.W.keepIn K (.ref f20) = true)
    {f21 : Addr} {oc21 kV21 dc21 pm21 cd21 ct21 : Value} {od21 an21 : Option Addr} {sl21 : Array (Option Value)} (a21 : PySem.W.nsIn K mainGlobals "_law_parting" = some (some (.ref f21))) (l21 : K.lookup f21 = some ⟨oc21, od21, .func (PySem.W.fnOf "_law_parting" "_law_parting" (defArgs sL_parting) (defBody sL_parting) (defScope sL_parting) .none kV21 dc21 pm21 an21 cd21 ct21), sl21⟩) (c21 : PySem.W.codeIn K cd21 "_law_parting" = true) (k21 : PySem.W.keepIn K (.ref f21) = true)
    {f22 : Addr} {oc22 kV22 dc22 pm22 cd22 ct22 : Value} {od22 an22 : Option Addr} {sl22 : Array (Option Value)} (a22 : PySem.W.nsIn K mainGlobals "_law_is_first" = some (some (.ref f22))) (l22 : K.lookup f22 = some ⟨oc22, od22, .func (PySem.W.fnOf "_law_is_first" "_law_is_first" (defArgs sL_is_first) (defBody sL_is_first) (defScope sL_is_first) .none kV22 dc22 pm22 an22 cd22 ct22), sl22⟩) (c22 : PySem.W.codeIn K cd22 "_law_is_first" = true) (k22 : PySem.W.keepIn K (.ref f22) = true)
    {f23 : Addr} {oc23 kV23 dc23 pm23 cd23 ct23 : Value} {od23 an23 : Option Addr} {sl23 : Array (Option Value)} (a23 : PySem.W.nsIn K mainGlobals "_law_is_sorted" = some (some (.ref f23))) (l23 : K.lookup f23 = some ⟨oc23, od23, .func (PySem.W.fnOf "_law_is_sorted" "_law_is_sorted" (defArgs sL_is_sorted) (defBody sL_is_sorted) (defScope sL_is_sorted) .none kV23 dc23 pm23 an23 cd23 ct23), sl23⟩) (c23 : PySem.W.codeIn K cd23 "_law_is_sorted" = true) (k23 : PySem.W.keepIn K (.ref f23) = true)
    {f24 : Addr} {oc24 kV24 dc24 pm24 cd24 ct24 : Value} {od24 an24 : Option Addr} {sl24 : Array (Option Value)} (a24 : PySem.W.nsIn K mainGlobals "_law_pair_right" = some (some (.ref f24))) (l24 : K.lookup f24 = some ⟨oc24, od24, .func (PySem.W.fnOf "_law_pair_right" "_law_pair_right" (defArgs sL_pair_right) (defBody sL_pair_right) (defScope sL_pair_right) .none kV24 dc24 pm24 an24 cd24 ct24), sl24⟩) (c24 : PySem.W.codeIn K cd24 "_law_pair_right" = true) (k24 : PySem.W.keepIn K (.ref f24) = true)
    {f25 : Addr} {oc25 kV25 dc25 pm25 cd25 ct25 : Value} {od25 an25 : Option Addr} {sl25 : Array (Option Value)} (a25 : PySem.W.nsIn K mainGlobals "_law_right" = some (some (.ref f25))) (l25 : K.lookup f25 = some ⟨oc25, od25, .func (PySem.W.fnOf "_law_right" "_law_right" (defArgs sL_right) (defBody sL_right) (defScope sL_right) .none kV25 dc25 pm25 an25 cd25 ct25), sl25⟩) (c25 : PySem.W.codeIn K cd25 "_law_right" = true) (k25 : PySem.W.keepIn K (.ref f25) = true)
    {f26 : Addr} {oc26 kV26 dc26 pm26 cd26 ct26 : Value} {od26 an26 : Option Addr} {sl26 : Array (Option Value)} (a26 : PySem.W.nsIn K mainGlobals "law" = some (some (.ref f26))) (l26 : K.lookup f26 = some ⟨oc26, od26, .func (PySem.W.fnOf "law" "law" (defArgs slaw) (defBody slaw) (defScope slaw) .none kV26 dc26 pm26 an26 cd26 ct26), sl26⟩) (c26 : PySem.W.codeIn K cd26 "law" = true) (k26 : PySem.W.keepIn K (.ref f26) = true)
    (z0 : PySem.W.nsIn K mainGlobals "isinstance" = some none)
    (z1 : PySem.W.nsIn K mainGlobals "len" = some none)
    (z2 : PySem.W.nsIn K mainGlobals "all" = some none)
    (z3 : PySem.W.nsIn K mainGlobals "int" = some none)
    (z4 : PySem.W.nsIn K mainGlobals "str" = some none)
    (z5 : PySem.W.nsIn K mainGlobals "bool" = some none)
    (z6 : PySem.W.nsIn K mainGlobals "list" = some none)
    (z7 : PySem.W.nsIn K mainGlobals "tuple" = some none)
    (z8 : PySem.W.nsIn K mainGlobals "dict" = some none)
    (z9 : PySem.W.nsIn K mainGlobals "enumerate" = some none)
    (z10 : PySem.W.nsIn K mainGlobals "sorted" = some none)
    (z11 : PySem.W.nsIn K mainGlobals "sum" = some none)
    (z12 : PySem.W.nsIn K mainGlobals "max" = some none)
    (z13 : PySem.W.nsIn K mainGlobals "range" = some none)
    {tA tB : Tok} (yA : PySem.W.nsIn K mainGlobals "LETTERS" = some (some (.str "abcdefghijklmnopqrstuvwxyz" tA))) (yB : PySem.W.nsIn K mainGlobals "LONGEST" = some (some (.int 6 tB)))
    (tb1 : codeHdIn K cR Pt = true) (tb2 : K.lookup Pt = none) : LawAtM l w K 87 63 "_law_script" mg fa h := by
  have e := hfa.symm.trans (PySem.W.mg_of X G a26)
  cases e
  have Tx0 : Tx K mg := ⟨Fn.mk X G a0 l0 c0 k0, Fn.mk X G a1 l1 c1 k1, Fn.mk X G a2 l2 c2 k2, Fn.mk X G a3 l3 c3 k3, Fn.mk X G a4 l4 c4 k4, Fn.mk X G a5 l5 c5 k5, Fn.mk X G a6 l6 c6 k6, Fn.mk X G a7 l7 c7 k7, Fn.mk X G a8 l8 c8 k8, Fn.mk X G a9 l9 c9 k9, Fn.mk X G a10 l10 c10 k10, Fn.mk X G a11 l11 c11 k11, Fn.mk X G a12 l12 c12 k12, Fn.mk X G a13 l13 c13 k13, Fn.mk X G a14 l14 c14 k14, Fn.mk X G a15 l15 c15 k15, Fn.mk X G a16 l16 c16 k16, Fn.mk X G a17 l17 c17 k17, Fn.mk X G a18 l18 c18 k18, Fn.mk X G a19 l19 c19 k19, Fn.mk X G a20 l20 c20 k20, Fn.mk X G a21 l21 c21 k21, Fn.mk X G a22 l22 c22 k22, Fn.mk X G a23 l23 c23 k23, Fn.mk X G a24 l24 c24 k24, Fn.mk X G a25 l25 c25 k25, Fn.mk X G a26 l26 c26 k26, PySem.W.mg_none_of X G z0, PySem.W.mg_none_of X G z1, PySem.W.mg_none_of X G z2, PySem.W.mg_none_of X G z3, PySem.W.mg_none_of X G z4, PySem.W.mg_none_of X G z5, PySem.W.mg_none_of X G z6, PySem.W.mg_none_of X G z7, PySem.W.mg_none_of X G z8, PySem.W.mg_none_of X G z9, PySem.W.mg_none_of X G z10, PySem.W.mg_none_of X G z11, PySem.W.mg_none_of X G z12, PySem.W.mg_none_of X G z13, ⟨tA, PySem.W.mg_of X G yA⟩, ⟨tB, PySem.W.mg_of X G yB⟩⟩
  have hm := PySem.W.mg_of X G a10
  refine ⟨PySem.W.fnOf "law" "law" (defArgs slaw) (defBody slaw) (defScope slaw) .none kV26 dc26 pm26 an26 cd26 ct26, [(cR, Pt)], spLaw K [(Pt, lamQ)], fun p hp => ?_, fun p hp => ?_, fun p hp => ?_, fun s v => .of_eq rfl, fun H a ns hl _ hH hS => ⟨a, ns, rfl, hS, hl, tabs_start (hH (cR, Pt) List.mem_cons_self), fun _ => rfl⟩, fun base kb nb M hT => ?_⟩
  · rw [List.mem_singleton.mp hp]
    exact Y Pt List.mem_cons_self
  · rw [List.mem_singleton.mp hp]
    exact tb2
  · rw [List.mem_singleton.mp hp]
    exact codeHd_of_K X tb1
  · have Rc : RowsCode K mg base [(Pt, lamQ)] := ⟨⟨_, _, _, _, _, _, _, cR, _, _, Pt, hm, l10, c10, k10, hT (cR, Pt) List.mem_cons_self, List.mem_cons_self, fun p hp _ => by rw [List.mem_singleton.mp hp]⟩⟩
    exact fun_okS (fun_mk l26 c26 k26) fs_law (fun vs H Q h => by obtain ⟨_, _, rfl, _⟩ := h; rfl) fun cdv A outer s H vs Q hr h => law_body Tx0 M Rc hr h
end Mu
end
section
set_option Elab.async false
set_option maxRecDepth 100000
open PySem PySem.W PyProof.Rows
namespace MuZ
/-- the name that the head's words look for: here the walk is asked on the machine -/
theorem PySem.W.holds_open {r : OpenRow} {q : Program} {loose : List Str} {Xt : Shared → Bool} {XP : (Str → Option Value) → Heap → Prop} {α : Type} {Yf : Shared → α} {Ya : World → α} {YP : World → Heap → Prop} {d : DefRec} {kwd : List (Str × Expr)} {N : Nat}
    (left : LeftO r.prog q loose Xt Yf Ya N) (hY : ∀ w s, Yf s = Ya w → YP w s.heap) (hYk : ∀ w h h', YP w h → (∀ b o, h.get? b = some o → h'.get? b = some o) → YP w h') (hX : ∀ s, Xt s = true → XP (s.heap.nsMap mainGlobals) s.heap)
    (hXk : ∀ mg h h', XP mg h → (∀ b o, h.get? b = some o → h'.get? b = some o) → XP mg h') (hdef : defOf q r.name = some (d, kwd)) (hp : r.prog.theDef r.name = some (d.params, d.body, d.scope)) (hk : kwWritten? d.params.kwonlyargs d.params.kw_defaults = some kwd) (hR : ∀ s, Xt s = true → RecFacts r.records s.heap)
    (hwr : (!r.writes || r.records.isEmpty) = true) (k1 : r.wellSaid = true) (ok : (chainsOk q && opensWell r.prog && (frees r.toRowW && r.within.isEmpty)) = true) (hb : r.prog.bare) (hw : r.toRowW.promised) (call : Mu.WalkS q loose XP YP r.toRowW d kwd fun f vs => PySem.call f vs) : r.Holds :=
  Mu.holds_openM left hY hYk hX hXk hdef hp hk hR hwr k1 ok hb hw call
set_option maxRecDepth 100000 in
set_option maxHeartbeats 0 in
theorem fin : PySem.Challenge.rw_mergeunits_k90_whole_orders_by_the_rule.Holds := by
  w_on; o_law; k_head; (case hw => w_witness2)
  k_fill
  refine Mu.walk_ofM (l := PySem.Challenge.rw_mergeunits_k90_whole_orders_by_the_rule) (n := 63) (k := 87) (x := "_law_script") rfl (by decide) rfl ⟨rfl, by decide, by decide⟩ (fun w h Y => km_in_of Y) ?F
  case F =>
    intro w mg fa h Y KX G hmg
    refine' Mu.all_mk KX G hmg (km_tabs_of Y) ?a0 ?l0 ?c0 ?k0 ?a1 ?l1 ?c1 ?k1 ?a2 ?l2 ?c2 ?k2 ?a3 ?l3 ?c3 ?k3 ?a4 ?l4 ?c4 ?k4 ?a5 ?l5 ?c5 ?k5 ?a6 ?l6 ?c6 ?k6 ?a7 ?l7 ?c7 ?k7 ?a8 ?l8 ?c8 ?k8 ?a9 ?l9 ?c9 ?k9 ?a10 ?l10 ?c10 ?k10 ?a11 ?l11 ?c11 ?k11 ?a12 ?l12 ?c12 ?k12 ?a13 ?l13 ?c13 ?k13 ?a14 ?l14 ?c14 ?k14 ?a15 ?l15 ?c15 ?k15 ?a16 ?l16 ?c16 ?k16 ?a17 ?l17 ?c17 ?k17 ?a18 ?l18 ?c18 ?k18 ?a19 ?l19 ?c19 ?k19 ?a20 ?l20 ?c20 ?k20 ?a21 ?l21 ?c21 ?k21 ?a22 ?l22 ?c22 ?k22 ?a23 ?l23 ?c23 ?k23 ?a24 ?l24 ?c24 ?k24 ?a25 ?l25 ?c25 ?k25 ?a26 ?l26 ?c26 ?k26 ?z0 ?z1 ?z2 ?z3 ?z4 ?z5 ?z6 ?z7 ?z8 ?z9 ?z10 ?z11 ?z12 ?z13 ?yA ?yB ?tb1 ?tb2
    (case a0 => k_is)
    (case l0 => k_is)
    (case c0 => k_is)
    (case k0 => k_is)
    (case a1 => k_is)
    (case l1 => k_is)
    (case c1 => k_is)
    (case k1 => k_is)
    (case a2 => k_is)
    (case l2 => k_is)
    (case c2 => k_is)
    (case k2 => k_is)
    (case a3 => k_is)
    (case l3 => k_is)
    (case c3 => k_is)
    (case k3 => k_is)
    (case a4 => k_is)
    (case l4 => k_is)
    (case c4 => k_is)
    (case k4 => k_is)
    (case a5 => k_is)
    (case l5 => k_is)
    (case c5 => k_is)
    (case k5 => k_is)
    (case a6 => k_is)
    (case l6 => k_is)
    (case c6 => k_is)
    (case k6 => k_is)
    (case a7 => k_is)
    (case l7 => k_is)
    (case c7 => k_is)
    (case k7 => k_is)
    (case a8 => k_is)
    (case l8 => k_is)
    (case c8 => k_is)
    (case k8 => k_is)
    (case a9 => k_is)
    (case l9 => k_is)
    (case c9 => k_is)
    (case k9 => k_is)
    (case a10 => k_is)
    (case l10 => k_is)
    (case c10 => k_is)
    (case k10 => k_is)
    (case a11 => k_is)
    (case l11 => k_is)
    (case c11 => k_is)
    (case k11 => k_is)
    (case a12 => k_is)
    (case l12 => k_is)
    (case c12 => k_is)
    (case k12 => k_is)
    (case a13 => k_is)
    (case l13 => k_is)
    (case c13 => k_is)
    (case k13 => k_is)
    (case a14 => k_is)
    (case l14 => k_is)
    (case c14 => k_is)
    (case k14 => k_is)
    (case a15 => k_is)
    (case l15 => k_is)
    (case c15 => k_is)
    (case k15 => k_is)
    (case a16 => k_is)
    (case l16 => k_is)
    (case c16 => k_is)
    (case k16 => k_is)
    (case a17 => k_is)
    (case l17 => k_is)
    (case c17 => k_is)
    (case k17 => k_is)
    (case a18 => k_is)
    (case l18 => k_is)
    (case c18 => k_is)
    (case k18 => k_is)
    (case a19 => k_is)
    (case l19 => k_is)
    (case c19 => k_is)
    (case k19 => k_is)
    (case a20 => k_is)
    (case l20 => k_is)
    (case c20 => k_is)
    (case k20 => k_is)
    (case a21 => k_is)
    (case l21 => k_is)
    (case c21 => k_is)
    (case k21 => k_is)
    (case a22 => k_is)
    (case l22 => k_is)
    (case c22 => k_is)
    (case k22 => k_is)
    (case a23 => k_is)
    (case l23 => k_is)
    (case c23 => k_is)
    (case k23 => k_is)
    (case a24 => k_is)
    (case l24 => k_is)
    (case c24 => k_is)
    (case k24 => k_is)
    (case a25 => k_is)
    (case l25 => k_is)
    (case c25 => k_is)
    (case k25 => k_is)
    (case a26 => k_is)
    (case l26 => k_is)
    (case c26 => k_is)
    (case k26 => k_is)
    (case z0 => k_is)
    (case z1 => k_is)
    (case z2 => k_is)
    (case z3 => k_is)
    (case z4 => k_is)
    (case z5 => k_is)
    (case z6 => k_is)
    (case z7 => k_is)
    (case z8 => k_is)
    (case z9 => k_is)
    (case z10 => k_is)
    (case z11 => k_is)
    (case z12 => k_is)
    (case z13 => k_is)
    (case yA => k_is)
    (case yB => k_is)
    (case tb1 => kernel_rfl)
    (case tb2 => kernel_rfl)
end MuZ
end
theorem PySem.Challenge.cw_mergeunits_k90_whole_orders_by_the_rule_holds : PySem.Challenge.rw_mergeunits_k90_whole_orders_by_the_rule.Holds :=
  MuZ.fin
