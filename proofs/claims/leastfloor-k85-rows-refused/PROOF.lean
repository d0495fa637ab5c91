import PyProof.Rows.All
import Wide.All
import OpenK.AllK
import Wide.FinOn
import KE.GoesRaise
import HandS.ForMost
import HandS.ForExc
import HandS.ExcIs
import HandS.IsInst
import KE.DataMinMax
import HandS.SortKw
import HandS.More
import HandS.Defaults
import HandS.HeadHook4
import HandS.Lambda
import PySem.Challenge.RW_leastfloor_k85_rows_refused
import KE.KStateDown
import HandS.Head0
import HandS.Head1
import HandS.Head2
import KE.SortKeyHeap
import KE.KLam
import HandS.Conv
import HandS.ExcValue
import HandS.Walk
import HandS.Codes
import HandS.Text
import HandS.List
import HandS.TryOnly
import HandS.TryElse
import HandS.NoneIn
import PyProof.RangeFor
import HandS.HeadWalk
import HandS.EndTab
import Lean
set_option Elab.async false
set_option linter.all false
set_option maxRecDepth 100000
set_option maxHeartbeats 2000000
/-! A list comprehension whose element may raise (the exception leaves the comprehension and goes on in the def's own frame). -/
namespace LfR
open PySem PySem.Spec PyProof.Rows L2

section
variable {X : Cx} {pins : List (Addr × Obj)} {σ σB : L2.St} {H3 H5 : Hp} {s3 s5 : Shared} {E : XK} {scope : Scope} {ce : Env} {fp : List Addr} {pinsB : List (Addr × Obj)}

theorem tracedZ_sub {h base base' : Heap} {e : Addr} {Z : Obj → Prop} {fl : Value} (k : ∀ b, base.get? b = none → base'.get? b = none) (t : HandSPX.TracedZ h base e Z fl) : HandSPX.TracedZ h base' e Z fl := by
  obtain ⟨oe, vs, T, oT, ts, he, hz, hd, h1, hnT, hTe, hT, hdT, h3⟩ := t
  exact ⟨oe, vs, T, oT, ts, he, hz, hd, h1, k _ hnT, hTe, hT, hdT, h3⟩

theorem tracedZ_same {h h' base : Heap} {e C : Addr} {Z : Obj → Prop} {fl : Value} {m : Str → Option Value} (hn : h.Ns C m) (hs : Heap.SameBut C h h') (t : HandSPX.TracedZ h base e Z fl) : HandSPX.TracedZ h' base e Z fl := by
  obtain ⟨oe, vs, T, oT, ts, he, hz, hd, h1, hnT, hTe, hT, hdT, h3⟩ := t
  obtain ⟨oC, es, ep, hoC, hdC, _⟩ := hn
  have neC : ∀ b o ws, h.get? b = some o → o.data = .fields ws → b ≠ C := fun b o ws e d z => by
    rw [z, hoC] at e
    cases e
    rw [hdC] at d
    cases d
  exact ⟨oe, vs, T, oT, ts, (hs.2 _ (neC _ _ _ he hd)).trans he, hz, hd, h1, hnT, hTe, (hs.2 _ (neC _ _ _ hT hdT)).trans hT, hdT, h3⟩

/-- what the block's exceptions must meet, so that they leave the comprehension as the def wishes -/
theorem blk_passes (hs : X.stack = X.env :: X.outer) (hf : X.env.frame = some X.env.locals) (tk : Takes X (fun cls d _ H => E cls d H))
    (I3 : Inv X pins σ H3 s3) (f3 : ∀ b ∈ fp, FpOk X pins H3 b ∧ b < s3.heap.objs.size) (cL : ce.locals = s3.heap.objs.size) (cF : ce.frame = X.env.frame) :
    Passes (L2.CX X.prog X.w) ((X.blk s3 H3 scope ce fp).wish (notedBy (model X.prog X.w) X.A ce (CompFails (model X.prog X.w) X.A X.xe ce))) E := by
  intro pinsB σB H5 s5 e s' I5 c
  obtain ⟨a, Bg, H', cls, d, rfl, fl, hok, ub, na, os, ag, hE⟩ := c
  have fl : HandSPX.FlyingZ Bg X.stack a (Zc cls d) s'.heap := fl
  have ub : UB (frs X.stack) H5 H' s5.heap Bg s'.heap := ub
  have base : Un (frs X.stack) fp H3 H5 s3.heap s5.heap := I5.base
  have hfr : X.A.frames = some (X.env :: X.outer) := by rw [I3.ok.frames, hs]
  have st : Bg.StaysIn s'.heap := fl.1
  -- the block's own names
  obtain ⟨mC, hnC, _⟩ := I5.loc
  have hnC : s5.heap.Ns ce.locals mC := hnC
  have freeC : H5 ce.locals = none := I5.free
  have nfC : ce.locals ∉ frs X.stack := fun hm => by
    rcases List.mem_cons.mp (I3.stkSub _ hm) with z | z
    · have q := I3.lt
      rw [← z, cL] at q
      exact Nat.lt_irrefl _ q
    · exact I3.nofs (Nat.le_of_eq cL.symm) z
  have hC' : H' ce.locals = none := by
    obtain ⟨o, _, _, e, _⟩ := hnC
    exact ub.free _ o e freeC
  have ltC : ∀ b o, s3.heap.get? b = some o → b ≠ ce.locals := fun b o e z => by
    rw [z, cL] at e
    exact Nat.lt_irrefl _ (Heap.lt_size e)
  -- the heap without the exception's objects and the block's names
  obtain ⟨G, g1, g2⟩ := restrict s'.heap fun b => ((Bg.get? b).isSome || decide (b ∈ frs X.stack)) && decide (b ≠ ce.locals)
  obtain ⟨B2, k1, k2⟩ := restrict Bg fun b => decide (b ≠ ce.locals)
  have gB : ∀ b o, b ≠ ce.locals → Bg.get? b = some o → G.get? b = some o := fun b o hb e => by
    rw [g1 b (by simp [e, hb])]
    exact st b o e
  have gF : ∀ b, b ∈ frs X.stack → G.get? b = s'.heap.get? b := fun b hb => g1 b (by
    have : b ≠ ce.locals := fun z => nfC (z ▸ hb)
    simp [hb, this])
  have og : ∀ b o, G.get? b = some o → s'.heap.get? b = some o ∧ b ≠ ce.locals ∧ ((Bg.get? b).isSome = true ∨ b ∈ frs X.stack) := fun b o e => by
    cases q : (((Bg.get? b).isSome || decide (b ∈ frs X.stack)) && decide (b ≠ ce.locals)) with
    | false =>
      rw [g2 b q] at e
      cases e
    | true =>
      rw [g1 b q] at e
      simp only [Bool.and_eq_true, Bool.or_eq_true, decide_eq_true_eq] at q
      exact ⟨e, q.2, q.1⟩
  have bk : ∀ b, Bg.get? b = none → B2.get? b = none := fun b e => by
    by_cases hb : b = ce.locals
    · exact k2 b (by simp [hb])
    · rw [k1 b (by simp [hb])]
      exact e
  have b2C : B2.get? ce.locals = none := k2 _ (by simp)
  have b2B : ∀ b o, B2.get? b = some o → Bg.get? b = some o ∧ b ≠ ce.locals := fun b o e => by
    by_cases hb : b = ce.locals
    · rw [hb, b2C] at e
      cases e
    · rw [k1 b (by simp [hb])] at e
      exact ⟨e, hb⟩
  have J : Inv X pins σ H' { s' with heap := G } := by
    refine I3.call' (ch := fp) (os.trans I5.os) ⟨fun b o e n hb hx => ?_, fun b o e n hb hx => ?_, fun b o e n hx => ?_, fun b o e hx => ?_, fun b xs e => ub.tups b xs (base.tups b xs e), fun b o u e => ub.frzs b o u (base.frzs b o u e), fun b ps e => ?_⟩ (fun b u e => ?_) ag
      fun b hb => ⟨(f3 b hb).1.2.2.2.1, (f3 b hb).1.2.1, (f3 b hb).1.2.2.2.2.1, (f3 b hb).1.2.2.2.2.2⟩
    · exact gB b o (ltC b o e) (ub.keep b o (base.keep b o e n hb hx) (base.free b o e n hx) hb)
    · obtain ⟨sl, q⟩ := base.slot b o e n hb hx
      obtain ⟨sl2, q2⟩ := ub.slot b _ q hb
      exact ⟨sl2, (gF b hb).trans q2⟩
    · obtain ⟨o', q⟩ := base.there b o e hx
      exact ub.free b o' q (base.free b o e n hx)
    · obtain ⟨o', q⟩ := base.there b o e hx
      by_cases hb : b ∈ frs X.stack
      · obtain ⟨sl, q2⟩ := ub.slot b o' q hb
        exact ⟨_, (gF b hb).trans q2⟩
      · obtain ⟨o2, q2⟩ := ub.there b o' q hb
        exact ⟨o2, gB b o2 (ltC b o e) q2⟩
    · obtain ⟨m1, e1⟩ := base.tbls b ps e
      obtain ⟨m2, e2⟩ := ub.tbls b _ e1
      exact ⟨m1 ++ m2, by rw [e2, Array.append_assoc]⟩
    · refine (hok b u e).stay (fun c v hc q => gB c v (fun z => ?_) q) (fun _ q => q) fun _ _ q => q
      rcases hc with hc | hc
      · rw [← hc, z, hC'] at e
        cases e
      · rw [z, hC'] at hc
        cases hc
  have nb : ∀ b o, G.get? b = some o → b ∉ frs X.stack → B2.get? b = some o := fun b o e hb => by
    obtain ⟨e1, e2, e3⟩ := og b o e
    rcases e3 with e3 | e3
    · obtain ⟨o', q⟩ := Option.isSome_iff_exists.mp e3
      have z := st b o' q
      rw [e1] at z
      cases z
      rw [k1 b (by simp [e2])]
      exact q
    · exact absurd e3 hb
  have fl2 : HandSPX.FlyingZ B2 (X.env :: X.outer) a (Zc cls d) s'.heap := by
    rw [← hs]
    exact ⟨fun b o e => st b o (b2B b o e).1, bk a fl.2.1, funFrames_none fl.2.2.1 (fun L hL => bk L (fl.2.2.1.mem hL).1), tracedZ_sub bk fl.2.2.2⟩
  show wpAny _ _ (noteFrame (.ref a) ce) _ _ s'
  rw [noteFrame_env _ cF]
  refine HandSPX.looks_onZ Zc.steady hfr hf fl2 fun h' hH up => ?_
  obtain ⟨c1, c2, c3, c4⟩ := hH
  have hnS : s'.heap.Ns ce.locals mC := by
    obtain ⟨o, es, ep, e, r⟩ := hnC
    exact ⟨o, es, ep, st _ _ (ub.keep _ o e freeC nfC), r⟩
  have hnH : h'.Ns ce.locals mC := hnS.upToSlots up
  refine ⟨mC, hnH, fun h2 m2 hn2 hs2 => ?_⟩
  have s2 : B2.StaysIn h2 := fun b o e => (hs2.2 b (b2B b o e).2).trans (c1 b o e)
  have f2 : h2.FunFrames B2 (X.env :: X.outer) := Heap.FunFrames.sameBut hs2 hn2 c3
  have t2 := tracedZ_same hnH hs2 c4
  obtain ⟨oe, vs, T, oT, ts, he, hz, hd, h1, r⟩ := id t2
  unfold PySem.passOn
  refine wpAny_bind (wpAny_field he hd h1 ?_)
  rw [if_neg (show ¬ ((Value.ref T == Value.none) = true) from by simp)]
  rw [cF, hf]
  refine wpAny_bind (HandSPX.setFlight_onZ (l := X.env :: X.outer) ⟨s2, c2, f2, t2⟩ fun h3 hh3 up3 => ?_)
  refine wpAny_throw (tk _ _ ?_)
  refine ⟨a, B2, { s' with heap := G }, pins, σ, H', cls, d, rfl, J, nb, fun b o e hnf => ?_, .inr (.inr (by rw [hs]; exact hh3)), na, rfl, ag, hE⟩
  obtain ⟨e1, e2, _⟩ := og b o e
  obtain ⟨sl, q⟩ := up b o e1 hnf
  have q2 : h2.get? b = some { o with slots := sl } := (hs2.2 b e2).trans q
  obtain ⟨sl3, q3⟩ := up3 b { o with slots := sl } q2 hnf
  exact ⟨sl3, q3⟩
end

section
variable {X : Cx} {E : XK}
theorem pe_lcX {elt tg iter : Expr} {ifs : List Expr} {scope : Scope} {own : List (Str × Nat)} {pos : Pos} {wi : TI} {g : TG} {tt : TT} {te : TE}
    (hst : X.stack = X.env :: X.outer) (hf : X.env.frame = some X.env.locals) (tk : Takes X (fun cls d _ H => E cls d H))
    (hc : X.calm = true) (hN : X.N.Nodup) (hi : PI X tg iter wi) (ok : BlkOk X.N X.env.scope scope own)
    (hg : ∀ (s : Shared) (H : Hp) (C : Addr) (cl : List (Str × Addr)) (fp : List Addr), PG (X.blk s H scope (compEnvC scope cl C X.env) fp) tg g)
    (ht : ∀ (s : Shared) (H : Hp) (C : Addr) (cl : List (Str × Addr)) (fp : List Addr), PTs (X.blk s H scope (compEnvC scope cl C X.env) fp) ifs tt)
    (he : ∀ (s : Shared) (H : Hp) (C : Addr) (cl : List (Str × Addr)) (fp : List Addr) (xe : Value → Shared → Prop),
      Passes (L2.CX X.prog X.w) ((X.blk s H scope (compEnvC scope cl C X.env) fp).wish xe) E → PE ((X.blk s H scope (compEnvC scope cl C X.env) fp).wish xe) elt te)
    (hs : ∀ x, foldedSetIterable iter X.env x = pure x := by intro _; rfl) :
    PE X (.ListComp elt [⟨tg, iter, ifs, 0⟩] scope pos) (tLc wi g tt te (own.map (·.2))) := by
  refine ⟨fun pins s σ H Q I h => ?_⟩
  rw [eval_ListComp]
  have hfree : ∀ y ∈ scope.names, y.2 = .free → ∃ c, X.env.cells.lookup y.1 = some c := fun y hy e => by
    rcases ok.free y hy e with k | k
    · exact I.ok.has _ (.inl k)
    · exact I.ok.has _ (.inr k)
  refine comprehension_at (use := none) rfl hs (closure_ok hfree) ok.kind (fun y hy e => by rw [ok.uniq y hy, e])
    (thn (hi.run pins s σ H _ I h) fun xv s1 hx => thn hx fun itv s2 h2 => ?_)
  obtain ⟨it, fp, tn, J, H2, e, I2, T, st2, f2, q⟩ := h2
  subst e
  refine wpAny_newObj_type (newEnv_comp ?_) (by show 0 ≤ sizeLine; decide)
  generalize hD : s2.heap.objs.size = D
  have hDn : H2 D = none := I2.hok.fresh (Nat.le_of_eq hD)
  obtain ⟨W, ⟨m0, w0⟩, turn⟩ := q D hDn
  generalize hs3 : ({ s2 with heap := s2.heap.push { cls := .type "list", data := .seq ([] : List Value).toArray } } : Shared) = s3
  have I3 : Inv X pins σ (upd H2 D (.lst [])) s3 := by
    rw [← hs3]
    refine I2.laid (t' := s2.toks) (fun b o e => Heap.get?_push_of_some _ e) (Nat.le_of_eq hD) ⟨Nat.zero_le _, [], 0, .nil, ?_⟩
    rw [← hD]
    exact Heap.get?_push_size _ rfl
  have h3 : s3.heap = s2.heap.push { cls := .type "list", data := .seq ([] : List Value).toArray } := by rw [← hs3]
  have sz : ∀ b ∈ fp, b < s2.heap.objs.size := fun b hb => by
    obtain ⟨o, e, _⟩ := T.obj _ _ st2 b hb
    exact Heap.lt_size e
  have f3 : ∀ b ∈ fp, FpOk X pins (upd H2 D (.lst [])) b ∧ b < s3.heap.objs.size := fun b hb => by
    have hlt := sz b hb
    refine ⟨⟨?_, (f2 b hb).2⟩, by rw [h3, Heap.size_push]; exact Nat.lt_succ_of_lt hlt⟩
    rw [upd_ne (by rw [← hD]; exact Nat.ne_of_lt hlt)]
    exact (f2 b hb).1
  have st3 : tn 0 s3.heap := T.keep _ _ _ st2 fun b _ o e => by rw [h3]; exact Heap.get?_push_of_some _ e
  have I4 := block_start I3 ok hN f3
  have pg := hg s3 (upd H2 D (.lst [])) s3.heap.objs.size (cellsFrom (s3.heap.objs.size + 1) scope.names (cloFrom X.env.cells scope.names [])) fp
  have pt := ht s3 (upd H2 D (.lst [])) s3.heap.objs.size (cellsFrom (s3.heap.objs.size + 1) scope.names (cloFrom X.env.cells scope.names [])) fp
  have pe := he s3 (upd H2 D (.lst [])) s3.heap.objs.size (cellsFrom (s3.heap.objs.size + 1) scope.names (cloFrom X.env.cells scope.names [])) fp _
    (blk_passes (scope := scope) (ce := compEnvC scope (cellsFrom (s3.heap.objs.size + 1) scope.names (cloFrom X.env.cells scope.names [])) s3.heap.objs.size X.env) hst hf tk I3 f3 rfl rfl)
  show codeAny _ _ (.compStart (.ListComp elt [⟨tg, iter, ifs, 0⟩] scope pos) 0 (.ref it) (.ref D) (compEnvC scope (cellsFrom (s3.heap.objs.size + 1) scope.names (cloFrom X.env.cells scope.names [])) s3.heap.objs.size X.env))
    (compEnds (model X.prog X.w) X.A X.xe none (EP X pins σ Q) (.ref D) (compEnvC scope (cellsFrom (s3.heap.objs.size + 1) scope.names (cloFrom X.env.cells scope.names [])) s3.heap.objs.size X.env))
    { s3 with heap := pushCells (s3.heap.push { cls := .type "dict", data := .dict #[] }) scope.names }
  have nfp : ∀ b ∈ fp, (upd H2 D (.lst [])) b = none := fun b hb => (f3 b hb).1.1
  generalize hce : compEnvC scope (cellsFrom (s3.heap.objs.size + 1) scope.names (cloFrom X.env.cells scope.names [])) s3.heap.objs.size X.env = ce at I4 pg pt pe ⊢
  have cL : ce.locals = s3.heap.objs.size := by subst hce; rfl
  generalize hH3 : upd H2 D (.lst []) = H3 at I3 I4 pg pt pe w0 nfp f3
  generalize hs4 : ({ s3 with heap := pushCells (s3.heap.push { cls := .type "dict", data := .dict #[] }) scope.names } : Shared) = s4 at I4 ⊢
  have st4 : tn 0 s4.heap := T.keep _ _ _ st3 fun b _ o e => by rw [← hs4]; exact pushCells_keeps _ _ _ _ (Heap.get?_push_of_some _ e)
  have stat : ∀ {σ' : L2.St} {H' : Hp} {s' : Shared}, Inv (X.blk s3 H3 scope ce fp) [] σ' H' s' → (∀ b ∈ fp, H' b = none) → ∀ b ∈ fp, FpOk (X.blk s3 H3 scope ce fp) [] H' b := fun {σ' H' s'} I' hn b hb =>
    ⟨hn b hb, (I'.ok.exf b hb).1, I'.ok.exfs b hb, .inl hb, fun x c e => (I'.ok.exf b hb).2 x c e, fun p hp => absurd (show p ∈ ([] : List (Addr × Obj)) ++ [] from hp) (by simp)⟩
  have loop : codeAny (model X.prog X.w) X.A (.compLoop (.ListComp elt [⟨tg, iter, ifs, 0⟩] scope pos) 0 (.ref it) (.ref D) ce) (compEnds (model X.prog X.w) X.A X.xe none (EP X pins σ Q) (.ref D) ce) s4 := by
    refine compLoop_any (fun n s' => ∃ i H', Inv (X.blk s3 H3 scope ce fp) [] (wipe σ (own.map (·.2))) H' s' ∧ tn i s'.heap ∧ (∀ b ∈ fp, H' b = none) ∧ W i n H') ?_ m0 ⟨0, H3, I4, st4, nfp, w0⟩
    rintro n s5 ⟨i, H5, I5, st5, n5, w5⟩
    rcases turn i n H5 w5 with ⟨stop, qq⟩ | ⟨go, Nx, hNx, step⟩
    · have td := T.done (X.blk s3 H3 scope ce fp) rfl rfl rfl hc i [] s5 _ H5 (fun _ _ => False) I5 (stat I5 n5) st5 stop
      refine thnF td fun r s6 ⟨hr, I6⟩ => ?_
      subst hr
      have I7 : Inv X pins σ H5 s6 := I3.call' (ch := fp) I6.os I6.base I6.hok I6.bare fun b hb => ⟨(f3 b hb).1.2.2.2.1, (f3 b hb).1.2.1, (f3 b hb).1.2.2.2.2.1, (f3 b hb).1.2.2.2.2.2⟩
      have nC : H5 s3.heap.objs.size = none := by
        have z : H5 ce.locals = none := I6.free
        rw [cL] at z
        exact z
      obtain ⟨m, hn, _⟩ := I6.loc
      have hn : s6.heap.Ns ce.locals m := hn
      obtain ⟨f0, f1, f2', f3', f4, f5⟩ := I3.fpOk (Nat.le_refl _) nC
      refine ⟨m, hn, fun h'' sb => ?_⟩
      rw [cL] at sb
      exact ⟨.ref D, H5, I7.turned (t' := s6.toks) (fun b o hb e => (sb.2 b hb).trans e) f0 f1 f3' f4 f5, rfl, qq⟩
    · have ti := T.item (X.blk s3 H3 scope ce fp) rfl rfl rfl hc i [] s5 _ H5 (fun _ _ => False) I5 (stat I5 n5) st5 go
      refine thnF ti fun r s6 ⟨u, hr, h6⟩ => ?_
      subst hr
      refine thnF h6 fun _ s7 ⟨x, H7, I7, r7, y7, st7, n7⟩ => ?_
      have I7' := I7.pinned (stat I7 n7) (T.obj _ _ st7)
      refine thnF (pg.run _ s7 _ H7 x u _ I7' r7 (step x H7 y7)) fun _ s8 ⟨σ8, H8, I8, hw8, q8⟩ => ?_
      refine thnF (pt.run _ s8 σ8 H8 _ I8 q8) fun b s9 ⟨H9, I9, q9⟩ => ?_
      have fin : ∀ {s' : Shared} {H' : Hp}, Inv (X.blk s3 H3 scope ce fp) ([] ++ pinsAt fp s7.heap) σ8 H' s' → Nx H' → ∃ m, m < n ∧ ∃ i H', Inv (X.blk s3 H3 scope ce fp) [] (wipe σ (own.map (·.2))) H' s' ∧ tn i s'.heap ∧ (∀ b ∈ fp, H' b = none) ∧ W i m H' := fun {s' H'} I' nx => by
        obtain ⟨m', hm, w'⟩ := hNx H' nx
        have pin' : ∀ b ∈ fp, ∀ o, s7.heap.get? b = some o → s'.heap.get? b = some o ∧ H' b = none := fun b hb o e =>
          let z := I'.pin (b, o) (List.mem_append_right _ (List.mem_append_right _ (mem_pinsAt hb e)))
          ⟨z.1, z.2.1⟩
        have hl : (wipe σ (own.map (·.2))).length = σ8.length := by rw [← hw8, wipe_length]
        refine ⟨m', hm, i + 1, H', (I'.unpinned (pins := [])).weak hl (fun j v e => ?_), T.keep _ _ _ st7 fun b hb o e => (pin' b hb o e).1, fun b hb => ?_, w'⟩
        · rw [← hw8] at e
          exact (wipe_some e).1
        · obtain ⟨o, e, _⟩ := T.obj _ _ st7 b hb
          exact (pin' b hb o e).2
      cases b with
      | false =>
        simp only [Bool.false_eq_true, if_false] at q9 ⊢
        exact fin I9 q9
      | true =>
        simp only [if_true] at q9 ⊢
        refine thn (pe.run _ s9 σ8 H9 _ (I9.wish _) q9) fun z s10 ⟨yv, H10, I10, r10, acc, hD10, hz10, nx⟩ => ?_
        exact app_ok (X := X.blk s3 H3 scope ce fp) I10.unwish hD10 hz10 r10 fun s11 I11 => fin I11 nx
  exact codeAny_compStart_list loop (T.self X.A 0 _ _ _ st4 loop)
end
end LfR
set_option Elab.async false
set_option linter.all false
set_option maxRecDepth 100000
set_option maxHeartbeats 2000000
/-! try: body / except X as n: m = n, the caught exception kept and told of; isinstance of it. -/
namespace LfR
open PySem PySem.Spec PyProof.Rows L2

/-- a caught exception object of the class cls at a, its own dict d -/
def ExK (cls : Value) (d : Option Addr) (a : Addr) : HO := .ext fun h => ∃ (oe : Obj) (vs : Array Value), h.get? a = some oe ∧ Zc cls d oe ∧ oe.data = .fields vs

/-- what the clause 'except x as n: m = n' wishes: slot i is n's, slot j is m's -/
def wKeep (K : PySem.W.Frag) (c : Value) (i j : Nat) (D : Ends) : WX := fun cls d σ H =>
  PySem.W.exmOne K cls c = some true ∧ ∀ a, H a = none → D.nx ((σ.set j (some (.ref a))).set i none) (upd H a (ExK cls d a))

section
variable {X : Cx} {x n m : Str} {c : Value} {i j : Nat} {body : List Stmt} {np mp np2 sp pos pos' : Pos} {tb : WX → TS}
theorem ps_try_keep (hs : X.stack = X.env :: X.outer) (hf : X.env.frame = some X.env.locals) (hex : X.ex = []) (hN : X.N.Nodup) (hi : X.N[i]? = some n) (hln : X.env.kindOf n = some .local) (hj : X.N[j]? = some m) (hlm : X.env.kindOf m = some .local) (hij : i ≠ j)
    (hc : Names X x c) (hfn : X.fn n = true)
    (hdn : (n == ("__debug__" : Str)) = false) (hcd : (n == ("__classdict__" : Str)) = false)
    (hb : ∀ (W : WX) (pn : List (Addr × Obj)) (xe : Value → Shared → Prop), Takes (X.tr pn xe) W → PassesOwn (model X.prog X.w) X.A X.env xe → PSs (X.tr pn xe) body (tb W))
    (hsw : ∀ a pn, swapsWith (.Name n np2) (some (.Name m mp)) sp.line (X.suite a pn).env = pure false := by intro _ _; rfl) :
    PS X (.Try body [.ExceptHandler (some (.Name x np)) (some n) [.Assign [.Name m mp] (.Name n np2) sp] pos'] [] [] pos) (fun D σ H => i < σ.length ∧ tb (wKeep X.K c i j D) D σ H) := by
  refine ⟨fun pins s σ H D I h => ?_⟩
  obtain ⟨hiσ, h⟩ := h
  have ok := I.ok
  have hfr : X.A.frames = some (X.env :: X.outer) := by rw [ok.frames, hs]
  have hloc : Loc X.env.scope n := .inl hln
  have hlocm : Loc X.env.scope m := .inl hlm
  refine wpAny_Try_except ?_
  refine wpAny_mono ((hb (wKeep X.K c i j D) (X.pn ++ pins) (fun e s₁ => wpAny (model X.prog X.w) X.A (noteFrame e X.env) (fun _ s₂ => wpAny (model X.prog X.w) X.A (setFlight e none) (fun _ s₃ =>
    wpAny (model X.prog X.w) X.A (handleBy e X.env [.ExceptHandler (some (.Name x np)) (some n) [.Assign [.Name m mp] (.Name n np2) sp] pos']) (SP X pins D) X.xe s₃) X.xe s₂) X.xe s₁) (fun u s' xx => ?_) PassesOwn.looking).run [] s σ H D (I.toTry _) h) (fun f s1 hsp => ?_) (fun e s1 he => he)
  · -- the catch
    obtain ⟨a, B, sI, pins', σ', H', cls, d, rfl, J', nb, up, sky, na, os, ag, hb1, hyes⟩ := xx
    have J : Inv X pins σ' H' sI := J'.ofTry ok
    have sky' : Sky B (X.env :: X.outer) a (Zc cls d) X.env.locals s'.heap := by rw [← hs]; exact sky
    have Ba : B.get? a = none := by
      rcases sky with ⟨_, z, _⟩ | ⟨_, z, _⟩ | ⟨_, z, _⟩ <;> exact z
    show wpAny (model X.prog X.w) X.A (noteFrame (.ref a) X.env) _ _ _
    refine Sky.land Zc.steady hfr hf sky' fun h3 fl3 up3 => ?_
    have J3 : Inv X pins σ' H' { s' with heap := h3 } := J.landed nb fl3.1 (up.trans up3) os ag
    obtain ⟨oe3, vs3, he3, hz3, hd3⟩ := fl3.there
    have notFr : ∀ {h : Heap} {o : Obj} {vs : Array Value}, h.FunFrames B (X.env :: X.outer) → h.get? a = some o → o.data = .fields vs → a ∉ frs (X.env :: X.outer) := fun {h o vs} ff e dd hm => by
      obtain ⟨_, o', e', hnf⟩ := ff.mem hm
      rw [e] at e'; cases e'
      exact hnf _ dd
    have nfr := notFr fl3.2.2.1 he3 hd3
    have nL : a ≠ X.env.locals := fun z => nfr (List.mem_filterMap.mpr ⟨X.env, List.mem_cons_self, by rw [hf, z]⟩)
    have nF : a ∉ X.fs := fun hm => by
      obtain ⟨e, he, q⟩ := List.mem_filterMap.mp hm
      exact nfr (List.mem_filterMap.mpr ⟨e, List.mem_cons_of_mem _ he, q⟩)
    -- the exception is new since the entry and since the state below it
    have sIa : sI.heap.get? a = none := by
      cases e : sI.heap.get? a with
      | none => rfl
      | some o =>
        have z := nb a o e (by rw [hs]; exact nfr)
        rw [Ba] at z
        cases z
    have s0a : X.s_0.heap.get? a = none := by
      cases e : X.s_0.heap.get? a with
      | none => rfl
      | some o =>
        obtain ⟨o', z⟩ := J.base.there a o e (by rw [hex]; exact fun z => nomatch z)
        rw [sIa] at z
        cases z
    have S3 := J3.suite he3 hd3 na nL nF
    refine wpAny_handleBy_cons (codeAny_handlers_test ?_) (by intro q; cases q)
    have LT : PySem.W.Looks (model X.prog X.w) h3 (typeOf (.ref a)) cls := fun A Q E s k q => wpAny_typeOf_ref (k _ _ he3) (by rw [hz3.1]; exact q)
    have LM := PySem.W.exm_one (M := model X.prog X.w) (J3.kIn) LT hb1
    have test : ∀ {Q : Value → Shared → Prop} {E : Value → Shared → Prop}, Q c { s' with heap := h3 } → wpAny (model X.prog X.w) (X.A.mark (some (.ref a))) (eval (.Name x np) X.env) Q E { s' with heap := h3 } := fun {Q E} q => by
      obtain ⟨hg, hdbg, hm | ⟨hm, hv, hnn⟩⟩ := hc
      · exact ld_glob (X := X.suite a ((a, oe3) :: (X.pn ++ pins))) S3 hg hm q hdbg
      · exact ld_blt (X := X.suite a ((a, oe3) :: (X.pn ++ pins))) S3 hg hm hv q hnn hdbg
    refine test (LM.here ?_)
    refine codeAny_handlers_suite_as ?_
    refine HandSPX.lands_againZ fl3 fun h4 fl4 up4 => ?_
    have J4 : Inv X pins σ' H' { s' with heap := h4 } := J.landed nb fl4.1 ((up.trans up3).trans up4) os ag
    obtain ⟨oe4, vs4, he4, hz4, hd4⟩ := fl4.there
    have S4 := J4.suite he4 hd4 na nL nF
    refine store_ok (X := X.suite a ((a, oe4) :: (X.pn ++ pins))) (v := .ref a) S4 hN hi hloc rfl (fun s5 S5 => ?_) (.inr hln)
    have hps : PSs (X.suite a ((a, oe4) :: (X.pn ++ pins))) [.Assign [.Name m mp] (.Name n np2) sp] (tAsg (tVar i) (gName j)) :=
      pss_one (ps_set (i := j) hN hj hlocm (pe_var (i := i) hi (.inl hln) hdn hcd) (hsw _ _) (.inr hlm))
    have hlen : σ'.length = X.N.length := J.len
    have hiσ' : i < σ'.length := by rw [hlen]; exact (List.getElem?_eq_some_iff.mp hi).1
    refine wpAny_mono (hps.run [] s5 _ H' { nx := fun σ6 H6 => σ6 = (σ'.set i (some (.ref a))).set j (some (.ref a)) ∧ H6 = H', rt := fun _ _ => False } S5 ⟨.ref a, by rw [List.getElem?_set_self hiσ'], rfl, rfl⟩) (fun f s6 hsp => ?_) (fun _ _ z => False.elim z)
    cases f with
    | next =>
      obtain ⟨σ6, H6, S6, e6, e7⟩ := hsp
      subst e7
      refine gone_ok (X := X.suite a ((a, oe4) :: (X.pn ++ pins))) S6 hN hi hln fun s7 S7 => ?_
      have hp := S7.pin (a, oe4) (List.mem_append_left _ List.mem_cons_self)
      have J7 : Inv X pins (σ6.set i none) H6 s7 := S7.unsuite ok
      have he7 : s7.heap.get? a = some oe4 := hp.1
      have eσ : σ6.set i none = (σ'.set j (some (.ref a))).set i none := by
        rw [e6, List.set_comm _ _ hij.symm, List.set_set, List.set_comm _ _ hij]
      refine ⟨_, _, ?_, hyes a na⟩
      rw [eσ] at J7
      -- the exception is told of
      have nb0 : ∀ b o, X.s_0.heap.get? b = some o → b ≠ a := fun b o e z => by rw [z, s0a] at e; cases e
      refine ⟨J7.ok, J7.os, J7.bare, ⟨J7.base.keep, J7.base.slot, fun b o e n hx => by rw [upd_ne (nb0 b o e)]; exact J7.base.free b o e n hx, J7.base.there, fun b xs e => ?_, fun b o u e => ?_, fun b ps e => ?_⟩, J7.loc, J7.cell, ?_, fun y c' e => ?_, fun p hp' => ?_, fun b u e => ?_, J7.len⟩
      · have q := J7.base.tups b xs e
        rw [upd_ne (ne_of_none q na)]
        exact q
      · have q := J7.base.frzs b o u e
        rw [upd_ne (ne_of_none q na)]
        exact q
      · obtain ⟨more, q⟩ := J7.base.tbls b ps e
        exact ⟨more, by rw [upd_ne (ne_of_none q na)]; exact q⟩
      · rw [upd_ne nL.symm]
        exact J7.free
      · have hca : c' ≠ a := fun z => by
          obtain ⟨v, o, ho, hdc⟩ := J7.cell y c' e
          rw [z, he7] at ho
          cases ho
          rw [hd4] at hdc
          cases hdc
        rw [upd_ne hca]
        exact J7.freeC y c' e
      · obtain ⟨q1, q2, q3, q4, q5⟩ := J7.pin p hp'
        have hpa : p.1 ≠ a := fun z => by
          have w := (J.pin p hp').1
          rw [z, sIa] at w
          cases w
        exact ⟨q1, by rw [upd_ne hpa]; exact q2, q3, q4, q5⟩
      · by_cases hb : b = a
        · subst hb
          rw [upd_same] at e
          cases e
          exact ⟨⟨oe4, vs4, he7, hz4, hd4⟩, ⟨oe4, he7⟩, fun _ _ ⟨o, v, q, r⟩ k => ⟨o, v, k o q, r⟩⟩
        · rw [upd_ne hb] at e
          exact (J7.hok b u e).stay (fun c v _ q => q) (fun c q => by rw [upd_ne (ne_of_none q na)]; exact q) fun c xs q => by rw [upd_ne (ne_of_none q na)]; exact q
    | brk =>
      obtain ⟨_, _, _, z⟩ := hsp
      exact False.elim z
    | cont =>
      obtain ⟨_, _, _, z⟩ := hsp
      exact False.elim z
    | ret u =>
      obtain ⟨_, _, _, _, _, z⟩ := hsp
      exact False.elim z
  · cases f with
    | next =>
      obtain ⟨σ', H', J', q⟩ := hsp
      exact wpAny_execs_nil ⟨σ', H', J'.ofTry ok, q⟩
    | brk =>
      obtain ⟨σ', H', J', q⟩ := hsp
      exact ⟨σ', H', J'.ofTry ok, q⟩
    | cont =>
      obtain ⟨σ', H', J', q⟩ := hsp
      exact ⟨σ', H', J'.ofTry ok, q⟩
    | ret u =>
      obtain ⟨v, σ', H', J', r, q⟩ := hsp
      exact ⟨v, σ', H', J'.ofTry ok, r, q⟩
end

/-! ### isinstance of a kept exception -/
section
variable {X : Cx} {D : Addr}
theorem exk_inst {pins : List (Addr × Obj)} {σ : L2.St} {H : Hp} {s : Shared} {a : Addr} (I : Inv X pins σ H s) (ha : H a = some (ExK (.ref D) none a)) : ∃ oe, PySem.W.InstAt s.heap a oe D none := by
  obtain ⟨⟨oe, vs, hget, hz, hv⟩, _, _⟩ := I.hok a _ ha
  obtain ⟨oc, od, oda, osl⟩ := oe
  obtain ⟨h1, h2⟩ := hz
  dsimp only at h1 h2 hv
  subst h1 h2 hv
  exact ⟨_, hget, rfl, rfl, trivial⟩
/-- isinstance(e, c) -/
def rIsK (K : PySem.W.Frag) : List V → Hp → VK → Prop := fun xs H Q => ∃ (a D : Addr) (c : V) (cv : Value) (b : Bool), xs = [.ref a, c] ∧ H a = some (ExK (.ref D) none a) ∧ ExcC K D ∧ ClsV c cv ∧ PySem.W.kitOne K (.ref D) cv = some b ∧ Q (.bl b) H
/-- isinstance(e, (c1, c2, ..)) -/
def rIsKT (K : PySem.W.Frag) : List V → Hp → VK → Prop := fun xs H Q => ∃ (a D tp : Addr) (cs : List V) (us : List Value) (b : Bool), xs = [.ref a, .ref tp] ∧ H a = some (ExK (.ref D) none a) ∧ ExcC K D ∧ H tp = some (.tup cs) ∧ Paired ClsV cs us ∧ PySem.W.kitAny K (.ref D) us = some b ∧ Q (.bl b) H
theorem call_isK : CallR X (.builtin "isinstance") (rIsK X.K) := by
  intro pins s σ H xs us Q I r h
  obtain ⟨a, D, c, cv, b, rfl, ha, C, k, e, q⟩ := h
  obtain ⟨u1, u2, rfl, r1, r2⟩ := vals2 r
  cases r1
  have e2 := k.eq r2
  subst e2
  obtain ⟨oe, J⟩ := exk_inst I ha
  exact PySem.W.kia_one (PySem.W.handS_kitx_exc C.hg C.hk C.hs C.hd C.ha C.hn C.ht C.hm) I.kIn J e (fun z => nomatch z) fun tk => ⟨.bl b, H, I.tok tk, rfl, q⟩
theorem call_isKT : CallR X (.builtin "isinstance") (rIsKT X.K) := by
  intro pins s σ H xs us Q I r h
  obtain ⟨a, D, tp, cs, ws, b, rfl, ha, C, hT, k, e, q⟩ := h
  obtain ⟨u1, u2, rfl, r1, r2⟩ := vals2 r
  cases r1
  cases (show u2 = Value.ref tp from r2)
  obtain ⟨oe, J⟩ := exk_inst I ha
  obtain ⟨_, its, rv, o, h1, h2, n, h3⟩ := (show ObjOk X.prog X.w H s.heap tp (.tup cs) from I.hok tp _ hT)
  have e3 := ClsV.all k rv
  subst e3
  obtain ⟨oc, od, dt, sl⟩ := o
  simp only at h2 h3
  subst h2 h3
  exact PySem.W.kia_tup (PySem.W.handS_kitx_exc C.hg C.hk C.hs C.hd C.ha C.hn C.ht C.hm) I.kIn J h1 e (fun z => nomatch z) fun tk => ⟨.bl b, H, I.tok tk, rfl, q⟩
end
end LfR
set_option Elab.async false
set_option linter.all false
set_option maxRecDepth 100000
set_option maxHeartbeats 2000000
/-! Small rules beside the layer's. -/
namespace LfR
open PySem PySem.Spec PyProof.Rows L2

/-! ### never reached -/
def tNo : TE := fun _ _ _ => False
theorem pe_no {X : Cx} {e : Expr} : PE X e tNo := ⟨fun _ _ _ _ _ _ h => h.elim⟩
def ttNo : TT := fun _ _ _ => False
theorem pt_no {X : Cx} {e : Expr} : PT X e ttNo := ⟨fun _ _ _ _ _ _ h => h.elim⟩
theorem pw_no {X : Cx} {e : Expr} : PW X e ttNo := ⟨fun _ _ _ _ _ _ _ h => h.elim⟩
theorem pa_no {X : Cx} {es : List Expr} : PA X es (fun _ _ _ => False) := ⟨fun _ _ _ _ _ _ _ h => h.elim⟩

/-! ### great products -/
def CMulB (i j : Int) : Prop := Builtin.Int.intBits i ≤ 4194304 ∧ Builtin.Int.intBits j ≤ 4194304
theorem CMulB.ok {i j : Int} (h : CMulB i j) : IntMulOk i j := by
  obtain ⟨h1, h2⟩ := h
  have e : bitsLine = 134217728 := by decide
  unfold IntMulOk
  intro z
  rw [Bool.and_eq_true] at z
  have z2 := z.2
  unfold Builtin.Int.intTooBig at z2
  have z3 := of_decide_eq_true z2
  rw [e] at z3
  omega
section
variable {X : Cx}
theorem op_mulB : OpR X (binaryOp .Mult) (rI CMulB fun i j => .int (i * j)) := opI fun _ _ _ _ _ _ _ hc q => mul_int q hc.ok
end

/-! ### an instance of a class without __init__ -/
structure Mk0 (K : PySem.W.Frag) (C : Addr) : Prop where
  makes : PySem.W.makesIn K C = true
  init : PySem.W.findIn K (.ref C) "__init__" = some (some (.builtin "object.__init__"))
  kp : PySem.W.keepIn K (.ref C) = true
def tMake0 (C : Addr) : TE := fun _ H Q => ∀ x dx, H x = none → H dx = none → dx ≠ x → Q (.ref x) (upd (upd H dx (.own x)) x (.ins C dx []))
theorem make0_code {P : Program} {w : World} {A : Around} {R : Result → Shared → Prop} {s : Shared} {K : PySem.W.Frag} {C : Addr} (X : K.In s.heap) (M : Mk0 K C)
    (h : R (.ok (.ret (.ref (s.heap.objs.size + 1)))) { s with heap := (s.heap.push PySem.W.emptyDict).push (PySem.W.instObj C s.heap.objs.size) }) :
    codeAny (model P w) A (.call (.ref C) ⟨[], []⟩) R s := by
  have Y := PySem.W.makes_of (M := model P w) X M.makes
  refine L2.make_map0 X M.makes M.init (fun self => PySem.W.Looks.of_pure (PySem.W.oi_bind self)) ?_
  obtain ⟨hh, g, d, t, os⟩ := s
  have e2 : ((hh.push PySem.W.emptyDict).push (PySem.W.instObj C hh.objs.size)).get? (hh.objs.size + 1) = some (PySem.W.instObj C hh.objs.size) := by
    have := Heap.get?_push_size (hh.push PySem.W.emptyDict) (o := PySem.W.instObj C hh.objs.size) rfl
    rwa [Heap.size_push] at this
  have t1 : PySem.W.Looks (model P w) ((hh.push PySem.W.emptyDict).push (PySem.W.instObj C hh.objs.size)) (typeOf (.ref (hh.objs.size + 1))) (.ref C) := (PySem.W.Looks.ld e2).andThen .now
  have t2 : PySem.W.Looks (model P w) ((hh.push PySem.W.emptyDict).push (PySem.W.instObj C hh.objs.size)) (isInstance (.ref (hh.objs.size + 1)) (.type "object")) true := t1.andThen (Y.top.keeps fun b o e => Heap.get?_push_of_some _ (Heap.get?_push_of_some _ e))
  refine codeAny_call_builtin PySem.W.oi_plain PySem.W.entry_oi (@PySem.W.check_slot (model P w) _ _ _ "object.__init__" "object" "__init__" (.ref (hh.objs.size + 1)) [] [] _ PySem.W.oi_kind PySem.W.oi_split t2 (PySem.W.oi_args (.ref (hh.objs.size + 1))) ?_)
  rw [PySem.W.oi_run]
  exact wpAny_pure (And.intro rfl h)
section
variable {X : Cx} {x : Str} {p pos : Pos} {C : Addr}
theorem pe_makeN (M : Mk0 X.K C) (hg : Gl X x) (hm : X.mg x = some (.ref C)) (hdb : (x == ("__debug__" : Str)) = false := by decide) : PE X (.Call (.Name x p) [] [] pos) (tMake0 C) := by
  refine ⟨fun pins s σ H Q I h => ?_⟩
  refine wpAny_Call_Name_kw (ld_glob I hg hm ?_ hdb)
  refine PySem.W.callWith_K0 I.kIn M.kp (wpAny_call (make0_code I.kIn M ?_))
  have hq := h (s.heap.objs.size + 1) s.heap.objs.size (I.hok.fresh (Nat.le_succ _)) (I.hok.fresh (Nat.le_refl _)) (Nat.ne_of_lt (Nat.lt_succ_self _))
  exact ⟨V.ref (s.heap.objs.size + 1), _, Inv.made (C := C) I, rfl, hq⟩
end

/-! ### o.m(e, ..): the class of o is one of several -/
section
variable {X : Cx} {CX : CXT} {k : Nat} {ι : Type} {C f : ι → Addr} {fd : ι → FuncData} {ps : List Str} {sp : ι → Sp} {E : XK} {m : Str} {pos apos : Pos} {e o : Expr} {es : List Expr} {ta : TE} {t : TA}
def tMethF {ι : Type} (C : ι → Addr) (m : Str) (sp : ι → Sp) (E : XK) (ta : TE) (t : TA) : TE := fun σ H Q => ta σ H fun x H1 => ∃ a dx fs i, x = .ref a ∧ H1 a = some (.ins (C i) dx fs) ∧ fs.lookup m = none ∧
  t σ H1 fun vs H2 => sp i (x :: vs) H2 Q E
theorem pe_methF {pl : Sem Bool} (he : PE X o ta) (c : ∀ i, Cls X.K (C i)) (hm : ∀ i, Meth X.K (C i) m (f i)) (F : ∀ i, FnOk X.prog X.w X.K X.mg X.base CX k (f i) (fd i) ps (sp i)) (hr : Room k X.A) (hb : ∀ i, Binds X.K (fd i) ps []) (hx : Passes CX X E) (ha : PA X (e :: es) t)
    (hst : starEach (e :: es) X.env = (false, eval e X.env) :: starEach es X.env := by rfl) (hpl : (backTo pos (starEach es X.env)).any (·.1) = false := by rfl)
    (ht : eval (.Call (.Attribute o m apos) (e :: es) [] pos) X.env = (do
      let ov ← eval o X.env
      standAt apos.atName
      let (f, first) ← holding [ov] (getMethod ov m pl)
      callWith pos f first (backTo pos (starEach (e :: es) X.env)) (backToKw pos (keywordEach [] X.env))) := by rfl) :
    PE X (.Call (.Attribute o m apos) (e :: es) [] pos) (tMethF C m sp E ta t) := by
  refine ⟨fun pins s σ H Q I h => ?_⟩
  refine PySem.W.methodCall_KW (pl := pl) (thn (he.run pins s σ H _ I h) fun u s1 ⟨x, H1, I1, rx, a, dx, fs, i, ex, ea, l, q⟩ => ?_) ht
  subst ex
  obtain rfl : u = Value.ref a := rx
  refine getmeth_ok I1 ea (c i) (hm i) l ?_
  refine PySem.W.callWith_K (first := [.ref a]) (h₀ := X.base) I.ok.mod.kin (hm i).kp (thn (ha.run pos pins s1 σ H1 _ I1 q) fun us s2 ⟨vs, H2, I2, r, q2⟩ => ⟨I2.kIn, ?_⟩) hst hpl
  exact run_fn (dvs := []) (ds := []) (us := .ref a :: us) (vs := .ref a :: vs) (F i) hr (hb i) .nil hx I2 (.cons rfl r) (by rw [List.append_nil]; exact q2)
theorem pe_methF0 {pl : Sem Bool} (he : PE X o ta) (c : ∀ i, Cls X.K (C i)) (hm : ∀ i, Meth X.K (C i) m (f i)) (F : ∀ i, FnOk X.prog X.w X.K X.mg X.base CX k (f i) (fd i) ps (sp i)) (hr : Room k X.A) (hb : ∀ i, Binds X.K (fd i) ps []) (hx : Passes CX X E)
    (ht : eval (.Call (.Attribute o m apos) [] [] pos) X.env = (do
      let ov ← eval o X.env
      standAt apos.atName
      let (f, first) ← holding [ov] (getMethod ov m pl)
      callWith pos f first (backTo pos (starEach [] X.env)) (backToKw pos (keywordEach [] X.env))) := by rfl) :
    PE X (.Call (.Attribute o m apos) [] [] pos) (tMethF C m sp E ta tNil) := by
  refine ⟨fun pins s σ H Q I h => ?_⟩
  refine PySem.W.methodCall_KW (pl := pl) (thn (he.run pins s σ H _ I h) fun u s1 ⟨x, H1, I1, rx, a, dx, fs, i, ex, ea, l, q⟩ => ?_) ht
  subst ex
  obtain rfl : u = Value.ref a := rx
  refine getmeth_ok I1 ea (c i) (hm i) l ?_
  exact PySem.W.callWith_K0 (first := [.ref a]) I1.kIn (hm i).kp (run_fn (dvs := []) (ds := []) (us := [.ref a]) (vs := [.ref a]) (F i) hr (hb i) .nil hx I1 (.cons rfl .nil) q)
end

/-! ### min, max of a list of ints with default= -/
section
variable {X : Cx}
theorem alikeAll_of (ns : List Int) : PySem.W.AlikeAll (ns.map PyData.int) := by
  refine ⟨fun x hx y hy => ?_, fun x hx z => ?_⟩
  · obtain ⟨a, _, rfl⟩ := List.mem_map.mp hx
    obtain ⟨b, _, rfl⟩ := List.mem_map.mp hy
    rfl
  · obtain ⟨a, _, rfl⟩ := List.mem_map.mp hx
    cases z
theorem depthAll_of : ∀ ns : List Int, PyData.depthAll (ns.map PyData.int) ≤ 1
  | [] => by show PyData.depthAll [] ≤ 1; simp [PyData.depthAll]
  | n :: r => by
    have ih := depthAll_of r
    show PyData.depthAll (PyData.int n :: r.map PyData.int) ≤ 1
    simp only [PyData.depthAll, PyData.depth]
    omega
def rMDef (K : PySem.W.Frag) : List V → List V → Hp → VK → Prop := fun vs zs H Q => ∃ (a : Addr) (ns : List Int) (d : Int), vs = [V.ref a] ∧ zs = [V.int d] ∧ SqL K H a (ns.map V.int) ∧ ∀ m, (ns = [] ∧ m = d) ∨ m ∈ ns → Q (.int m) H
theorem ints_item : ∀ {its : List Value} {ns : List Int}, IntsAre its ns → ∀ (i : Nat) (v : Value), its[i]? = some v → ∃ m t, m ∈ ns ∧ v = Value.int m t
  | _, _, .nil, i, v, h => by simp at h
  | _, _, .cons n t r, 0, v, h => by
    simp at h
    exact ⟨n, t, List.mem_cons_self, h.symm⟩
  | _, _, .cons n t r, i + 1, v, h => by
    obtain ⟨m, u, hm, e⟩ := ints_item r i v (by simpa using h)
    exact ⟨m, u, List.mem_cons_of_mem _ hm, e⟩
theorem mdef_item {ns : List Int} {its : List Value} (hi : IntsAre its ns) {i : Nat} {v : Value} (h : its.toArray[i]? = some v) : ∃ m t, m ∈ ns ∧ v = Value.int m t :=
  ints_item hi i v (by simpa using h)
theorem cr_minDef (hc : X.calm = true) (hu : X.A.units + 64 < cLine) : CallRK X (.builtin "min") [Str.ofString "default"] (rMDef X.K) := by
  intro pins s σ H vs zs us ws Q I r rz h
  obtain ⟨a, ns, d, rfl, rfl, hs, q⟩ := h
  obtain rfl := Vals.ref1 r
  obtain ⟨w1, rfl, t, rfl⟩ := vals1 rz
  obtain ⟨its, rv, hl, hz⟩ := I.list hs
  have hi : IntsAre its ns := rv.ints
  have hd := depthAll_of ns
  refine PySem.W.min_list_default (I.ok.hd hc) hl.isList (as := []) (xs := ns.map PyData.int) (hi.reads s.heap) (alikeAll_of ns) (by omega) (fun e h' tk k => ?_) (fun y ys i v h' tk bs e hv hR k => ?_)
  · exact ⟨.int d, H, I.kept (t' := tk) k, ⟨t, rfl⟩, q d (.inl ⟨by simpa using e, rfl⟩)⟩
  · obtain ⟨m, u, hm, rfl⟩ := mdef_item hi hv
    exact ⟨.int m, H, I.kept (t' := tk) k, ⟨u, rfl⟩, q m (.inr hm)⟩
theorem cr_maxDef (hc : X.calm = true) (hu : X.A.units + 64 < cLine) : CallRK X (.builtin "max") [Str.ofString "default"] (rMDef X.K) := by
  intro pins s σ H vs zs us ws Q I r rz h
  obtain ⟨a, ns, d, rfl, rfl, hs, q⟩ := h
  obtain rfl := Vals.ref1 r
  obtain ⟨w1, rfl, t, rfl⟩ := vals1 rz
  obtain ⟨its, rv, hl, hz⟩ := I.list hs
  have hi : IntsAre its ns := rv.ints
  have hd := depthAll_of ns
  refine PySem.W.max_list_default (I.ok.hd hc) hl.isList (as := []) (xs := ns.map PyData.int) (hi.reads s.heap) (alikeAll_of ns) (by omega) (fun e h' tk k => ?_) (fun y ys i v h' tk bs e hv hR k => ?_)
  · exact ⟨.int d, H, I.kept (t' := tk) k, ⟨t, rfl⟩, q d (.inl ⟨by simpa using e, rfl⟩)⟩
  · obtain ⟨m, u, hm, rfl⟩ := mdef_item hi hv
    exact ⟨.int m, H, I.kept (t' := tk) k, ⟨u, rfl⟩, q m (.inr hm)⟩
end

/-! ### xs[i] by values, for xs[i] op= e -/
section
variable {X : Cx}
def rGetL (K : PySem.W.Frag) : V → V → Hp → VK → Prop := fun x y H Q => ∃ (p : Addr) (xs : List V) (k : Nat) (v : V), x = .ref p ∧ y = .int (k : Nat) ∧ SqL K H p xs ∧ xs[k]? = some v ∧ Q v H
theorem get_list : PGet X (rGetL X.K) := by
  intro pins s σ H o i ov iv Q I ro ri h
  obtain ⟨p, xs, k, v, rfl, rfl, hq, hv, q⟩ := h
  cases ro
  obtain ⟨t, rfl⟩ := ri
  obtain ⟨its, r, pl, hz⟩ := I.list hq
  obtain ⟨w, ew, rw'⟩ := r.get hv
  have hk : k < xs.length := (List.getElem?_eq_some_iff.mp hv).1
  have hn := line63
  exact wpAny_getItem_list pl.isList (by omega) (by omega) (by simpa using ew) ⟨v, H, I, rw', q⟩
end
end LfR
set_option Elab.async false
set_option linter.all false
set_option maxRecDepth 100000
set_option maxHeartbeats 4000000
/-! The defs by their places, the facts that the head tells, what the walk reads of them. Printed by gen_txt.py. -/
namespace Lf
open PySem PySem.Spec PyProof.Rows L2 LfR
def top (i : Nat) : Stmt := PySem.Challenge.pw_leastfloor_k85_rows_refused.main.body.getD i (.Pass ⟨0, 0, 0, 0⟩)
abbrev FnP (K : PySem.W.Frag) (x qual : Str) (st : Stmt) (f : Addr) (fd : FuncData) : Prop := FunD K x qual (defArgs st) (defBody st) (defScope st) [] [] f fd
abbrev s_last_moment : Stmt := top 27
abbrev s_place_ahead : Stmt := top 28
abbrev s_joined : Stmt := top 29
abbrev s_ahead_of : Stmt := top 35
abbrev s_next_work : Stmt := top 44
abbrev s_next_come : Stmt := top 45
abbrev s_tail_plan : Stmt := top 46
abbrev s_done_at : Stmt := top 47
abbrev s_tail_end : Stmt := top 48
abbrev s_height_of : Stmt := top 52
abbrev s_levels : Stmt := top 53
abbrev s_tree_turns : Stmt := top 54
abbrev s_is_count : Stmt := top 73
abbrev s_kinds : Stmt := top 85
abbrev s_kind_of : Stmt := top 86
abbrev s_all_in : Stmt := top 90
abbrev s_is_word : Stmt := top 91
abbrev s_read_count : Stmt := top 92
abbrev s_read_number : Stmt := top 93
abbrev s_read_row : Stmt := top 94
abbrev s_read_rows : Stmt := top 95
abbrev s_shown_row : Stmt := top 96
abbrev s_shown_rows : Stmt := top 97
abbrev s_read_floor : Stmt := top 98
abbrev s_is_said : Stmt := top 100
abbrev s_law_mix : Stmt := top 105
abbrev s_law_cell_at : Stmt := top 106
abbrev s_law_names : Stmt := top 107
abbrev s_law_no_name : Stmt := top 108
abbrev s_law_rows_of_words : Stmt := top 109
abbrev s_law_rows_of_names : Stmt := top 110
abbrev s_law_rows_of_texts : Stmt := top 111
abbrev s_law_refused : Stmt := top 112
abbrev s_law : Stmt := top 113
abbrev s_Alike_word : Stmt := inClass (top 78) 0
abbrev s_Alike_fits : Stmt := inClass (top 78) 1
abbrev s_Open_word : Stmt := inClass (top 79) 0
abbrev s_Open_fits : Stmt := inClass (top 79) 1
abbrev s_Tails_word : Stmt := inClass (top 80) 0
abbrev s_Tails_fits : Stmt := inClass (top 80) 1
abbrev s_Tails_end : Stmt := inClass (top 80) 3
abbrev s_Windows_word : Stmt := inClass (top 81) 0
abbrev s_Windows_fits : Stmt := inClass (top 81) 1
abbrev s_Tree_word : Stmt := inClass (top 83) 0
abbrev s_Tree_fits : Stmt := inClass (top 83) 1
abbrev s_Tree_plan : Stmt := inClass (top 83) 5
abbrev s_Tree_end : Stmt := inClass (top 82) 3
abbrev s_Pairs_word : Stmt := inClass (top 84) 0
abbrev s_Pairs_fits : Stmt := inClass (top 84) 1
abbrev s_Desk_init : Stmt := inClass (top 103) 0
abbrev s_Desk_standing : Stmt := inClass (top 103) 1
abbrev s_Desk_late_floor : Stmt := inClass (top 103) 2
abbrev s_Desk_busy_at : Stmt := inClass (top 103) 3
abbrev s_Desk_answer : Stmt := inClass (top 103) 4
abbrev s_Desk_say : Stmt := inClass (top 103) 5
def ga (K : PySem.W.Frag) (x : Str) : Addr := He.ga K x
def ma (K : PySem.W.Frag) (c m : Str) : Addr := He.fAd K (c, some m)
def fnG : List He.DefD := [
  ⟨("last_moment", none), "last_moment", "last_moment", defArgs s_last_moment, defBody s_last_moment, defScope s_last_moment, [], []⟩,
  ⟨("place_ahead", none), "place_ahead", "place_ahead", defArgs s_place_ahead, defBody s_place_ahead, defScope s_place_ahead, [], []⟩,
  ⟨("joined", none), "joined", "joined", defArgs s_joined, defBody s_joined, defScope s_joined, [], []⟩,
  ⟨("ahead_of", none), "ahead_of", "ahead_of", defArgs s_ahead_of, defBody s_ahead_of, defScope s_ahead_of, [], []⟩,
  ⟨("next_work", none), "next_work", "next_work", defArgs s_next_work, defBody s_next_work, defScope s_next_work, [], []⟩,
  ⟨("next_come", none), "next_come", "next_come", defArgs s_next_come, defBody s_next_come, defScope s_next_come, [], []⟩,
  ⟨("tail_plan", none), "tail_plan", "tail_plan", defArgs s_tail_plan, defBody s_tail_plan, defScope s_tail_plan, [], []⟩,
  ⟨("done_at", none), "done_at", "done_at", defArgs s_done_at, defBody s_done_at, defScope s_done_at, [], []⟩,
  ⟨("tail_end", none), "tail_end", "tail_end", defArgs s_tail_end, defBody s_tail_end, defScope s_tail_end, [], []⟩,
  ⟨("height_of", none), "height_of", "height_of", defArgs s_height_of, defBody s_height_of, defScope s_height_of, [], []⟩,
  ⟨("levels", none), "levels", "levels", defArgs s_levels, defBody s_levels, defScope s_levels, [], []⟩,
  ⟨("tree_turns", none), "tree_turns", "tree_turns", defArgs s_tree_turns, defBody s_tree_turns, defScope s_tree_turns, [], []⟩,
  ⟨("is_count", none), "is_count", "is_count", defArgs s_is_count, defBody s_is_count, defScope s_is_count, [], []⟩,
  ⟨("kinds", none), "kinds", "kinds", defArgs s_kinds, defBody s_kinds, defScope s_kinds, [], []⟩,
  ⟨("kind_of", none), "kind_of", "kind_of", defArgs s_kind_of, defBody s_kind_of, defScope s_kind_of, [], []⟩,
  ⟨("all_in", none), "all_in", "all_in", defArgs s_all_in, defBody s_all_in, defScope s_all_in, [], []⟩,
  ⟨("is_word", none), "is_word", "is_word", defArgs s_is_word, defBody s_is_word, defScope s_is_word, [], []⟩,
  ⟨("read_count", none), "read_count", "read_count", defArgs s_read_count, defBody s_read_count, defScope s_read_count, [], []⟩,
  ⟨("read_number", none), "read_number", "read_number", defArgs s_read_number, defBody s_read_number, defScope s_read_number, [], []⟩,
  ⟨("read_row", none), "read_row", "read_row", defArgs s_read_row, defBody s_read_row, defScope s_read_row, [], []⟩,
  ⟨("read_rows", none), "read_rows", "read_rows", defArgs s_read_rows, defBody s_read_rows, defScope s_read_rows, [], []⟩,
  ⟨("shown_row", none), "shown_row", "shown_row", defArgs s_shown_row, defBody s_shown_row, defScope s_shown_row, [], []⟩,
  ⟨("shown_rows", none), "shown_rows", "shown_rows", defArgs s_shown_rows, defBody s_shown_rows, defScope s_shown_rows, [], []⟩,
  ⟨("read_floor", none), "read_floor", "read_floor", defArgs s_read_floor, defBody s_read_floor, defScope s_read_floor, [], []⟩,
  ⟨("is_said", none), "is_said", "is_said", defArgs s_is_said, defBody s_is_said, defScope s_is_said, [], []⟩,
  ⟨("_law_mix", none), "_law_mix", "_law_mix", defArgs s_law_mix, defBody s_law_mix, defScope s_law_mix, [], []⟩,
  ⟨("_law_cell_at", none), "_law_cell_at", "_law_cell_at", defArgs s_law_cell_at, defBody s_law_cell_at, defScope s_law_cell_at, [], []⟩,
  ⟨("_law_names", none), "_law_names", "_law_names", defArgs s_law_names, defBody s_law_names, defScope s_law_names, [], []⟩,
  ⟨("_law_no_name", none), "_law_no_name", "_law_no_name", defArgs s_law_no_name, defBody s_law_no_name, defScope s_law_no_name, [], []⟩,
  ⟨("_law_rows_of_words", none), "_law_rows_of_words", "_law_rows_of_words", defArgs s_law_rows_of_words, defBody s_law_rows_of_words, defScope s_law_rows_of_words, [], []⟩,
  ⟨("_law_rows_of_names", none), "_law_rows_of_names", "_law_rows_of_names", defArgs s_law_rows_of_names, defBody s_law_rows_of_names, defScope s_law_rows_of_names, [], []⟩,
  ⟨("_law_rows_of_texts", none), "_law_rows_of_texts", "_law_rows_of_texts", defArgs s_law_rows_of_texts, defBody s_law_rows_of_texts, defScope s_law_rows_of_texts, [], []⟩,
  ⟨("_law_refused", none), "_law_refused", "_law_refused", defArgs s_law_refused, defBody s_law_refused, defScope s_law_refused, [], []⟩,
  ⟨("law", none), "law", "law", defArgs s_law, defBody s_law, defScope s_law, [], []⟩]
def fnM : List He.DefD := [
  ⟨("Alike", some "word"), "word", "Alike.word", defArgs s_Alike_word, defBody s_Alike_word, defScope s_Alike_word, [], []⟩,
  ⟨("Alike", some "fits"), "fits", "Alike.fits", defArgs s_Alike_fits, defBody s_Alike_fits, defScope s_Alike_fits, [], []⟩,
  ⟨("Open", some "word"), "word", "Open.word", defArgs s_Open_word, defBody s_Open_word, defScope s_Open_word, [], []⟩,
  ⟨("Open", some "fits"), "fits", "Open.fits", defArgs s_Open_fits, defBody s_Open_fits, defScope s_Open_fits, [], []⟩,
  ⟨("Tails", some "word"), "word", "Tails.word", defArgs s_Tails_word, defBody s_Tails_word, defScope s_Tails_word, [], []⟩,
  ⟨("Tails", some "fits"), "fits", "Tails.fits", defArgs s_Tails_fits, defBody s_Tails_fits, defScope s_Tails_fits, [], []⟩,
  ⟨("Tails", some "end"), "end", "Tails.end", defArgs s_Tails_end, defBody s_Tails_end, defScope s_Tails_end, [], []⟩,
  ⟨("Windows", some "word"), "word", "Windows.word", defArgs s_Windows_word, defBody s_Windows_word, defScope s_Windows_word, [], []⟩,
  ⟨("Windows", some "fits"), "fits", "Windows.fits", defArgs s_Windows_fits, defBody s_Windows_fits, defScope s_Windows_fits, [], []⟩,
  ⟨("Tree", some "word"), "word", "Tree.word", defArgs s_Tree_word, defBody s_Tree_word, defScope s_Tree_word, [], []⟩,
  ⟨("Tree", some "fits"), "fits", "Tree.fits", defArgs s_Tree_fits, defBody s_Tree_fits, defScope s_Tree_fits, [], []⟩,
  ⟨("Tree", some "plan"), "plan", "Tree.plan", defArgs s_Tree_plan, defBody s_Tree_plan, defScope s_Tree_plan, [], []⟩,
  ⟨("Tree", some "end"), "end", "Turns.end", defArgs s_Tree_end, defBody s_Tree_end, defScope s_Tree_end, [], []⟩,
  ⟨("Pairs", some "word"), "word", "Pairs.word", defArgs s_Pairs_word, defBody s_Pairs_word, defScope s_Pairs_word, [], []⟩,
  ⟨("Pairs", some "fits"), "fits", "Pairs.fits", defArgs s_Pairs_fits, defBody s_Pairs_fits, defScope s_Pairs_fits, [], []⟩,
  ⟨("Desk", some "__init__"), "__init__", "Desk.__init__", defArgs s_Desk_init, defBody s_Desk_init, defScope s_Desk_init, [], []⟩,
  ⟨("Desk", some "standing"), "standing", "Desk.standing", defArgs s_Desk_standing, defBody s_Desk_standing, defScope s_Desk_standing, [], []⟩,
  ⟨("Desk", some "late_floor"), "late_floor", "Desk.late_floor", defArgs s_Desk_late_floor, defBody s_Desk_late_floor, defScope s_Desk_late_floor, [], []⟩,
  ⟨("Desk", some "busy_at"), "busy_at", "Desk.busy_at", defArgs s_Desk_busy_at, defBody s_Desk_busy_at, defScope s_Desk_busy_at, [], []⟩,
  ⟨("Desk", some "answer"), "answer", "Desk.answer", defArgs s_Desk_answer, defBody s_Desk_answer, defScope s_Desk_answer, [], []⟩,
  ⟨("Desk", some "say"), "say", "Desk.say", defArgs s_Desk_say, defBody s_Desk_say, defScope s_Desk_say, [], []⟩]
def fn : List He.DefD := fnG ++ fnM
def gloA : List Str := ["last_moment", "place_ahead", "joined", "ahead_of", "next_work", "next_come", "tail_plan", "done_at", "tail_end", "height_of", "levels", "tree_turns", "is_count", "kinds", "kind_of", "all_in", "is_word", "read_count", "read_number", "read_row", "read_rows", "shown_row", "shown_rows", "read_floor", "is_said", "_law_mix", "_law_cell_at", "_law_names", "_law_no_name", "_law_rows_of_words"]
def gloB : List Str := ["_law_rows_of_names", "_law_rows_of_texts", "_law_refused", "law", "Alike", "Open", "Tails", "Windows", "Tree", "Pairs", "Desk", "FloorError", "NoRoom", "NoOrder", "NoText", "NoKind", "NoFloor", "NoRow", "NoName"]
def freeN : List Str := ["len", "sorted", "range", "min", "max", "sum", "list", "int", "str", "isinstance", "ValueError"]
def kindN : List Str := ["Alike", "Open", "Tails", "Windows", "Tree", "Pairs"]
def clsN : List Str := ["Alike", "Open", "Tails", "Windows", "Tree", "Pairs", "Desk"]
def excN : List Str := ["NoText", "NoKind", "NoFloor", "NoRow", "NoName"]
def methN : List (Str × Str) := [("Alike", "word"), ("Alike", "fits"), ("Open", "word"), ("Open", "fits"), ("Tails", "word"), ("Tails", "fits"), ("Tails", "end"), ("Windows", "word"), ("Windows", "fits"), ("Tree", "word"), ("Tree", "fits"), ("Tree", "plan"), ("Tree", "end"), ("Pairs", "word"), ("Pairs", "fits"), ("Desk", "__init__"), ("Desk", "standing"), ("Desk", "late_floor"), ("Desk", "busy_at"), ("Desk", "answer"), ("Desk", "say")]
def fa : List He.Fa := gloA.map He.Fa.glo ++ gloB.map He.Fa.glo ++ freeN.map He.Fa.free ++ [He.Fa.str "FIGURES" "0123456789", He.Fa.str "LETTERS" "abcdefghijklmnopqrstuvwxyz"] ++ clsN.map He.Fa.cls ++ [He.Fa.noat "Desk" "floors", He.Fa.mkr "Desk"] ++
  methN.map (fun q => He.Fa.meth q.1 q.2) ++ excN.map He.Fa.exc ++ [He.Fa.exc "NoOrder", He.Fa.exm "NoOrder" "NoOrder" true] ++ excN.map fun x => He.Fa.exm x "FloorError" true
/-! ### facts beside these -/
def mk0B (K : PySem.W.Frag) (x : Str) : Bool := PySem.W.makesIn K (ga K x) && (He.eqO (PySem.W.findIn K (.ref (ga K x)) "__init__") (some (some (.builtin "object.__init__"))) && PySem.W.keepIn K (.ref (ga K x)))
def excB (K : PySem.W.Frag) (x : Str) : Bool := He.eqO (PySem.W.findIn K (.ref (ga K x)) "__getattribute__") (some (some (.builtin "BaseException.__getattribute__"))) && (He.eqO (PySem.W.findIn K (.ref (ga K x)) "__getattr__") (some none) && (decide (PySem.W.subIn K (.ref (ga K x)) (.type "BaseException") = some true) && (PySem.W.hasDictIn K (ga K x) &&
  (He.eqO (PySem.W.findIn K (.ref (ga K x)) "__class__") (some (some (.builtin "object.__class__"))) && (decide (PySem.W.specialIn K (.builtin "object.__class__") "__get__" = some (some (.builtin "getset_descriptor.__get__"))) && (decide (PySem.W.takesIn K (.builtin "object.__class__") = some true) && decide (PySem.W.mroIn K (ga K x) (.type "object") = some true)))))))
def kitB1 (K : PySem.W.Frag) (x y : Str) : Bool := decide (PySem.W.kitOne K (.ref (ga K x)) (.ref (ga K y)) = some (decide (x = y)))
def kitB2 (K : PySem.W.Frag) (x : Str) : Bool := decide (PySem.W.kitOne K (.ref (ga K x)) (.type "ValueError") = some true) && decide (PySem.W.kitAny K (.ref (ga K x)) [.ref (ga K "NoRoom"), .ref (ga K "NoOrder")] = some false)
def exB0 (K : PySem.W.Frag) : Bool := kindN.all (mk0B K) && (excN.all (excB K) && (excN.all (fun x => excN.all (kitB1 K x)) && excN.all (kitB2 K)))
def exB (K : PySem.W.Frag) : Bool := exB0 K && decide ((He.cT K ("joined", none)).2 ≠ (He.cT K ("tree_turns", none)).2)
def tf : List He.Defn := [("joined", none), ("tree_turns", none)]
/-- the names that the top binds beside law -/
def loose0 : List Str := ["__name__", "FloorError", "NoRoom", "NoOrder", "NoText", "NoKind", "NoFloor", "NoRow", "NoName", "shared", "least_end", "wrapped", "why_end", "end_shown", "loads", "open_end", "filled", "placed", "moved", "phases"]
def loose1 : List Str := ["is_row", "clash", "apart", "hours_of", "last_moment", "place_ahead", "joined", "busy", "open_plan", "why_open", "ahead_of", "straight_ahead", "marks", "pair_turns", "second_mark", "turn_below", "why_pairs", "next_work", "next_come", "tail_plan"]
def loose2 : List Str := ["done_at", "tail_end", "bound", "why_tail", "height_of", "levels", "tree_turns", "shown_by", "turns_shown", "why_tree", "stretches_of", "spare", "unused", "come_to", "shifted", "better", "shares", "lacking", "window_plan", "outside"]
def loose3 : List Str := ["room", "no_window", "is_count", "are_places", "are_given", "are_stretches", "Floor", "Alike", "Open", "Tails", "Windows", "Turns", "Tree", "Pairs", "kinds", "kind_of", "FIGURES", "LETTERS", "all_in", "is_word"]
def loose4 : List Str := ["read_count", "read_number", "read_row", "read_rows", "shown_row", "shown_rows", "read_floor", "is_said", "rows_told", "pairs_at", "Desk", "_law_mix", "_law_cell_at", "_law_names", "_law_no_name", "_law_rows_of_words", "_law_rows_of_names", "_law_rows_of_texts", "_law_refused"]
def loose : List Str := loose0 ++ loose1 ++ loose2 ++ loose3 ++ loose4
end Lf
set_option Elab.async false
set_option linter.all false
set_option maxRecDepth 100000
set_option maxHeartbeats 4000000
/-! The head's Hook over few chosen objects: the names' values, the classes' name spaces, their methods, the code objects. -/
namespace Lf
open PySem PySem.Spec PyProof.Rows L2 LfR
def refsA (g : Addr → Option Obj) (a : Addr) : List Addr := match g a with
  | some o => He.refsO o
  | none => []
def asL (g : Addr → Option Obj) : List Addr := (gloA ++ (gloB ++ (["Floor", "Turns"] : List Str))).map (He.ga (He.frT g [mainGlobals]))
def asM (g : Addr → Option Obj) : List Addr := mainGlobals :: (asL g ++ (asL g).flatMap (refsA g))
def asN (g : Addr → Option Obj) : List Addr := methN.map fun q => He.fAd (He.frT g (asM g)) (q.1, some q.2)
def asY (g : Addr → Option Obj) : List Addr := asM g ++ (asN g ++ (asN g).flatMap (refsA g))
abbrev kY (g : Addr → Option Obj) : PySem.W.Frag := He.frT g (asY g)
def obsY (g : Addr → Option Obj) : He.AlX := (He.obsT fa fn [] (kY g), exB (kY g) && He.tabsB g tf (kY g))
theorem saysY_of {w : World} {h : Heap} (e : obsY h.get? = He.valX fn [] w) : He.SaysX fa fn [] tf exB w h (kY h.get?) := by
  have e1 : He.obsT fa fn [] (kY h.get?) = He.valT fn [] w := congrArg (fun z : He.AlX => z.1) e
  have e2 : (exB (kY h.get?) && He.tabsB h.get? tf (kY h.get?)) = true := congrArg (fun z : He.AlX => z.2) e
  obtain ⟨h1, h2⟩ := He.ba e2
  have key : ∀ p ∈ tf, PySem.W.codeHdIn (kY h.get?) (He.cT (kY h.get?) p).1 (He.cT (kY h.get?) p).2 = true ∧ ∃ o, h.get? (He.cT (kY h.get?) p).2 = some o ∧ He.emptyTab o = true := fun p hp => by
    obtain ⟨h3, h4⟩ := He.ba (List.all_eq_true.mp h2 p hp)
    refine ⟨h3, ?_⟩
    cases q : h.get? (He.cT (kY h.get?) p).2 with
    | none =>
      rw [q] at h4
      cases h4
    | some o =>
      rw [q] at h4
      exact ⟨o, rfl, h4⟩
  exact ⟨e1, h1, fun p hp => (key p hp).1, fun p hp => by
    obtain ⟨_, o, q, z⟩ := key p hp
    exact He.frT_none q z, fun p hp => by
    obtain ⟨_, o, q, z⟩ := key p hp
    rw [q, He.emptyTab_eq z]⟩
def hookY : PySem.W.Hook where
  α := He.AlX
  obs := fun s => obsY s.heap.get?
  val := fun w => He.valX fn [] w
  says := fun w h => ∃ K : PySem.W.Frag, K.In h ∧ He.SaysX fa fn [] tf exB w h K
  of := fun _ _ e => ⟨_, He.frT_in, saysY_of e⟩
  keeps := fun _ _ _ ⟨K, hK, c⟩ k => ⟨K, PySem.W.Frag.In.keeps hK k, ⟨c.t, c.more, c.hd, c.out, fun p hp => k _ _ (c.empty p hp)⟩⟩
abbrev R : PySem.W.OpenRow := PySem.W.OpenLaw.row PySem.Challenge.rw_leastfloor_k85_rows_refused
def ob (s : PySem.W.SharedT) : He.AlX := obsY (HandSHeadRun.getT s)
theorem ob_eq (s : PySem.W.SharedT) : ob s = hookY.obs s.abs := by
  have e : HandSHeadRun.getT s = s.abs.heap.get? := funext fun a => HandSHeadRun.getT_eq s a
  show obsY (HandSHeadRun.getT s) = obsY s.abs.heap.get?
  rw [e]
end Lf
set_option Elab.async false
set_option linter.all false
set_option maxRecDepth 100000
set_option maxHeartbeats 0
namespace Lf
open PySem PySem.Spec PyProof.Rows L2 LfR
theorem run (w : World) : HandSHeadRun.RunEq R (PySem.W.view R.prog [113]) hookY ob 8200 loose w := by
  intro os
  kernel_rfl
end Lf
set_option Elab.async false
set_option linter.all false
set_option maxRecDepth 100000
set_option maxHeartbeats 2000000
/-! sorted(.., key=lambda ..), over the layer. -/
namespace LfR
open PySem PySem.Spec PyProof.Rows L2

/-! ### sorted by a key, of anything that is collected -/
section
variable {prog : Program} {w : World} {A : Around} {E : Value → Shared → Prop} {s : Shared} {β : Type} {bs : List β} {R : Value → β → Prop}
theorem sorted_key_C {l : Addr} {f : Value} {kw : List (Str × Value)} {b : Bool} {Q : Value → Shared → Prop} (k : β → PyData)
    (hcol : ∀ Q' : List Value → Shared → Prop, (∀ vs h' tk, PySem.W.EachIs R vs bs → (∀ b o, s.heap.get? b = some o → h'.get? b = some o) → Q' vs { s with heap := h', toks := tk }) → ∀ E', wpAny (model prog w) A.in1 (collect (.ref l)) Q' E' s)
    (hal : PySem.W.AllAlike (bs.map k)) (hk : PySem.W.Sortable (bs.map k)) (hL : bs.length ≤ sizeLine)
    (hu : ∀ x, x ∈ bs → A.units + 2 + (k x).depth < cLine) (ha1 : argsOk "sorted" ⟨[.ref l], kw⟩) (ha2 : ∀ x, argsOk "list.sort" ⟨[.ref x], kw⟩) (ht : ∀ x, Builtin.«list.sort» ⟨[.ref x], kw⟩ = ksk_tree x f b)
    (turn : ∀ (v : Value) (x : β), R v x → x ∈ bs → ∀ (h : Heap) (tk : Nat), (∀ b o, s.heap.get? b = some o → h.get? b = some o) →
      wpAny (model prog w) A.in1.in1 (call f [v]) (PySem.W.KeyPure (k x) { s with heap := h, toks := tk }) (fun _ _ => False) { s with heap := h, toks := tk })
    (h : ∀ out c h' tk D, (∀ b o, s.heap.get? b = some o → h'.get? b = some o) → s.heap.get? D = none → h'.get? D = some (seqObj "list" (List.toArray out) c) → out.length = bs.length → PySem.W.EachIs R out (bs.mergeSort (PySem.W.dataLe b k)) →
      Q (.ref D) { s with heap := h', toks := tk }) :
    wpAny (model prog w) A (call (.builtin "sorted") [.ref l] kw) Q E s := by
  refine call_function_entry_kw kind_sorted plain_sorted entry_sorted ha1 ?_
  unfold Builtin.«sorted»
  refine wpAny_bind (m := checkCount "sorted" 1 1 _) (wpAny_pure ?_)
  refine wpAny_bind (hcol _ (fun vs h1 tk1 e k1 => ?_) _)
  have hz : vs.length ≤ sizeLine := by rw [e.length]; exact hL
  refine wpAny_bind (wpAny_newList ?_ hz)
  have at1 : (h1.push (seqObj "list" vs.toArray 0)).get? h1.objs.size = some (seqObj "list" vs.toArray 0) := Heap.get?_push_size _ rfl
  have fresh : s.heap.get? h1.objs.size = none := by
    cases q : s.heap.get? h1.objs.size with
    | none => rfl
    | some o => exact absurd (Heap.lt_size (k1 _ _ q)) (Nat.lt_irrefl _)
  have k2 : ∀ b o, s.heap.get? b = some o → b ≠ h1.objs.size ∧ (h1.push (seqObj "list" vs.toArray 0)).get? b = some o := fun b o q =>
    ⟨fun z => (by rw [z, fresh] at q; cases q), Heap.get?_push_of_some _ (k1 b o q)⟩
  have up : ∀ {g : Heap}, PySem.W.KeepsBut h1.objs.size (h1.push (seqObj "list" vs.toArray 0)) g → ∀ b o, s.heap.get? b = some o → g.get? b = some o := fun {g} kp b o q =>
    kp b o (k2 b o q).1 (k2 b o q).2
  refine wpAny_bind (wpAny_holding (wpAny_call_entry_kw slot_list_sort ⟨_, at1, rfl⟩ entry_list_sort ?_ (ha2 _)))
  rw [ht]
  refine PySem.W.keyH_tree (kz := bs.map k) (s := { s with heap := h1.push (seqObj "list" vs.toArray 0), toks := tk1 }) at1 (by rw [List.length_map]; exact e.length.symm) hz hal hk (PySem.W.bound_map (A := A.in1.in1) hu)
    (PySem.W.keyH_turns (s := { s with heap := h1.push (seqObj "list" vs.toArray 0), toks := tk1 }) e fun v x hR hx h tk kp => turn v x hR hx h tk (up kp)) fun h' tk out c kp hD ko => ⟨_, rfl, wpAny_pure ⟨_, rfl, ?_⟩⟩
  exact h out c h' tk h1.objs.size (up kp) fresh hD ((ko.length (by rw [List.length_map]; exact e.length.symm)).trans e.length) (PySem.W.keyedOut_each k ko e)
end

/-! ### a lambda of one parameter, called -/
section
variable {prog : Program} {w : World} {A : Around} {s : Shared}
theorem lam_call {f c' : Addr} {q x : Str} {params : Arguments} {body : Expr} {scope : Scope} {cl : List (Str × Addr)} {pm ctv v : Value} {oc : Obj} {ws : Array Value} {t : Tok} {Q : Value → Shared → Prop}
    (hd : A.depth < recursionLimit) (lim : s.heap.NoLimit) (hf : s.heap.get? f = some (PySem.W.kla_obj "<lambda>" q params body scope cl pm c' ctv)) (hk : scope.kind = .function) (hco : scope.isCoroutine = false) (hg : scope.isGenerator = false)
    (hoc : s.heap.get? c' = some oc) (hdc : oc.data = .fields ws) (hw : ws[1]? = some (.str q t)) (hbind : bindArgs (PySem.W.kla_fn "<lambda>" q params body scope cl pm (.ref c') ctv) ⟨[v], []⟩ = pure [(x, v)])
    (hc : ∀ y ∈ scope.names, y.2 ≠ .cell) (hx : scope.names.lookup x = some .local)
    (h : ∀ h₁ tk, h₁.Ns s.heap.objs.size (fun y => [(x, v)].reverse.lookup y) → (∀ b o, s.heap.get? b = some o → h₁.get? b = some o) →
      wpAny (model prog w) (A.deeper (PySem.W.envX q scope s.heap.objs.size f (.ref c') cl)) (eval body (PySem.W.envX q scope s.heap.objs.size f (.ref c') cl)) Q (fun _ _ => False) { s with heap := h₁, toks := tk }) :
    wpAny (model prog w) A (call (.ref f) [v]) Q (fun _ _ => False) s := by
  refine wpAny_call (PySem.W.kla_callFunE hd hf rfl hco hg rfl ⟨c', oc, ws, t, rfl, hoc, hdc, hw⟩ ?_)
  rw [hbind]
  refine wpAny_pure (wpAny_newFunctionEnv hc (fun y hy => ?_) (fun h₁ hns hsb => ⟨lim.fresh _ hsb, ?_⟩) hk)
  · obtain rfl := List.mem_singleton.mp hy
    exact hx
  · show codeAny _ _ (.expr body (PySem.W.envX q scope s.heap.objs.size f (.ref c') cl)) _ _
    have kp : ∀ b o, s.heap.get? b = some o → h₁.get? b = some o := fun b o e => hsb.extBut b o (Nat.ne_of_lt (Heap.lt_size e)) (Heap.get?_push_of_some _ e)
    exact PySem.W.kla_codeExpr (wpAny_mono (h h₁ _ hns kp) (fun u s' hq => hq) fun _ _ z => z.elim)
end

/-! ### the two lambdas' bodies -/
section
variable {prog : Program} {w : World} {A : Around} {E : Value → Shared → Prop} {s : Shared} {env : Env}
theorem ev_local {x : Str} {p : Pos} {m : Str → Option Value} {v : Value} {Q : Value → Shared → Prop} (hk : env.scope.kind = .function) (hl : env.kindOf x = some .local) (hn : s.heap.Ns env.locals m) (hv : m x = some v) (hd : (x == ("__debug__" : Str)) = false) (h : Q v s) :
    wpAny (model prog w) A (eval (.Name x p) env) Q E s := wpAny_Name (wpAny_loadName_local hk hl hn hv h) hd
/-- (one[i], one[j]) -/
theorem ev_pair {x : Str} {i j k1 k2 k3 : Nat} {p1 p2 p3 p4 p5 p6 p7 : Pos} {m : Str → Option Value} {a : Addr} {its : Array Value} {z1 z2 : Int} {t1 t2 : Tok} (hk : env.scope.kind = .function) (hl : env.kindOf x = some .local) (hn : s.heap.Ns env.locals m) (hv : m x = some (.ref a)) (hd : (x == ("__debug__" : Str)) = false)
    (hs : s.heap.IsList a its) (h1 : its[i]? = some (.int z1 t1)) (h2 : its[j]? = some (.int z2 t2)) (hi : i < 1000) (hj : j < 1000)
    (e1 : starEach [.Subscript (.Name x p1) (.Constant (.int (i : Nat)) k1 p2) p3, .Subscript (.Name x p4) (.Constant (.int (j : Nat)) k2 p5) p6] env = [(false, eval (.Subscript (.Name x p1) (.Constant (.int (i : Nat)) k1 p2) p3) env), (false, eval (.Subscript (.Name x p4) (.Constant (.int (j : Nat)) k2 p5) p6) env)] := by rfl) :
    wpAny (model prog w) A (eval (.Tuple [.Subscript (.Name x p1) (.Constant (.int (i : Nat)) k1 p2) p3, .Subscript (.Name x p4) (.Constant (.int (j : Nat)) k2 p5) p6] k3 p7) env) (PySem.W.KeyPure (.tuple [.int z1, .int z2]) s) E s := by
  refine wpAny_Tuple_spliced ?_
  rw [e1]
  show wpAny _ _ (spliced [(false, eval (.Subscript (.Name x p1) (.Constant (.int (i : Nat)) k1 p2) p3) env), (false, eval (.Subscript (.Name x p4) (.Constant (.int (j : Nat)) k2 p5) p6) env)]) _ _ s
  refine Calls.spliced_cons (Subscript_ (ev_local hk hl hn hv hd (wpAny_Constant_int ?_)))
  refine item_listR (x := .int z1 t1) hs (by omega) (by omega) (by simpa using h1) ?_
  refine Calls.spliced_cons (Subscript_ (ev_local hk hl hn hv hd (wpAny_Constant_int ?_)))
  refine item_listR (x := .int z2 t2) hs (by omega) (by omega) (by simpa using h2) ?_
  refine Calls.spliced_nil ⟨by show 2 ≤ sizeLine; decide, ?_⟩
  refine ⟨_, _, rfl, fun b o e => Heap.get?_push_of_some _ e, ?_⟩
  exact Reads.tuple (Heap.get?_push_size _ rfl) rfl rfl (.cons (.int z1 t1) (.cons (.int z2 t2) .nil))
/-- (0 - hs[x], x) -/
theorem ev_rank {x y : Str} {k1 k3 : Nat} {p1 p2 p3 p4 p5 p6 p7 : Pos} {m : Str → Option Value} {a c : Addr} {its : Array Value} {i : Nat} {z : Int} {t u : Tok} (hk : env.scope.kind = .function) (hl : env.kindOf x = some .local) (hn : s.heap.Ns env.locals m) (hv : m x = some (.int (i : Nat) u)) (hd : (x == ("__debug__" : Str)) = false)
    (hly : env.kindOf y = some .free) (hcy : env.cells.lookup y = some c) (hcell : s.heap.IsCell c (some (.ref a))) (hdy : (y == ("__debug__" : Str)) = false) (hcd : (y == ("__classdict__" : Str)) = false)
    (hs : s.heap.IsList a its) (h1 : its[i]? = some (.int z t)) (hi : i < 1000)
    (e1 : starEach [.BinOp (.Constant (.int 0) k1 p1) .Sub (.Subscript (.Name y p2) (.Name x p3) p4) p5, .Name x p6] env = [(false, eval (.BinOp (.Constant (.int 0) k1 p1) .Sub (.Subscript (.Name y p2) (.Name x p3) p4) p5) env), (false, eval (.Name x p6) env)] := by rfl) :
    wpAny (model prog w) A (eval (.Tuple [.BinOp (.Constant (.int 0) k1 p1) .Sub (.Subscript (.Name y p2) (.Name x p3) p4) p5, .Name x p6] k3 p7) env) (PySem.W.KeyPure (.tuple [.int (0 - z), .int (i : Nat)]) s) E s := by
  refine wpAny_Tuple_spliced ?_
  rw [e1]
  show wpAny _ _ (spliced [(false, eval (.BinOp (.Constant (.int 0) k1 p1) .Sub (.Subscript (.Name y p2) (.Name x p3) p4) p5) env), (false, eval (.Name x p6) env)]) _ _ s
  refine Calls.spliced_cons (wpAny_BinOp (wpAny_Constant_int ?_))
  refine Subscript_ (wpAny_Name (wpAny_loadName_free hk hly hcy hcell ?_ hcd) hdy)
  refine ev_local hk hl hn hv hd ?_
  refine item_listR (x := .int z t) hs (by omega) (by omega) (by simpa using h1) (PyProof.Rows.sub_int ?_)
  refine Calls.spliced_cons (ev_local hk hl hn hv hd ?_)
  refine Calls.spliced_nil ⟨by show 2 ≤ sizeLine; decide, ?_⟩
  refine ⟨_, _, rfl, fun b o e => Heap.get?_push_of_some _ e, ?_⟩
  exact Reads.tuple (Heap.get?_push_size _ rfl) rfl rfl (.cons (.int _ _) (.cons (.int _ _) .nil))
end

/-! ### the rules -/
open LamX
theorem extN_seq {K : PySem.W.Frag} {H H' : Hp} {a : Addr} {xs : List V} (e : ExtN H H') (h : SqL K H a xs) : SqL K H' a xs := by
  rcases h with (h | ⟨o, h⟩) | h
  · exact .inl (.inl (e _ _ h (fun ps z => by cases z)))
  · exact .inl (.inr ⟨o, e _ _ h (fun ps z => by cases z)⟩)
  · exact .inr h
theorem keyPure_weak {k : PyData} {s : Shared} {h h₁ : Heap} {tk tk₁ : Nat} {v : Value} {s₂ : Shared} (kp : ∀ b o, h.get? b = some o → h₁.get? b = some o) (q : PySem.W.KeyPure k { s with heap := h₁, toks := tk₁ } v s₂) : PySem.W.KeyPure k { s with heap := h, toks := tk } v s₂ := by
  obtain ⟨h', tk', e, kk, r⟩ := q
  exact ⟨h', tk', e, fun b o z => kk b o (kp b o z), r⟩
/-- rows: their addresses and what stands there -/
def rowRefs (rows : List (Addr × List Int)) : List V := rows.map fun r => V.ref r.1
def RowsOk (H : Hp) (rows : List (Addr × List Int)) : Prop := ∀ r ∈ rows, H r.1 = some (.lst (r.2.map V.int))
def tSortRows (K : PySem.W.Frag) (T : List (Addr × Str)) (ta : TA) : TE := fun σ H Q => ta σ H fun vs H1 => ∃ (a : Addr) (rows : List (Addr × List Int)), vs = [.ref a] ∧ SqL K H1 a (rowRefs rows) ∧ RowsOk H1 rows ∧ (∀ r ∈ rows, 3 ≤ r.2.length) ∧ Tabs T H1 ∧
  ∀ (H2 : Hp) (ys : List (Addr × List Int)) (p : Addr), ExtN H1 H2 → Tabs T H2 → ys.Perm rows → H2 p = none → Q (.ref p) (upd H2 p (.lst (rowRefs ys)))
abbrev lamP (x : Str) (pp : Pos) : Arguments := { posonlyargs := [], args := [{ arg := x, annotation := none, pos := pp }], vararg := none, kwonlyargs := [], kw_defaults := [], kwarg := none, defaults := [] }
abbrev lamS (ns : List (Str × NameKind)) : Scope := { kind := .function, names := ns, isGenerator := false, isCoroutine := false, more := [] }
theorem refs_each : ∀ {rows : List (Addr × List Int)} {its : List Value}, Vals (rowRefs rows) its → PySem.W.EachIs (fun (v : Value) (r : Addr × List Int) => v = .ref r.1) its rows
  | [], _, .nil => .nil
  | _ :: _, _, .cons r t => .cons r (refs_each t)
theorem each_refs : ∀ {rows : List (Addr × List Int)} {its : List Value}, PySem.W.EachIs (fun (v : Value) (r : Addr × List Int) => v = .ref r.1) its rows → Vals (rowRefs rows) its
  | _, _, .nil => .nil
  | _, _, .cons r t => .cons r (each_refs t)
def rowKey (r : Addr × List Int) : PyData := .tuple [.int (r.2.getD 2 0), .int (r.2.getD 0 0)]
section
variable {X : Cx} {es : List Expr} {e : Expr} {ta : TA} {T : List (Addr × Str)} {c P : Addr} {p0 lpos kpos pos pp a1 a2 a3 b1 b2 b3 b4 : Pos} {k1 k2 k3 : Nat}
theorem pe_sortedRows (hc : X.calm = true) (hr : Room 1 X.A) (TB : TabB X.base X.mg c P) (hcode : X.env.code = .ref c) (hm : (P, X.env.qual ++ "<lambda>") ∈ T) (hu : ∀ p ∈ T, p.1 = P → p.2 = X.env.qual ++ "<lambda>")
    (hg : Gl X "sorted") (hms : X.mg "sorted" = none) (ha : PA X [e] ta)
    (hdef : defaultsOf (lamP "one" pp) X.env = ([], []) := by rfl)
    (he : backTo pos (starEach [e] X.env) = (false, eval e X.env) :: backTo pos (starEach [] X.env) := by rfl) (hpl : (backTo pos (starEach [e] X.env)).any (·.1) = false := by rfl) :
    PE X (.Call (.Name "sorted" p0) [e] [⟨some "key", .Lambda (lamP "one" pp) (.Tuple [.Subscript (.Name "one" a1) (.Constant (.int 2) k1 a2) a3, .Subscript (.Name "one" b1) (.Constant (.int 0) k2 b2) b3] k3 b4) (lamS [("one", .local)]) lpos, kpos⟩] pos) (tSortRows X.K T ta) := by
  refine ⟨fun pins s σ H Q I h => ?_⟩
  refine wpAny_Call_Name_kw (ld_blt I hg hms (show bootBuiltins (Str.ofString "sorted") = some (.builtin "sorted") by decide +kernel) ?_ (by decide) (by decide))
  refine PyProof.Rows.callWith_kw (thn (ha.run pos pins s σ H _ I h) fun us s1 ⟨vs, H1, I1, r1, q1⟩ => ?_) he hpl (by rfl) (by rfl)
  obtain ⟨a, rows, rfl, hS, hR, h3, hT, q⟩ := q1
  obtain rfl := Vals.ref1 r1
  refine wpAny_evalAll_cons (wpAny_bind (lam_make2 I1 TB hcode hm hu hT hdef (fun y hy hy2 => ?_) fun f c' pm ctv H2 s' I2 eN T2 hf hfn hfr hco => wpAny_bind (wpAny_standAt (wpAny_pure (wpAny_evalAll_nil ?_)))))
  · obtain rfl := List.mem_singleton.mp hy
    cases hy2
  · show wpAny _ _ (call (.builtin "sorted") [.ref a] [(Str.ofString "key", .ref f)]) _ _ _
    have hS2 := extN_seq eN hS
    have hR2 : RowsOk H2 rows := fun r hr => eN _ _ (hR r hr) (fun ps z => by cases z)
    obtain ⟨its, rv, pl, hz⟩ := I2.list hS2
    have hlen : rows.length ≤ sizeLine := by
      have : (rowRefs rows).length = rows.length := List.length_map _
      omega
    have hcl : X.A.units + 64 < cLine := hr.units
    obtain ⟨⟨oc, ws, t, hoc, hdc, hw⟩, _, _⟩ := I2.hok c' _ hco
    have lim := I2.nolimit
    refine sorted_key_C (β := Addr × List Int) (bs := rows) (R := fun (v : Value) (r : Addr × List Int) => v = .ref r.1) (b := false) rowKey (fun Q' hQ' E' => collect_list pl.isList (hQ' its _ s'.toks (refs_each rv) fun b o z => ?_) (by rw [← rv.length]; exact hz))
      (PySem.W.AllAlike.of fun _ _ => by simp [PySem.W.alike, PySem.W.alikeAll, rowKey]) (PySem.W.Sortable.tuples fun _ => ⟨_, _, rfl⟩) hlen (fun x _ => ?_) (PyProof.Rows.ksk_s1 _ _) (fun _ => PyProof.Rows.ksk_l1 _ _) (fun _ => PyProof.Rows.ksk_t1 _ _)
      (fun v x hv hx h tk kp => ?_) fun out cc h' tk D kk hD hD2 hl2 eo => ?_
    · rw [Heap.get?_update_ne _ _ _ _ (Nat.ne_of_lt (Heap.lt_size z))]
      exact Heap.get?_push_of_some _ z
    · have hd : (rowKey x).depth = 1 := by simp [rowKey, PyData.depth, PyData.depthAll]
      omega
    · subst hv
      obtain ⟨_, rits, n, rvals, hget⟩ := I2.hok _ _ (hR2 x hx)
      have hl3 := h3 x hx
      have hi : IntsAre rits x.2 := rvals.ints
      have it : ∀ i, i < x.2.length → ∃ t, rits[i]? = some (.int (x.2.getD i 0) t) := fun i hi' => by
        obtain ⟨u, hu1, t, rfl⟩ := rvals.get (i := i) (x := .int (x.2.getD i 0)) (by simp [List.getElem?_map, List.getD_eq_getElem?_getD, List.getElem?_eq_getElem hi'])
        exact ⟨t, hu1⟩
      obtain ⟨t2, e2⟩ := it 2 (by omega)
      obtain ⟨t0, e0⟩ := it 0 (by omega)
      refine lam_call (s := { s' with heap := h, toks := tk }) (x := "one") (show X.A.depth < recursionLimit from hr.depth) (lim.keeps kp) (kp _ _ hf) rfl rfl rfl (kp _ _ hoc) hdc hw (by rfl) (by intro y hy; obtain rfl := List.mem_singleton.mp hy; decide) rfl fun h₁ tk₁ hns k1 => ?_
      refine wpAny_mono (ev_pair (i := 2) (j := 0) (s := { s' with heap := h₁, toks := tk₁ }) (x := "one") (a := x.1) (its := rits.toArray) (m := fun y => [(("one" : Str), Value.ref x.1)].reverse.lookup y) rfl rfl hns rfl (by decide) ⟨_, k1 _ _ (kp _ _ hget), rfl, n, rfl⟩ (by simpa using e2) (by simpa using e0) (by decide) (by decide)) (fun u s₂ hq => ?_) fun _ _ z => z
      exact keyPure_weak k1 hq
    · have hn : H2 D = none := I2.hok.gone hD
      have hp : (rows.mergeSort (PySem.W.dataLe false rowKey)).Perm rows := List.mergeSort_perm _ _
      refine ⟨.ref D, upd H2 D (.lst (rowRefs (rows.mergeSort (PySem.W.dataLe false rowKey)))), I2.laidN (t' := tk) kk hD hn ⟨?_, out, cc, each_refs eo, hD2⟩, rfl, q H2 _ D eN T2 hp hn⟩
      show (rowRefs _).length ≤ sizeLine
      unfold rowRefs
      rw [List.length_map, hp.length_eq]
      exact hlen
end
end LfR
set_option Elab.async false
set_option linter.all false
set_option maxRecDepth 100000
set_option maxHeartbeats 4000000
/-! What the walks ask of the text, by names; a def that keeps its promise, and its calls. Printed by gen_def.py. -/
namespace Lf
open PySem PySem.Spec PyProof.Rows L2 LfR
/-- the text behind the top -/
structure Txt (w : World) (K : PySem.W.Frag) (mg : Str → Option Value) : Prop where
  ex : ∃ h : Heap, K.In h ∧ h.Ns mainGlobals mg ∧ He.SaysX fa fn [] tf exB w h K
section
variable {w : World} {K : PySem.W.Frag} {mg : Str → Option Value}
theorem Txt.s (T : Txt w K mg) : He.SaysD fa fn K := by
  obtain ⟨h, X, G, S⟩ := T.ex
  exact S.t.d
theorem Txt.fact (T : Txt w K mg) {f : He.Fa} (h : f ∈ fa) : f.ok K = true := T.s.facts h
def gloN : List Str := gloA ++ gloB
theorem mem_glo {x : Str} (h : gloN.contains x = true) : He.Fa.glo x ∈ fa := by
  have h1 : x ∈ gloA ++ gloB := List.contains_iff_mem.mp h
  unfold fa
  rcases List.mem_append.mp h1 with h1 | h1
  · simp only [List.mem_append]
    exact .inl (.inl (.inl (.inl (.inl (.inl (.inl (.inl (.inl (List.mem_map_of_mem h1)))))))))
  · simp only [List.mem_append]
    exact .inl (.inl (.inl (.inl (.inl (.inl (.inl (.inl (.inr (List.mem_map_of_mem h1)))))))))
theorem mem_free {x : Str} (h : freeN.contains x = true) : He.Fa.free x ∈ fa := by
  unfold fa
  simp only [List.mem_append]
  exact .inl (.inl (.inl (.inl (.inl (.inl (.inl (.inr (List.mem_map_of_mem (List.contains_iff_mem.mp h)))))))))
theorem mem_cls {x : Str} (h : clsN.contains x = true) : He.Fa.cls x ∈ fa := by
  unfold fa
  simp only [List.mem_append]
  exact .inl (.inl (.inl (.inl (.inl (.inr (List.mem_map_of_mem (List.contains_iff_mem.mp h)))))))
theorem mem_meth {q : Str × Str} (h : q ∈ methN) : He.Fa.meth q.1 q.2 ∈ fa := by
  unfold fa
  simp only [List.mem_append]
  exact .inl (.inl (.inl (.inr (List.mem_map_of_mem (f := fun q : Str × Str => He.Fa.meth q.1 q.2) h))))
theorem mem_exc {x : Str} (h : excN.contains x = true) : He.Fa.exc x ∈ fa := by
  unfold fa
  simp only [List.mem_append]
  exact .inl (.inl (.inr (List.mem_map_of_mem (List.contains_iff_mem.mp h))))
theorem mem_exm {x : Str} (h : excN.contains x = true) : He.Fa.exm x "FloorError" true ∈ fa := by
  unfold fa
  simp only [List.mem_append]
  exact .inr (List.mem_map_of_mem (f := fun x => He.Fa.exm x "FloorError" true) (List.contains_iff_mem.mp h))
theorem Txt.g (T : Txt w K mg) (x : Str) (h : gloN.contains x = true := by decide +kernel) : mg x = some (.ref (ga K x)) := by
  obtain ⟨h0, X, G, S⟩ := T.ex
  exact He.glo_ok X G (T.fact (mem_glo h))
theorem Txt.n (T : Txt w K mg) (x : Str) (h : freeN.contains x = true := by decide +kernel) : mg x = none := by
  obtain ⟨h0, X, G, S⟩ := T.ex
  exact He.free_ok X G (T.fact (mem_free h))
theorem Txt.c (T : Txt w K mg) (x : Str) (h : clsN.contains x = true := by decide +kernel) : Cls K (ga K x) := He.cls_ok (T.fact (mem_cls h))
theorem Txt.m (T : Txt w K mg) (x m : Str) (h : (x, m) ∈ methN := by decide +kernel) : Meth K (ga K x) m (ma K x m) := He.meth_ok (T.fact (mem_meth h))
theorem Txt.x (T : Txt w K mg) (x : Str) (h : excN.contains x = true := by decide +kernel) : PySem.W.excIn K (ga K x) He.veBase "ValueError.__new__" = true ∧ PySem.W.keepIn K (.ref (ga K x)) = true ∧ PySem.W.subIn K (.ref (ga K x)) (.type "BaseException") = some true ∧
    PySem.W.typeIn K (.ref (ga K x)) = some (.type "type") := He.exc_ok (T.fact (mem_exc h))
theorem Txt.xO (T : Txt w K mg) : PySem.W.excIn K (ga K "NoOrder") He.veBase "ValueError.__new__" = true ∧ PySem.W.keepIn K (.ref (ga K "NoOrder")) = true ∧ PySem.W.subIn K (.ref (ga K "NoOrder")) (.type "BaseException") = some true ∧
    PySem.W.typeIn K (.ref (ga K "NoOrder")) = some (.type "type") := He.exc_ok (T.fact (f := He.Fa.exc "NoOrder") (by
  unfold fa
  simp only [List.mem_append]
  exact .inl (.inr (List.mem_cons_self ..))))
theorem Txt.tO (T : Txt w K mg) : PySem.W.exmOne K (.ref (ga K "NoOrder")) (.ref (ga K "NoOrder")) = some true := He.exm_ok (T.fact (f := He.Fa.exm "NoOrder" "NoOrder" true) (by
  unfold fa
  simp only [List.mem_append]
  exact .inl (.inr (List.mem_cons_of_mem _ (List.mem_cons_self ..)))))
theorem Txt.t (T : Txt w K mg) (x : Str) (h : excN.contains x = true := by decide +kernel) : PySem.W.exmOne K (.ref (ga K x)) (.ref (ga K "FloorError")) = some true := He.exm_ok (T.fact (mem_exm h))
theorem Txt.fig (T : Txt w K mg) : ∃ t, mg "FIGURES" = some (.str "0123456789" t) := by
  obtain ⟨h0, X, G, S⟩ := T.ex
  exact He.str_ok X G (T.fact (f := He.Fa.str "FIGURES" "0123456789") (by
    unfold fa
    simp only [List.mem_append]
    exact .inl (.inl (.inl (.inl (.inl (.inl (.inr (List.mem_cons_self ..)))))))))
theorem Txt.let_ (T : Txt w K mg) : ∃ t, mg "LETTERS" = some (.str "abcdefghijklmnopqrstuvwxyz" t) := by
  obtain ⟨h0, X, G, S⟩ := T.ex
  exact He.str_ok X G (T.fact (f := He.Fa.str "LETTERS" "abcdefghijklmnopqrstuvwxyz") (by
    unfold fa
    simp only [List.mem_append]
    exact .inl (.inl (.inl (.inl (.inl (.inl (.inr (List.mem_cons_of_mem _ (List.mem_cons_self ..))))))))))
theorem Txt.noF (T : Txt w K mg) : NoAttr K (ga K "Desk") "floors" := He.noat_ok (T.fact (f := He.Fa.noat "Desk" "floors") (by
  unfold fa
  simp only [List.mem_append]
  exact .inl (.inl (.inl (.inl (.inr (List.mem_cons_self ..)))))))
theorem Txt.mkD (T : Txt w K mg) : Mk K (ga K "Desk") (ma K "Desk" "__init__") := He.mkr_ok (T.fact (f := He.Fa.mkr "Desk") (by
  unfold fa
  simp only [List.mem_append]
  exact .inl (.inl (.inl (.inl (.inr (List.mem_cons_of_mem _ (List.mem_cons_self ..))))))))
theorem Txt.exB (T : Txt w K mg) : Lf.exB0 K = true := by
  obtain ⟨h, X, G, S⟩ := T.ex
  exact (He.ba S.more).1
theorem Txt.pne (T : Txt w K mg) : (He.cT K ("joined", none)).2 ≠ (He.cT K ("tree_turns", none)).2 := by
  obtain ⟨h, X, G, S⟩ := T.ex
  exact of_decide_eq_true (He.ba S.more).2
theorem Txt.mk0 (T : Txt w K mg) (x : Str) (h : kindN.contains x = true := by decide +kernel) : Mk0 K (ga K x) := by
  have z := List.all_eq_true.mp (He.ba T.exB).1 x (List.contains_iff_mem.mp h)
  obtain ⟨z1, z2⟩ := He.ba z
  obtain ⟨z2, z3⟩ := He.ba z2
  exact ⟨z1, He.eqO_ok z2, z3⟩
theorem Txt.ec (T : Txt w K mg) (x : Str) (h : excN.contains x = true := by decide +kernel) : ExcC K (ga K x) := by
  have z := List.all_eq_true.mp (He.ba (He.ba T.exB).2).1 x (List.contains_iff_mem.mp h)
  obtain ⟨z1, z⟩ := He.ba z
  obtain ⟨z2, z⟩ := He.ba z
  obtain ⟨z3, z⟩ := He.ba z
  obtain ⟨z4, z⟩ := He.ba z
  obtain ⟨z5, z⟩ := He.ba z
  obtain ⟨z6, z⟩ := He.ba z
  obtain ⟨z7, z8⟩ := He.ba z
  exact ⟨He.eqO_ok z1, He.eqO_ok z2, of_decide_eq_true z3, z4, He.eqO_ok z5, of_decide_eq_true z6, of_decide_eq_true z7, of_decide_eq_true z8⟩
theorem Txt.kit (T : Txt w K mg) (x y : Str) (h : excN.contains x = true := by decide +kernel) (h2 : excN.contains y = true := by decide +kernel) : PySem.W.kitOne K (.ref (ga K x)) (.ref (ga K y)) = some (decide (x = y)) :=
  of_decide_eq_true (List.all_eq_true.mp (List.all_eq_true.mp (He.ba (He.ba (He.ba T.exB).2).2).1 x (List.contains_iff_mem.mp h)) y (List.contains_iff_mem.mp h2))
theorem Txt.kitV (T : Txt w K mg) (x : Str) (h : excN.contains x = true := by decide +kernel) : PySem.W.kitOne K (.ref (ga K x)) (.type "ValueError") = some true ∧ PySem.W.kitAny K (.ref (ga K x)) [.ref (ga K "NoRoom"), .ref (ga K "NoOrder")] = some false := by
  obtain ⟨z1, z2⟩ := He.ba (List.all_eq_true.mp (He.ba (He.ba (He.ba T.exB).2).2).2 x (List.contains_iff_mem.mp h))
  exact ⟨of_decide_eq_true z1, of_decide_eq_true z2⟩
/-! the defs -/
theorem Txt.d_last_moment (T : Txt w K mg) : ∃ fd, FnP K "last_moment" "last_moment" s_last_moment (ga K "last_moment") fd := T.s.def_ 0 (d := ⟨("last_moment", none), "last_moment", "last_moment", defArgs s_last_moment, defBody s_last_moment, defScope s_last_moment, [], []⟩) rfl
theorem Txt.d_place_ahead (T : Txt w K mg) : ∃ fd, FnP K "place_ahead" "place_ahead" s_place_ahead (ga K "place_ahead") fd := T.s.def_ 1 (d := ⟨("place_ahead", none), "place_ahead", "place_ahead", defArgs s_place_ahead, defBody s_place_ahead, defScope s_place_ahead, [], []⟩) rfl
theorem Txt.d_joined (T : Txt w K mg) : ∃ fd, FnP K "joined" "joined" s_joined (ga K "joined") fd := T.s.def_ 2 (d := ⟨("joined", none), "joined", "joined", defArgs s_joined, defBody s_joined, defScope s_joined, [], []⟩) rfl
theorem Txt.d_ahead_of (T : Txt w K mg) : ∃ fd, FnP K "ahead_of" "ahead_of" s_ahead_of (ga K "ahead_of") fd := T.s.def_ 3 (d := ⟨("ahead_of", none), "ahead_of", "ahead_of", defArgs s_ahead_of, defBody s_ahead_of, defScope s_ahead_of, [], []⟩) rfl
theorem Txt.d_next_work (T : Txt w K mg) : ∃ fd, FnP K "next_work" "next_work" s_next_work (ga K "next_work") fd := T.s.def_ 4 (d := ⟨("next_work", none), "next_work", "next_work", defArgs s_next_work, defBody s_next_work, defScope s_next_work, [], []⟩) rfl
theorem Txt.d_next_come (T : Txt w K mg) : ∃ fd, FnP K "next_come" "next_come" s_next_come (ga K "next_come") fd := T.s.def_ 5 (d := ⟨("next_come", none), "next_come", "next_come", defArgs s_next_come, defBody s_next_come, defScope s_next_come, [], []⟩) rfl
theorem Txt.d_tail_plan (T : Txt w K mg) : ∃ fd, FnP K "tail_plan" "tail_plan" s_tail_plan (ga K "tail_plan") fd := T.s.def_ 6 (d := ⟨("tail_plan", none), "tail_plan", "tail_plan", defArgs s_tail_plan, defBody s_tail_plan, defScope s_tail_plan, [], []⟩) rfl
theorem Txt.d_done_at (T : Txt w K mg) : ∃ fd, FnP K "done_at" "done_at" s_done_at (ga K "done_at") fd := T.s.def_ 7 (d := ⟨("done_at", none), "done_at", "done_at", defArgs s_done_at, defBody s_done_at, defScope s_done_at, [], []⟩) rfl
theorem Txt.d_tail_end (T : Txt w K mg) : ∃ fd, FnP K "tail_end" "tail_end" s_tail_end (ga K "tail_end") fd := T.s.def_ 8 (d := ⟨("tail_end", none), "tail_end", "tail_end", defArgs s_tail_end, defBody s_tail_end, defScope s_tail_end, [], []⟩) rfl
theorem Txt.d_height_of (T : Txt w K mg) : ∃ fd, FnP K "height_of" "height_of" s_height_of (ga K "height_of") fd := T.s.def_ 9 (d := ⟨("height_of", none), "height_of", "height_of", defArgs s_height_of, defBody s_height_of, defScope s_height_of, [], []⟩) rfl
theorem Txt.d_levels (T : Txt w K mg) : ∃ fd, FnP K "levels" "levels" s_levels (ga K "levels") fd := T.s.def_ 10 (d := ⟨("levels", none), "levels", "levels", defArgs s_levels, defBody s_levels, defScope s_levels, [], []⟩) rfl
theorem Txt.d_tree_turns (T : Txt w K mg) : ∃ fd, FnP K "tree_turns" "tree_turns" s_tree_turns (ga K "tree_turns") fd := T.s.def_ 11 (d := ⟨("tree_turns", none), "tree_turns", "tree_turns", defArgs s_tree_turns, defBody s_tree_turns, defScope s_tree_turns, [], []⟩) rfl
theorem Txt.d_is_count (T : Txt w K mg) : ∃ fd, FnP K "is_count" "is_count" s_is_count (ga K "is_count") fd := T.s.def_ 12 (d := ⟨("is_count", none), "is_count", "is_count", defArgs s_is_count, defBody s_is_count, defScope s_is_count, [], []⟩) rfl
theorem Txt.d_kinds (T : Txt w K mg) : ∃ fd, FnP K "kinds" "kinds" s_kinds (ga K "kinds") fd := T.s.def_ 13 (d := ⟨("kinds", none), "kinds", "kinds", defArgs s_kinds, defBody s_kinds, defScope s_kinds, [], []⟩) rfl
theorem Txt.d_kind_of (T : Txt w K mg) : ∃ fd, FnP K "kind_of" "kind_of" s_kind_of (ga K "kind_of") fd := T.s.def_ 14 (d := ⟨("kind_of", none), "kind_of", "kind_of", defArgs s_kind_of, defBody s_kind_of, defScope s_kind_of, [], []⟩) rfl
theorem Txt.d_all_in (T : Txt w K mg) : ∃ fd, FnP K "all_in" "all_in" s_all_in (ga K "all_in") fd := T.s.def_ 15 (d := ⟨("all_in", none), "all_in", "all_in", defArgs s_all_in, defBody s_all_in, defScope s_all_in, [], []⟩) rfl
theorem Txt.d_is_word (T : Txt w K mg) : ∃ fd, FnP K "is_word" "is_word" s_is_word (ga K "is_word") fd := T.s.def_ 16 (d := ⟨("is_word", none), "is_word", "is_word", defArgs s_is_word, defBody s_is_word, defScope s_is_word, [], []⟩) rfl
theorem Txt.d_read_count (T : Txt w K mg) : ∃ fd, FnP K "read_count" "read_count" s_read_count (ga K "read_count") fd := T.s.def_ 17 (d := ⟨("read_count", none), "read_count", "read_count", defArgs s_read_count, defBody s_read_count, defScope s_read_count, [], []⟩) rfl
theorem Txt.d_read_number (T : Txt w K mg) : ∃ fd, FnP K "read_number" "read_number" s_read_number (ga K "read_number") fd := T.s.def_ 18 (d := ⟨("read_number", none), "read_number", "read_number", defArgs s_read_number, defBody s_read_number, defScope s_read_number, [], []⟩) rfl
theorem Txt.d_read_row (T : Txt w K mg) : ∃ fd, FnP K "read_row" "read_row" s_read_row (ga K "read_row") fd := T.s.def_ 19 (d := ⟨("read_row", none), "read_row", "read_row", defArgs s_read_row, defBody s_read_row, defScope s_read_row, [], []⟩) rfl
theorem Txt.d_read_rows (T : Txt w K mg) : ∃ fd, FnP K "read_rows" "read_rows" s_read_rows (ga K "read_rows") fd := T.s.def_ 20 (d := ⟨("read_rows", none), "read_rows", "read_rows", defArgs s_read_rows, defBody s_read_rows, defScope s_read_rows, [], []⟩) rfl
theorem Txt.d_shown_row (T : Txt w K mg) : ∃ fd, FnP K "shown_row" "shown_row" s_shown_row (ga K "shown_row") fd := T.s.def_ 21 (d := ⟨("shown_row", none), "shown_row", "shown_row", defArgs s_shown_row, defBody s_shown_row, defScope s_shown_row, [], []⟩) rfl
theorem Txt.d_shown_rows (T : Txt w K mg) : ∃ fd, FnP K "shown_rows" "shown_rows" s_shown_rows (ga K "shown_rows") fd := T.s.def_ 22 (d := ⟨("shown_rows", none), "shown_rows", "shown_rows", defArgs s_shown_rows, defBody s_shown_rows, defScope s_shown_rows, [], []⟩) rfl
theorem Txt.d_read_floor (T : Txt w K mg) : ∃ fd, FnP K "read_floor" "read_floor" s_read_floor (ga K "read_floor") fd := T.s.def_ 23 (d := ⟨("read_floor", none), "read_floor", "read_floor", defArgs s_read_floor, defBody s_read_floor, defScope s_read_floor, [], []⟩) rfl
theorem Txt.d_is_said (T : Txt w K mg) : ∃ fd, FnP K "is_said" "is_said" s_is_said (ga K "is_said") fd := T.s.def_ 24 (d := ⟨("is_said", none), "is_said", "is_said", defArgs s_is_said, defBody s_is_said, defScope s_is_said, [], []⟩) rfl
theorem Txt.d_law_mix (T : Txt w K mg) : ∃ fd, FnP K "_law_mix" "_law_mix" s_law_mix (ga K "_law_mix") fd := T.s.def_ 25 (d := ⟨("_law_mix", none), "_law_mix", "_law_mix", defArgs s_law_mix, defBody s_law_mix, defScope s_law_mix, [], []⟩) rfl
theorem Txt.d_law_cell_at (T : Txt w K mg) : ∃ fd, FnP K "_law_cell_at" "_law_cell_at" s_law_cell_at (ga K "_law_cell_at") fd := T.s.def_ 26 (d := ⟨("_law_cell_at", none), "_law_cell_at", "_law_cell_at", defArgs s_law_cell_at, defBody s_law_cell_at, defScope s_law_cell_at, [], []⟩) rfl
theorem Txt.d_law_names (T : Txt w K mg) : ∃ fd, FnP K "_law_names" "_law_names" s_law_names (ga K "_law_names") fd := T.s.def_ 27 (d := ⟨("_law_names", none), "_law_names", "_law_names", defArgs s_law_names, defBody s_law_names, defScope s_law_names, [], []⟩) rfl
theorem Txt.d_law_no_name (T : Txt w K mg) : ∃ fd, FnP K "_law_no_name" "_law_no_name" s_law_no_name (ga K "_law_no_name") fd := T.s.def_ 28 (d := ⟨("_law_no_name", none), "_law_no_name", "_law_no_name", defArgs s_law_no_name, defBody s_law_no_name, defScope s_law_no_name, [], []⟩) rfl
theorem Txt.d_law_rows_of_words (T : Txt w K mg) : ∃ fd, FnP K "_law_rows_of_words" "_law_rows_of_words" s_law_rows_of_words (ga K "_law_rows_of_words") fd := T.s.def_ 29 (d := ⟨("_law_rows_of_words", none), "_law_rows_of_words", "_law_rows_of_words", defArgs s_law_rows_of_words, defBody s_law_rows_of_words, defScope s_law_rows_of_words, [], []⟩) rfl
theorem Txt.d_law_rows_of_names (T : Txt w K mg) : ∃ fd, FnP K "_law_rows_of_names" "_law_rows_of_names" s_law_rows_of_names (ga K "_law_rows_of_names") fd := T.s.def_ 30 (d := ⟨("_law_rows_of_names", none), "_law_rows_of_names", "_law_rows_of_names", defArgs s_law_rows_of_names, defBody s_law_rows_of_names, defScope s_law_rows_of_names, [], []⟩) rfl
theorem Txt.d_law_rows_of_texts (T : Txt w K mg) : ∃ fd, FnP K "_law_rows_of_texts" "_law_rows_of_texts" s_law_rows_of_texts (ga K "_law_rows_of_texts") fd := T.s.def_ 31 (d := ⟨("_law_rows_of_texts", none), "_law_rows_of_texts", "_law_rows_of_texts", defArgs s_law_rows_of_texts, defBody s_law_rows_of_texts, defScope s_law_rows_of_texts, [], []⟩) rfl
theorem Txt.d_law_refused (T : Txt w K mg) : ∃ fd, FnP K "_law_refused" "_law_refused" s_law_refused (ga K "_law_refused") fd := T.s.def_ 32 (d := ⟨("_law_refused", none), "_law_refused", "_law_refused", defArgs s_law_refused, defBody s_law_refused, defScope s_law_refused, [], []⟩) rfl
theorem Txt.d_law (T : Txt w K mg) : ∃ fd, FnP K "law" "law" s_law (ga K "law") fd := T.s.def_ 33 (d := ⟨("law", none), "law", "law", defArgs s_law, defBody s_law, defScope s_law, [], []⟩) rfl
theorem Txt.d_Alike_word (T : Txt w K mg) : ∃ fd, FnP K "word" "Alike.word" s_Alike_word (ma K "Alike" "word") fd := T.s.def_ 34 (d := ⟨("Alike", some "word"), "word", "Alike.word", defArgs s_Alike_word, defBody s_Alike_word, defScope s_Alike_word, [], []⟩) rfl
theorem Txt.d_Alike_fits (T : Txt w K mg) : ∃ fd, FnP K "fits" "Alike.fits" s_Alike_fits (ma K "Alike" "fits") fd := T.s.def_ 35 (d := ⟨("Alike", some "fits"), "fits", "Alike.fits", defArgs s_Alike_fits, defBody s_Alike_fits, defScope s_Alike_fits, [], []⟩) rfl
theorem Txt.d_Open_word (T : Txt w K mg) : ∃ fd, FnP K "word" "Open.word" s_Open_word (ma K "Open" "word") fd := T.s.def_ 36 (d := ⟨("Open", some "word"), "word", "Open.word", defArgs s_Open_word, defBody s_Open_word, defScope s_Open_word, [], []⟩) rfl
theorem Txt.d_Open_fits (T : Txt w K mg) : ∃ fd, FnP K "fits" "Open.fits" s_Open_fits (ma K "Open" "fits") fd := T.s.def_ 37 (d := ⟨("Open", some "fits"), "fits", "Open.fits", defArgs s_Open_fits, defBody s_Open_fits, defScope s_Open_fits, [], []⟩) rfl
theorem Txt.d_Tails_word (T : Txt w K mg) : ∃ fd, FnP K "word" "Tails.word" s_Tails_word (ma K "Tails" "word") fd := T.s.def_ 38 (d := ⟨("Tails", some "word"), "word", "Tails.word", defArgs s_Tails_word, defBody s_Tails_word, defScope s_Tails_word, [], []⟩) rfl
theorem Txt.d_Tails_fits (T : Txt w K mg) : ∃ fd, FnP K "fits" "Tails.fits" s_Tails_fits (ma K "Tails" "fits") fd := T.s.def_ 39 (d := ⟨("Tails", some "fits"), "fits", "Tails.fits", defArgs s_Tails_fits, defBody s_Tails_fits, defScope s_Tails_fits, [], []⟩) rfl
theorem Txt.d_Tails_end (T : Txt w K mg) : ∃ fd, FnP K "end" "Tails.end" s_Tails_end (ma K "Tails" "end") fd := T.s.def_ 40 (d := ⟨("Tails", some "end"), "end", "Tails.end", defArgs s_Tails_end, defBody s_Tails_end, defScope s_Tails_end, [], []⟩) rfl
theorem Txt.d_Windows_word (T : Txt w K mg) : ∃ fd, FnP K "word" "Windows.word" s_Windows_word (ma K "Windows" "word") fd := T.s.def_ 41 (d := ⟨("Windows", some "word"), "word", "Windows.word", defArgs s_Windows_word, defBody s_Windows_word, defScope s_Windows_word, [], []⟩) rfl
theorem Txt.d_Windows_fits (T : Txt w K mg) : ∃ fd, FnP K "fits" "Windows.fits" s_Windows_fits (ma K "Windows" "fits") fd := T.s.def_ 42 (d := ⟨("Windows", some "fits"), "fits", "Windows.fits", defArgs s_Windows_fits, defBody s_Windows_fits, defScope s_Windows_fits, [], []⟩) rfl
theorem Txt.d_Tree_word (T : Txt w K mg) : ∃ fd, FnP K "word" "Tree.word" s_Tree_word (ma K "Tree" "word") fd := T.s.def_ 43 (d := ⟨("Tree", some "word"), "word", "Tree.word", defArgs s_Tree_word, defBody s_Tree_word, defScope s_Tree_word, [], []⟩) rfl
theorem Txt.d_Tree_fits (T : Txt w K mg) : ∃ fd, FnP K "fits" "Tree.fits" s_Tree_fits (ma K "Tree" "fits") fd := T.s.def_ 44 (d := ⟨("Tree", some "fits"), "fits", "Tree.fits", defArgs s_Tree_fits, defBody s_Tree_fits, defScope s_Tree_fits, [], []⟩) rfl
theorem Txt.d_Tree_plan (T : Txt w K mg) : ∃ fd, FnP K "plan" "Tree.plan" s_Tree_plan (ma K "Tree" "plan") fd := T.s.def_ 45 (d := ⟨("Tree", some "plan"), "plan", "Tree.plan", defArgs s_Tree_plan, defBody s_Tree_plan, defScope s_Tree_plan, [], []⟩) rfl
theorem Txt.d_Tree_end (T : Txt w K mg) : ∃ fd, FnP K "end" "Turns.end" s_Tree_end (ma K "Tree" "end") fd := T.s.def_ 46 (d := ⟨("Tree", some "end"), "end", "Turns.end", defArgs s_Tree_end, defBody s_Tree_end, defScope s_Tree_end, [], []⟩) rfl
theorem Txt.d_Pairs_word (T : Txt w K mg) : ∃ fd, FnP K "word" "Pairs.word" s_Pairs_word (ma K "Pairs" "word") fd := T.s.def_ 47 (d := ⟨("Pairs", some "word"), "word", "Pairs.word", defArgs s_Pairs_word, defBody s_Pairs_word, defScope s_Pairs_word, [], []⟩) rfl
theorem Txt.d_Pairs_fits (T : Txt w K mg) : ∃ fd, FnP K "fits" "Pairs.fits" s_Pairs_fits (ma K "Pairs" "fits") fd := T.s.def_ 48 (d := ⟨("Pairs", some "fits"), "fits", "Pairs.fits", defArgs s_Pairs_fits, defBody s_Pairs_fits, defScope s_Pairs_fits, [], []⟩) rfl
theorem Txt.d_Desk_init (T : Txt w K mg) : ∃ fd, FnP K "__init__" "Desk.__init__" s_Desk_init (ma K "Desk" "__init__") fd := T.s.def_ 49 (d := ⟨("Desk", some "__init__"), "__init__", "Desk.__init__", defArgs s_Desk_init, defBody s_Desk_init, defScope s_Desk_init, [], []⟩) rfl
theorem Txt.d_Desk_standing (T : Txt w K mg) : ∃ fd, FnP K "standing" "Desk.standing" s_Desk_standing (ma K "Desk" "standing") fd := T.s.def_ 50 (d := ⟨("Desk", some "standing"), "standing", "Desk.standing", defArgs s_Desk_standing, defBody s_Desk_standing, defScope s_Desk_standing, [], []⟩) rfl
theorem Txt.d_Desk_late_floor (T : Txt w K mg) : ∃ fd, FnP K "late_floor" "Desk.late_floor" s_Desk_late_floor (ma K "Desk" "late_floor") fd := T.s.def_ 51 (d := ⟨("Desk", some "late_floor"), "late_floor", "Desk.late_floor", defArgs s_Desk_late_floor, defBody s_Desk_late_floor, defScope s_Desk_late_floor, [], []⟩) rfl
theorem Txt.d_Desk_busy_at (T : Txt w K mg) : ∃ fd, FnP K "busy_at" "Desk.busy_at" s_Desk_busy_at (ma K "Desk" "busy_at") fd := T.s.def_ 52 (d := ⟨("Desk", some "busy_at"), "busy_at", "Desk.busy_at", defArgs s_Desk_busy_at, defBody s_Desk_busy_at, defScope s_Desk_busy_at, [], []⟩) rfl
theorem Txt.d_Desk_answer (T : Txt w K mg) : ∃ fd, FnP K "answer" "Desk.answer" s_Desk_answer (ma K "Desk" "answer") fd := T.s.def_ 53 (d := ⟨("Desk", some "answer"), "answer", "Desk.answer", defArgs s_Desk_answer, defBody s_Desk_answer, defScope s_Desk_answer, [], []⟩) rfl
theorem Txt.d_Desk_say (T : Txt w K mg) : ∃ fd, FnP K "say" "Desk.say" s_Desk_say (ma K "Desk" "say") fd := T.s.def_ 54 (d := ⟨("Desk", some "say"), "say", "Desk.say", defArgs s_Desk_say, defBody s_Desk_say, defScope s_Desk_say, [], []⟩) rfl
end
/-! ### a def that keeps its promise -/
def Dok (P : Program) (w : World) (K : PySem.W.Frag) (mg : Str → Option Value) (base : Heap) (CX : CXT) (k : Nat) (f : Addr) (ps : List Str) (sp : Sp) : Prop := ∃ fd, FnOk P w K mg base CX k f fd ps sp ∧ Binds K fd ps [] ∧ PySem.W.keepIn K (.ref f) = true
section
variable {X : Cx} {CX : CXT} {k j : Nat} {f C : Addr} {ps : List Str} {sp : Sp} {E : XK} {x m : Str} {p pos apos : Pos} {e o : Expr} {es : List Expr} {ta : TE} {t : TA} {W : WX}
theorem pe_f (D : Dok X.prog X.w X.K X.mg X.base CX0 k f ps sp) (hr : Room j X.A) (hm : X.mg x = some (.ref f)) (ha : PA X (e :: es) t) (hk : k ≤ j := by decide) (hg : Gl X x := by rfl)
    (hdb : (x == ("__debug__" : Str)) = false := by decide) (he : starEach (e :: es) X.env = (false, eval e X.env) :: starEach es X.env := by rfl) (hpl : (backTo pos (starEach es X.env)).any (·.1) = false := by rfl) :
    PE X (.Call (.Name x p) (e :: es) [] pos) (tCall sp [] E0 t) := by
  obtain ⟨fd, F, b, kp⟩ := D
  exact pe_call F (hr.mono hk) hg hm kp b .nil pass0 ha hdb he hpl
theorem pe_f0 (D : Dok X.prog X.w X.K X.mg X.base CX0 k f [] sp) (hr : Room j X.A) (hm : X.mg x = some (.ref f)) (hk : k ≤ j := by decide) (hg : Gl X x := by rfl)
    (hdb : (x == ("__debug__" : Str)) = false := by decide) : PE X (.Call (.Name x p) [] [] pos) (tCall sp [] E0 tNil) := by
  obtain ⟨fd, F, b, kp⟩ := D
  exact pe_call0 F (hr.mono hk) hg hm kp b .nil pass0 hdb
/-- f may raise, and so may the def that calls -/
theorem pe_fX (D : Dok X.prog X.w X.K X.mg X.base (L2.CX X.prog X.w) k f ps sp) (hr : Room j X.A) (hm : X.mg x = some (.ref f)) (hx : Passes (L2.CX X.prog X.w) X E) (ha : PA X (e :: es) t) (hk : k ≤ j := by decide) (hg : Gl X x := by rfl)
    (hdb : (x == ("__debug__" : Str)) = false := by decide) (he : starEach (e :: es) X.env = (false, eval e X.env) :: starEach es X.env := by rfl) (hpl : (backTo pos (starEach es X.env)).any (·.1) = false := by rfl) :
    PE X (.Call (.Name x p) (e :: es) [] pos) (tCall sp [] E t) := by
  obtain ⟨fd, F, b, kp⟩ := D
  exact pe_call F (hr.mono hk) hg hm kp b .nil hx ha hdb he hpl
/-- .. within a try -/
theorem pe_fS (D : Dok X.prog X.w X.K X.mg X.base (L2.CX X.prog X.w) k f ps sp) (hr : Room j X.A) (hm : X.mg x = some (.ref f)) (tk : Takes X W) (ha : PA X (e :: es) t) (hk : k ≤ j := by decide) (hg : Gl X x := by rfl)
    (hdb : (x == ("__debug__" : Str)) = false := by decide) (he : starEach (e :: es) X.env = (false, eval e X.env) :: starEach es X.env := by rfl) (hpl : (backTo pos (starEach es X.env)).any (·.1) = false := by rfl) :
    PE X (.Call (.Name x p) (e :: es) [] pos) (tCallS sp (WE W) t) := by
  obtain ⟨fd, F, b, kp⟩ := D
  exact pe_callS F (hr.mono hk) hg hm kp b (fun σ => passAt tk σ) ha hdb he hpl
/-- o.m(e, ..) -/
theorem pe_o {pl : Sem Bool} (D : Dok X.prog X.w X.K X.mg X.base CX k f ps sp) (hr : Room j X.A) (c : Cls X.K C) (hm : Meth X.K C m f) (he : PE X o ta) (hx : Passes CX X E) (ha : PA X (e :: es) t) (hk : k ≤ j := by decide)
    (hst : starEach (e :: es) X.env = (false, eval e X.env) :: starEach es X.env := by rfl) (hpl : (backTo pos (starEach es X.env)).any (·.1) = false := by rfl)
    (ht : eval (.Call (.Attribute o m apos) (e :: es) [] pos) X.env = (do
      let ov ← eval o X.env
      standAt apos.atName
      let (f, first) ← holding [ov] (getMethod ov m pl)
      callWith pos f first (backTo pos (starEach (e :: es) X.env)) (backToKw pos (keywordEach [] X.env))) := by rfl) :
    PE X (.Call (.Attribute o m apos) (e :: es) [] pos) (tMeth C m sp [] E ta t) := by
  obtain ⟨fd, F, b, kp⟩ := D
  exact pe_meth he c hm F (hr.mono hk) b .nil hx ha hst hpl ht
/-- o.m(e, ..) within a try -/
def tMethS (C : Addr) (m : Str) (sp : Sp) (W : WX) (ta : TE) (t : TA) : TE := fun σ H Q => ta σ H fun x H1 => ∃ a dx fs, x = .ref a ∧ H1 a = some (.ins C dx fs) ∧ fs.lookup m = none ∧ t σ H1 fun vs H2 => sp (x :: vs) H2 Q (WE W σ)
theorem pe_oS {pl : Sem Bool} (D : Dok X.prog X.w X.K X.mg X.base (L2.CX X.prog X.w) k f ps sp) (hr : Room j X.A) (c : Cls X.K C) (hm : Meth X.K C m f) (he : PE X o ta) (tk : Takes X W) (ha : PA X (e :: es) t) (hk : k ≤ j := by decide)
    (hst : starEach (e :: es) X.env = (false, eval e X.env) :: starEach es X.env := by rfl) (hpl : (backTo pos (starEach es X.env)).any (·.1) = false := by rfl)
    (ht : eval (.Call (.Attribute o m apos) (e :: es) [] pos) X.env = (do
      let ov ← eval o X.env
      standAt apos.atName
      let (f, first) ← holding [ov] (getMethod ov m pl)
      callWith pos f first (backTo pos (starEach (e :: es) X.env)) (backToKw pos (keywordEach [] X.env))) := by rfl) :
    PE X (.Call (.Attribute o m apos) (e :: es) [] pos) (tMethS C m sp W ta t) := by
  obtain ⟨fd, F, b, kp⟩ := D
  refine ⟨fun pins s σ H Q I h => ?_⟩
  refine PySem.W.methodCall_KW (pl := pl) (thn (he.run pins s σ H _ I h) fun u s1 ⟨x, H1, I1, rx, a, dx, fs, ex, ea, l, q⟩ => ?_) ht
  subst ex
  obtain rfl : u = Value.ref a := rx
  refine getmeth_ok I1 ea c hm l ?_
  refine PySem.W.callWith_K (first := [.ref a]) (h₀ := X.base) I.ok.mod.kin hm.kp (thn (ha.run pos pins s1 σ H1 _ I1 q) fun us s2 ⟨vs, H2, I2, r, q2⟩ => ⟨I2.kIn, ?_⟩) hst hpl
  exact run_fnS (us := .ref a :: us) (vs := .ref a :: vs) F (hr.mono hk) b (passAt tk σ) I2 (.cons rfl r) q2
/-- o.m(..), the class of o one of several -/
theorem pe_oF {ι : Type} {Cf ff : ι → Addr} {sf : ι → Sp} {pl : Sem Bool} (D : ∀ i, Dok X.prog X.w X.K X.mg X.base CX k (ff i) ps (sf i)) (hr : Room j X.A) (c : ∀ i, Cls X.K (Cf i)) (hm : ∀ i, Meth X.K (Cf i) m (ff i)) (he : PE X o ta) (hx : Passes CX X E) (ha : PA X (e :: es) t) (hk : k ≤ j := by decide)
    (hst : starEach (e :: es) X.env = (false, eval e X.env) :: starEach es X.env := by rfl) (hpl : (backTo pos (starEach es X.env)).any (·.1) = false := by rfl)
    (ht : eval (.Call (.Attribute o m apos) (e :: es) [] pos) X.env = (do
      let ov ← eval o X.env
      standAt apos.atName
      let (f, first) ← holding [ov] (getMethod ov m pl)
      callWith pos f first (backTo pos (starEach (e :: es) X.env)) (backToKw pos (keywordEach [] X.env))) := by rfl) :
    PE X (.Call (.Attribute o m apos) (e :: es) [] pos) (tMethF Cf m sf E ta t) :=
  pe_methF (fd := fun i => Classical.choose (D i)) he c hm (fun i => (Classical.choose_spec (D i)).1) (hr.mono hk) (fun i => (Classical.choose_spec (D i)).2.1) hx ha hst hpl ht
theorem pe_oF0 {ι : Type} {Cf ff : ι → Addr} {sf : ι → Sp} {pl : Sem Bool} (D : ∀ i, Dok X.prog X.w X.K X.mg X.base CX k (ff i) ps (sf i)) (hr : Room j X.A) (c : ∀ i, Cls X.K (Cf i)) (hm : ∀ i, Meth X.K (Cf i) m (ff i)) (he : PE X o ta) (hx : Passes CX X E) (hk : k ≤ j := by decide)
    (ht : eval (.Call (.Attribute o m apos) [] [] pos) X.env = (do
      let ov ← eval o X.env
      standAt apos.atName
      let (f, first) ← holding [ov] (getMethod ov m pl)
      callWith pos f first (backTo pos (starEach [] X.env)) (backToKw pos (keywordEach [] X.env))) := by rfl) :
    PE X (.Call (.Attribute o m apos) [] [] pos) (tMethF Cf m sf E ta tNil) :=
  pe_methF0 (fd := fun i => Classical.choose (D i)) he c hm (fun i => (Classical.choose_spec (D i)).1) (hr.mono hk) (fun i => (Classical.choose_spec (D i)).2.1) hx ht
end
/-- a callee's exception leaves the def too -/
theorem pass_out {X : Cx} {E : XK} (tk : Takes X (fun cls d _ H => E cls d H)) : Passes (L2.CX X.prog X.w) X E := passes_call tk fun _ _ _ _ h => h
/-! ### heaps -/
/-- all that was tracked is as it was -/
structure ExtN (H H' : Hp) : Prop where
  same : Same H H'
instance {H H' : Hp} : CoeFun (ExtN H H') (fun _ => ∀ (b : Addr) (o : HO), H b = some o → (∀ ps, o ≠ HO.tbl ps) → H' b = some o) := ⟨fun e b o h _ => e.same b o h⟩
theorem ExtN.refl (H : Hp) : ExtN H H := ⟨Same.refl H⟩
theorem ExtN.trans {H H1 H2 : Hp} (a : ExtN H H1) (b : ExtN H1 H2) : ExtN H H2 := ⟨a.same.trans b.same⟩
theorem ExtN.of {H H' : Hp} (e : Same H H') : ExtN H H' := ⟨e⟩
theorem ExtN.weak {H H' : Hp} (e : ExtN H H') : LamX.ExtN H H' := LamX.ExtN.of e.same
theorem extN_upd {H : Hp} {p : Addr} {o : HO} (h : H p = none) : ExtN H (upd H p o) := ⟨fun b u e => by
    have hb : b ≠ p := fun z => by rw [z, h] at e; cases e
    rw [upd_ne hb]
    exact e⟩
theorem ExtN.up {H H1 : Hp} {p : Addr} {o : HO} (e : ExtN H H1) (h : H1 p = none) : ExtN H (upd H1 p o) := e.trans (extN_upd h)
end Lf
set_option Elab.async false
set_option linter.all false
set_option maxRecDepth 100000
set_option maxHeartbeats 4000000
/-! Comprehensions: over pure elements the new list is told, over calls each of its items. -/
namespace LfR
open PySem PySem.Spec PyProof.Rows L2 LamX
section
variable {K : PySem.W.Frag} {J : It} {n : Nat} {G : Hp → Prop} {a : Addr} {xs : List V} {g : TG} {tt : TT} {te : TE} {vs : List Nat} {σ : L2.St} {H1 : Hp} {D : Addr} {Qd : Hp → Prop}
/-- what lc_it answers -/
def LcGoal (J : It) (g : TG) (tt : TT) (te : TE) (vs : List Nat) (σ : L2.St) (H1 : Hp) (D : Addr) (Qd : Hp → Prop) : Prop :=
  ∃ W : Nat → Nat → Hp → Prop, (∃ m, W 0 m (upd H1 D (.lst []))) ∧ ∀ i m H, W i m H →
      (J.stop i H ∧ Qd H) ∨ (J.go i H ∧ ∃ Nx : Hp → Prop, (∀ H', Nx H' → ∃ m', m' < m ∧ W (i + 1) m' H') ∧ ∀ x H', J.yld i H x H' → g x (wipe σ vs) H' fun σ2 H2 => wipe σ2 vs = wipe σ vs ∧ tt σ2 H2 fun b H3 =>
        if b = true then te σ2 H3 fun y H4 => ∃ acc, H4 D = some (.lst acc) ∧ acc.length < sizeLine ∧ Nx (upd H4 D (.lst (acc ++ [y]))) else Nx H3)
/-- pure items: the new list is xs.filterMap f -/
theorem lc_pureW (w : Walk J n G (YAt xs)) (hn : xs.length = n) (f : V → Option V) (hz : n < sizeLine) (hG : ∀ acc, G (upd H1 D (.lst acc)))
    (hs : ∀ (i : Nat) (x : V) (acc : List V) (Qy : V → Hp → Prop) (Qn : Hp → Prop), xs[i]? = some x → (∀ y, f x = some y → Qy y (upd H1 D (.lst acc))) → (f x = none → Qn (upd H1 D (.lst acc))) →
      g x (wipe σ vs) (upd H1 D (.lst acc)) fun σ2 H2 => wipe σ2 vs = wipe σ vs ∧ tt σ2 H2 fun b H3 => if b = true then te σ2 H3 Qy else Qn H3)
    (hd : Qd (upd H1 D (.lst (xs.filterMap f)))) : LcGoal J g tt te vs σ H1 D Qd := by
  refine lc_it w (fun i H => H = upd H1 D (.lst ((xs.take i).filterMap f))) (by rw [List.take_zero]; rfl) (fun i H _ p => by rw [p]; exact hG _) (fun i x H H' hi p y => ?_) (fun H p => ?_)
  · obtain ⟨rfl, hx⟩ := y
    rw [p]
    have et : xs.take (i + 1) = xs.take i ++ [x] := by rw [List.take_add_one, hx] <;> rfl
    refine hs i x _ _ _ hx (fun y e => ⟨_, upd_same, ?_, ?_⟩) fun e => ?_
    · have := List.length_filterMap_le f (xs.take i)
      rw [List.length_take] at this
      omega
    · rw [et, List.filterMap_append, List.filterMap_cons, e, List.filterMap_nil]
      funext b
      by_cases hb : b = D
      · rw [hb, upd_same, upd_same]
      · rw [upd_ne hb, upd_ne hb, upd_ne hb]
    · rw [et, List.filterMap_append, List.filterMap_cons, e, List.filterMap_nil, List.append_nil]
  · rw [p, ← hn, List.take_length]
    exact hd
/-- called items: each is told by R -/
theorem lc_mapW (w : Walk J n G (YAt xs)) (hn : xs.length = n) (R : Nat → V → Hp → Prop) (hz : n < sizeLine) (hG : ∀ H, Lf.ExtN H1 H → (∃ acc, H D = some (.lst acc)) → G H) (hD : H1 D = none)
    (stab : ∀ j y H H', (∀ b o, b ≠ D → H b = some o → (∀ ps, o ≠ .tbl ps) → H' b = some o) → R j y H → R j y H')
    (T : Hp → Prop) (hT0 : ∀ acc, T (upd H1 D (.lst acc))) (hTD : ∀ H acc, T H → (∃ a, H D = some (.lst a)) → T (upd H D (.lst acc)))
    (hs : ∀ (i : Nat) (x : V) (H : Hp) (Qy : V → Hp → Prop), xs[i]? = some x → Lf.ExtN H1 H → T H → (∃ acc, H D = some (.lst acc)) → (∀ y H4, Lf.ExtN H H4 → T H4 → R i y H4 → Qy y H4) → g x (wipe σ vs) H fun σ2 H2 => wipe σ2 vs = wipe σ vs ∧ te σ2 H2 Qy)
    (hd : ∀ H acc, Lf.ExtN H1 H → T H → H D = some (.lst acc) → acc.length = n → (∀ j y, acc[j]? = some y → R j y H) → Qd H) : LcGoal J g tYes te vs σ H1 D Qd := by
  have nt : ∀ xs : List V, ∀ ps, HO.lst xs ≠ .tbl ps := fun _ _ z => by cases z
  refine lc_it w (fun i H => Lf.ExtN H1 H ∧ T H ∧ ∃ acc, H D = some (.lst acc) ∧ acc.length = i ∧ ∀ j y, acc[j]? = some y → R j y H) ⟨Lf.extN_upd hD, hT0 _, [], upd_same, rfl, fun j y e => by simp at e⟩ (fun i H _ p => hG H p.1 ⟨_, p.2.2.choose_spec.1⟩) (fun i x H H' hi p y => ?_) (fun H p => ?_)
  · obtain ⟨rfl, hx⟩ := y
    obtain ⟨e1, hT, acc, hacc, hl, hR⟩ := p
    have key := hs i x H' (fun y H4 => ∃ acc, H4 D = some (.lst acc) ∧ acc.length < sizeLine ∧ (fun i H => Lf.ExtN H1 H ∧ T H ∧ ∃ acc, H D = some (.lst acc) ∧ acc.length = i ∧ ∀ j y, acc[j]? = some y → R j y H) (i + 1) (upd H4 D (.lst (acc ++ [y])))) hx e1 hT ⟨acc, hacc⟩ (fun y H4 e4 hT4 hy => ?_)
    · exact key
    · have h4 : H4 D = some (.lst acc) := e4 _ _ hacc (nt _)
      have up : ∀ b o, b ≠ D → H4 b = some o → (∀ ps, o ≠ .tbl ps) → (upd H4 D (.lst (acc ++ [y]))) b = some o := fun b o hb e _ => by rw [upd_ne hb]; exact e
      refine ⟨acc, h4, by omega, ⟨fun b o e => ?_⟩, hTD _ _ hT4 ⟨_, h4⟩, _, upd_same, by rw [List.length_append, hl] <;> rfl, fun j z ez => ?_⟩
      · have hb : b ≠ D := fun z => by rw [z, hD] at e; cases e
        rw [upd_ne hb]
        exact e4.same _ _ (e1.same _ _ e)
      · by_cases hj : j < acc.length
        · rw [List.getElem?_append_left hj] at ez
          exact stab _ _ _ _ up (stab _ _ _ _ (fun b o hb e hnt => e4 b o e hnt) (hR j z ez))
        · have hj2 : j = acc.length := by
            have := (List.getElem?_eq_some_iff.mp ez).1
            rw [List.length_append, List.length_singleton] at this
            omega
          subst hj2
          rw [List.getElem?_append_right (Nat.le_refl _), Nat.sub_self] at ez
          simp only [List.getElem?_cons_zero, Option.some.injEq] at ez
          subst ez
          rw [hl]
          exact stab _ _ _ _ up hy
  · obtain ⟨e1, hT, acc, hacc, hl, hR⟩ := p
    exact hd H acc e1 hT hacc hl hR
/-- range(n) as a list -/
def rngL (n : Nat) : List V := (List.range n).map fun i => V.int (i : Nat)
theorem rngL_len (n : Nat) : (rngL n).length = n := by unfold rngL; simp
theorem rngL_get {n i : Nat} (h : i < n) : (rngL n)[i]? = some (.int (i : Nat)) := by
  unfold rngL
  simp [h]
theorem walk_rngL {n : Nat} : Walk (Itr 0 n) n (fun _ => True) (YAt (rngL n)) :=
  walk_range.mono (fun _ _ => trivial) fun i H x H' hi _ y => ⟨y.1, by rw [rngL_get hi, y.2]; simp⟩
/-- the list's walk, as long as it stands -/
theorem seq_upd {H : Hp} {D : Addr} {o : HO} (h : SqL K H a xs) (hD : H D = none) : SqL K (upd H D o) a xs := by
  rcases h with (h | ⟨q, h⟩) | h
  · exact .inl (.inl (by rw [upd_ne (fun z => by rw [z, hD] at h; cases h)]; exact h))
  · exact .inl (.inr ⟨q, by rw [upd_ne (fun z => by rw [z, hD] at h; cases h)]; exact h⟩)
  · exact .inr h
/-! the readings, folded -/
theorem tLc_list {tl : TE} {Q : VK} {H : Hp} : tLc (iList K tl) g tt te vs σ H Q = (tl σ H fun x H1 => ∃ a, x = .ref a ∧ (∃ xs, SqL K H1 a xs) ∧ ∀ D, H1 D = none → LcGoal (Itl K a) g tt te vs σ H1 D fun H => Q (.ref D) H) := rfl
theorem tLc_rng1 {ta : TA} {Q : VK} {H : Hp} : tLc (iRng1 ta) g tt te vs σ H Q = (ta σ H fun zs H1 => ∃ j : Int, zs = [.int j] ∧ -(2 ^ 62) ≤ j ∧ j < 2 ^ 62 ∧ ∀ D, H1 D = none → LcGoal (Itr 0 j.toNat) g tt te vs σ H1 D fun H => Q (.ref D) H) := rfl
def ForGoal (J : It) (g : TG) (tb : TS) (D : Ends) (σ : L2.St) (H : Hp) : Prop := ∃ W : Nat → Nat → L2.St → Hp → Prop, (∃ m, W 0 m σ H) ∧ ∀ i m σ H, W i m σ H →
      (J.stop i H ∧ D.nx σ H) ∨ (J.go i H ∧ ∃ N : L2.St → Hp → Prop, (∀ σ' H', N σ' H' → ∃ m', m' < m ∧ W (i + 1) m' σ' H') ∧ ∀ x H', J.yld i H x H' → g x σ H' fun σ2 H2 => tb { D with nx := N, ct := N, bk := D.nx } σ2 H2)
theorem tFor_list {tl : TE} {tb : TS} {D : Ends} {H : Hp} : tFor (iList K tl) g tb D σ H = (tl σ H fun x H1 => ∃ a, x = .ref a ∧ (∃ xs, SqL K H1 a xs) ∧ ForGoal (Itl K a) g tb D σ H1) := rfl
theorem tFor_str {tl : TE} {tb : TS} {D : Ends} {H : Hp} : tFor (iStr tl) g tb D σ H = (tl σ H fun x H1 => ∃ z, x = .str z ∧ ForGoal (Its z) g tb D σ H1) := rfl
theorem tFor_rng1 {ta : TA} {tb : TS} {D : Ends} {H : Hp} : tFor (iRng1 ta) g tb D σ H = (ta σ H fun zs H1 => ∃ j : Int, zs = [.int j] ∧ -(2 ^ 62) ≤ j ∧ j < 2 ^ 62 ∧ ForGoal (Itr 0 j.toNat) g tb D σ H1) := rfl
/-- a for over n turns that give the items of xs -/
theorem for_w (w : Walk J n G (YAt xs)) {tb : TS} {D : Ends} {H : Hp} (Pv : Nat → L2.St → Hp → Prop) (h0 : Pv 0 σ H) (hG : ∀ i σ H, i ≤ n → Pv i σ H → G H)
    (hs : ∀ (i : Nat) (x : V) (σ : L2.St) (H : Hp), xs[i]? = some x → Pv i σ H → g x σ H fun σ2 H2 => tb { D with nx := Pv (i + 1), ct := Pv (i + 1), bk := D.nx } σ2 H2) (hd : ∀ σ H, Pv n σ H → D.nx σ H) : ForGoal J g tb D σ H :=
  for_it w Pv h0 hG (fun i x σ H H' _ p y => by
    obtain ⟨rfl, hx⟩ := y
    exact hs i x σ _ hx p) hd
theorem walk_strL {z : Str} : Walk (Its z) z.cps.size (fun _ => True) (YAt (z.cps.toList.map fun c => V.str ⟨#[c]⟩)) :=
  walk_str.mono (fun _ _ => trivial) fun i H x H' _ _ y => by
    obtain ⟨rfl, c, hc, rfl⟩ := y
    refine ⟨rfl, ?_⟩
    rw [List.getElem?_map, Array.getElem?_toList, hc] <;> rfl
end
end LfR
set_option Elab.async false
set_option linter.all false
set_option maxRecDepth 100000
set_option maxHeartbeats 4000000
/-! The mirror: what the desk answers, over lists of code points. -/
namespace LfM
open PySem PySem.Spec PyProof.Rows L2
abbrev Tx := List Nat
abbrev Rows := List (List Int)
def figs : Tx := [48, 49, 50, 51, 52, 53, 54, 55, 56, 57]
def lets : Tx := [97, 98, 99, 100, 101, 102, 103, 104, 105, 106, 107, 108, 109, 110, 111, 112, 113, 114, 115, 116, 117, 118, 119, 120, 121, 122]
def allIn (a sg : Tx) (most : Nat) : Bool := decide (0 < a.length) && (decide (a.length ≤ most) && a.all fun c => sg.contains c)
def isWord (a : Tx) : Bool := allIn a lets 8
def readCount (a : Tx) : Option Nat := if allIn a figs 60 && !(a.headD 0 == 48 && !(a == [48])) then some (NumText.digitsVal a) else none
def readNumber : Tx → Option Int
  | 45 :: r => match readCount r with
    | none => none
    | some 0 => none
    | some (n + 1) => some (-((n + 1 : Nat) : Int))
  | a => (readCount a).map fun n => (n : Int)
def mapO {α β : Type} (f : α → Option β) : List α → Option (List β)
  | [] => some []
  | a :: r => match f a with
    | none => none
    | some b => (mapO f r).map (b :: ·)
def readRow (a : Tx) : Option (List Int) := if a == [46] then some [] else mapO readNumber (TL.spl [32] 0 [] a)
def readRows (a : Tx) : Option Rows := if a == [45] then some [] else mapO readRow (TL.spl [32, 47, 32] 0 [] a)
def showInt (i : Int) : Tx := TL.tl (Str.ofString (toString i))
def shownRow (r : List Int) : Tx := if r.isEmpty then [46] else TL.joinL [32] (r.map showInt)
def shownRows (rs : Rows) : Tx := if rs.isEmpty then [45] else TL.joinL [32, 47, 32] (rs.map shownRow)
/-- the six kinds' words -/
def kindW : Nat → Tx
  | 0 => [97, 108, 105, 107, 101]
  | 1 => [111, 112, 101, 110]
  | 2 => [116, 97, 105, 108, 115]
  | 3 => [119, 105, 110, 100, 111, 119, 115]
  | 4 => [116, 114, 101, 101]
  | _ => [112, 97, 105, 114, 115]
def kindIx (a : Tx) : Option Nat := if a == kindW 0 then some 0 else if a == kindW 1 then some 1 else if a == kindW 2 then some 2 else if a == kindW 3 then some 3 else if a == kindW 4 then some 4 else if a == kindW 5 then some 5 else none
def tailRow (r : List Int) : Bool := r.length == 3 && (r.all (fun z => decide (0 ≤ z)) && decide (1 ≤ r.getD 1 0))
def tailsOk (rs : Rows) : Bool := rs.all tailRow && decide (rs.length ≤ 12)
/-- what fits says, where it is asked -/
def fitsM (k : Nat) (rs : Rows) : Option Bool :=
  if k == 2 then some (tailsOk rs)
  else if k == 0 && rs == [[0], [1]] then some false
  else if k == 1 && rs == [[1], [1, 2]] then some false
  else if k == 3 && rs == [] then some false
  else if k == 4 && rs == [[2], [1, -1]] then some true
  else if k == 4 && rs == [[2], [1, -1], [1]] then some false
  else if k == 4 && rs == [[2], [1, -1], []] then some false
  else if k == 4 && rs == [[1], [1, 0]] then some false
  else if k == 5 && rs == [[2], [0, 0]] then some false
  else none
inductive Er where
  | row | name | text | kind | floor
  deriving DecidableEq
def Er.no : Er → Int
  | .row => 1
  | .name => 2
  | .text => 3
  | .kind => 4
  | .floor => 5
inductive Out (α : Type) where
  | ok (a : α)
  | err (e : Er)
  | out
  deriving DecidableEq
def readFloor (a : Tx) : Out (Nat × Rows) :=
  let (word, more) := match TL.par [32] [] a with
    | some (p, q) => (p, q)
    | none => (a, [])
  if !isWord word then .err .text else match readRows more with
    | none => .err .text
    | some rs => match kindIx word with
      | none => .err .kind
      | some k => match fitsM k rs with
        | some true => .ok (k, rs)
        | some false => .err .floor
        | none => .out
/-! first words -/
def wFloor : Tx := [102, 108, 111, 111, 114]
def wKeeps : Tx := [107, 101, 101, 112, 115]
def wShows : Tx := [115, 104, 111, 119, 115]
def wLate : Tx := [108, 97, 116, 101]
def wNames : Tx := [110, 97, 109, 101, 115]
def wBusy : Tx := [98, 117, 115, 121]
def wDrop : Tx := [100, 114, 111, 112]
def wShow : Tx := [115, 104, 111, 119]
def wPlan : Tx := [112, 108, 97, 110]
def wEnd : Tx := [101, 110, 100]
def wWhy : Tx := [119, 104, 121]
def wOk : Tx := [111, 107]
def isSaid (ws : List Tx) : Bool :=
  let f := ws.headD []
  if [wFloor, wKeeps, wShows, wLate].contains f then decide (3 ≤ ws.length)
  else if f == wNames then ws.length == 1
  else if f == wBusy then ws.length == 3
  else [wDrop, wShow, wPlan, wEnd, wWhy].contains f && ws.length == 2
abbrev Fl := Nat × Rows
abbrev State := List (Tx × Fl)
def look : State → Tx → Option Fl
  | [], _ => none
  | (k, v) :: r, n => if k == n then some v else look r n
def putS (st : State) (n : Tx) (v : Fl) : State := if st.any (fun p => p.1 == n) then st.map (fun p => if p.1 == n then (p.1, v) else p) else st ++ [(n, v)]
def dropS (st : State) (n : Tx) : State := st.filter fun p => !(p.1 == n)
def leT : Tx → Tx → Bool := fun a b => !decide (b < a)
def srt (l : List Tx) : List Tx := l.mergeSort leT
def sayW (st : State) (ws : List Tx) : Out (Tx × State) :=
  if !isSaid ws then .err .row else
  let f := ws.headD []
  let n := ws.getD 1 []
  if f == wNames then .ok (TL.joinL [32] (srt (st.map (·.1))), st)
  else if f == wBusy then (match look st n with
    | none => .err .name
    | some _ => match readCount (ws.getD 2 []) with
      | none => .err .text
      | some _ => .out)
  else if f == wDrop then (match look st n with
    | none => .err .name
    | some _ => .ok (wOk, dropS st n))
  else if f == wLate then (match look st n with
    | none => .err .name
    | some (k, rs) => match readRows (TL.joinL [32] (ws.drop 2)) with
      | none => .err .text
      | some more => match fitsM k (rs ++ more) with
        | some false => .err .floor
        | _ => .out)
  else if f == wFloor then (if !isWord n then .err .name else match readFloor (TL.joinL [32] (ws.drop 2)) with
    | .err e => .err e
    | .ok v => .ok (wOk, putS st n v)
    | .out => .out)
  else match look st n with
    | none => .err .name
    | some (k, rs) =>
      if f == wShow then .ok (kindW k ++ ([32] ++ shownRows rs), st)
      else if f == wKeeps || f == wShows then (match readRows (TL.joinL [32] (ws.drop 2)) with
        | none => .err .text
        | some _ => .out)
      else .out
def sayM (st : State) (row : Tx) : Out (Tx × State) := sayW st (TL.spl [32] 0 [] row)
end LfM
set_option Elab.async false
set_option linter.all false
set_option maxRecDepth 100000
set_option maxHeartbeats 4000000
/-! What the desk answers, row by row. -/
namespace LfM
open PySem PySem.Spec PyProof.Rows L2
theorem sayM_ws {st : State} {ws : List Tx} (hne : ws ≠ []) (h : ∀ w ∈ ws, 32 ∉ w) : sayM st (TL.joinL [32] ws) = sayW st ws := by
  unfold sayM
  rw [SX.spl_join hne h]
theorem w_late (st : State) (n x : Tx) (r : List Tx) : sayW st (wLate :: n :: x :: r) = (match look st n with
    | none => .err .name
    | some (k, rs) => match readRows (TL.joinL [32] (x :: r)) with
      | none => .err .text
      | some more => match fitsM k (rs ++ more) with
        | some false => .err .floor
        | _ => .out) := rfl
theorem w_floor (st : State) (n x : Tx) (r : List Tx) : sayW st (wFloor :: n :: x :: r) = (if !isWord n then .err .name else match readFloor (TL.joinL [32] (x :: r)) with
    | .err e => .err e
    | .ok v => .ok (wOk, putS st n v)
    | .out => .out) := rfl
theorem w_busy (st : State) (n x : Tx) : sayW st [wBusy, n, x] = (match look st n with
    | none => .err .name
    | some _ => match readCount x with
      | none => .err .text
      | some _ => .out) := rfl
theorem w_drop (st : State) (n : Tx) : sayW st [wDrop, n] = (match look st n with
    | none => .err .name
    | some _ => .ok (wOk, dropS st n)) := rfl
theorem w_show (st : State) (n : Tx) : sayW st [wShow, n] = (match look st n with
    | none => .err .name
    | some (k, rs) => .ok (kindW k ++ ([32] ++ shownRows rs), st)) := rfl
theorem w_ask (st : State) (f n : Tx) (hf : f = wPlan ∨ f = wEnd ∨ f = wWhy) : sayW st [f, n] = (match look st n with
    | none => .err .name
    | some _ => .out) := by
  rcases hf with rfl | rfl | rfl <;> (cases h : look st n <;> simp only [sayW] <;> (show (match look st n with | none => _ | some (k, rs) => _) = _; rw [h]) <;> rfl)
theorem w_keeps (st : State) (f n x : Tx) (r : List Tx) (hf : f = wKeeps ∨ f = wShows) : sayW st (f :: n :: x :: r) = (match look st n with
    | none => .err .name
    | some (k, rs) => match readRows (TL.joinL [32] (x :: r)) with
        | none => .err .text
        | some _ => .out) := by
  rcases hf with rfl | rfl <;> rfl
theorem w_names (st : State) : sayW st [wNames] = .ok (TL.joinL [32] (srt (st.map (·.1))), st) := rfl
theorem w_no {st : State} {ws : List Tx} (h : isSaid ws = false) : sayW st ws = .err .row := by
  unfold sayW
  rw [h]
  rfl
/-- a word of more than six signs is no first word -/
theorem no_long {f : Tx} {r : List Tx} (h : 6 ≤ f.length) : isSaid (f :: r) = false := by
  have ne : ∀ w : Tx, w.length < 6 → (f == w) = false := fun w hw => by
    rw [beq_eq_false_iff_ne]
    rintro rfl
    omega
  unfold isSaid
  simp only [List.headD_cons, List.contains_cons, List.contains_nil, ne wFloor (by decide), ne wKeeps (by decide), ne wShows (by decide), ne wLate (by decide), ne wNames (by decide), ne wBusy (by decide), ne wDrop (by decide), ne wShow (by decide), ne wPlan (by decide), ne wEnd (by decide), ne wWhy (by decide), Bool.or_false, Bool.false_and, Bool.false_eq_true, if_false]
end LfM
set_option Elab.async false
set_option linter.all false
set_option maxRecDepth 100000
set_option maxHeartbeats 4000000
/-! The rows that are refused: as the law writes them, as words; what the desk answers to each. Printed by gen_law.py. -/
namespace LfM
open PySem PySem.Spec PyProof.Rows L2 SX
/-! the literals -/
theorem lit0 : ("" : Str) = S [] := rfl
theorem lit1 : (" " : Str) = S [32] := rfl
theorem lit2 : ("  tails -" : Str) = S [32, 32, 116, 97, 105, 108, 115, 32, 45] := rfl
theorem lit3 : (" -" : Str) = S [32, 45] := rfl
theorem lit4 : (" - / 1" : Str) = S [32, 45, 32, 47, 32, 49] := rfl
theorem lit5 : (" -0" : Str) = S [32, 45, 48] := rfl
theorem lit6 : (" -1" : Str) = S [32, 45, 49] := rfl
theorem lit7 : (" ." : Str) = S [32, 46] := rfl
theorem lit8 : (" 0" : Str) = S [32, 48] := rfl
theorem lit9 : (" 0 0" : Str) = S [32, 48, 32, 48] := rfl
theorem lit10 : (" 00" : Str) = S [32, 48, 48] := rfl
theorem lit11 : (" 1" : Str) = S [32, 49] := rfl
theorem lit12 : (" 1 +2" : Str) = S [32, 49, 32, 43, 50] := rfl
theorem lit13 : (" 1 0 1" : Str) = S [32, 49, 32, 48, 32, 49] := rfl
theorem lit14 : (" 1 2" : Str) = S [32, 49, 32, 50] := rfl
theorem lit15 : (" 1,2" : Str) = S [32, 49, 44, 50] := rfl
theorem lit16 : (" Tails -" : Str) = S [32, 84, 97, 105, 108, 115, 32, 45] := rfl
theorem lit17 : (" alike 0 / 1" : Str) = S [32, 97, 108, 105, 107, 101, 32, 48, 32, 47, 32, 49] := rfl
theorem lit18 : (" names" : Str) = S [32, 110, 97, 109, 101, 115] := rfl
theorem lit19 : (" none -" : Str) = S [32, 110, 111, 110, 101, 32, 45] := rfl
theorem lit20 : (" open 1 / 1 2" : Str) = S [32, 111, 112, 101, 110, 32, 49, 32, 47, 32, 49, 32, 50] := rfl
theorem lit21 : (" pairs 2 / 0 0" : Str) = S [32, 112, 97, 105, 114, 115, 32, 50, 32, 47, 32, 48, 32, 48] := rfl
theorem lit22 : (" tail 1 2" : Str) = S [32, 116, 97, 105, 108, 32, 49, 32, 50] := rfl
theorem lit23 : (" tails" : Str) = S [32, 116, 97, 105, 108, 115] := rfl
theorem lit24 : (" tails " : Str) = S [32, 116, 97, 105, 108, 115, 32] := rfl
theorem lit25 : (" tails -" : Str) = S [32, 116, 97, 105, 108, 115, 32, 45] := rfl
theorem lit26 : (" tails 1 0 1" : Str) = S [32, 116, 97, 105, 108, 115, 32, 49, 32, 48, 32, 49] := rfl
theorem lit27 : (" tails 1 2" : Str) = S [32, 116, 97, 105, 108, 115, 32, 49, 32, 50] := rfl
theorem lit28 : (" tails 1 2 3 /" : Str) = S [32, 116, 97, 105, 108, 115, 32, 49, 32, 50, 32, 51, 32, 47] := rfl
theorem lit29 : (" tailss -" : Str) = S [32, 116, 97, 105, 108, 115, 115, 32, 45] := rfl
theorem lit30 : (" tailss 1 2 03" : Str) = S [32, 116, 97, 105, 108, 115, 115, 32, 49, 32, 50, 32, 48, 51] := rfl
theorem lit31 : (" tree 1 / 1 0" : Str) = S [32, 116, 114, 101, 101, 32, 49, 32, 47, 32, 49, 32, 48] := rfl
theorem lit32 : (" windows -" : Str) = S [32, 119, 105, 110, 100, 111, 119, 115, 32, 45] := rfl
theorem lit33 : (" x" : Str) = S [32, 120] := rfl
theorem lit34 : ("Names" : Str) = S [78, 97, 109, 101, 115] := rfl
theorem lit35 : ("Show " : Str) = S [83, 104, 111, 119, 32] := rfl
theorem lit36 : ("abcdefgh " : Str) = S [97, 98, 99, 100, 101, 102, 103, 104, 32] := rfl
theorem lit37 : ("busy " : Str) = S [98, 117, 115, 121, 32] := rfl
theorem lit38 : ("drop" : Str) = S [100, 114, 111, 112] := rfl
theorem lit39 : ("drop " : Str) = S [100, 114, 111, 112, 32] := rfl
theorem lit40 : ("end " : Str) = S [101, 110, 100, 32] := rfl
theorem lit41 : ("floor" : Str) = S [102, 108, 111, 111, 114] := rfl
theorem lit42 : ("floor " : Str) = S [102, 108, 111, 111, 114, 32] := rfl
theorem lit43 : ("keeps " : Str) = S [107, 101, 101, 112, 115, 32] := rfl
theorem lit44 : ("late " : Str) = S [108, 97, 116, 101, 32] := rfl
theorem lit45 : ("name" : Str) = S [110, 97, 109, 101] := rfl
theorem lit46 : ("names " : Str) = S [110, 97, 109, 101, 115, 32] := rfl
theorem lit47 : ("plan" : Str) = S [112, 108, 97, 110] := rfl
theorem lit48 : ("plan " : Str) = S [112, 108, 97, 110, 32] := rfl
theorem lit49 : ("show" : Str) = S [115, 104, 111, 119] := rfl
theorem lit50 : ("show " : Str) = S [115, 104, 111, 119, 32] := rfl
theorem lit51 : ("shows " : Str) = S [115, 104, 111, 119, 115, 32] := rfl
theorem lit52 : ("why" : Str) = S [119, 104, 121] := rfl
theorem lit53 : ("why " : Str) = S [119, 104, 121, 32] := rfl
def rs1 (G U : Str) : List Str := ["", " names", "names ", "name", "Names", "floor", "floor " ++ U, "late " ++ G, "drop", "drop " ++ G ++ " " ++ G, "show", "show " ++ G ++ " ", "plan", "plan " ++ G ++ " 0", "end " ++ G ++ " " ++ G, "why", "why " ++ G ++ " ", "keeps " ++ G, "shows " ++ G, "busy " ++ G, "busy " ++ G ++ " 0 0", "Show " ++ G, U ++ "abcdefgh " ++ G]
def rw1 (g u : Tx) : List (List Tx) := [[[]], [[], wNames], [wNames, []], [[110, 97, 109, 101]], [[78, 97, 109, 101, 115]], [wFloor], [wFloor, u], [wLate, g], [wDrop], [wDrop, g, g], [wShow], [wShow, g, []], [wPlan], [wPlan, g, [48]], [wEnd, g, g], [wWhy], [wWhy, g, []], [wKeeps, g], [wShows, g], [wBusy, g], [wBusy, g, [48], [48]], [[83, 104, 111, 119], g], [u ++ [97, 98, 99, 100, 101, 102, 103, 104], g]]
def rs2 (U M : Str) : List Str := ["drop " ++ U, "drop " ++ M, "show " ++ M, "show " ++ U, "plan " ++ U, "end " ++ M, "why " ++ U, "keeps " ++ U ++ " x", "shows " ++ M ++ " x", "busy " ++ U ++ " x", "late " ++ U ++ " x", "floor " ++ M ++ " x", "late " ++ M ++ " -", "floor " ++ M ++ " tails -", "keeps " ++ U ++ " -", "busy " ++ M ++ " 0"]
def rw2 (u m : Tx) : List (List Tx) := [[wDrop, u], [wDrop, m], [wShow, m], [wShow, u], [wPlan, u], [wEnd, m], [wWhy, u], [wKeeps, u, [120]], [wShows, m, [120]], [wBusy, u, [120]], [wLate, u, [120]], [wFloor, m, [120]], [wLate, m, [45]], [wFloor, m, [116, 97, 105, 108, 115], [45]], [wKeeps, u, [45]], [wBusy, m, [48]]]
def rs3 (G T U : Str) : List Str := ["floor " ++ U ++ " ", "floor " ++ U ++ " tails", "floor " ++ U ++ " tails ", "floor " ++ U ++ "  tails -", "floor " ++ U ++ " Tails -", "floor " ++ U ++ " tailss 1 2 03", "floor " ++ U ++ " tails 1 2 3 /", "late " ++ G ++ " x", "late " ++ G ++ " ", "keeps " ++ G ++ " 1 +2", "shows " ++ G ++ " -0", "busy " ++ G ++ " -1", "busy " ++ G ++ " ", "busy " ++ G ++ " 00", "shows " ++ T ++ " ", "keeps " ++ T ++ " 1,2", "late " ++ T ++ " - / 1"]
def rw3 (g t u : Tx) : List (List Tx) := [[wFloor, u, []], [wFloor, u, [116, 97, 105, 108, 115]], [wFloor, u, [116, 97, 105, 108, 115], []], [wFloor, u, [], [116, 97, 105, 108, 115], [45]], [wFloor, u, [84, 97, 105, 108, 115], [45]], [wFloor, u, [116, 97, 105, 108, 115, 115], [49], [50], [48, 51]], [wFloor, u, [116, 97, 105, 108, 115], [49], [50], [51], [47]], [wLate, g, [120]], [wLate, g, []], [wKeeps, g, [49], [43, 50]], [wShows, g, [45, 48]], [wBusy, g, [45, 49]], [wBusy, g, []], [wBusy, g, [48, 48]], [wShows, t, []], [wKeeps, t, [49, 44, 50]], [wLate, t, [45], [47], [49]]]
def rs4 (G U : Str) : List Str := ["floor " ++ U ++ " tailss -", "floor " ++ U ++ " tail 1 2", "floor " ++ G ++ " none -"]
def rw4 (g u : Tx) : List (List Tx) := [[wFloor, u, [116, 97, 105, 108, 115, 115], [45]], [wFloor, u, [116, 97, 105, 108], [49], [50]], [wFloor, g, [110, 111, 110, 101], [45]]]
def rs5 (G T U : Str) : List Str := ["floor " ++ U ++ " tails 1 2", "floor " ++ G ++ " tails 1 0 1", "floor " ++ U ++ " alike 0 / 1", "floor " ++ U ++ " pairs 2 / 0 0", "floor " ++ U ++ " tree 1 / 1 0", "floor " ++ U ++ " windows -", "late " ++ G ++ " 1 2", "late " ++ T ++ " 1", "late " ++ G ++ " 1 0 1", "late " ++ T ++ " .", "floor " ++ U ++ " open 1 / 1 2"]
def rw5 (g t u : Tx) : List (List Tx) := [[wFloor, u, [116, 97, 105, 108, 115], [49], [50]], [wFloor, g, [116, 97, 105, 108, 115], [49], [48], [49]], [wFloor, u, [97, 108, 105, 107, 101], [48], [47], [49]], [wFloor, u, [112, 97, 105, 114, 115], [50], [47], [48], [48]], [wFloor, u, [116, 114, 101, 101], [49], [47], [49], [48]], [wFloor, u, [119, 105, 110, 100, 111, 119, 115], [45]], [wLate, g, [49], [50]], [wLate, t, [49]], [wLate, g, [49], [48], [49]], [wLate, t, [46]], [wFloor, u, [111, 112, 101, 110], [49], [47], [49], [50]]]
theorem rsw1 (g u : Tx) : rs1 (S g) (S u) = (rw1 g u).map (fun ws => S (TL.joinL [32] ws)) := by
  simp only [rs1, rw1, List.map_cons, List.map_nil, lit0, lit1, lit8, lit9, lit18, lit34, lit35, lit36, lit37, lit38, lit39, lit40, lit41, lit42, lit43, lit44, lit45, lit46, lit47, lit48, lit49, lit50, lit51, lit52, lit53, S_cat, TL.joinL, List.append_assoc, List.cons_append, List.nil_append, List.append_nil, wBusy, wDrop, wEnd, wFloor, wKeeps, wLate, wNames, wPlan, wShow, wShows, wWhy]
theorem rsw2 (u m : Tx) : rs2 (S u) (S m) = (rw2 u m).map (fun ws => S (TL.joinL [32] ws)) := by
  simp only [rs2, rw2, List.map_cons, List.map_nil, lit3, lit8, lit25, lit33, lit37, lit39, lit40, lit42, lit43, lit44, lit48, lit50, lit51, lit53, S_cat, TL.joinL, List.append_assoc, List.cons_append, List.nil_append, List.append_nil, wBusy, wDrop, wEnd, wFloor, wKeeps, wLate, wNames, wPlan, wShow, wShows, wWhy]
theorem rsw3 (g t u : Tx) : rs3 (S g) (S t) (S u) = (rw3 g t u).map (fun ws => S (TL.joinL [32] ws)) := by
  simp only [rs3, rw3, List.map_cons, List.map_nil, lit1, lit2, lit4, lit5, lit6, lit10, lit12, lit15, lit16, lit23, lit24, lit28, lit30, lit33, lit37, lit42, lit43, lit44, lit51, S_cat, TL.joinL, List.append_assoc, List.cons_append, List.nil_append, List.append_nil, wBusy, wDrop, wEnd, wFloor, wKeeps, wLate, wNames, wPlan, wShow, wShows, wWhy]
theorem rsw4 (g u : Tx) : rs4 (S g) (S u) = (rw4 g u).map (fun ws => S (TL.joinL [32] ws)) := by
  simp only [rs4, rw4, List.map_cons, List.map_nil, lit19, lit22, lit29, lit42, S_cat, TL.joinL, List.append_assoc, List.cons_append, List.nil_append, List.append_nil, wBusy, wDrop, wEnd, wFloor, wKeeps, wLate, wNames, wPlan, wShow, wShows, wWhy]
theorem rsw5 (g t u : Tx) : rs5 (S g) (S t) (S u) = (rw5 g t u).map (fun ws => S (TL.joinL [32] ws)) := by
  simp only [rs5, rw5, List.map_cons, List.map_nil, lit7, lit11, lit13, lit14, lit17, lit20, lit21, lit26, lit27, lit31, lit32, lit42, lit44, S_cat, TL.joinL, List.append_assoc, List.cons_append, List.nil_append, List.append_nil, wBusy, wDrop, wEnd, wFloor, wKeeps, wLate, wNames, wPlan, wShow, wShows, wWhy]
/-- what is known of the names and of what stands -/
structure Known (st : State) (g t u m : Tx) (rs : Rows) : Prop where
  wg : isWord g = true
  wt : isWord t = true
  wu : isWord u = true
  wm : isWord m = false
  bm : 32 ∉ m
  lg : look st g = some (2, rs)
  lt : look st t = some (4, [[2], [1, -1]])
  lu : look st u = none
  lm : look st m = none
theorem word_lets {a : Tx} (h : isWord a = true) : ∀ c ∈ a, 97 ≤ c ∧ c ≤ 122 := by
  intro c hc
  unfold isWord allIn at h
  rw [Bool.and_eq_true, Bool.and_eq_true, List.all_eq_true] at h
  have z := h.2.2 c hc
  rw [List.contains_iff_mem] at z
  revert z
  unfold lets
  simp only [List.mem_cons, List.not_mem_nil, or_false]
  omega
theorem word_len {a : Tx} (h : isWord a = true) : 0 < a.length ∧ a.length ≤ 8 := by
  unfold isWord allIn at h
  rw [Bool.and_eq_true, Bool.and_eq_true, decide_eq_true_eq, decide_eq_true_eq] at h
  exact ⟨h.1, h.2.1⟩
theorem word_free {a : Tx} (h : isWord a = true) : 32 ∉ a := fun hc => by
  have := word_lets h 32 hc
  omega
theorem fit_late {rs x : Rows} (h : x.all tailRow = false) : fitsM 2 (rs ++ x) = some false := by
  show some (tailsOk (rs ++ x)) = some false
  unfold tailsOk
  rw [List.all_append, h, Bool.and_false, Bool.false_and]
section
variable {st : State} {g t u m : Tx} {rs : Rows}
theorem say1 (k : Known st g t u m rs) : ∀ ws ∈ rw1 g u, sayW st ws = .err .row := by
  unfold rw1
  intro ws h
  simp only [List.mem_cons, List.not_mem_nil, or_false] at h
  rcases h with rfl | rfl | rfl | rfl | rfl | rfl | rfl | rfl | rfl | rfl | rfl | rfl | rfl | rfl | rfl | rfl | rfl | rfl | rfl | rfl | rfl | rfl | rfl
  · exact w_no rfl
  · exact w_no rfl
  · exact w_no rfl
  · exact w_no rfl
  · exact w_no rfl
  · exact w_no rfl
  · exact w_no rfl
  · exact w_no rfl
  · exact w_no rfl
  · exact w_no rfl
  · exact w_no rfl
  · exact w_no rfl
  · exact w_no rfl
  · exact w_no rfl
  · exact w_no rfl
  · exact w_no rfl
  · exact w_no rfl
  · exact w_no rfl
  · exact w_no rfl
  · exact w_no rfl
  · exact w_no rfl
  · exact w_no rfl
  · exact w_no (no_long (by rw [List.length_append] <;> simp))
theorem free1 (k : Known st g t u m rs) : ∀ ws ∈ rw1 g u, ws ≠ [] ∧ ∀ w ∈ ws, 32 ∉ w := by
  have e1 := word_free k.wg
  have e2 := word_free k.wt
  have e3 := word_free k.wu
  have e4 := k.bm
  unfold rw1
  intro ws h
  simp only [List.mem_cons, List.not_mem_nil, or_false] at h
  rcases h with rfl | rfl | rfl | rfl | rfl | rfl | rfl | rfl | rfl | rfl | rfl | rfl | rfl | rfl | rfl | rfl | rfl | rfl | rfl | rfl | rfl | rfl | rfl <;> refine ⟨List.cons_ne_nil _ _, ?_⟩ <;> simp [e1, e2, e3, e4, wBusy, wDrop, wEnd, wFloor, wKeeps, wLate, wNames, wPlan, wShow, wShows, wWhy]
/-- each of these rows is refused so -/
theorem bad1 (k : Known st g t u m rs) : ∀ x ∈ rs1 (S g) (S u), ∃ a : Tx, x = S a ∧ sayM st a = .err .row := by
  intro x hx
  rw [rsw1] at hx
  obtain ⟨ws, hw, rfl⟩ := List.mem_map.mp hx
  obtain ⟨h1, h2⟩ := free1 k ws hw
  exact ⟨_, rfl, (sayM_ws h1 h2).trans (say1 k ws hw)⟩
theorem say2 (k : Known st g t u m rs) : ∀ ws ∈ rw2 u m, sayW st ws = .err .name := by
  unfold rw2
  intro ws h
  simp only [List.mem_cons, List.not_mem_nil, or_false] at h
  rcases h with rfl | rfl | rfl | rfl | rfl | rfl | rfl | rfl | rfl | rfl | rfl | rfl | rfl | rfl | rfl | rfl
  · exact by
      rw [w_drop, k.lu]
  · exact by
      rw [w_drop, k.lm]
  · exact by
      rw [w_show, k.lm]
  · exact by
      rw [w_show, k.lu]
  · exact by
      rw [w_ask _ _ _ (by exact .inl rfl), k.lu]
  · exact by
      rw [w_ask _ _ _ (by exact .inr (.inl rfl)), k.lm]
  · exact by
      rw [w_ask _ _ _ (by exact .inr (.inr rfl)), k.lu]
  · exact by
      rw [w_keeps _ _ _ _ _ (by exact .inl rfl), k.lu]
  · exact by
      rw [w_keeps _ _ _ _ _ (by exact .inr rfl), k.lm]
  · exact by
      rw [w_busy, k.lu]
  · exact by
      rw [w_late, k.lu]
  · exact by
      rw [w_floor, k.wm] <;> rfl
  · exact by
      rw [w_late, k.lm]
  · exact by
      rw [w_floor, k.wm] <;> rfl
  · exact by
      rw [w_keeps _ _ _ _ _ (by exact .inl rfl), k.lu]
  · exact by
      rw [w_busy, k.lm]
theorem free2 (k : Known st g t u m rs) : ∀ ws ∈ rw2 u m, ws ≠ [] ∧ ∀ w ∈ ws, 32 ∉ w := by
  have e1 := word_free k.wg
  have e2 := word_free k.wt
  have e3 := word_free k.wu
  have e4 := k.bm
  unfold rw2
  intro ws h
  simp only [List.mem_cons, List.not_mem_nil, or_false] at h
  rcases h with rfl | rfl | rfl | rfl | rfl | rfl | rfl | rfl | rfl | rfl | rfl | rfl | rfl | rfl | rfl | rfl <;> refine ⟨List.cons_ne_nil _ _, ?_⟩ <;> simp [e1, e2, e3, e4, wBusy, wDrop, wEnd, wFloor, wKeeps, wLate, wNames, wPlan, wShow, wShows, wWhy]
/-- each of these rows is refused so -/
theorem bad2 (k : Known st g t u m rs) : ∀ x ∈ rs2 (S u) (S m), ∃ a : Tx, x = S a ∧ sayM st a = .err .name := by
  intro x hx
  rw [rsw2] at hx
  obtain ⟨ws, hw, rfl⟩ := List.mem_map.mp hx
  obtain ⟨h1, h2⟩ := free2 k ws hw
  exact ⟨_, rfl, (sayM_ws h1 h2).trans (say2 k ws hw)⟩
theorem say3 (k : Known st g t u m rs) : ∀ ws ∈ rw3 g t u, sayW st ws = .err .text := by
  unfold rw3
  intro ws h
  simp only [List.mem_cons, List.not_mem_nil, or_false] at h
  rcases h with rfl | rfl | rfl | rfl | rfl | rfl | rfl | rfl | rfl | rfl | rfl | rfl | rfl | rfl | rfl | rfl | rfl
  · exact by
      rw [w_floor, k.wu, show readFloor (TL.joinL [32] [[]]) = .err .text from by decide +kernel] <;> rfl
  · exact by
      rw [w_floor, k.wu, show readFloor (TL.joinL [32] [[116, 97, 105, 108, 115]]) = .err .text from by decide +kernel] <;> rfl
  · exact by
      rw [w_floor, k.wu, show readFloor (TL.joinL [32] [[116, 97, 105, 108, 115], []]) = .err .text from by decide +kernel] <;> rfl
  · exact by
      rw [w_floor, k.wu, show readFloor (TL.joinL [32] [[], [116, 97, 105, 108, 115], [45]]) = .err .text from by decide +kernel] <;> rfl
  · exact by
      rw [w_floor, k.wu, show readFloor (TL.joinL [32] [[84, 97, 105, 108, 115], [45]]) = .err .text from by decide +kernel] <;> rfl
  · exact by
      rw [w_floor, k.wu, show readFloor (TL.joinL [32] [[116, 97, 105, 108, 115, 115], [49], [50], [48, 51]]) = .err .text from by decide +kernel] <;> rfl
  · exact by
      rw [w_floor, k.wu, show readFloor (TL.joinL [32] [[116, 97, 105, 108, 115], [49], [50], [51], [47]]) = .err .text from by decide +kernel] <;> rfl
  · exact by
      rw [w_late, k.lg]
      show (match readRows (TL.joinL [32] [[120]]) with | none => Out.err Er.text | some more => match fitsM 2 (rs ++ more) with | some false => Out.err Er.floor | _ => Out.out) = _
      rw [show readRows (TL.joinL [32] [[120]]) = none from by decide +kernel]
  · exact by
      rw [w_late, k.lg]
      show (match readRows (TL.joinL [32] [[]]) with | none => Out.err Er.text | some more => match fitsM 2 (rs ++ more) with | some false => Out.err Er.floor | _ => Out.out) = _
      rw [show readRows (TL.joinL [32] [[]]) = none from by decide +kernel]
  · exact by
      rw [w_keeps _ _ _ _ _ (by exact .inl rfl), k.lg]
      show (match readRows (TL.joinL [32] [[49], [43, 50]]) with | none => Out.err Er.text | some _ => Out.out) = _
      rw [show readRows (TL.joinL [32] [[49], [43, 50]]) = none from by decide +kernel]
  · exact by
      rw [w_keeps _ _ _ _ _ (by exact .inr rfl), k.lg]
      show (match readRows (TL.joinL [32] [[45, 48]]) with | none => Out.err Er.text | some _ => Out.out) = _
      rw [show readRows (TL.joinL [32] [[45, 48]]) = none from by decide +kernel]
  · exact by
      rw [w_busy, k.lg]
      show (match readCount [45, 49] with | none => Out.err Er.text | some _ => Out.out) = _
      rw [show readCount [45, 49] = none from by decide +kernel]
  · exact by
      rw [w_busy, k.lg]
      show (match readCount [] with | none => Out.err Er.text | some _ => Out.out) = _
      rw [show readCount [] = none from by decide +kernel]
  · exact by
      rw [w_busy, k.lg]
      show (match readCount [48, 48] with | none => Out.err Er.text | some _ => Out.out) = _
      rw [show readCount [48, 48] = none from by decide +kernel]
  · exact by
      rw [w_keeps _ _ _ _ _ (by exact .inr rfl), k.lt]
      show (match readRows (TL.joinL [32] [[]]) with | none => Out.err Er.text | some _ => Out.out) = _
      rw [show readRows (TL.joinL [32] [[]]) = none from by decide +kernel]
  · exact by
      rw [w_keeps _ _ _ _ _ (by exact .inl rfl), k.lt]
      show (match readRows (TL.joinL [32] [[49, 44, 50]]) with | none => Out.err Er.text | some _ => Out.out) = _
      rw [show readRows (TL.joinL [32] [[49, 44, 50]]) = none from by decide +kernel]
  · exact by
      rw [w_late, k.lt]
      show (match readRows (TL.joinL [32] [[45], [47], [49]]) with | none => Out.err Er.text | some more => match fitsM 4 ([[2], [1, -1]] ++ more) with | some false => Out.err Er.floor | _ => Out.out) = _
      rw [show readRows (TL.joinL [32] [[45], [47], [49]]) = none from by decide +kernel]
theorem free3 (k : Known st g t u m rs) : ∀ ws ∈ rw3 g t u, ws ≠ [] ∧ ∀ w ∈ ws, 32 ∉ w := by
  have e1 := word_free k.wg
  have e2 := word_free k.wt
  have e3 := word_free k.wu
  have e4 := k.bm
  unfold rw3
  intro ws h
  simp only [List.mem_cons, List.not_mem_nil, or_false] at h
  rcases h with rfl | rfl | rfl | rfl | rfl | rfl | rfl | rfl | rfl | rfl | rfl | rfl | rfl | rfl | rfl | rfl | rfl <;> refine ⟨List.cons_ne_nil _ _, ?_⟩ <;> simp [e1, e2, e3, e4, wBusy, wDrop, wEnd, wFloor, wKeeps, wLate, wNames, wPlan, wShow, wShows, wWhy]
/-- each of these rows is refused so -/
theorem bad3 (k : Known st g t u m rs) : ∀ x ∈ rs3 (S g) (S t) (S u), ∃ a : Tx, x = S a ∧ sayM st a = .err .text := by
  intro x hx
  rw [rsw3] at hx
  obtain ⟨ws, hw, rfl⟩ := List.mem_map.mp hx
  obtain ⟨h1, h2⟩ := free3 k ws hw
  exact ⟨_, rfl, (sayM_ws h1 h2).trans (say3 k ws hw)⟩
theorem say4 (k : Known st g t u m rs) : ∀ ws ∈ rw4 g u, sayW st ws = .err .kind := by
  unfold rw4
  intro ws h
  simp only [List.mem_cons, List.not_mem_nil, or_false] at h
  rcases h with rfl | rfl | rfl
  · exact by
      rw [w_floor, k.wu, show readFloor (TL.joinL [32] [[116, 97, 105, 108, 115, 115], [45]]) = .err .kind from by decide +kernel] <;> rfl
  · exact by
      rw [w_floor, k.wu, show readFloor (TL.joinL [32] [[116, 97, 105, 108], [49], [50]]) = .err .kind from by decide +kernel] <;> rfl
  · exact by
      rw [w_floor, k.wg, show readFloor (TL.joinL [32] [[110, 111, 110, 101], [45]]) = .err .kind from by decide +kernel] <;> rfl
theorem free4 (k : Known st g t u m rs) : ∀ ws ∈ rw4 g u, ws ≠ [] ∧ ∀ w ∈ ws, 32 ∉ w := by
  have e1 := word_free k.wg
  have e2 := word_free k.wt
  have e3 := word_free k.wu
  have e4 := k.bm
  unfold rw4
  intro ws h
  simp only [List.mem_cons, List.not_mem_nil, or_false] at h
  rcases h with rfl | rfl | rfl <;> refine ⟨List.cons_ne_nil _ _, ?_⟩ <;> simp [e1, e2, e3, e4, wBusy, wDrop, wEnd, wFloor, wKeeps, wLate, wNames, wPlan, wShow, wShows, wWhy]
/-- each of these rows is refused so -/
theorem bad4 (k : Known st g t u m rs) : ∀ x ∈ rs4 (S g) (S u), ∃ a : Tx, x = S a ∧ sayM st a = .err .kind := by
  intro x hx
  rw [rsw4] at hx
  obtain ⟨ws, hw, rfl⟩ := List.mem_map.mp hx
  obtain ⟨h1, h2⟩ := free4 k ws hw
  exact ⟨_, rfl, (sayM_ws h1 h2).trans (say4 k ws hw)⟩
theorem say5 (k : Known st g t u m rs) : ∀ ws ∈ rw5 g t u, sayW st ws = .err .floor := by
  unfold rw5
  intro ws h
  simp only [List.mem_cons, List.not_mem_nil, or_false] at h
  rcases h with rfl | rfl | rfl | rfl | rfl | rfl | rfl | rfl | rfl | rfl | rfl
  · exact by
      rw [w_floor, k.wu, show readFloor (TL.joinL [32] [[116, 97, 105, 108, 115], [49], [50]]) = .err .floor from by decide +kernel] <;> rfl
  · exact by
      rw [w_floor, k.wg, show readFloor (TL.joinL [32] [[116, 97, 105, 108, 115], [49], [48], [49]]) = .err .floor from by decide +kernel] <;> rfl
  · exact by
      rw [w_floor, k.wu, show readFloor (TL.joinL [32] [[97, 108, 105, 107, 101], [48], [47], [49]]) = .err .floor from by decide +kernel] <;> rfl
  · exact by
      rw [w_floor, k.wu, show readFloor (TL.joinL [32] [[112, 97, 105, 114, 115], [50], [47], [48], [48]]) = .err .floor from by decide +kernel] <;> rfl
  · exact by
      rw [w_floor, k.wu, show readFloor (TL.joinL [32] [[116, 114, 101, 101], [49], [47], [49], [48]]) = .err .floor from by decide +kernel] <;> rfl
  · exact by
      rw [w_floor, k.wu, show readFloor (TL.joinL [32] [[119, 105, 110, 100, 111, 119, 115], [45]]) = .err .floor from by decide +kernel] <;> rfl
  · exact by
      rw [w_late, k.lg]
      show (match readRows (TL.joinL [32] [[49], [50]]) with | none => Out.err Er.text | some more => match fitsM 2 (rs ++ more) with | some false => Out.err Er.floor | _ => Out.out) = _
      rw [show readRows (TL.joinL [32] [[49], [50]]) = some [[1, 2]] from by decide +kernel]
      show (match fitsM 2 (rs ++ [[1, 2]]) with | some false => Out.err Er.floor | _ => Out.out) = _
      rw [fit_late (by decide +kernel)]
  · exact by
      rw [w_late, k.lt]
      show (match readRows (TL.joinL [32] [[49]]) with | none => Out.err Er.text | some more => match fitsM 4 ([[2], [1, -1]] ++ more) with | some false => Out.err Er.floor | _ => Out.out) = _
      rw [show readRows (TL.joinL [32] [[49]]) = some [[1]] from by decide +kernel]
      rfl
  · exact by
      rw [w_late, k.lg]
      show (match readRows (TL.joinL [32] [[49], [48], [49]]) with | none => Out.err Er.text | some more => match fitsM 2 (rs ++ more) with | some false => Out.err Er.floor | _ => Out.out) = _
      rw [show readRows (TL.joinL [32] [[49], [48], [49]]) = some [[1, 0, 1]] from by decide +kernel]
      show (match fitsM 2 (rs ++ [[1, 0, 1]]) with | some false => Out.err Er.floor | _ => Out.out) = _
      rw [fit_late (by decide +kernel)]
  · exact by
      rw [w_late, k.lt]
      show (match readRows (TL.joinL [32] [[46]]) with | none => Out.err Er.text | some more => match fitsM 4 ([[2], [1, -1]] ++ more) with | some false => Out.err Er.floor | _ => Out.out) = _
      rw [show readRows (TL.joinL [32] [[46]]) = some [[]] from by decide +kernel]
      rfl
  · exact by
      rw [w_floor, k.wu, show readFloor (TL.joinL [32] [[111, 112, 101, 110], [49], [47], [49], [50]]) = .err .floor from by decide +kernel] <;> rfl
theorem free5 (k : Known st g t u m rs) : ∀ ws ∈ rw5 g t u, ws ≠ [] ∧ ∀ w ∈ ws, 32 ∉ w := by
  have e1 := word_free k.wg
  have e2 := word_free k.wt
  have e3 := word_free k.wu
  have e4 := k.bm
  unfold rw5
  intro ws h
  simp only [List.mem_cons, List.not_mem_nil, or_false] at h
  rcases h with rfl | rfl | rfl | rfl | rfl | rfl | rfl | rfl | rfl | rfl | rfl <;> refine ⟨List.cons_ne_nil _ _, ?_⟩ <;> simp [e1, e2, e3, e4, wBusy, wDrop, wEnd, wFloor, wKeeps, wLate, wNames, wPlan, wShow, wShows, wWhy]
/-- each of these rows is refused so -/
theorem bad5 (k : Known st g t u m rs) : ∀ x ∈ rs5 (S g) (S t) (S u), ∃ a : Tx, x = S a ∧ sayM st a = .err .floor := by
  intro x hx
  rw [rsw5] at hx
  obtain ⟨ws, hw, rfl⟩ := List.mem_map.mp hx
  obtain ⟨h1, h2⟩ := free5 k ws hw
  exact ⟨_, rfl, (sayM_ws h1 h2).trans (say5 k ws hw)⟩
end
end LfM
set_option Elab.async false
set_option linter.all false
set_option maxRecDepth 100000
set_option maxHeartbeats 4000000
/-! The names in their order; the rows that are answered. -/
namespace LfM
open PySem PySem.Spec PyProof.Rows L2 SX
/-! ### a sorted list is known by its members -/
def LeT (a b : Tx) : Prop := ¬ b < a
theorem leT_trans {a b c : Tx} (h1 : LeT a b) (h2 : LeT b c) : LeT a c := fun h =>
  absurd (List.le_trans (List.not_lt.mp h1) (List.not_lt.mp h2)) (List.not_le.mpr h)
theorem leT_anti {a b : Tx} (h1 : LeT a b) (h2 : LeT b a) : a = b := List.le_antisymm (List.not_lt.mp h1) (List.not_lt.mp h2)
theorem leT_total (a b : Tx) : LeT a b ∨ LeT b a := by
  rcases List.le_total a b with h | h
  · exact .inl (List.not_lt.mpr h)
  · exact .inr (List.not_lt.mpr h)
theorem sorted_uniq : ∀ {xs ys : List Tx}, xs.Perm ys → xs.Pairwise LeT → ys.Pairwise LeT → xs = ys
  | [], ys, p, _, _ => (List.Perm.nil_eq p)
  | x :: xs, [], p, _, _ => absurd p.length_eq (by simp)
  | x :: xs, y :: ys, p, h1, h2 => by
    have e : x = y := by
      have hx : x ∈ y :: ys := p.subset (List.mem_cons_self ..)
      have hy : y ∈ x :: xs := p.symm.subset (List.mem_cons_self ..)
      rcases List.mem_cons.mp hx with e | hx
      · exact e
      · rcases List.mem_cons.mp hy with e | hy
        · exact e.symm
        · exact leT_anti ((List.pairwise_cons.mp h1).1 y hy) ((List.pairwise_cons.mp h2).1 x hx)
    subst e
    rw [sorted_uniq ((List.perm_cons x).mp p) (List.pairwise_cons.mp h1).2 (List.pairwise_cons.mp h2).2]
theorem pairwise_of_rising : ∀ (p : Str) (l : List Str), risingS p l = true → (p :: l).Pairwise fun a b => LeT a.cps.toList b.cps.toList
  | p, [], _ => List.pairwise_singleton _ _
  | p, x :: r, h => by
    have h1 : (!ltCps x.cps.toList p.cps.toList && risingS x r) = true := h
    rw [Bool.and_eq_true, Bool.not_eq_true', PyProof.Rows.ltCps_eq, decide_eq_false_iff_not] at h1
    have ih := pairwise_of_rising x r h1.2
    refine List.pairwise_cons.mpr ⟨fun b hb => ?_, ih⟩
    rcases List.mem_cons.mp hb with rfl | hb
    · exact h1.1
    · exact leT_trans h1.1 ((List.pairwise_cons.mp ih).1 b hb)
theorem pairwise_of_sorted {l : List Str} (h : sortedS l = true) : l.Pairwise fun a b => LeT a.cps.toList b.cps.toList := by
  cases l with
  | nil => exact .nil
  | cons p r => exact pairwise_of_rising p r h
theorem srt_pair (l : List Tx) : (srt l).Pairwise LeT := by
  have z := List.pairwise_mergeSort (le := leT) (fun a b c h1 h2 => by
    unfold leT at *
    rw [Bool.not_eq_true', decide_eq_false_iff_not] at *
    exact leT_trans h1 h2) (fun a b => by
    unfold leT
    rw [Bool.or_eq_true, Bool.not_eq_true', Bool.not_eq_true', decide_eq_false_iff_not, decide_eq_false_iff_not]
    exact leT_total a b) l
  refine z.imp fun {a b} h => ?_
  unfold leT at h
  rw [Bool.not_eq_true', decide_eq_false_iff_not] at h
  exact h
/-- sorted texts are the sorted list -/
theorem srt_uniq {ys : List Str} {l : List Tx} (p : ys.Perm (l.map S)) (h : sortedS ys = true) : ys = (srt l).map S := by
  have e : ys.map TL.tl = srt l := by
    refine sorted_uniq ?_ ?_ (srt_pair l)
    · refine (p.map TL.tl).trans ?_
      rw [map_S_tl]
      exact (List.mergeSort_perm l leT).symm
    · rw [List.pairwise_map]
      exact pairwise_of_sorted h
  rw [← e, List.map_map]
  exact (List.map_id' (l := ys) |>.symm).trans (List.map_congr_left fun x _ => (S_tl x).symm)
theorem srt_perm {l m : List Tx} (p : l.Perm m) : srt l = srt m :=
  sorted_uniq ((List.mergeSort_perm l leT).trans (p.trans (List.mergeSort_perm m leT).symm)) (srt_pair l) (srt_pair m)
/-! ### texts cut at blanks -/
theorem joinL_cons (sep p : Tx) : ∀ {r : List Tx}, r ≠ [] → TL.joinL sep (p :: r) = p ++ (sep ++ TL.joinL sep r)
  | [], h => absurd rfl h
  | _ :: _, _ => rfl
theorem spl_ne (sep : Tx) : ∀ (k : Nat) (acc l : Tx), TL.spl sep k acc l ≠ []
  | k, acc, [] => by rw [TL.spl_nil]; simp
  | 0, acc, c :: r => by
    unfold TL.spl
    split
    · simp
    · exact spl_ne sep 0 _ r
  | k + 1, acc, _ :: r => by
    unfold TL.spl
    exact spl_ne sep k acc r
theorem join_spl : ∀ (l acc : Tx), TL.joinL [32] (TL.spl [32] 0 acc l) = acc ++ l
  | [], acc => by rw [TL.spl_nil, List.append_nil]; rfl
  | c :: r, acc => by
    by_cases h : TL.pre [32] (c :: r) = true
    · rw [TL.spl_hit h]
      show TL.joinL [32] (acc :: TL.spl [32] 0 [] r) = _
      rw [joinL_cons _ _ (spl_ne _ _ _ _), join_spl r []]
      have : c = 32 := by
        unfold TL.pre at h
        simpa using h
      rw [this] <;> rfl
    · rw [TL.spl_miss (by simpa using h), join_spl r (acc ++ [c]), List.append_assoc] <;> rfl
theorem spl_word {a b : Tx} (h : 32 ∉ a) : TL.spl [32] 0 [] (a ++ ([32] ++ b)) = a :: TL.spl [32] 0 [] b := by
  have := TL.spl_part1 (S := []) (acc := []) (rest := b) h
  rw [List.nil_append] at this
  exact this
/-- a row of a word, a name, a text -/
theorem sayM_three {st : State} {f n b : Tx} (hf : 32 ∉ f) (hn : 32 ∉ n) : ∃ x r, TL.joinL [32] (x :: r) = b ∧ sayM st (f ++ ([32] ++ (n ++ ([32] ++ b)))) = sayW st (f :: n :: x :: r) := by
  cases e : TL.spl [32] 0 [] b with
  | nil => exact absurd e (spl_ne _ _ _ _)
  | cons x r =>
    refine ⟨x, r, ?_, ?_⟩
    · rw [← e, join_spl, List.nil_append]
    · unfold sayM
      rw [spl_word hf, spl_word hn, e]
theorem sayM_two {st : State} {f n : Tx} (hf : 32 ∉ f) (hn : 32 ∉ n) : sayM st (f ++ ([32] ++ n)) = sayW st [f, n] :=
  sayM_ws (ws := [f, n]) (by simp) (by simp [hf, hn])
theorem spl_rows : ∀ {ps : List Tx} {l : Tx}, (∀ p ∈ ps, SX.free [32, 47, 32] p = true) → (∀ i, i < l.length → TL.pre [32, 47, 32] (l.drop i) = false) → TL.spl [32, 47, 32] 0 [] (TL.joinL [32, 47, 32] (ps ++ [l])) = ps ++ [l]
  | [], l, _, h => by
    show TL.spl [32, 47, 32] 0 [] l = [l]
    rw [TL.spl_last h, List.nil_append]
  | p :: ps, l, hp, h => by
    rw [List.cons_append, joinL_cons _ _ (by simp), spl_free _ (by simp) (hp p (List.mem_cons_self ..)), spl_rows (fun q hq => hp q (List.mem_cons_of_mem _ hq)) h]
theorem mapO_all {α β : Type} {f : α → Option β} {g : α → β} : ∀ {l : List α}, (∀ a ∈ l, f a = some (g a)) → mapO f l = some (l.map g)
  | [], _ => rfl
  | a :: l, h => by
    unfold mapO
    rw [h a (List.mem_cons_self ..), mapO_all fun b hb => h b (List.mem_cons_of_mem _ hb)] <;> rfl
/-! ### the drawn works -/
def workT (p : Nat × Nat) : Tx := [48 + p.1, 32, 48 + p.2, 32, 51]
def workR (p : Nat × Nat) : List Int := [(p.1 : Int), (p.2 : Int), 3]
def lastT : Tx := [48, 32, 49, 32, 49, 48]
def worksT (ps : List (Nat × Nat)) : Tx := TL.joinL [32, 47, 32] (ps.map workT ++ [lastT])
def worksR (ps : List (Nat × Nat)) : Rows := ps.map workR ++ [[0, 1, 10]]
def Drawn (ps : List (Nat × Nat)) : Prop := ps.length ≤ 11 ∧ ∀ p ∈ ps, p.1 < 9 ∧ 1 ≤ p.2 ∧ p.2 < 10
theorem work_free : ∀ a, a < 9 → ∀ b, b < 10 → SX.free [32, 47, 32] (workT (a, b)) = true := by decide +kernel
theorem work_read : ∀ a, a < 9 → ∀ b, b < 10 → readRow (workT (a, b)) = some (workR (a, b)) := by decide +kernel
theorem show_dig {n : Nat} (h : n < 10) : showInt (n : Int) = [48 + n] := (TL.tl_num n).trans (TL.numL_lt h)
theorem work_show {p : Nat × Nat} (h1 : p.1 < 9) (h2 : p.2 < 10) : shownRow (workR p) = workT p := by
  have e3 : showInt 3 = [51] := show_dig (n := 3) (by decide)
  show TL.joinL [32] [showInt (p.1 : Int), showInt (p.2 : Int), showInt 3] = _
  rw [show_dig (by omega), show_dig h2, e3] <;> rfl
theorem last_show : shownRow [0, 1, 10] = lastT := by
  have e0 : showInt 0 = [48] := show_dig (n := 0) (by decide)
  have e1 : showInt 1 = [49] := show_dig (n := 1) (by decide)
  have e2 : showInt 10 = [49, 48] := by
    refine (TL.tl_num 10).trans ?_
    rw [TL.numL_step (by decide), TL.numL_lt (by decide)] <;> rfl
  show TL.joinL [32] [showInt 0, showInt 1, showInt 10] = _
  rw [e0, e1, e2] <;> rfl
theorem joinL_ne {sep : Tx} {p : Tx} {r : List Tx} (hp : p ≠ []) : TL.joinL sep (p :: r) ≠ [] := by
  cases r with
  | nil => exact hp
  | cons q r => exact fun h => hp (List.append_eq_nil_iff.mp h).1
theorem worksT_ne (ps : List (Nat × Nat)) : (worksT ps == [45]) = false := by
  rw [beq_eq_false_iff_ne]
  intro e
  have hl := congrArg List.length e
  unfold worksT at hl
  cases ps with
  | nil => exact absurd hl (by decide)
  | cons p r =>
    rw [List.map_cons, List.cons_append, joinL_cons _ _ (by simp), List.length_append] at hl
    have : (workT p).length = 5 := rfl
    simp only [this, List.length_append, List.length_cons, List.length_nil] at hl
    omega
theorem works_read {ps : List (Nat × Nat)} (h : Drawn ps) : readRows (worksT ps) = some (worksR ps) := by
  unfold readRows
  rw [worksT_ne, if_neg (by simp)]
  unfold worksT
  rw [spl_rows (fun p hp => by
    obtain ⟨q, hq, rfl⟩ := List.mem_map.mp hp
    exact work_free q.1 (h.2 q hq).1 q.2 (h.2 q hq).2.2) (by decide +kernel)]
  have e : ∀ l : List (Nat × Nat), (∀ p ∈ l, p.1 < 9 ∧ 1 ≤ p.2 ∧ p.2 < 10) → mapO readRow (l.map workT ++ [lastT]) = some (l.map workR ++ [[0, 1, 10]]) := by
    intro l hl
    induction l with
    | nil => exact (by decide +kernel : mapO readRow ([] ++ [lastT]) = some [[0, 1, 10]])
    | cons p r ih =>
      have h1 := hl p (List.mem_cons_self ..)
      have h2 : readRow (workT p) = some (workR p) := work_read p.1 h1.1 p.2 h1.2.2
      have h3 := ih fun q hq => hl q (List.mem_cons_of_mem _ hq)
      simp only [List.map_cons, List.cons_append, mapO, h2, h3, Option.map_some]
  exact e ps h.2
theorem works_show {ps : List (Nat × Nat)} (h : Drawn ps) : shownRows (worksR ps) = worksT ps := by
  unfold shownRows worksR
  rw [if_neg (by simp), List.map_append, List.map_map]
  show TL.joinL [32, 47, 32] (_ ++ [shownRow [0, 1, 10]]) = _
  rw [last_show]
  unfold worksT
  congr 2
  exact List.map_congr_left fun p hp => work_show (h.2 p hp).1 (h.2 p hp).2.2
theorem works_fit {ps : List (Nat × Nat)} (h : Drawn ps) : fitsM 2 (worksR ps) = some true := by
  show some (tailsOk (worksR ps)) = some true
  congr 1
  unfold tailsOk worksR
  rw [Bool.and_eq_true, decide_eq_true_eq]
  refine ⟨?_, by rw [List.length_append, List.length_map]; exact Nat.succ_le_succ h.1⟩
  rw [List.all_append, Bool.and_eq_true, List.all_eq_true]
  refine ⟨fun r hr => ?_, by decide +kernel⟩
  obtain ⟨p, hp, rfl⟩ := List.mem_map.mp hr
  have h1 := (h.2 p hp).2.1
  unfold tailRow workR
  simp only [List.length_cons, List.length_nil, List.all_cons, List.all_nil, Bool.and_true, Bool.and_eq_true, decide_eq_true_eq]
  refine ⟨rfl, ⟨by omega, by omega, by decide⟩, ?_⟩
  show (1 : Int) ≤ (p.2 : Int)
  omega
def floorT (ps : List (Nat × Nat)) : Tx := kindW 2 ++ ([32] ++ worksT ps)
def treeT : Tx := kindW 4 ++ ([32] ++ [50, 32, 47, 32, 49, 32, 45, 49])
theorem floor_read {ps : List (Nat × Nat)} (h : Drawn ps) : readFloor (floorT ps) = .ok (2, worksR ps) := by
  unfold readFloor floorT
  rw [show TL.par [32] [] (kindW 2 ++ ([32] ++ worksT ps)) = some (kindW 2, worksT ps) from par_head (worksT ps) (by decide)]
  show (if !isWord (kindW 2) then _ else _) = _
  rw [show isWord (kindW 2) = true by decide]
  show (match readRows (worksT ps) with | none => Out.err Er.text | some rs => match kindIx (kindW 2) with | none => Out.err Er.kind | some k => match fitsM k rs with | some true => Out.ok (k, rs) | some false => Out.err Er.floor | none => Out.out) = _
  rw [works_read h, show kindIx (kindW 2) = some 2 by decide]
  show (match fitsM 2 (worksR ps) with | some true => Out.ok (2, worksR ps) | some false => Out.err Er.floor | none => Out.out) = _
  rw [works_fit h]
theorem tree_read : readFloor treeT = .ok (4, [[2], [1, -1]]) := by decide +kernel
theorem tree_show : kindW 4 ++ ([32] ++ shownRows [[2], [1, -1]]) = treeT := by decide +kernel
/-! ### the answers -/
theorem say_floor {st : State} {n b : Tx} {v : Fl} (hn : isWord n = true) (hr : readFloor b = .ok v) : sayM st (wFloor ++ ([32] ++ (n ++ ([32] ++ b)))) = .ok (wOk, putS st n v) := by
  obtain ⟨x, r, e1, e2⟩ := sayM_three (st := st) (f := wFloor) (b := b) (by decide) (word_free hn)
  rw [e2, w_floor, hn, e1, hr] <;> rfl
theorem say_show {st : State} {n : Tx} {k : Nat} {rs : Rows} (hn : isWord n = true) (hl : look st n = some (k, rs)) : sayM st (wShow ++ ([32] ++ n)) = .ok (kindW k ++ ([32] ++ shownRows rs), st) := by
  rw [sayM_two (by decide) (word_free hn), w_show, hl]
theorem say_show_no {st : State} {n : Tx} (hn : isWord n = true) (hl : look st n = none) : sayM st (wShow ++ ([32] ++ n)) = .err .name := by
  rw [sayM_two (by decide) (word_free hn), w_show, hl]
theorem say_drop {st : State} {n : Tx} {v : Fl} (hn : isWord n = true) (hl : look st n = some v) : sayM st (wDrop ++ ([32] ++ n)) = .ok (wOk, dropS st n) := by
  rw [sayM_two (by decide) (word_free hn), w_drop, hl]
theorem say_names (st : State) : sayM st wNames = .ok (TL.joinL [32] (srt (st.map (·.1))), st) := by
  have := sayM_ws (st := st) (ws := [wNames]) (by simp) (by decide)
  exact this.trans (w_names st)
end LfM
set_option Elab.async false
set_option linter.all false
set_option maxRecDepth 100000
set_option maxHeartbeats 4000000
/-! texts.py: the tests of texts, the numbers. -/
namespace Lf
open PySem PySem.Spec PyProof.Rows L2 LfR LamX LfM SX
theorem scal_ii (i j : Int) : scal (.int i) (.int j) = true := rfl
theorem scal_ss (i j : Str) : scal (.str i) (.str j) = true := rfl
theorem scal_bb (i j : Bool) : scal (.bl i) (.bl j) = true := rfl
theorem sz_le {n : Nat} (h : n ≤ 16777216) : n ≤ sizeLine := by rw [sizeLine_eq]; exact h
section
variable {P : Program} {w : World} {K : PySem.W.Frag} {mg : Str → Option Value} {base : Heap}
/-- all_in(text, signs, most) -/
def spAllIn : Sp := fun vs H Q _ => ∃ (a sg : Tx) (n : Nat), vs = [.str (S a), .str (S sg), .int n] ∧ a.length ≤ 100000 ∧ Q (.bl (allIn a sg n)) H
theorem sc_all_in : FnScope ["text", "signs", "most", "sign"] ["text", "signs", "most"] (defScope s_all_in) := ⟨rfl, rfl, rfl, by decide +kernel, rfl, by decide +kernel, by decide +kernel⟩
theorem ok_all_in (T : Txt w K mg) : Dok P w K mg base CX0 1 (ga K "all_in") ["text", "signs", "most"] spAllIn := by
  obtain ⟨fd, F⟩ := T.d_all_in
  have sc := sc_all_in
  refine ⟨fd, F.ok sc (fun vs H Q E h => ?_) (fun cdv A outer s H vs Q E hr h => ?_), F.bindsN fun _ _ _ _ _ _ us hl => match us, hl with | [_, _, _], _ => rfl, F.kp⟩
  · obtain ⟨a, sg, n, rfl, _⟩ := h
    rfl
  · refine ⟨_, PSs.nox (pss_cons (ps_if (PW.pt (pw_or (pt_cmpR op_eq (pe_callB call_len_str rfl (T.n "len") PySem.boot_len (pa_cons (pv 0) pa_nil)) pe_int (nomark _)) (pw_or1 (pt_cmpR op_gt (pe_callB call_len_str rfl (T.n "len") PySem.boot_len (pa_cons (pv 0) pa_nil)) (pv 2) (nomark _))))) (pss_one (ps_ret pe_bl)) pss_nil) (pss_cons (ps_for PassesOwn.never rfl (pi_str (pv 0)) (pg_name (i := 3) sc.nd rfl (Or.inl rfl)) (pss_one (ps_if (pt_cmpR op_notIn_sign (pv 3) (pv 1) rfl) (pss_one (ps_ret pe_bl)) pss_nil))) (pss_one (ps_ret pe_bl)))), ?_⟩
    obtain ⟨a, sg, n, rfl, hl, hQ⟩ := h
    simp only [tSeq, tIfS, tOr, tAnd, tNot, tTest, tB, tOp, tCB, tCons, tNil, tVar, tC, tRet, tRetN, tNext, tDrop, tAsg, gName, gNil, gCons, gTup, gSub, tAug, tAugS, ipI, tCall, tMeth, tMake, tCmp, tAndV, tOrV, tNotV, tIf, tChain, tTup, tLst, tSl, tPart, tNoPart, tBM, tM0, tM1, tUn, rU, tFld, tCallS, tCKw, rEq, rNe, rI, rI0, rIxL, rIxT, rIxS, rSub, rSlL, C8.rSlX, rNewStrs, tMake0, tLc_list, tLc_rng1, tFor_list, tFor_str, tFor_rng1, L2.start, List.map_cons, List.map_nil, List.length_cons, List.length_nil, List.replicate, List.cons_append, List.nil_append, List.append_nil, Nat.reduceAdd, Nat.reduceSub, List.getElem?_cons_zero, List.getElem?_cons_succ, List.set_cons_zero, List.set_cons_succ, Option.some.injEq, exists_eq_left', exists_eq_left, exists_eq', and_true, true_and, exists_eq_right, exists_const, V.int.injEq, V.str.injEq, V.bl.injEq, V.ref.injEq, List.cons.injEq, scal_ii, scal_ss, scal_bb, decide_eq_true_eq, Bool.not_eq_true', decide_eq_false_iff_not, if_true, if_false, Bool.false_eq_true, exists_and_left, S_len, sz_le]
    have hz : a.length ≤ sizeLine := sz_le (by omega)
    refine ⟨hz, ite2 (fun e => ?_) fun e => ⟨hz, ite2 (fun e2 => ?_) fun e2 => ?_⟩⟩
    · rw [show allIn a sg n = false by unfold allIn; rw [decide_eq_false (by omega), Bool.false_and]] at hQ
      exact hQ
    · rw [show allIn a sg n = false by unfold allIn; rw [decide_eq_false (p := a.length ≤ n) (by omega), Bool.false_and, Bool.and_false]] at hQ
      exact hQ
    · have e3 : allIn a sg n = a.all fun c => sg.contains c := by
        unfold allIn
        rw [decide_eq_true (by omega), decide_eq_true (p := a.length ≤ n) (by omega), Bool.true_and, Bool.true_and]
      rw [e3] at hQ
      refine for_w walk_strL (fun i σ H' => (∃ u, σ = [some (V.str (S a)), some (V.str (S sg)), some (V.int n), u]) ∧ H' = H ∧ ∀ c ∈ a.take i, c ∈ sg) ⟨⟨_, rfl⟩, rfl, by simp⟩ (fun _ _ _ _ _ => trivial) (fun i x σ H1 hx p => ?_) (fun σ H1 p => ?_)
      · obtain ⟨⟨u, rfl⟩, rfl, hp⟩ := p
        rw [List.getElem?_map] at hx
        obtain ⟨c, hc2, rfl⟩ := Option.map_eq_some_iff.mp hx
        replace hc2 : a[i]? = some c := hc2
        simp only [tSeq, tIfS, tOr, tAnd, tNot, tTest, tB, tOp, tCB, tCons, tNil, tVar, tC, tRet, tRetN, tNext, tDrop, tAsg, gName, gNil, gCons, gTup, gSub, tAug, tAugS, ipI, tCall, tMeth, tMake, tCmp, tAndV, tOrV, tNotV, tIf, tChain, tTup, tLst, tSl, tPart, tNoPart, tBM, tM0, tM1, tUn, rU, tFld, tCallS, tCKw, rEq, rNe, rI, rI0, rIxL, rIxT, rIxS, rSub, rSlL, C8.rSlX, rNewStrs, tMake0, tLc_list, tLc_rng1, tFor_list, tFor_str, tFor_rng1, L2.start, List.map_cons, List.map_nil, List.length_cons, List.length_nil, List.replicate, List.cons_append, List.nil_append, List.append_nil, Nat.reduceAdd, Nat.reduceSub, List.getElem?_cons_zero, List.getElem?_cons_succ, List.set_cons_zero, List.set_cons_succ, Option.some.injEq, exists_eq_left', exists_eq_left, exists_eq', and_true, true_and, exists_eq_right, exists_const, V.int.injEq, V.str.injEq, V.bl.injEq, V.ref.injEq, List.cons.injEq, scal_ii, scal_ss, scal_bb, decide_eq_true_eq, Bool.not_eq_true', decide_eq_false_iff_not, if_true, if_false, Bool.false_eq_true, exists_and_left, S_len, sz_le]
        refine ⟨c, rfl, ite2 (fun hm => ?_) fun hm => ?_⟩
        · rw [show (a.all fun c => sg.contains c) = false by
            rw [List.all_eq_false]
            exact ⟨c, List.mem_of_getElem? hc2, by rw [List.contains_iff_mem]; exact hm⟩] at hQ
          exact hQ
        · intro d hd
          rw [List.take_add_one, hc2] at hd
          rcases List.mem_append.mp hd with hd | hd
          · exact hp d hd
          · rw [List.mem_singleton.mp hd]
            exact Classical.byContradiction hm
      · obtain ⟨⟨u, rfl⟩, rfl, hp⟩ := p
        have : (S a).cps.size = a.length := by simp [S]
        rw [this, List.take_length] at hp
        rw [show (a.all fun c => sg.contains c) = true by
          rw [List.all_eq_true]
          exact fun c hc => List.contains_iff_mem.mpr (hp c hc)] at hQ
        exact hQ
/-- is_word(text) -/
def spIsWord : Sp := fun vs H Q _ => ∃ a : Tx, vs = [.str (S a)] ∧ a.length ≤ 100000 ∧ Q (.bl (isWord a)) H
theorem sc_is_word : FnScope ["text"] ["text"] (defScope s_is_word) := ⟨rfl, rfl, rfl, by decide +kernel, rfl, by decide +kernel, by decide +kernel⟩
theorem ok_is_word (T : Txt w K mg) : Dok P w K mg base CX0 2 (ga K "is_word") ["text"] spIsWord := by
  obtain ⟨fd, F⟩ := T.d_is_word
  have sc := sc_is_word
  have D_all_in := ok_all_in (P := P) (base := base) T
  obtain ⟨tt, hL⟩ := T.let_
  refine ⟨fd, F.ok sc (fun vs H Q E h => ?_) (fun cdv A outer s H vs Q E hr h => ?_), F.bindsN fun _ _ _ _ _ _ us hl => match us, hl with | [_], _ => rfl, F.kp⟩
  · obtain ⟨a, rfl, _⟩ := h
    rfl
  · refine ⟨_, PSs.nox (pss_one (ps_ret (pe_f D_all_in hr (T.g "all_in") (pa_cons (pv 0) (pa_cons (pe_glob (v := V.str "abcdefghijklmnopqrstuvwxyz") rfl hL ⟨_, rfl⟩) (pa_cons pe_int pa_nil)))))), ?_⟩
    obtain ⟨a, rfl, hl, hQ⟩ := h
    simp only [tSeq, tIfS, tOr, tAnd, tNot, tTest, tB, tOp, tCB, tCons, tNil, tVar, tC, tRet, tRetN, tNext, tDrop, tAsg, gName, gNil, gCons, gTup, gSub, tAug, tAugS, ipI, tCall, tMeth, tMake, tCmp, tAndV, tOrV, tNotV, tIf, tChain, tTup, tLst, tSl, tPart, tNoPart, tBM, tM0, tM1, tUn, rU, tFld, tCallS, tCKw, rEq, rNe, rI, rI0, rIxL, rIxT, rIxS, rSub, rSlL, C8.rSlX, rNewStrs, tMake0, tLc_list, tLc_rng1, tFor_list, tFor_str, tFor_rng1, L2.start, List.map_cons, List.map_nil, List.length_cons, List.length_nil, List.replicate, List.cons_append, List.nil_append, List.append_nil, Nat.reduceAdd, Nat.reduceSub, List.getElem?_cons_zero, List.getElem?_cons_succ, List.set_cons_zero, List.set_cons_succ, Option.some.injEq, exists_eq_left', exists_eq_left, exists_eq', and_true, true_and, exists_eq_right, exists_const, V.int.injEq, V.str.injEq, V.bl.injEq, V.ref.injEq, List.cons.injEq, scal_ii, scal_ss, scal_bb, decide_eq_true_eq, Bool.not_eq_true', decide_eq_false_iff_not, if_true, if_false, Bool.false_eq_true, exists_and_left, S_len, sz_le]
    exact ⟨a, lets, 8, rfl, hl, hQ⟩
/-- read_count(text) -/
def spCount (K : PySem.W.Frag) : Sp := fun vs H Q E => ∃ a : Tx, vs = [.str (S a)] ∧ a.length ≤ 100000 ∧ (∀ n, readCount a = some n → Q (.int (n : Nat)) H) ∧ (readCount a = none → E (.ref (ga K "NoText")) none H)
theorem sc_read_count : FnScope ["text"] ["text"] (defScope s_read_count) := ⟨rfl, rfl, rfl, by decide +kernel, rfl, by decide +kernel, by decide +kernel⟩
theorem figs_int {a : Tx} {n : Nat} (h : allIn a figs n = true) : a.all (fun c => decide (48 ≤ c) && decide (c ≤ 57)) = true ∧ a ≠ [] ∧ a.length ≤ n := by
  unfold allIn at h
  rw [Bool.and_eq_true, Bool.and_eq_true, decide_eq_true_eq, decide_eq_true_eq, List.all_eq_true] at h
  refine ⟨?_, fun e => by rw [e] at h; exact absurd h.1 (by decide), h.2.1⟩
  rw [List.all_eq_true]
  intro c hc
  have z := List.contains_iff_mem.mp (h.2.2 c hc)
  revert z
  unfold figs
  simp only [List.mem_cons, List.not_mem_nil, or_false, Bool.and_eq_true, decide_eq_true_eq]
  omega
theorem ok_read_count (T : Txt w K mg) : Dok P w K mg base (L2.CX P w) 2 (ga K "read_count") ["text"] (spCount K) := by
  obtain ⟨fd, F⟩ := T.d_read_count
  have sc := sc_read_count
  have D_all_in := ok_all_in (P := P) (base := base) T
  obtain ⟨tt, hF⟩ := T.fig
  refine ⟨fd, F.ok sc (fun vs H Q E h => ?_) (fun cdv A outer s H vs Q E hr h => ?_), F.bindsN fun _ _ _ _ _ _ us hl => match us, hl with | [_], _ => rfl, F.kp⟩
  · obtain ⟨a, rfl, _⟩ := h
    rfl
  · refine ⟨_, (pss_cons (ps_if (PW.pt (pw_or (pt_not (pt_val (pe_f D_all_in hr (T.g "all_in") (pa_cons (pv 0) (pa_cons (pe_glob (v := V.str "0123456789") rfl hF ⟨_, rfl⟩) (pa_cons pe_int pa_nil)))))) (pw_or1 (PW.pt (pw_and (pt_cmpR op_eq (pe_ix ix_str (pv 0) pe_int (fun _ _ => rfl)) pe_str (nomark _)) (pw_and1 (pt_cmpR op_ne (pv 0) pe_str (nomark _)))))))) (pss_one (ps_raise rfl (takes_of rfl rfl rfl rfl) (pmk_own PySem.F.excBase_ValueError (T.x "NoText").1 (T.g "NoText") (T.x "NoText").2.1 (raises_own (T.x "NoText").2.2.1 (T.x "NoText").2.2.2) rfl))) pss_nil) (pss_one (ps_ret (pe_callTy call_int_str rfl (T.n "int") (by decide +kernel) (pa_cons (pv 0) pa_nil))))), ?_⟩
    obtain ⟨a, rfl, hl, hQ, hE⟩ := h
    simp only [tSeq, tIfS, tOr, tAnd, tNot, tTest, tB, tOp, tCB, tCons, tNil, tVar, tC, tRet, tRetN, tNext, tDrop, tAsg, gName, gNil, gCons, gTup, gSub, tAug, tAugS, ipI, tCall, tMeth, tMake, tCmp, tAndV, tOrV, tNotV, tIf, tChain, tTup, tLst, tSl, tPart, tNoPart, tBM, tM0, tM1, tUn, rU, tFld, tCallS, tCKw, rEq, rNe, rI, rI0, rIxL, rIxT, rIxS, rSub, rSlL, C8.rSlX, rNewStrs, tMake0, tLc_list, tLc_rng1, tFor_list, tFor_str, tFor_rng1, L2.start, List.map_cons, List.map_nil, List.length_cons, List.length_nil, List.replicate, List.cons_append, List.nil_append, List.append_nil, Nat.reduceAdd, Nat.reduceSub, List.getElem?_cons_zero, List.getElem?_cons_succ, List.set_cons_zero, List.set_cons_succ, Option.some.injEq, exists_eq_left', exists_eq_left, exists_eq', and_true, true_and, exists_eq_right, exists_const, V.int.injEq, V.str.injEq, V.bl.injEq, V.ref.injEq, List.cons.injEq, scal_ii, scal_ss, scal_bb, decide_eq_true_eq, Bool.not_eq_true', decide_eq_false_iff_not, if_true, if_false, Bool.false_eq_true, exists_and_left, S_len, sz_le]
    refine ⟨a, figs, 60, rfl, hl, ?_⟩
    refine ⟨_, rfl, ?_⟩
    unfold readCount at hQ hE
    refine ite2 (fun h1 => ?_) fun h1 => ?_
    · rw [h1] at hE
      exact hE rfl
    · have h2 : allIn a figs 60 = true := by simpa using h1
      rw [h2] at hQ hE
      obtain ⟨i1, i2, i3⟩ := figs_int h2
      cases a with
      | nil => exact absurd rfl i2
      | cons c r =>
        refine ⟨sz_le (by omega), c, atI_nat (j := 0) rfl, ?_⟩
        have fin : ((!((c :: r).headD 0 == 48 && !((c :: r) == [48]))) = true) → ∃ x, intText? (S (c :: r)) = some x ∧ (c :: r).length ≤ 640 ∧ Q (V.int x) H := fun z => by
          refine ⟨_, int_S i1 i2 (by omega), by omega, hQ _ ?_⟩
          rw [if_pos (by rw [z] <;> rfl)]
        refine ite2 (fun e => ?_) fun e => ?_
        · have ec : c = 48 := by
            have := S_inj (a := [c]) (b := [48]) e
            simpa using this
          subst ec
          refine ite2 (fun e2 => ?_) fun e2 => ?_
          · have e3 : ((48 :: r) == [48]) = false := by
              rw [beq_eq_false_iff_ne]
              intro z
              exact e2 (congrArg S z)
            refine hE ?_
            rw [e3] <;> rfl
          · have e3 : (48 :: r) = [48] := S_inj (Classical.byContradiction e2)
            refine fin ?_
            rw [e3] <;> rfl
        · refine fin ?_
          have e3 : (c == 48) = false := by
            rw [beq_eq_false_iff_ne]
            intro z
            exact e (by rw [z]; rfl)
          show (!(c == 48 && _)) = true
          rw [e3] <;> rfl
theorem starts_minus (a : Tx) : Txt.startswith (S a) "-" = (a.headD 0 == 45) := by
  have z := TL.at_iff (x := S a) (y := "-") (by decide) 0
  have e : TL.pre (TL.tl ("-" : Str)) ((TL.tl (S a)).drop 0) = (a.headD 0 == 45) := by
    show (a.take 1 == [45]) = _
    cases a with
    | nil => rfl
    | cons c r =>
      show ([c] == [45]) = (c == 45)
      rw [Bool.eq_iff_iff]
      simp
  rw [e] at z
  rw [Bool.eq_iff_iff, ← z]
  unfold Txt.startswith
  rw [Bool.and_eq_true, decide_eq_true_eq]
  exact Iff.rfl
theorem readNumber_other {a : Tx} (h : ¬ a.headD 0 = 45) : readNumber a = (readCount a).map fun n => (n : Int) := by
  cases a with
  | nil => rfl
  | cons c r =>
    unfold readNumber
    split
    · rename_i e
      injection e with e1 e2
      exact absurd e1 h
    · rfl
/-- read_number(text) -/
def spNumber (K : PySem.W.Frag) : Sp := fun vs H Q E => ∃ a : Tx, vs = [.str (S a)] ∧ a.length ≤ 100000 ∧ (∀ n, readNumber a = some n → Q (.int n) H) ∧ (readNumber a = none → E (.ref (ga K "NoText")) none H)
theorem sc_read_number : FnScope ["text", "number"] ["text"] (defScope s_read_number) := ⟨rfl, rfl, rfl, by decide +kernel, rfl, by decide +kernel, by decide +kernel⟩
theorem ok_read_number (T : Txt w K mg) : Dok P w K mg base (L2.CX P w) 3 (ga K "read_number") ["text"] (spNumber K) := by
  obtain ⟨fd, F⟩ := T.d_read_number
  have sc := sc_read_number
  have D_read_count := ok_read_count (P := P) (base := base) T
  refine ⟨fd, F.ok sc (fun vs H Q E h => ?_) (fun cdv A outer s H vs Q E hr h => ?_), F.bindsN fun _ _ _ _ _ _ us hl => match us, hl with | [_], _ => rfl, F.kp⟩
  · obtain ⟨a, rfl, _⟩ := h
    rfl
  · refine ⟨_, (pss_cons (ps_if (pt_not (pt_val (pe_m1 PySem.F.slot_str_startswith PySem.F.type_str_startswith mt_startswith (pv 0) pe_str))) (pss_one (ps_ret (pe_fX D_read_count hr (T.g "read_count") (pass_out (takes_of rfl rfl rfl rfl)) (pa_cons (pv 0) pa_nil)))) pss_nil) (pss_cons (ps_set (i := 1) sc.nd rfl (Or.inl rfl) (pe_fX D_read_count hr (T.g "read_count") (pass_out (takes_of rfl rfl rfl rfl)) (pa_cons (pe_slice C8.sl_txt (pv 0) (po_some pe_int) po_none) pa_nil))) (pss_cons (ps_if (pt_cmpR op_eq (pv 1) pe_int (nomark _)) (pss_one (ps_raise rfl (takes_of rfl rfl rfl rfl) (pmk_own PySem.F.excBase_ValueError (T.x "NoText").1 (T.g "NoText") (T.x "NoText").2.1 (raises_own (T.x "NoText").2.2.1 (T.x "NoText").2.2.2) rfl))) pss_nil) (pss_one (ps_ret (pe_un un_neg (pv 1))))))), ?_⟩
    obtain ⟨a, rfl, hl, hQ, hE⟩ := h
    simp only [tSeq, tIfS, tOr, tAnd, tNot, tTest, tB, tOp, tCB, tCons, tNil, tVar, tC, tRet, tRetN, tNext, tDrop, tAsg, gName, gNil, gCons, gTup, gSub, tAug, tAugS, ipI, tCall, tMeth, tMake, tCmp, tAndV, tOrV, tNotV, tIf, tChain, tTup, tLst, tSl, tPart, tNoPart, tBM, tM0, tM1, tUn, rU, tFld, tCallS, tCKw, rEq, rNe, rI, rI0, rIxL, rIxT, rIxS, rSub, rSlL, C8.rSlX, rNewStrs, tMake0, tLc_list, tLc_rng1, tFor_list, tFor_str, tFor_rng1, L2.start, List.map_cons, List.map_nil, List.length_cons, List.length_nil, List.replicate, List.cons_append, List.nil_append, List.append_nil, Nat.reduceAdd, Nat.reduceSub, List.getElem?_cons_zero, List.getElem?_cons_succ, List.set_cons_zero, List.set_cons_succ, Option.some.injEq, exists_eq_left', exists_eq_left, exists_eq', and_true, true_and, exists_eq_right, exists_const, V.int.injEq, V.str.injEq, V.bl.injEq, V.ref.injEq, List.cons.injEq, scal_ii, scal_ss, scal_bb, decide_eq_true_eq, Bool.not_eq_true', decide_eq_false_iff_not, if_true, if_false, Bool.false_eq_true, exists_and_left, S_len, sz_le]
    rw [starts_minus]
    by_cases hc : a.headD 0 = 45
    · obtain ⟨r, rfl⟩ : ∃ r, a = 45 :: r := by
        cases a with
        | nil => exact absurd hc (by decide)
        | cons c r => exact ⟨r, congrArg (· :: r) hc⟩
      rw [if_neg (by simp)]
      rw [List.length_cons] at hl
      refine ⟨sz_le (by rw [List.length_cons]; omega), ?_⟩
      rw [show Txt.slice (S (45 :: r)) (some 1) none = S r from slice_from (a := 45 :: r) (i := 1) (by decide)]
      refine ⟨r, rfl, by omega, fun n hn => ⟨scal_ii _ _, ite2 (fun e => ?_) fun e => ?_⟩, fun hn => hE (by
        show (match readCount r with | none => none | some 0 => none | some (n + 1) => some (-((n + 1 : Nat) : Int))) = none
        rw [hn])⟩
      · refine hE ?_
        have e0 : n = 0 := by
          injection e with e
          omega
        show (match readCount r with | none => none | some 0 => none | some (n + 1) => some (-((n + 1 : Nat) : Int))) = none
        rw [hn, e0]
      · refine ⟨_, rfl, hQ _ ?_⟩
        show (match readCount r with | none => none | some 0 => none | some (n + 1) => some (-((n + 1 : Nat) : Int))) = _
        rw [hn]
        cases n with
        | zero => exact absurd rfl e
        | succ n => rfl
    · rw [if_pos (by simpa using hc)]
      refine ⟨a, rfl, hl, fun n hn => hQ _ ?_, fun hn => hE ?_⟩
      · rw [readNumber_other hc, hn] <;> rfl
      · rw [readNumber_other hc, hn] <;> rfl
/-- read_row(text) -/
def spRow (K : PySem.W.Frag) : Sp := fun vs H Q E => ∃ a : Tx, vs = [.str (S a)] ∧ a.length ≤ 100000 ∧ (∀ r, readRow a = some r → ∀ p H', ExtN H H' → H p = none → H' p = some (.lst (r.map V.int)) → Q (.ref p) H') ∧ (readRow a = none → ∀ H', ExtN H H' → E (.ref (ga K "NoText")) none H')
theorem sc_read_row : FnScope ["text", "word"] ["text"] (defScope s_read_row) := ⟨rfl, rfl, rfl, by decide +kernel, rfl, by decide +kernel, by decide +kernel⟩
theorem mapO_some {α β : Type} {f : α → Option β} : ∀ {l : List α}, (∀ (i : Nat) (a : α), l[i]? = some a → ∃ b, f a = some b) → ∃ r : List β, mapO f l = some r ∧ r.length = l.length ∧ ∀ (i : Nat) (a : α) (b : β), l[i]? = some a → f a = some b → r[i]? = some b
  | [], _ => ⟨[], rfl, rfl, fun i a b e => by simp at e⟩
  | x :: l, h => by
    obtain ⟨b, hb⟩ := h 0 x rfl
    obtain ⟨r, h1, h2, h3⟩ := mapO_some (l := l) fun i a e => h (i + 1) a (by simpa using e)
    refine ⟨b :: r, by unfold mapO; rw [hb, h1] <;> rfl, by rw [List.length_cons, List.length_cons, h2], fun i a c e ec => ?_⟩
    cases i with
    | zero =>
      simp only [List.getElem?_cons_zero, Option.some.injEq] at e
      subst e
      rw [hb] at ec
      simpa using ec
    | succ i => exact h3 i a c (by simpa using e) ec
theorem mapO_none {α β : Type} {f : α → Option β} : ∀ {l : List α} {i : Nat} {a : α}, l[i]? = some a → f a = none → mapO f l = none
  | [], _, _, e, _ => by simp at e
  | x :: l, 0, a, e, h => by
    simp only [List.getElem?_cons_zero, Option.some.injEq] at e
    subst e
    unfold mapO
    rw [h]
  | x :: l, i + 1, a, e, h => by
    unfold mapO
    rw [mapO_none (l := l) (i := i) (by simpa using e) h]
    cases f x <;> rfl
theorem spl_len (sep : Tx) : ∀ (k : Nat) (acc l : Tx), (TL.spl sep k acc l).length ≤ l.length + 1
  | k, acc, [] => by rw [TL.spl_nil]; simp
  | 0, acc, c :: r => by
    unfold TL.spl
    split
    · have := spl_len sep (sep.length - 1) [] r
      rw [List.length_cons, List.length_cons]
      omega
    · have := spl_len sep 0 (acc ++ [c]) r
      rw [List.length_cons]
      omega
  | k + 1, acc, _ :: r => by
    unfold TL.spl
    have := spl_len sep k acc r
    rw [List.length_cons]
    omega
theorem spl_part_len (sep : Tx) : ∀ (k : Nat) (acc l : Tx), ∀ p ∈ TL.spl sep k acc l, p.length ≤ acc.length + l.length
  | k, acc, [], p, h => by
    rw [TL.spl_nil] at h
    rw [List.mem_singleton.mp h] <;> simp
  | 0, acc, c :: r, p, h => by
    unfold TL.spl at h
    split at h
    · rcases List.mem_cons.mp h with rfl | h
      · omega
      · have := spl_part_len sep (sep.length - 1) [] r p h
        rw [List.length_cons]
        simp at this
        omega
    · have := spl_part_len sep 0 (acc ++ [c]) r p h
      rw [List.length_cons]
      rw [List.length_append, List.length_singleton] at this
      omega
  | k + 1, acc, _ :: r, p, h => by
    unfold TL.spl at h
    have := spl_part_len sep k acc r p h
    rw [List.length_cons]
    omega
theorem ok_read_row (T : Txt w K mg) : Dok P w K mg base (L2.CX P w) 4 (ga K "read_row") ["text"] (spRow K) := by
  obtain ⟨fd, F⟩ := T.d_read_row
  have sc := sc_read_row
  have D_read_number := ok_read_number (P := P) (base := base) T
  refine ⟨fd, F.ok sc (fun vs H Q E h => ?_) (fun cdv A outer s H vs Q E hr h => ?_), F.bindsN fun _ _ _ _ _ _ us hl => match us, hl with | [_], _ => rfl, F.kp⟩
  · obtain ⟨a, rfl, _⟩ := h
    rfl
  · refine ⟨_, (pss_cons (ps_if (pt_cmpR op_eq (pv 0) pe_str (nomark _)) (pss_one (ps_ret (pe_lst pa_nil))) pss_nil) (pss_one (ps_ret (pe_lcX (E := E) (own := [("word", 1)]) (g := gName 1) (tt := tYes) rfl rfl (takes_of rfl rfl rfl rfl) rfl sc.nd (pi_list (pe_split (pv 0) pe_str)) (blkOk_by (own := [("word", 1)]) (N := ["text", "word"]) (sc := defScope s_read_row) (by decide +kernel)) (fun _ _ _ _ _ => pg_name (i := 1) sc.nd rfl (Or.inl rfl)) (fun _ _ _ _ _ => pts_nil) (fun _ _ _ _ _ _ hxe => (pe_fX D_read_number hr (T.g "read_number") hxe (pa_cons (pv 1) pa_nil))))))), ?_⟩
    obtain ⟨a, rfl, hl, hQ, hE⟩ := h
    simp only [tSeq, tIfS, tOr, tAnd, tNot, tTest, tB, tOp, tCB, tCons, tNil, tVar, tC, tRet, tRetN, tNext, tDrop, tAsg, gName, gNil, gCons, gTup, gSub, tAug, tAugS, ipI, tCall, tMeth, tMake, tCmp, tAndV, tOrV, tNotV, tIf, tChain, tTup, tLst, tSl, tPart, tNoPart, tBM, tM0, tM1, tUn, rU, tFld, tCallS, tCKw, rEq, rNe, rI, rI0, rIxL, rIxT, rIxS, rSub, rSlL, C8.rSlX, rNewStrs, tMake0, tLc_list, tLc_rng1, tFor_list, tFor_str, tFor_rng1, L2.start, List.map_cons, List.map_nil, List.length_cons, List.length_nil, List.replicate, List.cons_append, List.nil_append, List.append_nil, Nat.reduceAdd, Nat.reduceSub, List.getElem?_cons_zero, List.getElem?_cons_succ, List.set_cons_zero, List.set_cons_succ, Option.some.injEq, exists_eq_left', exists_eq_left, exists_eq', and_true, true_and, exists_eq_right, exists_const, V.int.injEq, V.str.injEq, V.bl.injEq, V.ref.injEq, List.cons.injEq, scal_ii, scal_ss, scal_bb, decide_eq_true_eq, Bool.not_eq_true', decide_eq_false_iff_not, if_true, if_false, Bool.false_eq_true, exists_and_left, S_len, sz_le]
    refine ite2 (fun e => ⟨sz_le (by decide), fun p hp => hQ [] ?_ p _ (Lf.extN_upd hp) hp upd_same⟩) fun e => ?_
    · have := S_inj (a := a) (b := [46]) e
      rw [this] <;> rfl
    · have hnd : (a == [46]) = false := by
        rw [beq_eq_false_iff_ne]
        exact fun z => e (congrArg S z)
      have er : readRow a = mapO readNumber (TL.spl [32] 0 [] a) := by
        unfold readRow
        rw [hnd] <;> rfl
      rw [er] at hQ hE
      have es : Txt.split (S a) " " = (TL.spl [32] 0 [] a).map S := split_S (b := [32]) (by decide) (by decide)
      refine ⟨rfl, sz_le (by omega), fun p hp => ?_⟩
      rw [es]
      refine ⟨⟨_, SqL.of upd_same⟩, fun D hD => ?_⟩
      have hl1 := spl_len [32] 0 [] a
      have hpD : p ≠ D := fun z => by rw [← z, upd_same] at hD; cases hD
      have hS : ∀ H', ExtN (upd H p (.lst (List.map V.str ((TL.spl [32] 0 [] a).map S)))) H' → SqL K H' p (((TL.spl [32] 0 [] a).map S).map V.str) := fun H' x => SqL.of (x _ _ upd_same (fun ps z => by cases z))
      refine lc_mapW (xs := ((TL.spl [32] 0 [] a).map S).map V.str) (walk_list) rfl (fun i y _ => ∃ b n, (TL.spl [32] 0 [] a)[i]? = some b ∧ readNumber b = some n ∧ y = .int n) (by
        rw [List.length_map, List.length_map]
        exact Nat.lt_of_le_of_lt hl1 (by rw [sizeLine_eq]; omega)) (fun H' x _ => hS H' x) hD (fun j y H H' _ h => h) (fun _ => True) (fun _ => trivial) (fun _ _ _ _ => trivial) (fun i x H' Qy hx e1 _ hacc hy => ?_) (fun H' acc e1 _ hacc hlen hR => ?_)
      · rw [List.getElem?_map, List.getElem?_map] at hx
        cases hb : (TL.spl [32] 0 [] a)[i]? with
        | none => rw [hb] at hx; cases hx
        | some b =>
          rw [hb] at hx
          simp only [Option.map_some, Option.some.injEq] at hx
          subst hx
          have hbl := spl_part_len [32] 0 [] a b (List.mem_of_getElem? hb)
          refine ⟨rfl, ?_⟩
          simp only [tSeq, tIfS, tOr, tAnd, tNot, tTest, tB, tOp, tCB, tCons, tNil, tVar, tC, tRet, tRetN, tNext, tDrop, tAsg, gName, gNil, gCons, gTup, gSub, tAug, tAugS, ipI, tCall, tMeth, tMake, tCmp, tAndV, tOrV, tNotV, tIf, tChain, tTup, tLst, tSl, tPart, tNoPart, tBM, tM0, tM1, tUn, rU, tFld, tCallS, tCKw, rEq, rNe, rI, rI0, rIxL, rIxT, rIxS, rSub, rSlL, C8.rSlX, rNewStrs, tMake0, tLc_list, tLc_rng1, tFor_list, tFor_str, tFor_rng1, L2.start, List.map_cons, List.map_nil, List.length_cons, List.length_nil, List.replicate, List.cons_append, List.nil_append, List.append_nil, Nat.reduceAdd, Nat.reduceSub, List.getElem?_cons_zero, List.getElem?_cons_succ, List.set_cons_zero, List.set_cons_succ, Option.some.injEq, exists_eq_left', exists_eq_left, exists_eq', and_true, true_and, exists_eq_right, exists_const, V.int.injEq, V.str.injEq, V.bl.injEq, V.ref.injEq, List.cons.injEq, scal_ii, scal_ss, scal_bb, decide_eq_true_eq, Bool.not_eq_true', decide_eq_false_iff_not, if_true, if_false, Bool.false_eq_true, exists_and_left, S_len, sz_le]
          refine ⟨_, rfl, b, rfl, by simp at hbl; omega, fun n hn => hy _ _ (ExtN.refl _) trivial ⟨b, n, hb, hn, rfl⟩, fun hn => hE (mapO_none hb hn) _ ((Lf.extN_upd hp).trans e1)⟩
      · rw [List.length_map, List.length_map] at hlen
        obtain ⟨r, h1, h2, h3⟩ := mapO_some (f := readNumber) (l := TL.spl [32] 0 [] a) fun i b hb => by
          have hi := (List.getElem?_eq_some_iff.mp hb).1
          obtain ⟨b', n, e1, e2, e3⟩ := hR i (acc[i]'(by omega)) (List.getElem?_eq_getElem _)
          rw [hb] at e1
          cases e1
          exact ⟨n, e2⟩
        refine hQ r h1 D H' ((Lf.extN_upd hp).trans e1) (by
          rw [upd_ne (Ne.symm hpD)] at hD
          exact hD) ?_
        rw [hacc]
        congr 2
        refine List.ext_getElem? fun i => ?_
        rw [List.getElem?_map]
        cases ha : acc[i]? with
        | none =>
          have : r[i]? = none := List.getElem?_eq_none (by rw [h2, ← hlen]; exact List.getElem?_eq_none_iff.mp ha)
          rw [this] <;> rfl
        | some y =>
          obtain ⟨b', n, e1, e2, e3⟩ := hR i y ha
          rw [h3 i b' n e1 e2, e3] <;> rfl
/-- rows that stand at p -/
def RowsAt (H : Hp) (p : Addr) (rs : Rows) : Prop := ∃ rows : List (Addr × List Int), H p = some (.lst (rowRefs rows)) ∧ RowsOk H rows ∧ rows.map (·.2) = rs
theorem nt_lst (xs : List V) : ∀ ps, HO.lst xs ≠ .tbl ps := fun _ z => by cases z
theorem rowsOk_ext {H H' : Hp} {rows : List (Addr × List Int)} (e : ExtN H H') (h : RowsOk H rows) : RowsOk H' rows := fun r hr => e _ _ (h r hr) (nt_lst _)
theorem RowsAt.ext {H H' : Hp} {p : Addr} {rs : Rows} (h : RowsAt H p rs) (e : ExtN H H') : RowsAt H' p rs := by
  obtain ⟨rows, h1, h2, h3⟩ := h
  exact ⟨rows, e _ _ h1 (nt_lst _), rowsOk_ext e h2, h3⟩
theorem rows_of {H : Hp} : ∀ {acc : List V} {rs : Rows}, rs.length = acc.length → (∀ (i : Nat) (y : V), acc[i]? = some y → ∃ (q : Addr) (r : List Int), y = .ref q ∧ H q = some (.lst (r.map V.int)) ∧ rs[i]? = some r) →
    ∃ rows : List (Addr × List Int), acc = rowRefs rows ∧ RowsOk H rows ∧ rows.map (·.2) = rs
  | [], [], _, _ => ⟨[], rfl, (fun r hr => by cases hr), rfl⟩
  | [], _ :: _, h, _ => by simp at h
  | _ :: _, [], h, _ => by simp at h
  | y :: acc, r :: rs, hl, h => by
    obtain ⟨q, r', e1, e2, e3⟩ := h 0 y rfl
    simp only [List.getElem?_cons_zero, Option.some.injEq] at e3
    subst e3
    obtain ⟨rows, w1, w2, w3⟩ := rows_of (acc := acc) (rs := rs) (by simpa using hl) fun i z hz => by
      obtain ⟨q, r', e1, e2, e3⟩ := h (i + 1) z (by simpa using hz)
      exact ⟨q, r', e1, e2, by simpa using e3⟩
    refine ⟨(q, r) :: rows, by rw [e1, w1] <;> rfl, fun z hz => ?_, by rw [List.map_cons, w3]⟩
    rcases List.mem_cons.mp hz with rfl | hz
    · exact e2
    · exact w2 z hz
/-- read_rows(text) -/
def spRows (K : PySem.W.Frag) : Sp := fun vs H Q E => ∃ a : Tx, vs = [.str (S a)] ∧ a.length ≤ 100000 ∧ (∀ rs, readRows a = some rs → ∀ p H', ExtN H H' → H p = none → RowsAt H' p rs → Q (.ref p) H') ∧ (readRows a = none → ∀ H', ExtN H H' → E (.ref (ga K "NoText")) none H')
theorem sc_read_rows : FnScope ["text", "part"] ["text"] (defScope s_read_rows) := ⟨rfl, rfl, rfl, by decide +kernel, rfl, by decide +kernel, by decide +kernel⟩
theorem ok_read_rows (T : Txt w K mg) : Dok P w K mg base (L2.CX P w) 5 (ga K "read_rows") ["text"] (spRows K) := by
  obtain ⟨fd, F⟩ := T.d_read_rows
  have sc := sc_read_rows
  have D_read_row := ok_read_row (P := P) (base := base) T
  refine ⟨fd, F.ok sc (fun vs H Q E h => ?_) (fun cdv A outer s H vs Q E hr h => ?_), F.bindsN fun _ _ _ _ _ _ us hl => match us, hl with | [_], _ => rfl, F.kp⟩
  · obtain ⟨a, rfl, _⟩ := h
    rfl
  · refine ⟨_, (pss_cons (ps_if (pt_cmpR op_eq (pv 0) pe_str (nomark _)) (pss_one (ps_ret (pe_lst pa_nil))) pss_nil) (pss_one (ps_ret (pe_lcX (E := E) (own := [("part", 1)]) (g := gName 1) (tt := tYes) rfl rfl (takes_of rfl rfl rfl rfl) rfl sc.nd (pi_list (pe_split (pv 0) pe_str)) (blkOk_by (own := [("part", 1)]) (N := ["text", "part"]) (sc := defScope s_read_rows) (by decide +kernel)) (fun _ _ _ _ _ => pg_name (i := 1) sc.nd rfl (Or.inl rfl)) (fun _ _ _ _ _ => pts_nil) (fun _ _ _ _ _ _ hxe => (pe_fX D_read_row hr (T.g "read_row") hxe (pa_cons (pv 1) pa_nil))))))), ?_⟩
    obtain ⟨a, rfl, hl, hQ, hE⟩ := h
    simp only [tSeq, tIfS, tOr, tAnd, tNot, tTest, tB, tOp, tCB, tCons, tNil, tVar, tC, tRet, tRetN, tNext, tDrop, tAsg, gName, gNil, gCons, gTup, gSub, tAug, tAugS, ipI, tCall, tMeth, tMake, tCmp, tAndV, tOrV, tNotV, tIf, tChain, tTup, tLst, tSl, tPart, tNoPart, tBM, tM0, tM1, tUn, rU, tFld, tCallS, tCKw, rEq, rNe, rI, rI0, rIxL, rIxT, rIxS, rSub, rSlL, C8.rSlX, rNewStrs, tMake0, tLc_list, tLc_rng1, tFor_list, tFor_str, tFor_rng1, L2.start, List.map_cons, List.map_nil, List.length_cons, List.length_nil, List.replicate, List.cons_append, List.nil_append, List.append_nil, Nat.reduceAdd, Nat.reduceSub, List.getElem?_cons_zero, List.getElem?_cons_succ, List.set_cons_zero, List.set_cons_succ, Option.some.injEq, exists_eq_left', exists_eq_left, exists_eq', and_true, true_and, exists_eq_right, exists_const, V.int.injEq, V.str.injEq, V.bl.injEq, V.ref.injEq, List.cons.injEq, scal_ii, scal_ss, scal_bb, decide_eq_true_eq, Bool.not_eq_true', decide_eq_false_iff_not, if_true, if_false, Bool.false_eq_true, exists_and_left, S_len, sz_le]
    refine ite2 (fun e => ⟨sz_le (by decide), fun p hp => hQ [] ?_ p _ (Lf.extN_upd hp) hp ⟨[], upd_same, (fun r hr => by cases hr), rfl⟩⟩) fun e => ?_
    · have := S_inj (a := a) (b := [45]) e
      rw [this] <;> rfl
    · have hnd : (a == [45]) = false := by
        rw [beq_eq_false_iff_ne]
        exact fun z => e (congrArg S z)
      have er : readRows a = mapO readRow (TL.spl [32, 47, 32] 0 [] a) := by
        unfold readRows
        rw [hnd] <;> rfl
      rw [er] at hQ hE
      have es : Txt.split (S a) " / " = (TL.spl [32, 47, 32] 0 [] a).map S := split_S (b := [32, 47, 32]) (by decide) (by decide)
      refine ⟨rfl, sz_le (by omega), fun p hp => ?_⟩
      rw [es]
      refine ⟨⟨_, SqL.of upd_same⟩, fun D hD => ?_⟩
      have hl1 := spl_len [32, 47, 32] 0 [] a
      have hpD : p ≠ D := fun z => by rw [← z, upd_same] at hD; cases hD
      have hS : ∀ H', ExtN (upd H p (.lst (List.map V.str ((TL.spl [32, 47, 32] 0 [] a).map S)))) H' → SqL K H' p (((TL.spl [32, 47, 32] 0 [] a).map S).map V.str) := fun H' x => SqL.of (x _ _ upd_same (nt_lst _))
      refine lc_mapW (xs := ((TL.spl [32, 47, 32] 0 [] a).map S).map V.str) (walk_list) rfl (fun i y H => ∃ b r q, (TL.spl [32, 47, 32] 0 [] a)[i]? = some b ∧ readRow b = some r ∧ y = .ref q ∧ q ≠ D ∧ H q = some (.lst (r.map V.int))) (by
        rw [List.length_map, List.length_map]
        exact Nat.lt_of_le_of_lt hl1 (by rw [sizeLine_eq]; omega)) (fun H' x _ => hS H' x) hD (fun j y H H' st h => by
        obtain ⟨b, r, q, e1, e2, e3, e4, e5⟩ := h
        exact ⟨b, r, q, e1, e2, e3, e4, st _ _ e4 e5 (nt_lst _)⟩) (fun _ => True) (fun _ => trivial) (fun _ _ _ _ => trivial) (fun i x H' Qy hx e1 _ hacc hy => ?_) (fun H' acc e1 _ hacc hlen hR => ?_)
      · rw [List.getElem?_map, List.getElem?_map] at hx
        cases hb : (TL.spl [32, 47, 32] 0 [] a)[i]? with
        | none => rw [hb] at hx; cases hx
        | some b =>
          rw [hb] at hx
          simp only [Option.map_some, Option.some.injEq] at hx
          subst hx
          have hbl := spl_part_len [32, 47, 32] 0 [] a b (List.mem_of_getElem? hb)
          refine ⟨rfl, ?_⟩
          simp only [tSeq, tIfS, tOr, tAnd, tNot, tTest, tB, tOp, tCB, tCons, tNil, tVar, tC, tRet, tRetN, tNext, tDrop, tAsg, gName, gNil, gCons, gTup, gSub, tAug, tAugS, ipI, tCall, tMeth, tMake, tCmp, tAndV, tOrV, tNotV, tIf, tChain, tTup, tLst, tSl, tPart, tNoPart, tBM, tM0, tM1, tUn, rU, tFld, tCallS, tCKw, rEq, rNe, rI, rI0, rIxL, rIxT, rIxS, rSub, rSlL, C8.rSlX, rNewStrs, tMake0, tLc_list, tLc_rng1, tFor_list, tFor_str, tFor_rng1, L2.start, List.map_cons, List.map_nil, List.length_cons, List.length_nil, List.replicate, List.cons_append, List.nil_append, List.append_nil, Nat.reduceAdd, Nat.reduceSub, List.getElem?_cons_zero, List.getElem?_cons_succ, List.set_cons_zero, List.set_cons_succ, Option.some.injEq, exists_eq_left', exists_eq_left, exists_eq', and_true, true_and, exists_eq_right, exists_const, V.int.injEq, V.str.injEq, V.bl.injEq, V.ref.injEq, List.cons.injEq, scal_ii, scal_ss, scal_bb, decide_eq_true_eq, Bool.not_eq_true', decide_eq_false_iff_not, if_true, if_false, Bool.false_eq_true, exists_and_left, S_len, sz_le]
          refine ⟨_, rfl, b, rfl, by simp at hbl; omega, fun r hn q H2 e2 hq hr => hy _ _ e2 trivial ⟨b, r, q, hb, hn, rfl, (fun z => by
            obtain ⟨acc, h⟩ := hacc
            rw [z, h] at hq
            cases hq), hr⟩, fun hn H2 e2 => hE (mapO_none hb hn) _ (((Lf.extN_upd hp).trans e1).trans e2)⟩
      · rw [List.length_map, List.length_map] at hlen
        obtain ⟨rs, h1, h2, h3⟩ := mapO_some (f := readRow) (l := TL.spl [32, 47, 32] 0 [] a) fun i b hb => by
          have hi := (List.getElem?_eq_some_iff.mp hb).1
          obtain ⟨b', r, q, e1, e2, e3⟩ := hR i (acc[i]'(by omega)) (List.getElem?_eq_getElem _)
          rw [hb] at e1
          cases e1
          exact ⟨r, e2⟩
        obtain ⟨rows, w1, w2, w3⟩ := rows_of (H := H') (acc := acc) (rs := rs) (by rw [h2, hlen]) fun i y hy => by
          obtain ⟨b', r, q, e1, e2, e3, _, e5⟩ := hR i y hy
          exact ⟨q, r, e3, e5, h3 i b' r e1 e2⟩
        refine hQ rs h1 D H' ((Lf.extN_upd hp).trans e1) (by
          rw [upd_ne (Ne.symm hpD)] at hD
          exact hD) ⟨rows, by rw [hacc, w1], w2, w3⟩
end
end Lf
set_option Elab.async false
set_option linter.all false
set_option maxRecDepth 100000
set_option maxHeartbeats 4000000
/-! texts.py: rows as texts. -/
namespace Lf
open PySem PySem.Spec PyProof.Rows L2 LfR LamX LfM SX
section
variable {P : Program} {w : World} {K : PySem.W.Frag} {mg : Str → Option Value} {base : Heap}
/-- rows of few, small numbers -/
def SmallR (r : List Int) : Prop := r.length ≤ 100 ∧ ∀ z ∈ r, -1 ≤ z ∧ z ≤ 100000
theorem log_small {z : Int} (h : -1 ≤ z ∧ z ≤ 100000) : z.natAbs.log2 < 1920 := by
  by_cases e : z.natAbs = 0
  · rw [e]
    decide
  · have : z.natAbs < 2 ^ 1920 := Nat.lt_of_lt_of_le (show z.natAbs < 2 ^ 17 by omega) (Nat.pow_le_pow_right (by decide) (by decide))
    exact (Nat.log2_lt e).mpr this
theorem len_dig (n : Nat) (h : n ≤ 100000) : (TL.numL n).length ≤ 7 := TL.numL_len (k := 7) (by decide) (by omega)
theorem showInt_len {z : Int} (h : -1 ≤ z ∧ z ≤ 100000) : (showInt z).length ≤ 8 := by
  by_cases e : z = -1
  · rw [e]
    decide
  · obtain ⟨n, rfl⟩ := Int.eq_ofNat_of_zero_le (a := z) (by omega)
    have e : showInt (n : Int) = TL.numL n := TL.tl_num n
    rw [e]
    have := len_dig n (by omega)
    omega
theorem sum_le {l : List Nat} {m : Nat} (h : ∀ x ∈ l, x ≤ m) : l.sum ≤ l.length * m := by
  induction l with
  | nil => simp
  | cons a l ih =>
    have h1 := h a (List.mem_cons_self ..)
    have h2 := ih fun x hx => h x (List.mem_cons_of_mem _ hx)
    rw [List.sum_cons, List.length_cons, Nat.add_mul, Nat.one_mul]
    omega
theorem join_small {l : List Tx} {m k : Nat} (sep : Tx) (h : ∀ x ∈ l, x.length ≤ m) (hk : l.length ≤ k) (hm : k * (m + sep.length) ≤ 16777216) : (((l.map S).map (·.length)).sum + (l.map S).length * (S sep).length) ≤ 16777216 := by
  have h1 : ((l.map S).map (·.length)).sum ≤ l.length * m := by
    have := sum_le (l := (l.map S).map (·.length)) (m := m) (fun x hx => by
      rw [lens] at hx
      obtain ⟨y, hy, rfl⟩ := List.mem_map.mp hx
      exact h y hy)
    rw [List.length_map, List.length_map] at this
    exact this
  rw [List.length_map, S_len]
  have h2 : l.length * m + l.length * sep.length ≤ k * (m + sep.length) := by
    rw [← Nat.mul_add]
    exact Nat.mul_le_mul_right _ hk
  omega
theorem joinL_len {sep : Tx} {m : Nat} : ∀ {l : List Tx}, (∀ x ∈ l, x.length ≤ m) → (TL.joinL sep l).length ≤ l.length * (m + sep.length)
  | [], _ => by simp [TL.joinL]
  | [p], h => by
    have := h p (List.mem_cons_self ..)
    show p.length ≤ 1 * (m + sep.length)
    omega
  | p :: q :: r, h => by
    have h1 := h p (List.mem_cons_self ..)
    have h2 := joinL_len (sep := sep) (l := q :: r) fun x hx => h x (List.mem_cons_of_mem _ hx)
    rw [joinL_cons _ _ (by simp), List.length_append, List.length_append, List.length_cons, Nat.add_mul]
    omega
def spShownRow (K : PySem.W.Frag) : Sp := fun vs H Q _ => ∃ (p : Addr) (r : List Int), vs = [.ref p] ∧ H p = some (.lst (r.map V.int)) ∧ SmallR r ∧ ∀ H', ExtN H H' → Q (.str (S (shownRow r))) H'
theorem sc_shown_row : FnScope ["row", "number"] ["row"] (defScope s_shown_row) := ⟨rfl, rfl, rfl, by decide +kernel, rfl, by decide +kernel, by decide +kernel⟩
theorem ok_shown_row (T : Txt w K mg) : Dok P w K mg base CX0 1 (ga K "shown_row") ["row"] (spShownRow K) := by
  obtain ⟨fd, F⟩ := T.d_shown_row
  have sc := sc_shown_row
  refine ⟨fd, F.ok sc (fun vs H Q E h => ?_) (fun cdv A outer s H vs Q E hr h => ?_), F.bindsN fun _ _ _ _ _ _ us hl => match us, hl with | [_], _ => rfl, F.kp⟩
  · obtain ⟨a, r, rfl, _⟩ := h
    rfl
  refine ⟨_, PSs.nox (pss_cons (ps_if (pt_cmpR op_eq (pe_callB call_len_seq rfl (T.n "len") PySem.boot_len (pa_cons (pv 0) pa_nil)) pe_int (nomark _)) (pss_one (ps_ret pe_str)) pss_nil) (pss_one (ps_ret (pe_join pe_str (pe_lc (own := [("number", 1)]) (g := gName 1) (tt := tYes) rfl sc.nd (pi_list (pv 0)) (blkOk_by (own := [("number", 1)]) (N := ["row", "number"]) (sc := defScope s_shown_row) (by decide +kernel)) (fun _ _ _ _ _ => pg_name (i := 1) sc.nd rfl (Or.inl rfl)) (fun _ _ _ _ _ => pts_nil) (fun _ _ _ _ _ => (pe_callTy call_str_int rfl (T.n "str") (by decide +kernel) (pa_cons (pv 1) pa_nil)))))))), ?_⟩
  obtain ⟨p, r, rfl, hp, hsm, hQ⟩ := h
  simp only [tSeq, tIfS, tOr, tAnd, tNot, tTest, tB, tOp, tCB, tCons, tNil, tVar, tC, tRet, tRetN, tNext, tDrop, tAsg, gName, gNil, gCons, gTup, gSub, tAug, tAugS, ipI, tCall, tMeth, tMake, tCmp, tAndV, tOrV, tNotV, tIf, tChain, tTup, tLst, tSl, tPart, tNoPart, tBM, tM0, tM1, tUn, rU, tFld, tCallS, tCKw, rEq, rNe, rI, rI0, rIxL, rIxT, rIxS, rSub, rSlL, C8.rSlX, rNewStrs, tMake0, tLc_list, tLc_rng1, tFor_list, tFor_str, tFor_rng1, tYes, wipe, L2.start, List.map_cons, List.map_nil, List.length_cons, List.length_nil, List.replicate, List.cons_append, List.nil_append, List.append_nil, Nat.reduceAdd, Nat.reduceSub, List.getElem?_cons_zero, List.getElem?_cons_succ, List.set_cons_zero, List.set_cons_succ, Option.some.injEq, exists_eq_left', exists_eq_left, exists_eq', and_true, true_and, exists_eq_right, exists_const, V.int.injEq, V.str.injEq, V.bl.injEq, V.ref.injEq, List.cons.injEq, scal_ii, scal_ss, scal_bb, decide_eq_true_eq, Bool.not_eq_true', decide_eq_false_iff_not, if_true, if_false, Bool.false_eq_true, exists_and_left, S_len, sz_le]
  have hS : ∀ H', ExtN H H' → SqL K H' p (r.map V.int) := fun H' x => SqL.of (x _ _ hp (nt_lst _))
  refine ⟨_, .inl (hS _ (ExtN.refl _)), ite2 (fun e => ?_) fun e => ?_⟩
  · have : r = [] := by
      rw [List.length_map] at e
      exact List.eq_nil_of_length_eq_zero (by omega)
    subst this
    exact hQ _ (ExtN.refl _)
  · have hne : r.isEmpty = false := by
      cases r with
      | nil => exact absurd rfl e
      | cons => rfl
    refine ⟨⟨_, hS _ (ExtN.refl _)⟩, fun D hD => ?_⟩
    refine lc_pureW (xs := r.map V.int) walk_list rfl (fun v => match v with | .int i => some (.str (Str.ofString (toString i))) | _ => none) (by
      rw [List.length_map]
      exact Nat.lt_of_le_of_lt hsm.1 (by rw [sizeLine_eq]; omega)) (fun acc => hS _ (Lf.extN_upd hD)) (fun i x acc Qy Qn hx hy hn => ?_) ?_
    · rw [List.getElem?_map] at hx
      obtain ⟨z, hz, rfl⟩ := Option.map_eq_some_iff.mp hx
      refine ⟨rfl, ?_⟩
      simp only [tSeq, tIfS, tOr, tAnd, tNot, tTest, tB, tOp, tCB, tCons, tNil, tVar, tC, tRet, tRetN, tNext, tDrop, tAsg, gName, gNil, gCons, gTup, gSub, tAug, tAugS, ipI, tCall, tMeth, tMake, tCmp, tAndV, tOrV, tNotV, tIf, tChain, tTup, tLst, tSl, tPart, tNoPart, tBM, tM0, tM1, tUn, rU, tFld, tCallS, tCKw, rEq, rNe, rI, rI0, rIxL, rIxT, rIxS, rSub, rSlL, C8.rSlX, rNewStrs, tMake0, tLc_list, tLc_rng1, tFor_list, tFor_str, tFor_rng1, tYes, wipe, L2.start, List.map_cons, List.map_nil, List.length_cons, List.length_nil, List.replicate, List.cons_append, List.nil_append, List.append_nil, Nat.reduceAdd, Nat.reduceSub, List.getElem?_cons_zero, List.getElem?_cons_succ, List.set_cons_zero, List.set_cons_succ, Option.some.injEq, exists_eq_left', exists_eq_left, exists_eq', and_true, true_and, exists_eq_right, exists_const, V.int.injEq, V.str.injEq, V.bl.injEq, V.ref.injEq, List.cons.injEq, scal_ii, scal_ss, scal_bb, decide_eq_true_eq, Bool.not_eq_true', decide_eq_false_iff_not, if_true, if_false, Bool.false_eq_true, exists_and_left, S_len, sz_le]
      exact ⟨log_small (hsm.2 z (List.mem_of_getElem? hz)), hy _ rfl⟩
    · have e1 : (r.map V.int).filterMap (fun v => match v with | .int i => some (V.str (Str.ofString (toString i))) | _ => none) = ((r.map showInt).map S).map V.str := by
        rw [List.filterMap_map, List.map_map, List.map_map]
        rw [← List.filterMap_eq_map]
        refine congrArg (fun f => List.filterMap f r) (funext fun z => ?_)
        show some (V.str (Str.ofString (toString z))) = some (V.str (S (TL.tl (Str.ofString (toString z)))))
        rw [show S (TL.tl (Str.ofString (toString z))) = Str.ofString (toString z) from S_tl _]
      rw [e1]
      refine ⟨(r.map showInt).map S, .inl (SqL.of upd_same), ?_, ?_⟩
      · exact join_small [32] (m := 8) (k := 100) (fun x hx => by
          obtain ⟨z, hz, rfl⟩ := List.mem_map.mp hx
          exact showInt_len (hsm.2 z hz)) (by rw [List.length_map]; exact hsm.1) (by decide)
      · rw [show Txt.join " " ((r.map showInt).map S) = S (TL.joinL [32] (r.map showInt)) from join_S [32] _]
        have e2 : shownRow r = TL.joinL [32] (r.map showInt) := by
          unfold shownRow
          rw [hne] <;> rfl
        rw [← e2]
        exact hQ _ (Lf.extN_upd hD)
def spShownRows (K : PySem.W.Frag) : Sp := fun vs H Q _ => ∃ (p : Addr) (rs : Rows), vs = [.ref p] ∧ RowsAt H p rs ∧ rs.length ≤ 100 ∧ (∀ r ∈ rs, SmallR r) ∧ ∀ H', ExtN H H' → Q (.str (S (shownRows rs))) H'
theorem sc_shown_rows : FnScope ["rows", "row"] ["rows"] (defScope s_shown_rows) := ⟨rfl, rfl, rfl, by decide +kernel, rfl, by decide +kernel, by decide +kernel⟩
theorem ok_shown_rows (T : Txt w K mg) : Dok P w K mg base CX0 2 (ga K "shown_rows") ["rows"] (spShownRows K) := by
  obtain ⟨fd, F⟩ := T.d_shown_rows
  have sc := sc_shown_rows
  have D_shown_row := ok_shown_row (P := P) (base := base) T
  refine ⟨fd, F.ok sc (fun vs H Q E h => ?_) (fun cdv A outer s H vs Q E hr h => ?_), F.bindsN fun _ _ _ _ _ _ us hl => match us, hl with | [_], _ => rfl, F.kp⟩
  · obtain ⟨a, r, rfl, _⟩ := h
    rfl
  refine ⟨_, PSs.nox (pss_cons (ps_if (pt_cmpR op_eq (pe_callB call_len_seq rfl (T.n "len") PySem.boot_len (pa_cons (pv 0) pa_nil)) pe_int (nomark _)) (pss_one (ps_ret pe_str)) pss_nil) (pss_one (ps_ret (pe_join pe_str (pe_lc (own := [("row", 1)]) (g := gName 1) (tt := tYes) rfl sc.nd (pi_list (pv 0)) (blkOk_by (own := [("row", 1)]) (N := ["rows", "row"]) (sc := defScope s_shown_rows) (by decide +kernel)) (fun _ _ _ _ _ => pg_name (i := 1) sc.nd rfl (Or.inl rfl)) (fun _ _ _ _ _ => pts_nil) (fun _ _ _ _ _ => (pe_f D_shown_row hr (T.g "shown_row") (pa_cons (pv 1) pa_nil)))))))), ?_⟩
  obtain ⟨p, rs, rfl, ⟨rows, hp, hok, rfl⟩, hlen, hsm, hQ⟩ := h
  simp only [tSeq, tIfS, tOr, tAnd, tNot, tTest, tB, tOp, tCB, tCons, tNil, tVar, tC, tRet, tRetN, tNext, tDrop, tAsg, gName, gNil, gCons, gTup, gSub, tAug, tAugS, ipI, tCall, tMeth, tMake, tCmp, tAndV, tOrV, tNotV, tIf, tChain, tTup, tLst, tSl, tPart, tNoPart, tBM, tM0, tM1, tUn, rU, tFld, tCallS, tCKw, rEq, rNe, rI, rI0, rIxL, rIxT, rIxS, rSub, rSlL, C8.rSlX, rNewStrs, tMake0, tLc_list, tLc_rng1, tFor_list, tFor_str, tFor_rng1, tYes, wipe, L2.start, List.map_cons, List.map_nil, List.length_cons, List.length_nil, List.replicate, List.cons_append, List.nil_append, List.append_nil, Nat.reduceAdd, Nat.reduceSub, List.getElem?_cons_zero, List.getElem?_cons_succ, List.set_cons_zero, List.set_cons_succ, Option.some.injEq, exists_eq_left', exists_eq_left, exists_eq', and_true, true_and, exists_eq_right, exists_const, V.int.injEq, V.str.injEq, V.bl.injEq, V.ref.injEq, List.cons.injEq, scal_ii, scal_ss, scal_bb, decide_eq_true_eq, Bool.not_eq_true', decide_eq_false_iff_not, if_true, if_false, Bool.false_eq_true, exists_and_left, S_len, sz_le]
  rw [List.length_map] at hlen
  have hS : ∀ H', ExtN H H' → SqL K H' p (rowRefs rows) := fun H' x => SqL.of (x _ _ hp (nt_lst _))
  have hrl : (rowRefs rows).length = rows.length := List.length_map _
  refine ⟨_, .inl (hS _ (ExtN.refl _)), ite2 (fun e => ?_) fun e => ?_⟩
  · have : rows = [] := List.eq_nil_of_length_eq_zero (by omega)
    subst this
    exact hQ _ (ExtN.refl _)
  · have hne : (rows.map (·.2)).isEmpty = false := by
      cases rows with
      | nil => exact absurd rfl e
      | cons => rfl
    refine ⟨⟨_, hS _ (ExtN.refl _)⟩, fun D hD => ?_⟩
    refine lc_mapW (xs := rowRefs rows) walk_list rfl (fun i y _ => ∃ r, rows[i]? = some r ∧ y = .str (S (shownRow r.2))) (by
      rw [hrl]
      exact Nat.lt_of_le_of_lt hlen (by rw [sizeLine_eq]; omega)) (fun H' x _ => hS H' x) hD (fun j y H H' _ h => h) (fun _ => True) (fun _ => trivial) (fun _ _ _ _ => trivial) (fun i x H' Qy hx e1 _ hacc hy => ?_) (fun H' acc e1 _ hacc hl hR => ?_)
    · unfold rowRefs at hx
      rw [List.getElem?_map] at hx
      obtain ⟨r, hr, rfl⟩ := Option.map_eq_some_iff.mp hx
      have hmem := List.mem_of_getElem? hr
      refine ⟨rfl, ?_⟩
      simp only [tSeq, tIfS, tOr, tAnd, tNot, tTest, tB, tOp, tCB, tCons, tNil, tVar, tC, tRet, tRetN, tNext, tDrop, tAsg, gName, gNil, gCons, gTup, gSub, tAug, tAugS, ipI, tCall, tMeth, tMake, tCmp, tAndV, tOrV, tNotV, tIf, tChain, tTup, tLst, tSl, tPart, tNoPart, tBM, tM0, tM1, tUn, rU, tFld, tCallS, tCKw, rEq, rNe, rI, rI0, rIxL, rIxT, rIxS, rSub, rSlL, C8.rSlX, rNewStrs, tMake0, tLc_list, tLc_rng1, tFor_list, tFor_str, tFor_rng1, tYes, wipe, L2.start, List.map_cons, List.map_nil, List.length_cons, List.length_nil, List.replicate, List.cons_append, List.nil_append, List.append_nil, Nat.reduceAdd, Nat.reduceSub, List.getElem?_cons_zero, List.getElem?_cons_succ, List.set_cons_zero, List.set_cons_succ, Option.some.injEq, exists_eq_left', exists_eq_left, exists_eq', and_true, true_and, exists_eq_right, exists_const, V.int.injEq, V.str.injEq, V.bl.injEq, V.ref.injEq, List.cons.injEq, scal_ii, scal_ss, scal_bb, decide_eq_true_eq, Bool.not_eq_true', decide_eq_false_iff_not, if_true, if_false, Bool.false_eq_true, exists_and_left, S_len, sz_le]
      exact ⟨r.1, r.2, rfl, e1 _ _ (hok r hmem) (nt_lst _), hsm _ (List.mem_map_of_mem hmem), fun H2 e2 => hy _ _ e2 trivial ⟨r, hr, rfl⟩⟩
    · have ea : acc = (((rows.map (·.2)).map shownRow).map S).map V.str := by
        refine List.ext_getElem? fun i => ?_
        rw [List.map_map, List.map_map, List.map_map, List.getElem?_map]
        cases ha : acc[i]? with
        | none =>
          have : rows[i]? = none := List.getElem?_eq_none (by rw [← hrl, ← hl]; exact List.getElem?_eq_none_iff.mp ha)
          rw [this] <;> rfl
        | some y =>
          obtain ⟨r, hr, rfl⟩ := hR i y ha
          rw [hr] <;> rfl
      subst ea
      refine ⟨((rows.map (·.2)).map shownRow).map S, .inl (SqL.of hacc), ?_, ?_⟩
      · exact join_small [32, 47, 32] (m := 1000) (k := 100) (fun x hx => by
          obtain ⟨r, hr, rfl⟩ := List.mem_map.mp hx
          obtain ⟨h1, h2⟩ := hsm r hr
          unfold shownRow
          split
          · simp
          · have := joinL_len (sep := [32]) (m := 8) (l := r.map showInt) fun x hx => by
              obtain ⟨z, hz, rfl⟩ := List.mem_map.mp hx
              exact showInt_len (h2 z hz)
            rw [List.length_map] at this
            simp only [List.length_singleton] at this
            omega) (by rw [List.length_map, List.length_map]; exact hlen) (by decide)
      · rw [show Txt.join " / " (((rows.map (·.2)).map shownRow).map S) = S (TL.joinL [32, 47, 32] ((rows.map (·.2)).map shownRow)) from join_S [32, 47, 32] _]
        have e2 : shownRows (rows.map (·.2)) = TL.joinL [32, 47, 32] ((rows.map (·.2)).map shownRow) := by
          unfold shownRows
          rw [hne] <;> rfl
        rw [← e2]
        exact hQ _ e1
end
end Lf
set_option Elab.async false
set_option linter.all false
set_option maxRecDepth 100000
set_option maxHeartbeats 4000000
/-! floors.py: the kinds, what fits. -/
namespace Lf
open PySem PySem.Spec PyProof.Rows L2 LfR LamX LfM SX
section
variable {P : Program} {w : World} {K : PySem.W.Frag} {mg : Str → Option Value} {base : Heap}
theorem cxK {CX : CXT} {N : List Str} {q : Str} {sc : Scope} {f : Addr} {cd : Value} {A : Around} {o : List Env} {s : Shared} {H : Hp} {E : XK} : (cxOf CX P w K mg base N q sc f cd A o s H E).K = K := rfl
theorem cxNK {X : Cx} : X.nox.K = X.K := rfl
/-! the kinds, by number -/
def kN : Fin 6 → Str
  | 0 => "Alike"
  | 1 => "Open"
  | 2 => "Tails"
  | 3 => "Windows"
  | 4 => "Tree"
  | 5 => "Pairs"
def kC (K : PySem.W.Frag) (i : Fin 6) : Addr := ga K (kN i)
def kF (K : PySem.W.Frag) (m : Str) (i : Fin 6) : Addr := ma K (kN i) m
theorem kCls (T : Txt w K mg) (i : Fin 6) : Cls K (kC K i) := by
  match i with
  | 0 => exact T.c "Alike"
  | 1 => exact T.c "Open"
  | 2 => exact T.c "Tails"
  | 3 => exact T.c "Windows"
  | 4 => exact T.c "Tree"
  | 5 => exact T.c "Pairs"
theorem kWord (T : Txt w K mg) (i : Fin 6) : Meth K (kC K i) "word" (kF K "word" i) := by
  match i with
  | 0 => exact T.m "Alike" "word"
  | 1 => exact T.m "Open" "word"
  | 2 => exact T.m "Tails" "word"
  | 3 => exact T.m "Windows" "word"
  | 4 => exact T.m "Tree" "word"
  | 5 => exact T.m "Pairs" "word"
theorem kFits (T : Txt w K mg) (i : Fin 6) : Meth K (kC K i) "fits" (kF K "fits" i) := by
  match i with
  | 0 => exact T.m "Alike" "fits"
  | 1 => exact T.m "Open" "fits"
  | 2 => exact T.m "Tails" "fits"
  | 3 => exact T.m "Windows" "fits"
  | 4 => exact T.m "Tree" "fits"
  | 5 => exact T.m "Pairs" "fits"
/-- word(self) -/
def spWord (i : Fin 6) : Sp := fun vs H Q _ => ∃ v : V, vs = [v] ∧ Q (.str (S (kindW i))) H
theorem sc_Alike_word : FnScope ["self"] ["self"] (defScope s_Alike_word) := ⟨rfl, rfl, rfl, by decide +kernel, rfl, by decide +kernel, by decide +kernel⟩
theorem ok_Alike_word (T : Txt w K mg) : Dok P w K mg base CX0 1 (ma K "Alike" "word") ["self"] (spWord 0) := by
  obtain ⟨fd, F⟩ := T.d_Alike_word
  have sc := sc_Alike_word
  refine ⟨fd, F.ok sc (fun vs H Q E h => ?_) (fun cdv A outer s H vs Q E hr h => ?_), F.bindsN fun _ _ _ _ _ _ us hl => match us, hl with | [_], _ => rfl, F.kp⟩
  · obtain ⟨v, rfl, _⟩ := h
    rfl
  refine ⟨_, PSs.nox (pss_one (ps_ret pe_str)), ?_⟩
  obtain ⟨v, rfl, hQ⟩ := h
  simp only [tSeq, tIfS, tOr, tAnd, tNot, tTest, tB, tOp, tCB, tCons, tNil, tVar, tC, tRet, tRetN, tNext, tDrop, tAsg, gName, gNil, gCons, gTup, gSub, tAug, tAugS, ipI, tCall, tMeth, tMake, tCmp, tAndV, tOrV, tNotV, tIf, tChain, tTup, tLst, tSl, tPart, tNoPart, tBM, tM0, tM1, tUn, rU, tFld, tCallS, tCKw, tMethF, tMethS, rEq, rNe, rI, rI0, rIxL, rIxT, rIxS, rSub, rSlL, C8.rSlX, rNewStrs, tMake0, cxK, cxNK, tLc_list, tLc_rng1, tFor_list, tFor_str, tFor_rng1, tYes, wipe, L2.start, List.map_cons, List.map_nil, List.length_cons, List.length_nil, List.replicate, List.cons_append, List.nil_append, List.append_nil, Nat.reduceAdd, Nat.reduceSub, List.getElem?_cons_zero, List.getElem?_cons_succ, List.set_cons_zero, List.set_cons_succ, Option.some.injEq, exists_eq_left', exists_eq_left, exists_eq', and_true, true_and, exists_eq_right, exists_const, V.int.injEq, V.str.injEq, V.bl.injEq, V.ref.injEq, List.cons.injEq, scal_ii, scal_ss, scal_bb, decide_eq_true_eq, Bool.not_eq_true', decide_eq_false_iff_not, if_true, if_false, Bool.false_eq_true, exists_and_left, S_len, sz_le]
  exact hQ
theorem sc_Open_word : FnScope ["self"] ["self"] (defScope s_Open_word) := ⟨rfl, rfl, rfl, by decide +kernel, rfl, by decide +kernel, by decide +kernel⟩
theorem ok_Open_word (T : Txt w K mg) : Dok P w K mg base CX0 1 (ma K "Open" "word") ["self"] (spWord 1) := by
  obtain ⟨fd, F⟩ := T.d_Open_word
  have sc := sc_Open_word
  refine ⟨fd, F.ok sc (fun vs H Q E h => ?_) (fun cdv A outer s H vs Q E hr h => ?_), F.bindsN fun _ _ _ _ _ _ us hl => match us, hl with | [_], _ => rfl, F.kp⟩
  · obtain ⟨v, rfl, _⟩ := h
    rfl
  refine ⟨_, PSs.nox (pss_one (ps_ret pe_str)), ?_⟩
  obtain ⟨v, rfl, hQ⟩ := h
  simp only [tSeq, tIfS, tOr, tAnd, tNot, tTest, tB, tOp, tCB, tCons, tNil, tVar, tC, tRet, tRetN, tNext, tDrop, tAsg, gName, gNil, gCons, gTup, gSub, tAug, tAugS, ipI, tCall, tMeth, tMake, tCmp, tAndV, tOrV, tNotV, tIf, tChain, tTup, tLst, tSl, tPart, tNoPart, tBM, tM0, tM1, tUn, rU, tFld, tCallS, tCKw, tMethF, tMethS, rEq, rNe, rI, rI0, rIxL, rIxT, rIxS, rSub, rSlL, C8.rSlX, rNewStrs, tMake0, cxK, cxNK, tLc_list, tLc_rng1, tFor_list, tFor_str, tFor_rng1, tYes, wipe, L2.start, List.map_cons, List.map_nil, List.length_cons, List.length_nil, List.replicate, List.cons_append, List.nil_append, List.append_nil, Nat.reduceAdd, Nat.reduceSub, List.getElem?_cons_zero, List.getElem?_cons_succ, List.set_cons_zero, List.set_cons_succ, Option.some.injEq, exists_eq_left', exists_eq_left, exists_eq', and_true, true_and, exists_eq_right, exists_const, V.int.injEq, V.str.injEq, V.bl.injEq, V.ref.injEq, List.cons.injEq, scal_ii, scal_ss, scal_bb, decide_eq_true_eq, Bool.not_eq_true', decide_eq_false_iff_not, if_true, if_false, Bool.false_eq_true, exists_and_left, S_len, sz_le]
  exact hQ
theorem sc_Tails_word : FnScope ["self"] ["self"] (defScope s_Tails_word) := ⟨rfl, rfl, rfl, by decide +kernel, rfl, by decide +kernel, by decide +kernel⟩
theorem ok_Tails_word (T : Txt w K mg) : Dok P w K mg base CX0 1 (ma K "Tails" "word") ["self"] (spWord 2) := by
  obtain ⟨fd, F⟩ := T.d_Tails_word
  have sc := sc_Tails_word
  refine ⟨fd, F.ok sc (fun vs H Q E h => ?_) (fun cdv A outer s H vs Q E hr h => ?_), F.bindsN fun _ _ _ _ _ _ us hl => match us, hl with | [_], _ => rfl, F.kp⟩
  · obtain ⟨v, rfl, _⟩ := h
    rfl
  refine ⟨_, PSs.nox (pss_one (ps_ret pe_str)), ?_⟩
  obtain ⟨v, rfl, hQ⟩ := h
  simp only [tSeq, tIfS, tOr, tAnd, tNot, tTest, tB, tOp, tCB, tCons, tNil, tVar, tC, tRet, tRetN, tNext, tDrop, tAsg, gName, gNil, gCons, gTup, gSub, tAug, tAugS, ipI, tCall, tMeth, tMake, tCmp, tAndV, tOrV, tNotV, tIf, tChain, tTup, tLst, tSl, tPart, tNoPart, tBM, tM0, tM1, tUn, rU, tFld, tCallS, tCKw, tMethF, tMethS, rEq, rNe, rI, rI0, rIxL, rIxT, rIxS, rSub, rSlL, C8.rSlX, rNewStrs, tMake0, cxK, cxNK, tLc_list, tLc_rng1, tFor_list, tFor_str, tFor_rng1, tYes, wipe, L2.start, List.map_cons, List.map_nil, List.length_cons, List.length_nil, List.replicate, List.cons_append, List.nil_append, List.append_nil, Nat.reduceAdd, Nat.reduceSub, List.getElem?_cons_zero, List.getElem?_cons_succ, List.set_cons_zero, List.set_cons_succ, Option.some.injEq, exists_eq_left', exists_eq_left, exists_eq', and_true, true_and, exists_eq_right, exists_const, V.int.injEq, V.str.injEq, V.bl.injEq, V.ref.injEq, List.cons.injEq, scal_ii, scal_ss, scal_bb, decide_eq_true_eq, Bool.not_eq_true', decide_eq_false_iff_not, if_true, if_false, Bool.false_eq_true, exists_and_left, S_len, sz_le]
  exact hQ
theorem sc_Windows_word : FnScope ["self"] ["self"] (defScope s_Windows_word) := ⟨rfl, rfl, rfl, by decide +kernel, rfl, by decide +kernel, by decide +kernel⟩
theorem ok_Windows_word (T : Txt w K mg) : Dok P w K mg base CX0 1 (ma K "Windows" "word") ["self"] (spWord 3) := by
  obtain ⟨fd, F⟩ := T.d_Windows_word
  have sc := sc_Windows_word
  refine ⟨fd, F.ok sc (fun vs H Q E h => ?_) (fun cdv A outer s H vs Q E hr h => ?_), F.bindsN fun _ _ _ _ _ _ us hl => match us, hl with | [_], _ => rfl, F.kp⟩
  · obtain ⟨v, rfl, _⟩ := h
    rfl
  refine ⟨_, PSs.nox (pss_one (ps_ret pe_str)), ?_⟩
  obtain ⟨v, rfl, hQ⟩ := h
  simp only [tSeq, tIfS, tOr, tAnd, tNot, tTest, tB, tOp, tCB, tCons, tNil, tVar, tC, tRet, tRetN, tNext, tDrop, tAsg, gName, gNil, gCons, gTup, gSub, tAug, tAugS, ipI, tCall, tMeth, tMake, tCmp, tAndV, tOrV, tNotV, tIf, tChain, tTup, tLst, tSl, tPart, tNoPart, tBM, tM0, tM1, tUn, rU, tFld, tCallS, tCKw, tMethF, tMethS, rEq, rNe, rI, rI0, rIxL, rIxT, rIxS, rSub, rSlL, C8.rSlX, rNewStrs, tMake0, cxK, cxNK, tLc_list, tLc_rng1, tFor_list, tFor_str, tFor_rng1, tYes, wipe, L2.start, List.map_cons, List.map_nil, List.length_cons, List.length_nil, List.replicate, List.cons_append, List.nil_append, List.append_nil, Nat.reduceAdd, Nat.reduceSub, List.getElem?_cons_zero, List.getElem?_cons_succ, List.set_cons_zero, List.set_cons_succ, Option.some.injEq, exists_eq_left', exists_eq_left, exists_eq', and_true, true_and, exists_eq_right, exists_const, V.int.injEq, V.str.injEq, V.bl.injEq, V.ref.injEq, List.cons.injEq, scal_ii, scal_ss, scal_bb, decide_eq_true_eq, Bool.not_eq_true', decide_eq_false_iff_not, if_true, if_false, Bool.false_eq_true, exists_and_left, S_len, sz_le]
  exact hQ
theorem sc_Tree_word : FnScope ["self"] ["self"] (defScope s_Tree_word) := ⟨rfl, rfl, rfl, by decide +kernel, rfl, by decide +kernel, by decide +kernel⟩
theorem ok_Tree_word (T : Txt w K mg) : Dok P w K mg base CX0 1 (ma K "Tree" "word") ["self"] (spWord 4) := by
  obtain ⟨fd, F⟩ := T.d_Tree_word
  have sc := sc_Tree_word
  refine ⟨fd, F.ok sc (fun vs H Q E h => ?_) (fun cdv A outer s H vs Q E hr h => ?_), F.bindsN fun _ _ _ _ _ _ us hl => match us, hl with | [_], _ => rfl, F.kp⟩
  · obtain ⟨v, rfl, _⟩ := h
    rfl
  refine ⟨_, PSs.nox (pss_one (ps_ret pe_str)), ?_⟩
  obtain ⟨v, rfl, hQ⟩ := h
  simp only [tSeq, tIfS, tOr, tAnd, tNot, tTest, tB, tOp, tCB, tCons, tNil, tVar, tC, tRet, tRetN, tNext, tDrop, tAsg, gName, gNil, gCons, gTup, gSub, tAug, tAugS, ipI, tCall, tMeth, tMake, tCmp, tAndV, tOrV, tNotV, tIf, tChain, tTup, tLst, tSl, tPart, tNoPart, tBM, tM0, tM1, tUn, rU, tFld, tCallS, tCKw, tMethF, tMethS, rEq, rNe, rI, rI0, rIxL, rIxT, rIxS, rSub, rSlL, C8.rSlX, rNewStrs, tMake0, cxK, cxNK, tLc_list, tLc_rng1, tFor_list, tFor_str, tFor_rng1, tYes, wipe, L2.start, List.map_cons, List.map_nil, List.length_cons, List.length_nil, List.replicate, List.cons_append, List.nil_append, List.append_nil, Nat.reduceAdd, Nat.reduceSub, List.getElem?_cons_zero, List.getElem?_cons_succ, List.set_cons_zero, List.set_cons_succ, Option.some.injEq, exists_eq_left', exists_eq_left, exists_eq', and_true, true_and, exists_eq_right, exists_const, V.int.injEq, V.str.injEq, V.bl.injEq, V.ref.injEq, List.cons.injEq, scal_ii, scal_ss, scal_bb, decide_eq_true_eq, Bool.not_eq_true', decide_eq_false_iff_not, if_true, if_false, Bool.false_eq_true, exists_and_left, S_len, sz_le]
  exact hQ
theorem sc_Pairs_word : FnScope ["self"] ["self"] (defScope s_Pairs_word) := ⟨rfl, rfl, rfl, by decide +kernel, rfl, by decide +kernel, by decide +kernel⟩
theorem ok_Pairs_word (T : Txt w K mg) : Dok P w K mg base CX0 1 (ma K "Pairs" "word") ["self"] (spWord 5) := by
  obtain ⟨fd, F⟩ := T.d_Pairs_word
  have sc := sc_Pairs_word
  refine ⟨fd, F.ok sc (fun vs H Q E h => ?_) (fun cdv A outer s H vs Q E hr h => ?_), F.bindsN fun _ _ _ _ _ _ us hl => match us, hl with | [_], _ => rfl, F.kp⟩
  · obtain ⟨v, rfl, _⟩ := h
    rfl
  refine ⟨_, PSs.nox (pss_one (ps_ret pe_str)), ?_⟩
  obtain ⟨v, rfl, hQ⟩ := h
  simp only [tSeq, tIfS, tOr, tAnd, tNot, tTest, tB, tOp, tCB, tCons, tNil, tVar, tC, tRet, tRetN, tNext, tDrop, tAsg, gName, gNil, gCons, gTup, gSub, tAug, tAugS, ipI, tCall, tMeth, tMake, tCmp, tAndV, tOrV, tNotV, tIf, tChain, tTup, tLst, tSl, tPart, tNoPart, tBM, tM0, tM1, tUn, rU, tFld, tCallS, tCKw, tMethF, tMethS, rEq, rNe, rI, rI0, rIxL, rIxT, rIxS, rSub, rSlL, C8.rSlX, rNewStrs, tMake0, cxK, cxNK, tLc_list, tLc_rng1, tFor_list, tFor_str, tFor_rng1, tYes, wipe, L2.start, List.map_cons, List.map_nil, List.length_cons, List.length_nil, List.replicate, List.cons_append, List.nil_append, List.append_nil, Nat.reduceAdd, Nat.reduceSub, List.getElem?_cons_zero, List.getElem?_cons_succ, List.set_cons_zero, List.set_cons_succ, Option.some.injEq, exists_eq_left', exists_eq_left, exists_eq', and_true, true_and, exists_eq_right, exists_const, V.int.injEq, V.str.injEq, V.bl.injEq, V.ref.injEq, List.cons.injEq, scal_ii, scal_ss, scal_bb, decide_eq_true_eq, Bool.not_eq_true', decide_eq_false_iff_not, if_true, if_false, Bool.false_eq_true, exists_and_left, S_len, sz_le]
  exact hQ
theorem ok_word (T : Txt w K mg) (i : Fin 6) : Dok P w K mg base CX0 1 (kF K "word" i) ["self"] (spWord i) := by
  match i with
  | 0 => exact ok_Alike_word T
  | 1 => exact ok_Open_word T
  | 2 => exact ok_Tails_word T
  | 3 => exact ok_Windows_word T
  | 4 => exact ok_Tree_word T
  | 5 => exact ok_Pairs_word T
theorem Same.up {H H1 : Hp} {p : Addr} {o : HO} (e : Same H H1) (h : H1 p = none) : Same H (upd H1 p o) := fun b u eb => by
  have h1 := e b u eb
  have hb : b ≠ p := fun z => by rw [z, h] at h1; cases h1
  rw [upd_ne hb]
  exact h1
theorem made {H : Hp} {x dx C : Addr} (a : H x = none) (b : H dx = none) (c : dx ≠ x) : Same H (upd (upd H dx (.own x)) x (.ins C dx [])) ∧ (upd (upd H dx (.own x)) x (.ins C dx [])) x = some (.ins C dx []) :=
  ⟨Same.up (Same.up (Same.refl H) b) (by rw [upd_ne (Ne.symm c)]; exact a), upd_same⟩
/-- kinds(): six new instances -/
def KindAt (K : PySem.W.Frag) (H : Hp) (v : V) (i : Fin 6) : Prop := ∃ x dx, v = .ref x ∧ H x = some (.ins (kC K i) dx [])
def spKinds (K : PySem.W.Frag) : Sp := fun vs H Q _ => vs = [] ∧ ∀ (H' : Hp) (p : Addr) (xs : List V), ExtN H H' → H p = none → H' p = some (.lst xs) → xs.length = 6 → (∀ i : Fin 6, ∃ v, xs[i.1]? = some v ∧ KindAt K H' v i) → Q (.ref p) H'
theorem sc_kinds : FnScope [] [] (defScope s_kinds) := ⟨rfl, rfl, rfl, by decide +kernel, rfl, by decide +kernel, by decide +kernel⟩
theorem ok_kinds (T : Txt w K mg) : Dok P w K mg base CX0 1 (ga K "kinds") [] (spKinds K) := by
  obtain ⟨fd, F⟩ := T.d_kinds
  have sc := sc_kinds
  refine ⟨fd, F.ok sc (fun vs H Q E h => ?_) (fun cdv A outer s H vs Q E hr h => ?_), F.bindsN fun _ _ _ _ _ _ us hl => match us, hl with | [], _ => rfl, F.kp⟩
  · obtain ⟨rfl, _⟩ := h
    rfl
  refine ⟨_, PSs.nox (pss_one (ps_ret (pe_lst (pa_cons (pe_makeN (T.mk0 "Alike") rfl (T.g "Alike")) (pa_cons (pe_makeN (T.mk0 "Open") rfl (T.g "Open")) (pa_cons (pe_makeN (T.mk0 "Tails") rfl (T.g "Tails")) (pa_cons (pe_makeN (T.mk0 "Windows") rfl (T.g "Windows")) (pa_cons (pe_makeN (T.mk0 "Tree") rfl (T.g "Tree")) (pa_cons (pe_makeN (T.mk0 "Pairs") rfl (T.g "Pairs")) pa_nil))))))))), ?_⟩
  obtain ⟨rfl, hQ⟩ := h
  simp only [tSeq, tIfS, tOr, tAnd, tNot, tTest, tB, tOp, tCB, tCons, tNil, tVar, tC, tRet, tRetN, tNext, tDrop, tAsg, gName, gNil, gCons, gTup, gSub, tAug, tAugS, ipI, tCall, tMeth, tMake, tCmp, tAndV, tOrV, tNotV, tIf, tChain, tTup, tLst, tSl, tPart, tNoPart, tBM, tM0, tM1, tUn, rU, tFld, tCallS, tCKw, tMethF, tMethS, rEq, rNe, rI, rI0, rIxL, rIxT, rIxS, rSub, rSlL, C8.rSlX, rNewStrs, tMake0, cxK, cxNK, tLc_list, tLc_rng1, tFor_list, tFor_str, tFor_rng1, tYes, wipe, L2.start, List.map_cons, List.map_nil, List.length_cons, List.length_nil, List.replicate, List.cons_append, List.nil_append, List.append_nil, Nat.reduceAdd, Nat.reduceSub, List.getElem?_cons_zero, List.getElem?_cons_succ, List.set_cons_zero, List.set_cons_succ, Option.some.injEq, exists_eq_left', exists_eq_left, exists_eq', and_true, true_and, exists_eq_right, exists_const, V.int.injEq, V.str.injEq, V.bl.injEq, V.ref.injEq, List.cons.injEq, scal_ii, scal_ss, scal_bb, decide_eq_true_eq, Bool.not_eq_true', decide_eq_false_iff_not, if_true, if_false, Bool.false_eq_true, exists_and_left, S_len, sz_le]
  intro x0 d0 a0 b0 c0
  obtain ⟨e0, m0⟩ := made (C := ga K "Alike") a0 b0 c0
  generalize upd (upd H d0 (.own x0)) x0 (.ins (ga K "Alike") d0 []) = G0 at e0 m0 ⊢
  intro x1 d1 a1 b1 c1
  obtain ⟨e1, m1⟩ := made (C := ga K "Open") a1 b1 c1
  generalize upd (upd G0 d1 (.own x1)) x1 (.ins (ga K "Open") d1 []) = G1 at e1 m1 ⊢
  intro x2 d2 a2 b2 c2
  obtain ⟨e2, m2⟩ := made (C := ga K "Tails") a2 b2 c2
  generalize upd (upd G1 d2 (.own x2)) x2 (.ins (ga K "Tails") d2 []) = G2 at e2 m2 ⊢
  intro x3 d3 a3 b3 c3
  obtain ⟨e3, m3⟩ := made (C := ga K "Windows") a3 b3 c3
  generalize upd (upd G2 d3 (.own x3)) x3 (.ins (ga K "Windows") d3 []) = G3 at e3 m3 ⊢
  intro x4 d4 a4 b4 c4
  obtain ⟨e4, m4⟩ := made (C := ga K "Tree") a4 b4 c4
  generalize upd (upd G3 d4 (.own x4)) x4 (.ins (ga K "Tree") d4 []) = G4 at e4 m4 ⊢
  intro x5 d5 a5 b5 c5
  obtain ⟨e5, m5⟩ := made (C := ga K "Pairs") a5 b5 c5
  generalize upd (upd G4 d5 (.own x5)) x5 (.ins (ga K "Pairs") d5 []) = G5 at e5 m5 ⊢
  refine ⟨sz_le (by decide), fun p hp => ?_⟩
  have s5 := Same.up (Same.refl G5) (o := .lst [.ref x0, .ref x1, .ref x2, .ref x3, .ref x4, .ref x5]) hp
  have s4 := e5.trans s5
  have s3 := e4.trans s4
  have s2 := e3.trans s3
  have s1 := e2.trans s2
  have s0 := e1.trans s1
  refine hQ _ p _ (ExtN.of (e0.trans s0)) (((((((e0.trans e1).trans e2).trans e3).trans e4).trans e5)).free hp) upd_same rfl fun i => ?_
  match i with
  | 0 => exact ⟨_, rfl, x0, d0, rfl, s0 _ _ m0⟩
  | 1 => exact ⟨_, rfl, x1, d1, rfl, s1 _ _ m1⟩
  | 2 => exact ⟨_, rfl, x2, d2, rfl, s2 _ _ m2⟩
  | 3 => exact ⟨_, rfl, x3, d3, rfl, s3 _ _ m3⟩
  | 4 => exact ⟨_, rfl, x4, d4, rfl, s4 _ _ m4⟩
  | 5 => exact ⟨_, rfl, x5, d5, rfl, s5 _ _ m5⟩
theorem kindIx_at : ∀ j : Fin 6, kindIx (kindW j.1) = some j.1 := by decide
theorem kindIx_no {a : Tx} (h : ∀ j : Fin 6, a ≠ kindW j.1) : kindIx a = none := by
  have e : ∀ j : Fin 6, (a == kindW j.1) = false := fun j => by
    rw [beq_eq_false_iff_ne]
    exact h j
  unfold kindIx
  have e0 := e 0
  have e1 := e 1
  have e2 := e 2
  have e3 := e 3
  have e4 := e 4
  have e5 := e 5
  simp only [Fin.isValue, Fin.val_zero] at e0
  rw [e0, show (a == kindW 1) = false from e1, show (a == kindW 2) = false from e2, show (a == kindW 3) = false from e3, show (a == kindW 4) = false from e4, show (a == kindW 5) = false from e5] <;> rfl
/-- kind_of(word) -/
def spKindOf (K : PySem.W.Frag) : Sp := fun vs H Q E => ∃ a : Tx, vs = [.str (S a)] ∧ (∀ k : Fin 6, kindIx a = some k.1 → ∀ H' v, ExtN H H' → KindAt K H' v k → Q v H') ∧ (kindIx a = none → ∀ H', ExtN H H' → E (.ref (ga K "NoKind")) none H')
theorem sc_kind_of : FnScope ["word", "kind"] ["word"] (defScope s_kind_of) := ⟨rfl, rfl, rfl, by decide +kernel, rfl, by decide +kernel, by decide +kernel⟩
theorem ok_kind_of (T : Txt w K mg) : Dok P w K mg base (L2.CX P w) 2 (ga K "kind_of") ["word"] (spKindOf K) := by
  obtain ⟨fd, F⟩ := T.d_kind_of
  have sc := sc_kind_of
  have D_kinds := ok_kinds (P := P) (base := base) T
  refine ⟨fd, F.ok sc (fun vs H Q E h => ?_) (fun cdv A outer s H vs Q E hr h => ?_), F.bindsN fun _ _ _ _ _ _ us hl => match us, hl with | [_], _ => rfl, F.kp⟩
  · obtain ⟨a, rfl, _⟩ := h
    rfl
  refine ⟨_, (pss_cons (ps_for (passes_of rfl) rfl (pi_list (pe_f0 D_kinds hr (T.g "kinds"))) (pg_name (i := 1) sc.nd rfl (Or.inl rfl)) (pss_one (ps_if (pt_cmpR op_eq (pe_oF0 (fun i => ok_word T i) hr (kCls T) (kWord T) (pv 1) pass0) (pv 0) (nomark _)) (pss_one (ps_ret (pv 1))) pss_nil))) (pss_one (ps_raise rfl (takes_of rfl rfl rfl rfl) (pmk_own PySem.F.excBase_ValueError (T.x "NoKind").1 (T.g "NoKind") (T.x "NoKind").2.1 (raises_own (T.x "NoKind").2.2.1 (T.x "NoKind").2.2.2) rfl)))), ?_⟩
  obtain ⟨a, rfl, hQ, hE⟩ := h
  simp only [tSeq, tIfS, tOr, tAnd, tNot, tTest, tB, tOp, tCB, tCons, tNil, tVar, tC, tRet, tRetN, tNext, tDrop, tAsg, gName, gNil, gCons, gTup, gSub, tAug, tAugS, ipI, tCall, tMeth, tMake, tCmp, tAndV, tOrV, tNotV, tIf, tChain, tTup, tLst, tSl, tPart, tNoPart, tBM, tM0, tM1, tUn, rU, tFld, tCallS, tCKw, tMethF, tMethS, rEq, rNe, rI, rI0, rIxL, rIxT, rIxS, rSub, rSlL, C8.rSlX, rNewStrs, tMake0, cxK, cxNK, tLc_list, tLc_rng1, tFor_list, tFor_str, tFor_rng1, tYes, wipe, L2.start, List.map_cons, List.map_nil, List.length_cons, List.length_nil, List.replicate, List.cons_append, List.nil_append, List.append_nil, Nat.reduceAdd, Nat.reduceSub, List.getElem?_cons_zero, List.getElem?_cons_succ, List.set_cons_zero, List.set_cons_succ, Option.some.injEq, exists_eq_left', exists_eq_left, exists_eq', and_true, true_and, exists_eq_right, exists_const, V.int.injEq, V.str.injEq, V.bl.injEq, V.ref.injEq, List.cons.injEq, scal_ii, scal_ss, scal_bb, decide_eq_true_eq, Bool.not_eq_true', decide_eq_false_iff_not, if_true, if_false, Bool.false_eq_true, exists_and_left, S_len, sz_le]
  refine ⟨rfl, fun H' p xs e hp hl h6 hk => ⟨p, rfl, ⟨_, SqL.of hl⟩, ?_⟩⟩
  refine for_w (xs := xs) walk_list (fun i σ H1 => (∃ u, σ = [some (V.str (S a)), u]) ∧ H1 = H' ∧ ∀ j : Fin 6, j.1 < i → a ≠ kindW j.1) ⟨⟨_, rfl⟩, rfl, fun j hj => absurd hj (Nat.not_lt_zero _)⟩ (fun i σ H1 _ q => by rw [q.2.1]; exact SqL.of hl) (fun i x σ H1 hx q => ?_) (fun σ H1 q => ?_)
  · obtain ⟨⟨u, rfl⟩, rfl, hne⟩ := q
    have hi : i < 6 := by
      have := (List.getElem?_eq_some_iff.mp hx).1
      omega
    obtain ⟨v, hv, y, dx, rfl, hy⟩ := hk ⟨i, hi⟩
    have ex : x = .ref y := by
      have hv2 : xs[i]? = some (V.ref y) := hv
      rw [hx] at hv2
      exact Option.some.inj hv2
    subst ex
    simp only [tSeq, tIfS, tOr, tAnd, tNot, tTest, tB, tOp, tCB, tCons, tNil, tVar, tC, tRet, tRetN, tNext, tDrop, tAsg, gName, gNil, gCons, gTup, gSub, tAug, tAugS, ipI, tCall, tMeth, tMake, tCmp, tAndV, tOrV, tNotV, tIf, tChain, tTup, tLst, tSl, tPart, tNoPart, tBM, tM0, tM1, tUn, rU, tFld, tCallS, tCKw, tMethF, tMethS, rEq, rNe, rI, rI0, rIxL, rIxT, rIxS, rSub, rSlL, C8.rSlX, rNewStrs, tMake0, cxK, cxNK, tLc_list, tLc_rng1, tFor_list, tFor_str, tFor_rng1, tYes, wipe, L2.start, List.map_cons, List.map_nil, List.length_cons, List.length_nil, List.replicate, List.cons_append, List.nil_append, List.append_nil, Nat.reduceAdd, Nat.reduceSub, List.getElem?_cons_zero, List.getElem?_cons_succ, List.set_cons_zero, List.set_cons_succ, Option.some.injEq, exists_eq_left', exists_eq_left, exists_eq', and_true, true_and, exists_eq_right, exists_const, V.int.injEq, V.str.injEq, V.bl.injEq, V.ref.injEq, List.cons.injEq, scal_ii, scal_ss, scal_bb, decide_eq_true_eq, Bool.not_eq_true', decide_eq_false_iff_not, if_true, if_false, Bool.false_eq_true, exists_and_left, S_len, sz_le]
    refine ⟨dx, [], ⟨i, hi⟩, hy, rfl, _, rfl, ?_⟩
    refine ⟨scal_ss _ _, ite2 (fun z => ?_) fun z => ?_⟩
    · have ea : a = kindW i := (S_inj (V.str.inj z)).symm
      exact hQ ⟨i, hi⟩ (by rw [ea]; exact kindIx_at ⟨i, hi⟩) _ _ e ⟨y, dx, rfl, hy⟩
    · refine ⟨rfl, fun j hj ej => ?_⟩
      by_cases hji : j.1 < i
      · exact hne j hji ej
      · have : j.1 = i := by omega
        exact z (by rw [ej, this])
  · obtain ⟨⟨u, rfl⟩, rfl, hne⟩ := q
    exact hE (kindIx_no fun j => hne j (by rw [h6]; exact j.2)) _ e

/-- is_count(rows, least, most) -/
def isCount (rs : Rows) (lo hi : Int) : Bool := match rs with
  | [z] :: _ => decide (lo ≤ z) && decide (z ≤ hi)
  | _ => false
def spIsCount (K : PySem.W.Frag) : Sp := fun vs H Q _ => ∃ (p : Addr) (rs : Rows) (lo hi : Int), vs = [.ref p, .int lo, .int hi] ∧ RowsAt H p rs ∧ Q (.bl (isCount rs lo hi)) H
theorem sc_is_count : FnScope ["rows", "least", "most"] ["rows", "least", "most"] (defScope s_is_count) := ⟨rfl, rfl, rfl, by decide +kernel, rfl, by decide +kernel, by decide +kernel⟩
theorem ok_is_count (T : Txt w K mg) : Dok P w K mg base CX0 1 (ga K "is_count") ["rows", "least", "most"] (spIsCount K) := by
  obtain ⟨fd, F⟩ := T.d_is_count
  have sc := sc_is_count
  refine ⟨fd, F.ok sc (fun vs H Q E h => ?_) (fun cdv A outer s H vs Q E hr h => ?_), F.bindsN fun _ _ _ _ _ _ us hl => match us, hl with | [_, _, _], _ => rfl, F.kp⟩
  · obtain ⟨p, rs, lo, hi, rfl, _⟩ := h
    rfl
  refine ⟨_, PSs.nox (pss_one (ps_ret (pe_and (pe_cmpR op_gt (pe_callB call_len_seq rfl (T.n "len") PySem.boot_len (pa_cons (pv 0) pa_nil)) pe_int (nomark _)) (pe_and (pe_cmpR op_eq (pe_callB call_len_seq rfl (T.n "len") PySem.boot_len (pa_cons (pe_ix ix_list (pv 0) pe_int (fun _ _ => rfl)) pa_nil)) pe_int (nomark _)) (pe_and (pe_cmpR op_le (pv 1) (pe_ix ix_list (pe_ix ix_list (pv 0) pe_int (fun _ _ => rfl)) pe_int (fun _ _ => rfl)) (nomark _)) (pe_one (pe_cmpR op_le (pe_ix ix_list (pe_ix ix_list (pv 0) pe_int (fun _ _ => rfl)) pe_int (fun _ _ => rfl)) (pv 2) (nomark _)))))))), ?_⟩
  obtain ⟨p, rs, lo, hi, rfl, ⟨rows, hp, hok, rfl⟩, hQ⟩ := h
  simp only [tSeq, tIfS, tOr, tAnd, tNot, tTest, tB, tOp, tCB, tCons, tNil, tVar, tC, tRet, tRetN, tNext, tDrop, tAsg, gName, gNil, gCons, gTup, gSub, tAug, tAugS, ipI, tCall, tMeth, tMake, tCmp, tAndV, tOrV, tNotV, tIf, tChain, tTup, tLst, tSl, tPart, tNoPart, tBM, tM0, tM1, tUn, rU, tFld, tCallS, tCKw, tMethF, tMethS, rEq, rNe, rI, rI0, rIxL, rIxT, rIxS, rSub, rSlL, C8.rSlX, rNewStrs, tMake0, cxK, cxNK, tLc_list, tLc_rng1, tFor_list, tFor_str, tFor_rng1, tYes, wipe, L2.start, List.map_cons, List.map_nil, List.length_cons, List.length_nil, List.replicate, List.cons_append, List.nil_append, List.append_nil, Nat.reduceAdd, Nat.reduceSub, List.getElem?_cons_zero, List.getElem?_cons_succ, List.set_cons_zero, List.set_cons_succ, Option.some.injEq, exists_eq_left', exists_eq_left, exists_eq', and_true, true_and, exists_eq_right, exists_const, V.int.injEq, V.str.injEq, V.bl.injEq, V.ref.injEq, List.cons.injEq, scal_ii, scal_ss, scal_bb, decide_eq_true_eq, Bool.not_eq_true', decide_eq_false_iff_not, if_true, if_false, Bool.false_eq_true, exists_and_left, S_len, sz_le]
  cases rows with
  | nil => exact ⟨_, .inl (SqL.of hp), ite2 (fun e => absurd e (by decide)) fun _ => hQ⟩
  | cons r rows =>
    obtain ⟨q, zs⟩ := r
    have hq : H q = some (.lst (zs.map V.int)) := hok (q, zs) (List.mem_cons_self ..)
    refine ⟨_, .inl (SqL.of hp), ite2 (fun _ => ?_) fun e => absurd (by show (0 : Int) < ((rowRefs ((q, zs) :: rows)).length : Int); unfold rowRefs; rw [List.length_map, List.length_cons]; omega) e⟩
    refine ⟨_, SqL.of hp, _, atI_nat (j := 0) rfl, q, rfl, _, .inl (SqL.of hq), ?_⟩
    cases zs with
    | nil => exact ite2 (fun e => absurd e (by decide)) fun _ => hQ
    | cons z zs =>
      cases zs with
      | cons z2 zs => exact ite2 (fun e => absurd e (by rw [List.length_map, List.length_cons, List.length_cons]; omega)) fun _ => hQ
      | nil =>
        refine ite2 (fun _ => ?_) fun e => absurd rfl e
        refine ⟨_, SqL.of hp, _, atI_nat (j := 0) rfl, q, rfl, _, SqL.of hq, _, atI_nat (j := 0) rfl, z, rfl, ?_⟩
        have hQ2 : Q (.bl (decide (lo ≤ z) && decide (z ≤ hi))) H := hQ
        exact ite2 (fun h1 => ⟨_, SqL.of hp, _, atI_nat (j := 0) rfl, q, rfl, _, SqL.of hq, _, atI_nat (j := 0) rfl, z, rfl, by rw [decide_eq_true h1, Bool.true_and] at hQ2; exact hQ2⟩) fun h1 => by rw [decide_eq_false h1, Bool.false_and] at hQ2; exact hQ2
end
end Lf
set_option Elab.async false
set_option linter.all false
set_option maxRecDepth 100000
set_option maxHeartbeats 4000000
/-! floors.py: fits, where it is asked. -/
namespace Lf
open PySem PySem.Spec PyProof.Rows L2 LfR LamX LfM SX
section
variable {P : Program} {w : World} {K : PySem.W.Frag} {mg : Str → Option Value} {base : Heap}
theorem un64 {k : Nat} {A : Around} (hr : Room k A) : A.units + 64 < cLine := by
  have := hr.un
  omega
theorem rows1 {H : Hp} {p : Addr} {r : List Int} (h : RowsAt H p [r]) : ∃ q, H p = some (.lst [.ref q]) ∧ H q = some (.lst (r.map V.int)) := by
  obtain ⟨rows, h1, h2, h3⟩ := h
  match rows, h3 with
  | [(q, z)], h3 =>
    simp only [List.map_cons, List.map_nil, List.cons.injEq, and_true] at h3
    subst h3
    exact ⟨q, h1, h2 (q, _) (List.mem_cons_self ..)⟩
theorem rows2 {H : Hp} {p : Addr} {r1 r2 : List Int} (h : RowsAt H p [r1, r2]) : ∃ q1 q2, H p = some (.lst [.ref q1, .ref q2]) ∧ H q1 = some (.lst (r1.map V.int)) ∧ H q2 = some (.lst (r2.map V.int)) := by
  obtain ⟨rows, h1, h2, h3⟩ := h
  match rows, h3 with
  | [(q, z), (q2, z2)], h3 =>
    simp only [List.map_cons, List.map_nil, List.cons.injEq, and_true] at h3
    obtain ⟨rfl, rfl⟩ := h3
    exact ⟨q, q2, h1, h2 (q, _) (List.mem_cons_self ..), h2 (q2, _) (List.mem_cons_of_mem _ (List.mem_cons_self ..))⟩
theorem rows3 {H : Hp} {p : Addr} {r1 r2 r3 : List Int} (h : RowsAt H p [r1, r2, r3]) : ∃ q1 q2 q3, H p = some (.lst [.ref q1, .ref q2, .ref q3]) := by
  obtain ⟨rows, h1, h2, h3⟩ := h
  match rows, h3 with
  | [(q, z), (q2, z2), (q3, z3)], h3 => exact ⟨q, q2, q3, h1⟩
def spFits (i : Fin 6) : Sp := fun vs H Q _ => ∃ (v : V) (p : Addr) (rs : Rows) (b : Bool), vs = [v, .ref p] ∧ RowsAt H p rs ∧ fitsM i.1 rs = some b ∧ ∀ H', ExtN H H' → Q (.bl b) H'
theorem sc_Alike_fits : FnScope ["self", "rows"] ["self", "rows"] (defScope s_Alike_fits) := ⟨rfl, rfl, rfl, by decide +kernel, rfl, by decide +kernel, by decide +kernel⟩
theorem ok_Alike_fits (T : Txt w K mg) : Dok P w K mg base CX0 2 (ma K "Alike" "fits") ["self", "rows"] (spFits 0) := by
  obtain ⟨fd, F⟩ := T.d_Alike_fits
  have sc := sc_Alike_fits
  have D_is_count := ok_is_count (P := P) (base := base) T
  refine ⟨fd, F.ok sc (fun vs H Q E h => ?_) (fun cdv A outer s H vs Q E hr h => ?_), F.bindsN fun _ _ _ _ _ _ us hl => match us, hl with | [_, _], _ => rfl, F.kp⟩
  · obtain ⟨v, p, rs, b, rfl, _⟩ := h
    rfl
  refine ⟨_, PSs.nox (pss_one (ps_ret (pe_and (pe_f D_is_count hr (T.g "is_count") (pa_cons (pv 1) (pa_cons pe_int (pa_cons pe_int pa_nil)))) (pe_and (pe_no) (pe_and (pe_no) (pe_one (pe_no))))))), ?_⟩
  obtain ⟨v, p, rs, b, rfl, hp, hf, hQ⟩ := h
  obtain ⟨rfl, rfl⟩ : rs = [[0], [1]] ∧ b = false := by
    unfold fitsM at hf
    simpa using hf
  simp only [tSeq, tIfS, tOr, tAnd, tNot, tTest, tB, tOp, tCB, tCons, tNil, tVar, tC, tRet, tRetN, tNext, tDrop, tAsg, gName, gNil, gCons, gTup, gSub, tAug, tAugS, ipI, tCall, tMeth, tMake, tCmp, tAndV, tOrV, tNotV, tIf, tChain, tTup, tLst, tSl, tPart, tNoPart, tBM, tM0, tM1, tUn, rU, tFld, tCallS, tCKw, tMethF, tMethS, rEq, rNe, rI, rI0, rIxL, rIxT, rIxS, rSub, rSlL, C8.rSlX, rNewStrs, tMake0, cxK, cxNK, tLc_list, tLc_rng1, tFor_list, tFor_str, tFor_rng1, tYes, wipe, L2.start, List.map_cons, List.map_nil, List.length_cons, List.length_nil, List.replicate, List.cons_append, List.nil_append, List.append_nil, Nat.reduceAdd, Nat.reduceSub, List.getElem?_cons_zero, List.getElem?_cons_succ, List.set_cons_zero, List.set_cons_succ, Option.some.injEq, exists_eq_left', exists_eq_left, exists_eq', and_true, true_and, exists_eq_right, exists_const, V.int.injEq, V.str.injEq, V.bl.injEq, V.ref.injEq, List.cons.injEq, scal_ii, scal_ss, scal_bb, decide_eq_true_eq, Bool.not_eq_true', decide_eq_false_iff_not, if_true, if_false, Bool.false_eq_true, exists_and_left, S_len, sz_le]
  exact ⟨p, _, 1, 20, rfl, hp, _, rfl, hQ _ (ExtN.refl _)⟩
theorem sc_Open_fits : FnScope ["self", "rows", "row"] ["self", "rows"] (defScope s_Open_fits) := ⟨rfl, rfl, rfl, by decide +kernel, rfl, by decide +kernel, by decide +kernel⟩
theorem ok_Open_fits (T : Txt w K mg) : Dok P w K mg base CX0 1 (ma K "Open" "fits") ["self", "rows"] (spFits 1) := by
  obtain ⟨fd, F⟩ := T.d_Open_fits
  have sc := sc_Open_fits
  refine ⟨fd, F.ok sc (fun vs H Q E h => ?_) (fun cdv A outer s H vs Q E hr h => ?_), F.bindsN fun _ _ _ _ _ _ us hl => match us, hl with | [_, _], _ => rfl, F.kp⟩
  · obtain ⟨v, p, rs, b, rfl, _⟩ := h
    rfl
  refine ⟨_, PSs.nox (pss_cons (ps_for PassesOwn.never rfl (pi_list (pv 1)) (pg_name (i := 2) sc.nd rfl (Or.inl rfl)) (pss_one (ps_if (PW.pt (pw_or (pt_cmpR op_ne (pe_callB call_len_seq rfl (T.n "len") PySem.boot_len (pa_cons (pv 2) pa_nil)) (pe_callB call_len_seq rfl (T.n "len") PySem.boot_len (pa_cons (pe_ix ix_list (pv 1) pe_int (fun _ _ => rfl)) pa_nil)) (nomark _)) (pw_or (pt_cmpR op_gt (pe_callB call_len_seq rfl (T.n "len") PySem.boot_len (pa_cons (pv 2) pa_nil)) pe_int (nomark _)) (pw_or1 (pt_cmpR op_lt (pe_callBK (cr_minDef rfl (un64 hr)) rfl (T.n "min") (by decide +kernel) (pa_cons (pv 2) pa_nil) (pk_cons pe_int pk_nil)) pe_int (nomark _)))))) (pss_one (ps_ret pe_bl)) pss_nil))) pss_never), ?_⟩
  obtain ⟨v, p, rs, b, rfl, hp, hf, hQ⟩ := h
  obtain ⟨rfl, rfl⟩ : rs = [[1], [1, 2]] ∧ b = false := by
    unfold fitsM at hf
    simpa using hf
  obtain ⟨q1, q2, h1, h2, h3⟩ := rows2 hp
  simp only [tSeq, tIfS, tOr, tAnd, tNot, tTest, tB, tOp, tCB, tCons, tNil, tVar, tC, tRet, tRetN, tNext, tDrop, tAsg, gName, gNil, gCons, gTup, gSub, tAug, tAugS, ipI, tCall, tMeth, tMake, tCmp, tAndV, tOrV, tNotV, tIf, tChain, tTup, tLst, tSl, tPart, tNoPart, tBM, tM0, tM1, tUn, rU, tFld, tCallS, tCKw, tMethF, tMethS, rEq, rNe, rI, rI0, rIxL, rIxT, rIxS, rSub, rSlL, C8.rSlX, rNewStrs, tMake0, cxK, cxNK, tLc_list, tLc_rng1, tFor_list, tFor_str, tFor_rng1, tYes, wipe, L2.start, List.map_cons, List.map_nil, List.length_cons, List.length_nil, List.replicate, List.cons_append, List.nil_append, List.append_nil, Nat.reduceAdd, Nat.reduceSub, List.getElem?_cons_zero, List.getElem?_cons_succ, List.set_cons_zero, List.set_cons_succ, Option.some.injEq, exists_eq_left', exists_eq_left, exists_eq', and_true, true_and, exists_eq_right, exists_const, V.int.injEq, V.str.injEq, V.bl.injEq, V.ref.injEq, List.cons.injEq, scal_ii, scal_ss, scal_bb, decide_eq_true_eq, Bool.not_eq_true', decide_eq_false_iff_not, if_true, if_false, Bool.false_eq_true, exists_and_left, S_len, sz_le]
  refine ⟨⟨_, SqL.of h1⟩, for_w (xs := [.ref q1, .ref q2]) walk_list (fun i σ H' => H' = H ∧ i ≤ 1 ∧ ∃ u, σ = [some v, some (V.ref p), u]) ⟨rfl, by omega, _, rfl⟩ (fun i σ H' _ q => by rw [q.1]; exact SqL.of h1) (fun i x σ H' hx q => ?_) (fun σ H' q => absurd (show 2 ≤ 1 from q.2.1) (by decide))⟩
  obtain ⟨rfl, hi, u, rfl⟩ := q
  match i, hi, hx with
  | 0, _, hx =>
    obtain rfl : V.ref q1 = x := Option.some.inj hx
    simp only [tSeq, tIfS, tOr, tAnd, tNot, tTest, tB, tOp, tCB, tCons, tNil, tVar, tC, tRet, tRetN, tNext, tDrop, tAsg, gName, gNil, gCons, gTup, gSub, tAug, tAugS, ipI, tCall, tMeth, tMake, tCmp, tAndV, tOrV, tNotV, tIf, tChain, tTup, tLst, tSl, tPart, tNoPart, tBM, tM0, tM1, tUn, rU, tFld, tCallS, tCKw, tMethF, tMethS, rEq, rNe, rI, rI0, rIxL, rIxT, rIxS, rSub, rSlL, C8.rSlX, rNewStrs, tMake0, cxK, cxNK, tLc_list, tLc_rng1, tFor_list, tFor_str, tFor_rng1, tYes, wipe, L2.start, List.map_cons, List.map_nil, List.length_cons, List.length_nil, List.replicate, List.cons_append, List.nil_append, List.append_nil, Nat.reduceAdd, Nat.reduceSub, List.getElem?_cons_zero, List.getElem?_cons_succ, List.set_cons_zero, List.set_cons_succ, Option.some.injEq, exists_eq_left', exists_eq_left, exists_eq', and_true, true_and, exists_eq_right, exists_const, V.int.injEq, V.str.injEq, V.bl.injEq, V.ref.injEq, List.cons.injEq, scal_ii, scal_ss, scal_bb, decide_eq_true_eq, Bool.not_eq_true', decide_eq_false_iff_not, if_true, if_false, Bool.false_eq_true, exists_and_left, S_len, sz_le]
    refine ⟨_, .inl (SqL.of h2), _, SqL.of h1, _, atI_nat (j := 0) rfl, q1, rfl, _, .inl (SqL.of h2), ?_⟩
    exact ite2 (fun e => absurd rfl e) fun _ => ⟨_, .inl (SqL.of h2), ite2 (fun e => absurd e (by decide)) fun _ => ⟨q1, [1], 0, rfl, rfl, SqL.of h2, fun m hm => ⟨m, rfl, ite2 (fun e => by
      rcases hm with ⟨z, _⟩ | hm
      · cases z
      · rw [List.mem_singleton.mp hm] at e
        exact absurd e (by decide)) fun _ => ⟨rfl, by omega⟩⟩⟩⟩
  | 1, _, hx =>
    obtain rfl : V.ref q2 = x := Option.some.inj hx
    simp only [tSeq, tIfS, tOr, tAnd, tNot, tTest, tB, tOp, tCB, tCons, tNil, tVar, tC, tRet, tRetN, tNext, tDrop, tAsg, gName, gNil, gCons, gTup, gSub, tAug, tAugS, ipI, tCall, tMeth, tMake, tCmp, tAndV, tOrV, tNotV, tIf, tChain, tTup, tLst, tSl, tPart, tNoPart, tBM, tM0, tM1, tUn, rU, tFld, tCallS, tCKw, tMethF, tMethS, rEq, rNe, rI, rI0, rIxL, rIxT, rIxS, rSub, rSlL, C8.rSlX, rNewStrs, tMake0, cxK, cxNK, tLc_list, tLc_rng1, tFor_list, tFor_str, tFor_rng1, tYes, wipe, L2.start, List.map_cons, List.map_nil, List.length_cons, List.length_nil, List.replicate, List.cons_append, List.nil_append, List.append_nil, Nat.reduceAdd, Nat.reduceSub, List.getElem?_cons_zero, List.getElem?_cons_succ, List.set_cons_zero, List.set_cons_succ, Option.some.injEq, exists_eq_left', exists_eq_left, exists_eq', and_true, true_and, exists_eq_right, exists_const, V.int.injEq, V.str.injEq, V.bl.injEq, V.ref.injEq, List.cons.injEq, scal_ii, scal_ss, scal_bb, decide_eq_true_eq, Bool.not_eq_true', decide_eq_false_iff_not, if_true, if_false, Bool.false_eq_true, exists_and_left, S_len, sz_le]
    refine ⟨_, .inl (SqL.of h3), _, SqL.of h1, _, atI_nat (j := 0) rfl, q1, rfl, _, .inl (SqL.of h2), ?_⟩
    exact ite2 (fun _ => hQ _ (ExtN.refl _)) fun e => absurd (show ¬ ((List.map V.int [1, 2]).length : Int) = ((List.map V.int [1]).length : Int) by decide) e
theorem sc_Windows_fits : FnScope ["self", "rows", "row"] ["self", "rows"] (defScope s_Windows_fits) := ⟨rfl, rfl, rfl, by decide +kernel, rfl, by decide +kernel, by decide +kernel⟩
theorem ok_Windows_fits (T : Txt w K mg) : Dok P w K mg base CX0 2 (ma K "Windows" "fits") ["self", "rows"] (spFits 3) := by
  obtain ⟨fd, F⟩ := T.d_Windows_fits
  have sc := sc_Windows_fits
  have D_is_count := ok_is_count (P := P) (base := base) T
  refine ⟨fd, F.ok sc (fun vs H Q E h => ?_) (fun cdv A outer s H vs Q E hr h => ?_), F.bindsN fun _ _ _ _ _ _ us hl => match us, hl with | [_, _], _ => rfl, F.kp⟩
  · obtain ⟨v, p, rs, b, rfl, _⟩ := h
    rfl
  refine ⟨_, PSs.nox (pss_cons (ps_for PassesOwn.never rfl (pi_list (pe_slice sl_list (pv 1) (po_some pe_int) po_none)) (pg_name (i := 2) sc.nd rfl (Or.inl rfl)) (pss_one (ps_never))) (pss_one (ps_ret (pe_and (pe_f D_is_count hr (T.g "is_count") (pa_cons (pv 1) (pa_cons pe_int (pa_cons pe_int pa_nil)))) (pe_one (pe_no)))))), ?_⟩
  obtain ⟨v, p, rs, b, rfl, hp, hf, hQ⟩ := h
  obtain ⟨rfl, rfl⟩ : rs = [] ∧ b = false := by
    replace hf : fitsM 3 rs = some b := hf
    unfold fitsM at hf
    simpa using hf
  obtain ⟨rows, h1, h2, h3⟩ := hp
  obtain rfl : rows = [] := List.map_eq_nil_iff.mp h3
  simp only [tSeq, tIfS, tOr, tAnd, tNot, tTest, tB, tOp, tCB, tCons, tNil, tVar, tC, tRet, tRetN, tNext, tDrop, tAsg, gName, gNil, gCons, gTup, gSub, tAug, tAugS, ipI, tCall, tMeth, tMake, tCmp, tAndV, tOrV, tNotV, tIf, tChain, tTup, tLst, tSl, tPart, tNoPart, tBM, tM0, tM1, tUn, rU, tFld, tCallS, tCKw, tMethF, tMethS, rEq, rNe, rI, rI0, rIxL, rIxT, rIxS, rSub, rSlL, C8.rSlX, rNewStrs, tMake0, cxK, cxNK, tLc_list, tLc_rng1, tFor_list, tFor_str, tFor_rng1, tYes, wipe, L2.start, List.map_cons, List.map_nil, List.length_cons, List.length_nil, List.replicate, List.cons_append, List.nil_append, List.append_nil, Nat.reduceAdd, Nat.reduceSub, List.getElem?_cons_zero, List.getElem?_cons_succ, List.set_cons_zero, List.set_cons_succ, Option.some.injEq, exists_eq_left', exists_eq_left, exists_eq', and_true, true_and, exists_eq_right, exists_const, V.int.injEq, V.str.injEq, V.bl.injEq, V.ref.injEq, List.cons.injEq, scal_ii, scal_ss, scal_bb, decide_eq_true_eq, Bool.not_eq_true', decide_eq_false_iff_not, if_true, if_false, Bool.false_eq_true, exists_and_left, S_len, sz_le]
  refine ⟨_, SqL.of h1, fun p1 hp1 => ?_⟩
  have ec : cutV (rowRefs []) (some 1) none = [] := rfl
  rw [ec]
  refine ⟨⟨_, SqL.of upd_same⟩, for_w (xs := []) walk_list (fun i σ H' => H' = upd H p1 (.lst []) ∧ σ = [some v, some (V.ref p), none]) ⟨rfl, rfl⟩ (fun i σ H' _ q => by rw [q.1]; exact SqL.of upd_same) (fun i x σ H' hx q => by simp at hx) (fun σ H' q => ?_)⟩
  obtain ⟨rfl, rfl⟩ := q
  simp only [tSeq, tIfS, tOr, tAnd, tNot, tTest, tB, tOp, tCB, tCons, tNil, tVar, tC, tRet, tRetN, tNext, tDrop, tAsg, gName, gNil, gCons, gTup, gSub, tAug, tAugS, ipI, tCall, tMeth, tMake, tCmp, tAndV, tOrV, tNotV, tIf, tChain, tTup, tLst, tSl, tPart, tNoPart, tBM, tM0, tM1, tUn, rU, tFld, tCallS, tCKw, tMethF, tMethS, rEq, rNe, rI, rI0, rIxL, rIxT, rIxS, rSub, rSlL, C8.rSlX, rNewStrs, tMake0, cxK, cxNK, tLc_list, tLc_rng1, tFor_list, tFor_str, tFor_rng1, tYes, wipe, L2.start, List.map_cons, List.map_nil, List.length_cons, List.length_nil, List.replicate, List.cons_append, List.nil_append, List.append_nil, Nat.reduceAdd, Nat.reduceSub, List.getElem?_cons_zero, List.getElem?_cons_succ, List.set_cons_zero, List.set_cons_succ, Option.some.injEq, exists_eq_left', exists_eq_left, exists_eq', and_true, true_and, exists_eq_right, exists_const, V.int.injEq, V.str.injEq, V.bl.injEq, V.ref.injEq, List.cons.injEq, scal_ii, scal_ss, scal_bb, decide_eq_true_eq, Bool.not_eq_true', decide_eq_false_iff_not, if_true, if_false, Bool.false_eq_true, exists_and_left, S_len, sz_le]
  exact ⟨p, [], 1, 8, rfl, RowsAt.ext ⟨[], h1, h2, rfl⟩ (Lf.extN_upd hp1), _, rfl, hQ _ (Lf.extN_upd hp1)⟩
theorem sc_Tails_fits : FnScope ["self", "rows", "row"] ["self", "rows"] (defScope s_Tails_fits) := ⟨rfl, rfl, rfl, by decide +kernel, rfl, by decide +kernel, by decide +kernel⟩
theorem ok_Tails_fits (T : Txt w K mg) : Dok P w K mg base CX0 1 (ma K "Tails" "fits") ["self", "rows"] (spFits 2) := by
  obtain ⟨fd, F⟩ := T.d_Tails_fits
  have sc := sc_Tails_fits
  refine ⟨fd, F.ok sc (fun vs H Q E h => ?_) (fun cdv A outer s H vs Q E hr h => ?_), F.bindsN fun _ _ _ _ _ _ us hl => match us, hl with | [_, _], _ => rfl, F.kp⟩
  · obtain ⟨v, p, rs, b, rfl, _⟩ := h
    rfl
  refine ⟨_, PSs.nox (pss_cons (ps_for PassesOwn.never rfl (pi_list (pv 1)) (pg_name (i := 2) sc.nd rfl (Or.inl rfl)) (pss_one (ps_if (PW.pt (pw_or (pt_cmpR op_ne (pe_callB call_len_seq rfl (T.n "len") PySem.boot_len (pa_cons (pv 2) pa_nil)) pe_int (nomark _)) (pw_or (pt_cmpR op_lt (pe_callB (cr_min rfl) rfl (T.n "min") (by decide +kernel) (pa_cons (pv 2) pa_nil)) pe_int (nomark _)) (pw_or1 (pt_cmpR op_lt (pe_ix ix_list (pv 2) pe_int (fun _ _ => rfl)) pe_int (nomark _)))))) (pss_one (ps_ret pe_bl)) pss_nil))) (pss_one (ps_ret (pe_cmpR op_le (pe_callB call_len_seq rfl (T.n "len") PySem.boot_len (pa_cons (pv 1) pa_nil)) pe_int (nomark _))))), ?_⟩
  obtain ⟨v, p, rs, b, rfl, hp, hf, hQ⟩ := h
  have hb : tailsOk rs = b := by
    unfold fitsM at hf
    simpa using hf
  subst hb
  obtain ⟨rows, hp, hok, rfl⟩ := hp
  have hS : SqL K H p (rowRefs rows) := SqL.of hp
  have hrl : (rowRefs rows).length = rows.length := List.length_map _
  simp only [tSeq, tIfS, tOr, tAnd, tNot, tTest, tB, tOp, tCB, tCons, tNil, tVar, tC, tRet, tRetN, tNext, tDrop, tAsg, gName, gNil, gCons, gTup, gSub, tAug, tAugS, ipI, tCall, tMeth, tMake, tCmp, tAndV, tOrV, tNotV, tIf, tChain, tTup, tLst, tSl, tPart, tNoPart, tBM, tM0, tM1, tUn, rU, tFld, tCallS, tCKw, tMethF, tMethS, rEq, rNe, rI, rI0, rIxL, rIxT, rIxS, rSub, rSlL, C8.rSlX, rNewStrs, tMake0, cxK, cxNK, tLc_list, tLc_rng1, tFor_list, tFor_str, tFor_rng1, tYes, wipe, L2.start, List.map_cons, List.map_nil, List.length_cons, List.length_nil, List.replicate, List.cons_append, List.nil_append, List.append_nil, Nat.reduceAdd, Nat.reduceSub, List.getElem?_cons_zero, List.getElem?_cons_succ, List.set_cons_zero, List.set_cons_succ, Option.some.injEq, exists_eq_left', exists_eq_left, exists_eq', and_true, true_and, exists_eq_right, exists_const, V.int.injEq, V.str.injEq, V.bl.injEq, V.ref.injEq, List.cons.injEq, scal_ii, scal_ss, scal_bb, decide_eq_true_eq, Bool.not_eq_true', decide_eq_false_iff_not, if_true, if_false, Bool.false_eq_true, exists_and_left, S_len, sz_le]
  refine ⟨⟨_, hS⟩, for_w (xs := rowRefs rows) walk_list (fun i σ H' => H' = H ∧ (∃ u, σ = [some v, some (V.ref p), u]) ∧ ((rows.map (·.2)).take i).all tailRow = true) ⟨rfl, ⟨_, rfl⟩, by simp⟩ (fun i σ H' _ q => by rw [q.1]; exact hS) (fun i x σ H' hx q => ?_) (fun σ H' q => ?_)⟩
  · obtain ⟨rfl, ⟨u, rfl⟩, hall⟩ := q
    unfold rowRefs at hx
    rw [List.getElem?_map] at hx
    obtain ⟨r, hr, rfl⟩ := Option.map_eq_some_iff.mp hx
    have hq := hok r (List.mem_of_getElem? hr)
    have hmem : r.2 ∈ rows.map (·.2) := List.mem_map_of_mem (List.mem_of_getElem? hr)
    have bad : tailRow r.2 = false → Q (.bl false) H' := fun z => by
      have : tailsOk (rows.map (·.2)) = false := by
        unfold tailsOk
        rw [List.all_eq_false.mpr ⟨r.2, hmem, by rw [z]; simp⟩, Bool.false_and]
      rw [this] at hQ
      exact hQ _ (ExtN.refl _)
    have good : tailRow r.2 = true → ((rows.map (·.2)).take (i + 1)).all tailRow = true := fun z => by
      rw [List.take_add_one, List.getElem?_map, hr]
      simp only [Option.map_some, Option.toList_some, List.all_append, hall, List.all_cons, List.all_nil, z, Bool.and_true]
    simp only [tSeq, tIfS, tOr, tAnd, tNot, tTest, tB, tOp, tCB, tCons, tNil, tVar, tC, tRet, tRetN, tNext, tDrop, tAsg, gName, gNil, gCons, gTup, gSub, tAug, tAugS, ipI, tCall, tMeth, tMake, tCmp, tAndV, tOrV, tNotV, tIf, tChain, tTup, tLst, tSl, tPart, tNoPart, tBM, tM0, tM1, tUn, rU, tFld, tCallS, tCKw, tMethF, tMethS, rEq, rNe, rI, rI0, rIxL, rIxT, rIxS, rSub, rSlL, C8.rSlX, rNewStrs, tMake0, cxK, cxNK, tLc_list, tLc_rng1, tFor_list, tFor_str, tFor_rng1, tYes, wipe, L2.start, List.map_cons, List.map_nil, List.length_cons, List.length_nil, List.replicate, List.cons_append, List.nil_append, List.append_nil, Nat.reduceAdd, Nat.reduceSub, List.getElem?_cons_zero, List.getElem?_cons_succ, List.set_cons_zero, List.set_cons_succ, Option.some.injEq, exists_eq_left', exists_eq_left, exists_eq', and_true, true_and, exists_eq_right, exists_const, V.int.injEq, V.str.injEq, V.bl.injEq, V.ref.injEq, List.cons.injEq, scal_ii, scal_ss, scal_bb, decide_eq_true_eq, Bool.not_eq_true', decide_eq_false_iff_not, if_true, if_false, Bool.false_eq_true, exists_and_left, S_len, sz_le]
    refine ⟨_, .inl (SqL.of hq), ite2 (fun e => bad ?_) fun e => ?_⟩
    · unfold tailRow
      rw [show (r.2.length == 3) = false by
        rw [beq_eq_false_iff_ne]
        intro z
        rw [List.length_map] at e
        exact e (by rw [z] <;> rfl)] <;> rfl
    · have hl3 : r.2.length = 3 := by
        rw [List.length_map] at e
        have := Classical.byContradiction e
        omega
      refine ⟨r.1, r.2, rfl, SqL.of hq, by omega, fun m hm hle => ⟨m, rfl, ite2 (fun e2 => bad ?_) fun e2 => ?_⟩⟩
      · unfold tailRow
        rw [List.all_eq_false.mpr ⟨m, hm, by rw [decide_eq_false (by omega)]; simp⟩, Bool.false_and, Bool.and_false]
      · have e1 : r.2[1]? = some (r.2.getD 1 0) := by
          rw [List.getD_eq_getElem?_getD, List.getElem?_eq_getElem (by omega)] <;> rfl
        refine ⟨_, SqL.of hq, _, atI_nat (j := 1) (by rw [List.getElem?_map, e1] <;> rfl), r.2.getD 1 0, rfl, ite2 (fun e3 => bad ?_) fun e3 => ⟨rfl, good ?_⟩⟩
        · unfold tailRow
          rw [decide_eq_false (p := 1 ≤ r.2.getD 1 0) (by omega), Bool.and_false, Bool.and_false]
        · unfold tailRow
          rw [hl3, decide_eq_true (p := 1 ≤ r.2.getD 1 0) (by omega), List.all_eq_true.mpr fun y hy => by
            have := hle y hy
            exact decide_eq_true (by omega)] <;> rfl
  · obtain ⟨rfl, ⟨u, rfl⟩, hall⟩ := q
    simp only [tSeq, tIfS, tOr, tAnd, tNot, tTest, tB, tOp, tCB, tCons, tNil, tVar, tC, tRet, tRetN, tNext, tDrop, tAsg, gName, gNil, gCons, gTup, gSub, tAug, tAugS, ipI, tCall, tMeth, tMake, tCmp, tAndV, tOrV, tNotV, tIf, tChain, tTup, tLst, tSl, tPart, tNoPart, tBM, tM0, tM1, tUn, rU, tFld, tCallS, tCKw, tMethF, tMethS, rEq, rNe, rI, rI0, rIxL, rIxT, rIxS, rSub, rSlL, C8.rSlX, rNewStrs, tMake0, cxK, cxNK, tLc_list, tLc_rng1, tFor_list, tFor_str, tFor_rng1, tYes, wipe, L2.start, List.map_cons, List.map_nil, List.length_cons, List.length_nil, List.replicate, List.cons_append, List.nil_append, List.append_nil, Nat.reduceAdd, Nat.reduceSub, List.getElem?_cons_zero, List.getElem?_cons_succ, List.set_cons_zero, List.set_cons_succ, Option.some.injEq, exists_eq_left', exists_eq_left, exists_eq', and_true, true_and, exists_eq_right, exists_const, V.int.injEq, V.str.injEq, V.bl.injEq, V.ref.injEq, List.cons.injEq, scal_ii, scal_ss, scal_bb, decide_eq_true_eq, Bool.not_eq_true', decide_eq_false_iff_not, if_true, if_false, Bool.false_eq_true, exists_and_left, S_len, sz_le]
    refine ⟨_, .inl hS, ?_⟩
    rw [hrl] at hall ⊢
    rw [show rows.length = (rows.map (·.2)).length from (List.length_map _).symm, List.take_length] at hall
    have z := hQ _ (ExtN.refl _)
    unfold tailsOk at z
    rw [hall, Bool.true_and, List.length_map] at z
    rw [show decide ((rows.length : Int) ≤ 12) = decide (rows.length ≤ 12) by
      rw [decide_eq_decide]
      omega]
    exact z
end
end Lf
set_option Elab.async false
set_option linter.all false
set_option maxRecDepth 100000
set_option maxHeartbeats 4000000
/-! trees.py, orders.py: where they are asked. -/
namespace Lf
open PySem PySem.Spec PyProof.Rows L2 LfR LamX LfM SX
section
variable {P : Program} {w : World} {K : PySem.W.Frag} {mg : Str → Option Value} {base : Heap}
theorem int_ne {i j : Int} (h : i ≠ j) : ¬ V.int i = V.int j := fun z => h (V.int.inj z)
def spHeight (K : PySem.W.Frag) : Sp := fun vs H Q E => ∃ (p : Addr) (bs : List Int) (k : Int), vs = [.ref p, .int k] ∧ H p = some (.lst (bs.map V.int)) ∧ ((bs = [1, -1] ∧ k = 0 ∧ Q (.int 2) H) ∨ (bs = [1, -1] ∧ k = 1 ∧ Q (.int 1) H) ∨ (bs = [1, 0] ∧ (k = 0 ∨ k = 1) ∧ E (.ref (ga K "NoOrder")) none H))
theorem sc_height_of : FnScope ["behind", "work", "found"] ["behind", "work"] (defScope s_height_of) := ⟨rfl, rfl, rfl, by decide +kernel, rfl, by decide +kernel, by decide +kernel⟩
theorem ok_height_of (T : Txt w K mg) : Dok P w K mg base (L2.CX P w) 1 (ga K "height_of") ["behind", "work"] (spHeight K) := by
  obtain ⟨fd, F⟩ := T.d_height_of
  have sc := sc_height_of
  refine ⟨fd, F.ok sc (fun vs H Q E h => ?_) (fun cdv A outer s H vs Q E hr h => ?_), F.bindsN fun _ _ _ _ _ _ us hl => match us, hl with | [_, _], _ => rfl, F.kp⟩
  · obtain ⟨p, bs, k, rfl, _⟩ := h
    rfl
  refine ⟨_, (pss_cons (ps_set (i := 2) sc.nd rfl (Or.inl rfl) pe_int) (pss_cons (ps_while (passes_of rfl) (pt_cmpR op_ne (pe_ix ix_list (pv 0) (pv 1) (fun _ _ => rfl)) (pe_un un_neg pe_int) (nomark _)) (pss_cons (ps_set (i := 1) sc.nd rfl (Or.inl rfl) (pe_ix ix_list (pv 0) (pv 1) (fun _ _ => rfl))) (pss_cons (ps_aug (i := 2) sc.nd rfl (Or.inl rfl) pe_int ip_add) (pss_one (ps_if (pt_cmpR op_gt (pv 2) (pe_callB call_len_seq rfl (T.n "len") PySem.boot_len (pa_cons (pv 0) pa_nil)) (nomark _)) (pss_one (ps_raise rfl (takes_of rfl rfl rfl rfl) (pmk_own PySem.F.excBase_ValueError T.xO.1 (T.g "NoOrder") T.xO.2.1 (raises_own T.xO.2.2.1 T.xO.2.2.2) rfl))) pss_nil))))) (pss_one (ps_ret (pv 2))))), ?_⟩
  obtain ⟨p, bs, k, rfl, hp, h⟩ := h
  have hS : SqL K H p (bs.map V.int) := SqL.of hp
  simp only [tSeq, tIfS, tOr, tAnd, tNot, tTest, tB, tOp, tCB, tCons, tNil, tVar, tC, tRet, tRetN, tNext, tDrop, tAsg, gName, gNil, gCons, gTup, gSub, tAug, tAugS, ipI, tCall, tMeth, tMake, tCmp, tAndV, tOrV, tNotV, tIf, tChain, tTup, tLst, tSl, tPart, tNoPart, tBM, tM0, tM1, tUn, rU, tFld, tCallS, tCKw, rIn, tMethF, tMethS, rEq, rNe, rI, rI0, rIxL, rIxT, rIxS, rSub, rSlL, C8.rSlX, rNewStrs, tMake0, cxK, cxNK, tLc_list, tLc_rng1, tFor_list, tFor_str, tFor_rng1, tYes, wipe, L2.start, List.map_cons, List.map_nil, List.length_cons, List.length_nil, List.replicate, List.cons_append, List.nil_append, List.append_nil, Nat.reduceAdd, Nat.reduceSub, List.getElem?_cons_zero, List.getElem?_cons_succ, List.set_cons_zero, List.set_cons_succ, Option.some.injEq, exists_eq_left', exists_eq_left, exists_eq', and_true, true_and, exists_eq_right, exists_const, V.int.injEq, V.str.injEq, V.bl.injEq, V.ref.injEq, List.cons.injEq, scal_ii, scal_ss, scal_bb, decide_eq_true_eq, Bool.not_eq_true', decide_eq_false_iff_not, if_true, if_false, Bool.false_eq_true, exists_and_left, S_len, sz_le]
  rcases h with ⟨rfl, rfl, hQ⟩ | ⟨rfl, rfl, hQ⟩ | ⟨rfl, rfl | rfl, hE⟩
  · refine ⟨fun m σ H' => H' = H ∧ ((m = 1 ∧ σ = [some (V.ref p), some (V.int 0), some (V.int 1)]) ∨ (m = 0 ∧ σ = [some (V.ref p), some (V.int 1), some (V.int 2)])), ⟨1, rfl, .inl ⟨rfl, rfl⟩⟩, fun m σ H' q => ?_⟩
    obtain ⟨rfl, ⟨rfl, rfl⟩ | ⟨rfl, rfl⟩⟩ := q
    · simp only [tSeq, tIfS, tOr, tAnd, tNot, tTest, tB, tOp, tCB, tCons, tNil, tVar, tC, tRet, tRetN, tNext, tDrop, tAsg, gName, gNil, gCons, gTup, gSub, tAug, tAugS, ipI, tCall, tMeth, tMake, tCmp, tAndV, tOrV, tNotV, tIf, tChain, tTup, tLst, tSl, tPart, tNoPart, tBM, tM0, tM1, tUn, rU, tFld, tCallS, tCKw, rIn, tMethF, tMethS, rEq, rNe, rI, rI0, rIxL, rIxT, rIxS, rSub, rSlL, C8.rSlX, rNewStrs, tMake0, cxK, cxNK, tLc_list, tLc_rng1, tFor_list, tFor_str, tFor_rng1, tYes, wipe, L2.start, List.map_cons, List.map_nil, List.length_cons, List.length_nil, List.replicate, List.cons_append, List.nil_append, List.append_nil, Nat.reduceAdd, Nat.reduceSub, List.getElem?_cons_zero, List.getElem?_cons_succ, List.set_cons_zero, List.set_cons_succ, Option.some.injEq, exists_eq_left', exists_eq_left, exists_eq', and_true, true_and, exists_eq_right, exists_const, V.int.injEq, V.str.injEq, V.bl.injEq, V.ref.injEq, List.cons.injEq, scal_ii, scal_ss, scal_bb, decide_eq_true_eq, Bool.not_eq_true', decide_eq_false_iff_not, if_true, if_false, Bool.false_eq_true, exists_and_left, S_len, sz_le]
      exact ⟨_, hS, _, atI_nat (j := 0) rfl, scal_ii _ _, ite2 (fun _ => ⟨fun σ' H2 => H2 = H' ∧ σ' = [some (V.ref p), some (V.int 1), some (V.int 2)], fun σ' H2 z => ⟨0, by omega, z.1, .inr ⟨rfl, z.2⟩⟩, _, hS, _, atI_nat (j := 0) rfl, _, .inl hS, ite2 (fun e => absurd e (by decide)) fun _ => ⟨rfl, rfl⟩⟩) fun e => absurd (int_ne (by decide)) e⟩
    · simp only [tSeq, tIfS, tOr, tAnd, tNot, tTest, tB, tOp, tCB, tCons, tNil, tVar, tC, tRet, tRetN, tNext, tDrop, tAsg, gName, gNil, gCons, gTup, gSub, tAug, tAugS, ipI, tCall, tMeth, tMake, tCmp, tAndV, tOrV, tNotV, tIf, tChain, tTup, tLst, tSl, tPart, tNoPart, tBM, tM0, tM1, tUn, rU, tFld, tCallS, tCKw, rIn, tMethF, tMethS, rEq, rNe, rI, rI0, rIxL, rIxT, rIxS, rSub, rSlL, C8.rSlX, rNewStrs, tMake0, cxK, cxNK, tLc_list, tLc_rng1, tFor_list, tFor_str, tFor_rng1, tYes, wipe, L2.start, List.map_cons, List.map_nil, List.length_cons, List.length_nil, List.replicate, List.cons_append, List.nil_append, List.append_nil, Nat.reduceAdd, Nat.reduceSub, List.getElem?_cons_zero, List.getElem?_cons_succ, List.set_cons_zero, List.set_cons_succ, Option.some.injEq, exists_eq_left', exists_eq_left, exists_eq', and_true, true_and, exists_eq_right, exists_const, V.int.injEq, V.str.injEq, V.bl.injEq, V.ref.injEq, List.cons.injEq, scal_ii, scal_ss, scal_bb, decide_eq_true_eq, Bool.not_eq_true', decide_eq_false_iff_not, if_true, if_false, Bool.false_eq_true, exists_and_left, S_len, sz_le]
      exact ⟨_, hS, _, atI_nat (j := 1) rfl, scal_ii _ _, ite2 (fun e => absurd rfl e) fun _ => hQ⟩
  · refine ⟨fun m σ H' => H' = H ∧ m = 0 ∧ σ = [some (V.ref p), some (V.int 1), some (V.int 1)], ⟨0, rfl, rfl, rfl⟩, fun m σ H' q => ?_⟩
    obtain ⟨rfl, rfl, rfl⟩ := q
    simp only [tSeq, tIfS, tOr, tAnd, tNot, tTest, tB, tOp, tCB, tCons, tNil, tVar, tC, tRet, tRetN, tNext, tDrop, tAsg, gName, gNil, gCons, gTup, gSub, tAug, tAugS, ipI, tCall, tMeth, tMake, tCmp, tAndV, tOrV, tNotV, tIf, tChain, tTup, tLst, tSl, tPart, tNoPart, tBM, tM0, tM1, tUn, rU, tFld, tCallS, tCKw, rIn, tMethF, tMethS, rEq, rNe, rI, rI0, rIxL, rIxT, rIxS, rSub, rSlL, C8.rSlX, rNewStrs, tMake0, cxK, cxNK, tLc_list, tLc_rng1, tFor_list, tFor_str, tFor_rng1, tYes, wipe, L2.start, List.map_cons, List.map_nil, List.length_cons, List.length_nil, List.replicate, List.cons_append, List.nil_append, List.append_nil, Nat.reduceAdd, Nat.reduceSub, List.getElem?_cons_zero, List.getElem?_cons_succ, List.set_cons_zero, List.set_cons_succ, Option.some.injEq, exists_eq_left', exists_eq_left, exists_eq', and_true, true_and, exists_eq_right, exists_const, V.int.injEq, V.str.injEq, V.bl.injEq, V.ref.injEq, List.cons.injEq, scal_ii, scal_ss, scal_bb, decide_eq_true_eq, Bool.not_eq_true', decide_eq_false_iff_not, if_true, if_false, Bool.false_eq_true, exists_and_left, S_len, sz_le]
    exact ⟨_, hS, _, atI_nat (j := 1) rfl, scal_ii _ _, ite2 (fun e => absurd rfl e) fun _ => hQ⟩
  · refine ⟨fun m σ H' => H' = H ∧ ((m = 1 ∧ σ = [some (V.ref p), some (V.int 0), some (V.int 1)]) ∨ (m = 0 ∧ σ = [some (V.ref p), some (V.int 1), some (V.int 2)])), ⟨1, rfl, .inl ⟨rfl, rfl⟩⟩, fun m σ H' q => ?_⟩
    obtain ⟨rfl, ⟨rfl, rfl⟩ | ⟨rfl, rfl⟩⟩ := q
    · simp only [tSeq, tIfS, tOr, tAnd, tNot, tTest, tB, tOp, tCB, tCons, tNil, tVar, tC, tRet, tRetN, tNext, tDrop, tAsg, gName, gNil, gCons, gTup, gSub, tAug, tAugS, ipI, tCall, tMeth, tMake, tCmp, tAndV, tOrV, tNotV, tIf, tChain, tTup, tLst, tSl, tPart, tNoPart, tBM, tM0, tM1, tUn, rU, tFld, tCallS, tCKw, rIn, tMethF, tMethS, rEq, rNe, rI, rI0, rIxL, rIxT, rIxS, rSub, rSlL, C8.rSlX, rNewStrs, tMake0, cxK, cxNK, tLc_list, tLc_rng1, tFor_list, tFor_str, tFor_rng1, tYes, wipe, L2.start, List.map_cons, List.map_nil, List.length_cons, List.length_nil, List.replicate, List.cons_append, List.nil_append, List.append_nil, Nat.reduceAdd, Nat.reduceSub, List.getElem?_cons_zero, List.getElem?_cons_succ, List.set_cons_zero, List.set_cons_succ, Option.some.injEq, exists_eq_left', exists_eq_left, exists_eq', and_true, true_and, exists_eq_right, exists_const, V.int.injEq, V.str.injEq, V.bl.injEq, V.ref.injEq, List.cons.injEq, scal_ii, scal_ss, scal_bb, decide_eq_true_eq, Bool.not_eq_true', decide_eq_false_iff_not, if_true, if_false, Bool.false_eq_true, exists_and_left, S_len, sz_le]
      exact ⟨_, hS, _, atI_nat (j := 0) rfl, scal_ii _ _, ite2 (fun _ => ⟨fun σ' H2 => H2 = H' ∧ σ' = [some (V.ref p), some (V.int 1), some (V.int 2)], fun σ' H2 z => ⟨0, by omega, z.1, .inr ⟨rfl, z.2⟩⟩, _, hS, _, atI_nat (j := 0) rfl, _, .inl hS, ite2 (fun e => absurd e (by decide)) fun _ => ⟨rfl, rfl⟩⟩) fun e => absurd (int_ne (by decide)) e⟩
    · simp only [tSeq, tIfS, tOr, tAnd, tNot, tTest, tB, tOp, tCB, tCons, tNil, tVar, tC, tRet, tRetN, tNext, tDrop, tAsg, gName, gNil, gCons, gTup, gSub, tAug, tAugS, ipI, tCall, tMeth, tMake, tCmp, tAndV, tOrV, tNotV, tIf, tChain, tTup, tLst, tSl, tPart, tNoPart, tBM, tM0, tM1, tUn, rU, tFld, tCallS, tCKw, rIn, tMethF, tMethS, rEq, rNe, rI, rI0, rIxL, rIxT, rIxS, rSub, rSlL, C8.rSlX, rNewStrs, tMake0, cxK, cxNK, tLc_list, tLc_rng1, tFor_list, tFor_str, tFor_rng1, tYes, wipe, L2.start, List.map_cons, List.map_nil, List.length_cons, List.length_nil, List.replicate, List.cons_append, List.nil_append, List.append_nil, Nat.reduceAdd, Nat.reduceSub, List.getElem?_cons_zero, List.getElem?_cons_succ, List.set_cons_zero, List.set_cons_succ, Option.some.injEq, exists_eq_left', exists_eq_left, exists_eq', and_true, true_and, exists_eq_right, exists_const, V.int.injEq, V.str.injEq, V.bl.injEq, V.ref.injEq, List.cons.injEq, scal_ii, scal_ss, scal_bb, decide_eq_true_eq, Bool.not_eq_true', decide_eq_false_iff_not, if_true, if_false, Bool.false_eq_true, exists_and_left, S_len, sz_le]
      exact ⟨_, hS, _, atI_nat (j := 1) rfl, scal_ii _ _, ite2 (fun _ => ⟨fun _ _ => False, fun σ' H2 z => z.elim, _, hS, _, atI_nat (j := 1) rfl, _, .inl hS, ite2 (fun _ => hE) fun e => absurd (show ((List.map V.int [1, 0]).length : Int) < 2 + 1 by decide) e⟩) fun e => absurd (int_ne (by decide)) e⟩
  · refine ⟨fun m σ H' => H' = H ∧ ((m = 1 ∧ σ = [some (V.ref p), some (V.int 1), some (V.int 1)]) ∨ (m = 0 ∧ σ = [some (V.ref p), some (V.int 0), some (V.int 2)])), ⟨1, rfl, .inl ⟨rfl, rfl⟩⟩, fun m σ H' q => ?_⟩
    obtain ⟨rfl, ⟨rfl, rfl⟩ | ⟨rfl, rfl⟩⟩ := q
    · simp only [tSeq, tIfS, tOr, tAnd, tNot, tTest, tB, tOp, tCB, tCons, tNil, tVar, tC, tRet, tRetN, tNext, tDrop, tAsg, gName, gNil, gCons, gTup, gSub, tAug, tAugS, ipI, tCall, tMeth, tMake, tCmp, tAndV, tOrV, tNotV, tIf, tChain, tTup, tLst, tSl, tPart, tNoPart, tBM, tM0, tM1, tUn, rU, tFld, tCallS, tCKw, rIn, tMethF, tMethS, rEq, rNe, rI, rI0, rIxL, rIxT, rIxS, rSub, rSlL, C8.rSlX, rNewStrs, tMake0, cxK, cxNK, tLc_list, tLc_rng1, tFor_list, tFor_str, tFor_rng1, tYes, wipe, L2.start, List.map_cons, List.map_nil, List.length_cons, List.length_nil, List.replicate, List.cons_append, List.nil_append, List.append_nil, Nat.reduceAdd, Nat.reduceSub, List.getElem?_cons_zero, List.getElem?_cons_succ, List.set_cons_zero, List.set_cons_succ, Option.some.injEq, exists_eq_left', exists_eq_left, exists_eq', and_true, true_and, exists_eq_right, exists_const, V.int.injEq, V.str.injEq, V.bl.injEq, V.ref.injEq, List.cons.injEq, scal_ii, scal_ss, scal_bb, decide_eq_true_eq, Bool.not_eq_true', decide_eq_false_iff_not, if_true, if_false, Bool.false_eq_true, exists_and_left, S_len, sz_le]
      exact ⟨_, hS, _, atI_nat (j := 1) rfl, scal_ii _ _, ite2 (fun _ => ⟨fun σ' H2 => H2 = H' ∧ σ' = [some (V.ref p), some (V.int 0), some (V.int 2)], fun σ' H2 z => ⟨0, by omega, z.1, .inr ⟨rfl, z.2⟩⟩, _, hS, _, atI_nat (j := 1) rfl, _, .inl hS, ite2 (fun e => absurd e (by decide)) fun _ => ⟨rfl, rfl⟩⟩) fun e => absurd (int_ne (by decide)) e⟩
    · simp only [tSeq, tIfS, tOr, tAnd, tNot, tTest, tB, tOp, tCB, tCons, tNil, tVar, tC, tRet, tRetN, tNext, tDrop, tAsg, gName, gNil, gCons, gTup, gSub, tAug, tAugS, ipI, tCall, tMeth, tMake, tCmp, tAndV, tOrV, tNotV, tIf, tChain, tTup, tLst, tSl, tPart, tNoPart, tBM, tM0, tM1, tUn, rU, tFld, tCallS, tCKw, rIn, tMethF, tMethS, rEq, rNe, rI, rI0, rIxL, rIxT, rIxS, rSub, rSlL, C8.rSlX, rNewStrs, tMake0, cxK, cxNK, tLc_list, tLc_rng1, tFor_list, tFor_str, tFor_rng1, tYes, wipe, L2.start, List.map_cons, List.map_nil, List.length_cons, List.length_nil, List.replicate, List.cons_append, List.nil_append, List.append_nil, Nat.reduceAdd, Nat.reduceSub, List.getElem?_cons_zero, List.getElem?_cons_succ, List.set_cons_zero, List.set_cons_succ, Option.some.injEq, exists_eq_left', exists_eq_left, exists_eq', and_true, true_and, exists_eq_right, exists_const, V.int.injEq, V.str.injEq, V.bl.injEq, V.ref.injEq, List.cons.injEq, scal_ii, scal_ss, scal_bb, decide_eq_true_eq, Bool.not_eq_true', decide_eq_false_iff_not, if_true, if_false, Bool.false_eq_true, exists_and_left, S_len, sz_le]
      exact ⟨_, hS, _, atI_nat (j := 0) rfl, scal_ii _ _, ite2 (fun _ => ⟨fun _ _ => False, fun σ' H2 z => z.elim, _, hS, _, atI_nat (j := 0) rfl, _, .inl hS, ite2 (fun _ => hE) fun e => absurd (show ((List.map V.int [1, 0]).length : Int) < 2 + 1 by decide) e⟩) fun e => absurd (int_ne (by decide)) e⟩
def spLevels (K : PySem.W.Frag) : Sp := fun vs H Q E => ∃ (p : Addr) (bs : List Int), vs = [.ref p] ∧ H p = some (.lst (bs.map V.int)) ∧
  ((bs = [1, -1] ∧ ∀ H' q, ExtN H H' → H q = none → H' q = some (.lst [.int 2, .int 1]) → Q (.ref q) H') ∨ (bs = [1, 0] ∧ ∀ H', ExtN H H' → E (.ref (ga K "NoOrder")) none H'))
theorem sc_levels : FnScope ["behind", "later", "work"] ["behind"] (defScope s_levels) := ⟨rfl, rfl, rfl, by decide +kernel, rfl, by decide +kernel, by decide +kernel⟩
theorem ok_levels (T : Txt w K mg) : Dok P w K mg base (L2.CX P w) 2 (ga K "levels") ["behind"] (spLevels K) := by
  obtain ⟨fd, F⟩ := T.d_levels
  have sc := sc_levels
  have D_height_of := ok_height_of (P := P) (base := base) T
  refine ⟨fd, F.ok sc (fun vs H Q E h => ?_) (fun cdv A outer s H vs Q E hr h => ?_), F.bindsN fun _ _ _ _ _ _ us hl => match us, hl with | [_], _ => rfl, F.kp⟩
  · obtain ⟨p, bs, rfl, _⟩ := h
    rfl
  refine ⟨_, (pss_cons (ps_for (passes_of rfl) rfl (pi_list (pv 0)) (pg_name (i := 1) sc.nd rfl (Or.inl rfl)) (pss_one (ps_if (PW.pt (pw_or (pt_cmpR op_lt (pv 1) (pe_un un_neg pe_int) (nomark _)) (pw_or1 (pt_cmpR op_ge (pv 1) (pe_callB call_len_seq rfl (T.n "len") PySem.boot_len (pa_cons (pv 0) pa_nil)) (nomark _))))) (pss_one (ps_raise rfl (takes_of rfl rfl rfl rfl) (pmk_own PySem.F.excBase_ValueError T.xO.1 (T.g "NoOrder") T.xO.2.1 (raises_own T.xO.2.2.1 T.xO.2.2.2) rfl))) pss_nil))) (pss_one (ps_ret (pe_lcX (E := E) (own := [("work", 2)]) (g := gName 2) (tt := tYes) rfl rfl (takes_of rfl rfl rfl rfl) rfl sc.nd (pi_range1 rfl (T.n "range") (pa_cons (pe_callB call_len_seq rfl (T.n "len") PySem.boot_len (pa_cons (pv 0) pa_nil)) pa_nil)) (blkOk_by (own := [("work", 2)]) (N := ["behind", "later", "work"]) (sc := defScope s_levels) (by decide +kernel)) (fun _ _ _ _ _ => pg_name (i := 2) sc.nd rfl (Or.inl rfl)) (fun _ _ _ _ _ => pts_nil) (fun _ _ _ _ _ _ hxe => (pe_fX D_height_of hr (T.g "height_of") hxe (pa_cons (pv 0) (pa_cons (pv 2) pa_nil)))))))), ?_⟩
  obtain ⟨p, bs, rfl, hp, h⟩ := h
  have hS : SqL K H p (bs.map V.int) := SqL.of hp
  have hb : bs = [1, -1] ∨ bs = [1, 0] := h.imp And.left And.left
  have hlen : (bs.map V.int).length = 2 := by rcases hb with rfl | rfl <;> rfl
  simp only [tSeq, tIfS, tOr, tAnd, tNot, tTest, tB, tOp, tCB, tCons, tNil, tVar, tC, tRet, tRetN, tNext, tDrop, tAsg, gName, gNil, gCons, gTup, gSub, tAug, tAugS, ipI, tCall, tMeth, tMake, tCmp, tAndV, tOrV, tNotV, tIf, tChain, tTup, tLst, tSl, tPart, tNoPart, tBM, tM0, tM1, tUn, rU, tFld, tCallS, tCKw, rIn, tMethF, tMethS, rEq, rNe, rI, rI0, rIxL, rIxT, rIxS, rSub, rSlL, C8.rSlX, rNewStrs, tMake0, cxK, cxNK, tLc_list, tLc_rng1, tFor_list, tFor_str, tFor_rng1, tYes, wipe, L2.start, List.map_cons, List.map_nil, List.length_cons, List.length_nil, List.replicate, List.cons_append, List.nil_append, List.append_nil, Nat.reduceAdd, Nat.reduceSub, List.getElem?_cons_zero, List.getElem?_cons_succ, List.set_cons_zero, List.set_cons_succ, Option.some.injEq, exists_eq_left', exists_eq_left, exists_eq', and_true, true_and, exists_eq_right, exists_const, V.int.injEq, V.str.injEq, V.bl.injEq, V.ref.injEq, List.cons.injEq, scal_ii, scal_ss, scal_bb, decide_eq_true_eq, Bool.not_eq_true', decide_eq_false_iff_not, if_true, if_false, Bool.false_eq_true, exists_and_left, S_len, sz_le]
  refine ⟨⟨_, hS⟩, for_w (xs := bs.map V.int) walk_list (fun i σ H' => H' = H ∧ ∃ u, σ = [some (V.ref p), u, none]) ⟨rfl, _, rfl⟩ (fun i σ H' _ q => by rw [q.1]; exact hS) (fun i x σ H' hx q => ?_) (fun σ H' q => ?_)⟩
  · obtain ⟨rfl, u, rfl⟩ := q
    rw [List.getElem?_map] at hx
    obtain ⟨z, hz, rfl⟩ := Option.map_eq_some_iff.mp hx
    have hzz : -1 ≤ z ∧ z < 2 := by
      have hm := List.mem_of_getElem? hz
      rcases hb with rfl | rfl
      · simp only [List.mem_cons, List.not_mem_nil, or_false] at hm
        omega
      · simp only [List.mem_cons, List.not_mem_nil, or_false] at hm
        omega
    simp only [tSeq, tIfS, tOr, tAnd, tNot, tTest, tB, tOp, tCB, tCons, tNil, tVar, tC, tRet, tRetN, tNext, tDrop, tAsg, gName, gNil, gCons, gTup, gSub, tAug, tAugS, ipI, tCall, tMeth, tMake, tCmp, tAndV, tOrV, tNotV, tIf, tChain, tTup, tLst, tSl, tPart, tNoPart, tBM, tM0, tM1, tUn, rU, tFld, tCallS, tCKw, rIn, tMethF, tMethS, rEq, rNe, rI, rI0, rIxL, rIxT, rIxS, rSub, rSlL, C8.rSlX, rNewStrs, tMake0, cxK, cxNK, tLc_list, tLc_rng1, tFor_list, tFor_str, tFor_rng1, tYes, wipe, L2.start, List.map_cons, List.map_nil, List.length_cons, List.length_nil, List.replicate, List.cons_append, List.nil_append, List.append_nil, Nat.reduceAdd, Nat.reduceSub, List.getElem?_cons_zero, List.getElem?_cons_succ, List.set_cons_zero, List.set_cons_succ, Option.some.injEq, exists_eq_left', exists_eq_left, exists_eq', and_true, true_and, exists_eq_right, exists_const, V.int.injEq, V.str.injEq, V.bl.injEq, V.ref.injEq, List.cons.injEq, scal_ii, scal_ss, scal_bb, decide_eq_true_eq, Bool.not_eq_true', decide_eq_false_iff_not, if_true, if_false, Bool.false_eq_true, exists_and_left, S_len, sz_le]
    refine ite2 (fun e => absurd e (by omega)) fun _ => ⟨_, .inl hS, ite2 (fun e => absurd e (by omega)) fun _ => trivial⟩
  · obtain ⟨rfl, u, rfl⟩ := q
    simp only [tSeq, tIfS, tOr, tAnd, tNot, tTest, tB, tOp, tCB, tCons, tNil, tVar, tC, tRet, tRetN, tNext, tDrop, tAsg, gName, gNil, gCons, gTup, gSub, tAug, tAugS, ipI, tCall, tMeth, tMake, tCmp, tAndV, tOrV, tNotV, tIf, tChain, tTup, tLst, tSl, tPart, tNoPart, tBM, tM0, tM1, tUn, rU, tFld, tCallS, tCKw, rIn, tMethF, tMethS, rEq, rNe, rI, rI0, rIxL, rIxT, rIxS, rSub, rSlL, C8.rSlX, rNewStrs, tMake0, cxK, cxNK, tLc_list, tLc_rng1, tFor_list, tFor_str, tFor_rng1, tYes, wipe, L2.start, List.map_cons, List.map_nil, List.length_cons, List.length_nil, List.replicate, List.cons_append, List.nil_append, List.append_nil, Nat.reduceAdd, Nat.reduceSub, List.getElem?_cons_zero, List.getElem?_cons_succ, List.set_cons_zero, List.set_cons_succ, Option.some.injEq, exists_eq_left', exists_eq_left, exists_eq', and_true, true_and, exists_eq_right, exists_const, V.int.injEq, V.str.injEq, V.bl.injEq, V.ref.injEq, List.cons.injEq, scal_ii, scal_ss, scal_bb, decide_eq_true_eq, Bool.not_eq_true', decide_eq_false_iff_not, if_true, if_false, Bool.false_eq_true, exists_and_left, S_len, sz_le]
    refine ⟨_, .inl hS, by omega, by omega, fun D hD => ?_⟩
    rw [hlen]
    have hpD : p ≠ D := fun z => by rw [← z, hp] at hD; cases hD
    have hS2 : ∀ H2, ExtN H' H2 → H2 p = some (.lst (bs.map V.int)) := fun H2 e => e _ _ hp (nt_lst _)
    refine lc_mapW (xs := rngL 2) walk_rngL rfl (fun i y _ => bs = [1, -1] ∧ y = .int (if i = 0 then 2 else 1)) (by decide) (fun _ _ _ => trivial) hD (fun j y H H' _ h => h) (fun _ => True) (fun _ => trivial) (fun _ _ _ _ => trivial) (fun i x H2 Qy hx e1 _ hacc hy => ?_) (fun H2 acc e1 _ hacc hl hR => ?_)
    · have hi : i < 2 := by
        have := (List.getElem?_eq_some_iff.mp hx).1
        exact this
      rw [rngL_get hi] at hx
      obtain rfl := Option.some.inj hx
      refine ⟨rfl, ?_⟩
      simp only [tSeq, tIfS, tOr, tAnd, tNot, tTest, tB, tOp, tCB, tCons, tNil, tVar, tC, tRet, tRetN, tNext, tDrop, tAsg, gName, gNil, gCons, gTup, gSub, tAug, tAugS, ipI, tCall, tMeth, tMake, tCmp, tAndV, tOrV, tNotV, tIf, tChain, tTup, tLst, tSl, tPart, tNoPart, tBM, tM0, tM1, tUn, rU, tFld, tCallS, tCKw, rIn, tMethF, tMethS, rEq, rNe, rI, rI0, rIxL, rIxT, rIxS, rSub, rSlL, C8.rSlX, rNewStrs, tMake0, cxK, cxNK, tLc_list, tLc_rng1, tFor_list, tFor_str, tFor_rng1, tYes, wipe, L2.start, List.map_cons, List.map_nil, List.length_cons, List.length_nil, List.replicate, List.cons_append, List.nil_append, List.append_nil, Nat.reduceAdd, Nat.reduceSub, List.getElem?_cons_zero, List.getElem?_cons_succ, List.set_cons_zero, List.set_cons_succ, Option.some.injEq, exists_eq_left', exists_eq_left, exists_eq', and_true, true_and, exists_eq_right, exists_const, V.int.injEq, V.str.injEq, V.bl.injEq, V.ref.injEq, List.cons.injEq, scal_ii, scal_ss, scal_bb, decide_eq_true_eq, Bool.not_eq_true', decide_eq_false_iff_not, if_true, if_false, Bool.false_eq_true, exists_and_left, S_len, sz_le]
      refine ⟨p, bs, _, rfl, hS2 _ e1, ?_⟩
      rcases h with ⟨rfl, hQ⟩ | ⟨rfl, hE⟩
      · match i, hi with
        | 0, _ => exact .inl ⟨rfl, rfl, hy _ _ (ExtN.refl _) trivial ⟨rfl, rfl⟩⟩
        | 1, _ => exact .inr (.inl ⟨rfl, rfl, hy _ _ (ExtN.refl _) trivial ⟨rfl, rfl⟩⟩)
      · match i, hi with
        | 0, _ => exact .inr (.inr ⟨rfl, .inl rfl, hE _ e1⟩)
        | 1, _ => exact .inr (.inr ⟨rfl, .inr rfl, hE _ e1⟩)
    · rcases h with ⟨rfl, hQ⟩ | ⟨rfl, hE⟩
      · refine hQ _ D e1 hD ?_
        rw [hacc]
        match acc, hl with
        | [a, b], _ =>
          obtain ⟨_, rfl⟩ := hR 0 a rfl
          obtain ⟨_, rfl⟩ := hR 1 b rfl
          rfl
      · match acc, hl with
        | [a, b], _ =>
          obtain ⟨z, _⟩ := hR 0 a rfl
          exact absurd z (by decide)
theorem fits4 {rs : Rows} {b : Bool} (hf : fitsM 4 rs = some b) : (rs = [[2], [1, -1]] ∧ b = true) ∨ ((rs = [[2], [1, -1], [1]] ∨ rs = [[2], [1, -1], []]) ∧ b = false) ∨ (rs = [[1], [1, 0]] ∧ b = false) := by
  by_cases h1 : rs = [[2], [1, -1]]
  · subst h1
    exact .inl ⟨rfl, (Option.some.inj hf).symm⟩
  by_cases h2 : rs = [[2], [1, -1], [1]]
  · subst h2
    exact .inr (.inl ⟨.inl rfl, (Option.some.inj hf).symm⟩)
  by_cases h3 : rs = [[2], [1, -1], []]
  · subst h3
    exact .inr (.inl ⟨.inr rfl, (Option.some.inj hf).symm⟩)
  by_cases h4 : rs = [[1], [1, 0]]
  · subst h4
    exact .inr (.inr ⟨rfl, (Option.some.inj hf).symm⟩)
  simp [fitsM, h1, h2, h3, h4] at hf
theorem sc_Tree_fits : FnScope ["self", "rows", "found"] ["self", "rows"] (defScope s_Tree_fits) := ⟨rfl, rfl, rfl, by decide +kernel, rfl, by decide +kernel, by decide +kernel⟩
theorem ok_Tree_fits (T : Txt w K mg) : Dok P w K mg base CX0 3 (ma K "Tree" "fits") ["self", "rows"] (spFits 4) := by
  obtain ⟨fd, F⟩ := T.d_Tree_fits
  have sc := sc_Tree_fits
  have D_is_count := ok_is_count (P := P) (base := base) T
  have D_levels := ok_levels (P := P) (base := base) T
  refine ⟨fd, F.ok sc (fun vs H Q E h => ?_) (fun cdv A outer s H vs Q E hr h => ?_), F.bindsN fun _ _ _ _ _ _ us hl => match us, hl with | [_, _], _ => rfl, F.kp⟩
  · obtain ⟨v, p, rs, b, rfl, _⟩ := h
    rfl
  refine ⟨_, PSs.nox (pss_cons (ps_if (PW.pt (pw_or (pt_not (pt_val (pe_f D_is_count hr (T.g "is_count") (pa_cons (pv 1) (pa_cons pe_int (pa_cons pe_int pa_nil)))))) (pw_or (pt_cmpR op_ne (pe_callB call_len_seq rfl (T.n "len") PySem.boot_len (pa_cons (pv 1) pa_nil)) pe_int (nomark _)) (pw_or1 (pt_cmpR op_gt (pe_callB call_len_seq rfl (T.n "len") PySem.boot_len (pa_cons (pe_ix ix_list (pv 1) pe_int (fun _ _ => rfl)) pa_nil)) pe_int (nomark _)))))) (pss_one (ps_ret pe_bl)) pss_nil) (pss_one (ps_try_onlyE (pss_one (ps_ret (pe_cmpR op_eq (pe_callB call_len_seq rfl (T.n "len") PySem.boot_len (pa_cons (pv 2) pa_nil)) (pe_callB call_len_seq rfl (T.n "len") PySem.boot_len (pa_cons (pe_ix ix_list (pv 1) pe_int (fun _ _ => rfl)) pa_nil)) (nomark _)))) rfl rfl ⟨rfl, by decide, .inl (T.g "NoOrder")⟩ L2.takes0 (fun W pn xe tk _ => pss_one (ps_set (i := 2) sc.nd rfl (Or.inl rfl) (pe_fS D_levels hr (T.g "levels") tk (pa_cons (pe_ix (r := rIxL K) ix_list (pv 1) pe_int (fun _ _ => rfl)) pa_nil)))) (fun a oe cls d pn _ _ => pss_one (ps_ret pe_bl))))), ?_⟩
  obtain ⟨v, p, rs, b, rfl, hp, hf, hQ⟩ := h
  have hp0 := hp
  simp only [tSeq, tIfS, tOr, tAnd, tNot, tTest, tB, tOp, tCB, tCons, tNil, tVar, tC, tRet, tRetN, tNext, tDrop, tAsg, gName, gNil, gCons, gTup, gSub, tAug, tAugS, ipI, tCall, tMeth, tMake, tCmp, tAndV, tOrV, tNotV, tIf, tChain, tTup, tLst, tSl, tPart, tNoPart, tBM, tM0, tM1, tUn, rU, tFld, tCallS, tCKw, rIn, tMethF, tMethS, rEq, rNe, rI, rI0, rIxL, rIxT, rIxS, rSub, rSlL, C8.rSlX, rNewStrs, tMake0, cxK, cxNK, tLc_list, tLc_rng1, tFor_list, tFor_str, tFor_rng1, tYes, wipe, L2.start, List.map_cons, List.map_nil, List.length_cons, List.length_nil, List.replicate, List.cons_append, List.nil_append, List.append_nil, Nat.reduceAdd, Nat.reduceSub, List.getElem?_cons_zero, List.getElem?_cons_succ, List.set_cons_zero, List.set_cons_succ, Option.some.injEq, exists_eq_left', exists_eq_left, exists_eq', and_true, true_and, exists_eq_right, exists_const, V.int.injEq, V.str.injEq, V.bl.injEq, V.ref.injEq, List.cons.injEq, scal_ii, scal_ss, scal_bb, decide_eq_true_eq, Bool.not_eq_true', decide_eq_false_iff_not, if_true, if_false, Bool.false_eq_true, exists_and_left, S_len, sz_le]
  rcases fits4 hf with ⟨rfl, rfl⟩ | ⟨rfl | rfl, rfl⟩ | ⟨rfl, rfl⟩
  · obtain ⟨q1, q2, h1, h2, h3⟩ := rows2 hp
    refine ⟨p, _, 1, 20, rfl, hp0, _, rfl, ite2 (fun e => by cases e) fun _ => ⟨_, .inl (SqL.of h1), ite2 (fun e => absurd rfl e) fun _ => ⟨_, SqL.of h1, _, atI_nat (j := 1) rfl, q2, rfl, _, .inl (SqL.of h3), ite2 (fun e => absurd e (by decide)) fun _ => ⟨_, SqL.of h1, _, atI_nat (j := 1) rfl, q2, _, rfl, h3, .inl ⟨rfl, fun H' q e hq1 hq => ?_⟩⟩⟩⟩⟩
    exact ⟨q, rfl, _, .inl (SqL.of hq), _, SqL.of (e _ _ h1 (nt_lst _)), _, atI_nat (j := 1) rfl, q2, rfl, _, .inl (SqL.of (e _ _ h3 (nt_lst _))), hQ _ e⟩
  · obtain ⟨q1, q2, q3, h1⟩ := rows3 hp
    exact ⟨p, _, 1, 20, rfl, hp0, _, rfl, ite2 (fun e => by cases e) fun _ => ⟨_, .inl (SqL.of h1), ite2 (fun e => hQ _ (ExtN.refl _)) fun e => absurd (show ¬ (([V.ref q1, V.ref q2, V.ref q3].length : Nat) : Int) = 2 by simp) e⟩⟩
  · obtain ⟨q1, q2, q3, h1⟩ := rows3 hp
    exact ⟨p, _, 1, 20, rfl, hp0, _, rfl, ite2 (fun e => by cases e) fun _ => ⟨_, .inl (SqL.of h1), ite2 (fun e => hQ _ (ExtN.refl _)) fun e => absurd (show ¬ (([V.ref q1, V.ref q2, V.ref q3].length : Nat) : Int) = 2 by simp) e⟩⟩
  · obtain ⟨q1, q2, h1, h2, h3⟩ := rows2 hp
    exact ⟨p, _, 1, 20, rfl, hp0, _, rfl, ite2 (fun e => by cases e) fun _ => ⟨_, .inl (SqL.of h1), ite2 (fun e => absurd rfl e) fun _ => ⟨_, SqL.of h1, _, atI_nat (j := 1) rfl, q2, rfl, _, .inl (SqL.of h3), ite2 (fun e => absurd e (by decide)) fun _ => ⟨_, SqL.of h1, _, atI_nat (j := 1) rfl, q2, _, rfl, h3, .inr ⟨rfl, fun H' e => ⟨true, T.tO, fun _ a ha => hQ _ e, fun z => by cases z⟩⟩⟩⟩⟩⟩
def lcScope : Stmt → Scope
  | .Assign _ (.ListComp _ _ sc _) _ => sc
  | _ => default
/-- nothing of H's stands there -/
def Fr (H : Hp) (p : Addr) : Prop := H p = none
theorem Fr.of_none {H : Hp} {p : Addr} (h : H p = none) : Fr H p := h
theorem ExtN.fr {H H' : Hp} {p : Addr} (e : ExtN H H') (h : H' p = none) : Fr H p := e.same.free h
theorem ExtN.upF {H H1 : Hp} {p : Addr} {o : HO} (e : ExtN H H1) (h : Fr H p) : ExtN H (upd H1 p o) := ⟨fun b u eb => by
  have hb : b ≠ p := fun z => by
    rw [z, h] at eb
    cases eb
  rw [upd_ne hb]
  exact e.same b u eb⟩
/-- the table of two: two rows of two; f: the first mark stands -/
def Tab (H0 : Hp) (D : Addr) (f : Bool) (H : Hp) : Prop := ∃ (r0 r1 : Addr) (a b c d : Bool), H D = some (.lst [.ref r0, .ref r1]) ∧ H r0 = some (.lst [.bl a, .bl b]) ∧ H r1 = some (.lst [.bl c, .bl d]) ∧ (f = true → a = true) ∧ Fr H0 r0 ∧ Fr H0 r1 ∧ Fr H0 D
theorem row_upd {H : Hp} {r r0 : Addr} {a b c d : Bool} (h : H r = some (.lst [.bl c, .bl d])) : ∃ x y, (upd H r0 (.lst [.bl a, .bl b])) r = some (.lst [.bl x, .bl y]) := by
  by_cases e : r = r0
  · rw [e]
    exact ⟨a, b, upd_same⟩
  · exact ⟨c, d, by rw [upd_ne e]; exact h⟩
theorem Tab.get {H0 H : Hp} {D : Addr} {f : Bool} (t : Tab H0 D f H) : ∃ r0 r1, H D = some (.lst [.ref r0, .ref r1]) ∧ (∀ i, i < 2 → ∃ r x y, [V.ref r0, V.ref r1][i]? = some (.ref r) ∧ H r = some (.lst [.bl x, .bl y]) ∧ (i = 0 → f = true → x = true)) ∧ Fr H0 D ∧ Fr H0 r0 ∧ Fr H0 r1 := by
  obtain ⟨r0, r1, a, b, c, d, hD, h0, h1, ha, f0, f1, fD⟩ := t
  refine ⟨r0, r1, hD, fun i hi => ?_, fD, f0, f1⟩
  match i, hi with
  | 0, _ => exact ⟨r0, a, b, rfl, h0, fun _ => ha⟩
  | 1, _ => exact ⟨r1, c, d, rfl, h1, fun z => by cases z⟩
theorem bl_at (x y : Bool) {i : Nat} (h : i < 2) : ∃ z, [V.bl x, V.bl y][i]? = some (.bl z) ∧ (i = 0 → z = x) := by
  match i, h with
  | 0, _ => exact ⟨x, rfl, fun _ => rfl⟩
  | 1, _ => exact ⟨y, rfl, fun z => by cases z⟩
/-- a new row at place k -/
theorem Tab.put {H0 H : Hp} {D D2 r0 r1 : Addr} {k : Nat} {x y : Bool} (t : Tab H0 D true H) (hD : H D = some (.lst [.ref r0, .ref r1])) (h2 : H D2 = none) (f2 : Fr H0 D2) (hk : k < 2) (hx : k = 0 → x = true) :
    Tab H0 D true (upd (upd H D2 (.lst [.bl x, .bl y])) D (.lst ([V.ref r0, V.ref r1].set k (.ref D2)))) := by
  obtain ⟨q0, q1, a, b, c, d, hD', h0, h1, ha, f0, f1, fD⟩ := t
  rw [hD] at hD'
  cases hD'
  have n0 : r0 ≠ D := fun z => by rw [z, hD] at h0; cases h0
  have n1 : r1 ≠ D := fun z => by rw [z, hD] at h1; cases h1
  have n2 : D2 ≠ D := fun z => by rw [z, hD] at h2; cases h2
  have m0 : r0 ≠ D2 := fun z => by rw [z, h2] at h0; cases h0
  have m1 : r1 ≠ D2 := fun z => by rw [z, h2] at h1; cases h1
  match k, hk with
  | 0, _ => exact ⟨D2, r1, x, y, c, d, upd_same, by rw [upd_ne n2, upd_same], by rw [upd_ne n1, upd_ne m1]; exact h1, fun _ => hx rfl, f2, f1, fD⟩
  | 1, _ => exact ⟨r0, D2, a, b, x, y, upd_same, by rw [upd_ne n0, upd_ne m0]; exact h0, by rw [upd_ne n2, upd_same], ha, f0, f2, fD⟩
/-- ahead_of(2, [[0, 0]]) -/
def spAhead (K : PySem.W.Frag) : Sp := fun vs H Q E => ∃ (p q : Addr), vs = [.int 2, .ref p] ∧ H p = some (.lst [.ref q]) ∧ H q = some (.lst [.int 0, .int 0]) ∧ ∀ H', ExtN H H' → E (.ref (ga K "NoOrder")) none H'
theorem sc_ahead_of : FnScope ["many", "needs", "work", "table", "a", "b", "amid", "k"] ["many", "needs"] (defScope s_ahead_of) := ⟨rfl, rfl, rfl, by decide +kernel, rfl, by decide +kernel, by decide +kernel⟩
theorem ok_ahead_of (T : Txt w K mg) : Dok P w K mg base (L2.CX P w) 1 (ga K "ahead_of") ["many", "needs"] (spAhead K) := by
  obtain ⟨fd, F⟩ := T.d_ahead_of
  have sc := sc_ahead_of
  refine ⟨fd, F.ok sc (fun vs H Q E h => ?_) (fun cdv A outer s H vs Q E hr h => ?_), F.bindsN fun _ _ _ _ _ _ us hl => match us, hl with | [_, _], _ => rfl, F.kp⟩
  · obtain ⟨p, q, rfl, _⟩ := h
    rfl
  refine ⟨_, (pss_cons (ps_set (i := 3) sc.nd rfl (Or.inr rfl) (pe_lc (own := [("work", 2)]) (g := gName 2) (tt := tYes) rfl sc.nd (pi_range1 rfl (T.n "range") (pa_cons (pv 0) pa_nil)) (blkOk_by (own := [("work", 2)]) (N := ["many", "needs", "work", "table", "a", "b", "amid", "k"]) (sc := defScope s_ahead_of) (by decide +kernel)) (fun _ _ _ _ _ => pg_name (i := 2) sc.nd rfl (Or.inl rfl)) (fun _ _ _ _ _ => pts_nil) (fun _ _ _ _ _ => (pe_lc (own := [("k", 7)]) (g := gName 7) (tt := tYes) rfl sc.nd (pi_range1 rfl (T.n "range") (pa_cons (pv 0) pa_nil)) (blkOk_by (own := [("k", 7)]) (N := ["many", "needs", "work", "table", "a", "b", "amid", "k"]) (sc := ⟨.function, [(".0", .local), ("work", .local), ("range", .globalImplicit), ("many", .cell)], false, false, []⟩) (by decide +kernel)) (fun _ _ _ _ _ => pg_name (i := 7) sc.nd rfl (Or.inl rfl)) (fun _ _ _ _ _ => pts_nil) (fun _ _ _ _ _ => pe_bl))))) (pss_cons (ps_for (passes_of rfl) rfl (pi_list (pv 1)) (pg_unl rfl (pgs_cons (pg_name (i := 4) sc.nd rfl (Or.inl rfl)) (pgs_cons (pg_name (i := 5) sc.nd rfl (Or.inl rfl)) pgs_nil))) (pss_cons (ps_if (PW.pt (pw_or (pt_cmpR op_lt (pv 4) pe_int (nomark _)) (pw_or (pt_cmpR op_ge (pv 4) (pv 0) (nomark _)) (pw_or (pt_cmpR op_lt (pv 5) pe_int (nomark _)) (pw_or1 (pt_cmpR op_ge (pv 5) (pv 0) (nomark _))))))) (pss_one (ps_raise rfl (takes_of rfl rfl rfl rfl) (pmk_own PySem.F.excBase_ValueError T.xO.1 (T.g "NoOrder") T.xO.2.1 (raises_own T.xO.2.2.1 T.xO.2.2.2) rfl))) pss_nil) (pss_one (ps_asg pe_bl (pg_sub (pe_ix ix_list (pv 3) (pv 4) (fun _ _ => rfl)) (pv 5) set_list))))) (pss_cons (ps_for (passes_of rfl) rfl (pi_range1 rfl (T.n "range") (pa_cons (pv 0) pa_nil)) (pg_name (i := 6) sc.nd rfl (Or.inr rfl)) (pss_one (ps_for (passes_of rfl) rfl (pi_range1 rfl (T.n "range") (pa_cons (pv 0) pa_nil)) (pg_name (i := 2) sc.nd rfl (Or.inr rfl)) (pss_one (ps_if (pt_val (pe_ix ix_list (pe_ix ix_list (pv 3) (pv 2) (fun _ _ => rfl)) (pv 6) (fun _ _ => rfl))) (pss_one (ps_asg (pe_lc (own := [("k", 7)]) (g := gName 7) (tt := tYes) rfl sc.nd (pi_range1 rfl (T.n "range") (pa_cons (pv 0) pa_nil)) (blkOk_by (own := [("k", 7)]) (N := ["many", "needs", "work", "table", "a", "b", "amid", "k"]) (sc := defScope s_ahead_of) (by decide +kernel)) (fun _ _ _ _ _ => pg_name (i := 7) sc.nd rfl (Or.inl rfl)) (fun _ _ _ _ _ => pts_nil) (fun _ _ _ _ _ => (pe_or (pe_ix (r := rIxL K) ix_list (pe_ix (r := rIxL K) ix_list (pv 3) (pv 2) (fun _ _ => rfl)) (pv 7) (fun _ _ => rfl)) (pe_one (pe_ix (r := rIxL K) ix_list (pe_ix (r := rIxL K) ix_list (pv 3) (pv 6) (fun _ _ => rfl)) (pv 7) (fun _ _ => rfl)))))) (pg_sub (pv 3) (pv 2) set_list))) pss_nil))))) (pss_cons (ps_for (passes_of rfl) rfl (pi_range1 rfl (T.n "range") (pa_cons (pv 0) pa_nil)) (pg_name (i := 2) sc.nd rfl (Or.inr rfl)) (pss_one (ps_if (pt_val (pe_ix ix_list (pe_ix ix_list (pv 3) (pv 2) (fun _ _ => rfl)) (pv 2) (fun _ _ => rfl))) (pss_one (ps_raise rfl (takes_of rfl rfl rfl rfl) (pmk_own PySem.F.excBase_ValueError T.xO.1 (T.g "NoOrder") T.xO.2.1 (raises_own T.xO.2.2.1 T.xO.2.2.2) rfl))) pss_nil))) pss_never)))), ?_⟩
  obtain ⟨p, q, rfl, hp, hq, hE⟩ := h
  simp only [tSeq, tIfS, tOr, tAnd, tNot, tTest, tB, tOp, tCB, tCons, tNil, tVar, tC, tRet, tRetN, tNext, tDrop, tAsg, gName, gNil, gCons, gTup, gSub, tAug, tAugS, ipI, tCall, tMeth, tMake, tCmp, tAndV, tOrV, tNotV, tIf, tChain, tTup, tLst, tSl, tPart, tNoPart, tBM, tM0, tM1, tUn, rU, tFld, tCallS, tCKw, rIn, tMethF, tMethS, rEq, rNe, rI, rI0, rIxL, rIxT, rIxS, rSub, rSlL, C8.rSlX, rNewStrs, tMake0, cxK, cxNK, tLc_list, tLc_rng1, tFor_list, tFor_str, tFor_rng1, tYes, wipe, L2.start, List.map_cons, List.map_nil, List.length_cons, List.length_nil, List.replicate, List.cons_append, List.nil_append, List.append_nil, Nat.reduceAdd, Nat.reduceSub, List.getElem?_cons_zero, List.getElem?_cons_succ, List.set_cons_zero, List.set_cons_succ, Option.some.injEq, exists_eq_left', exists_eq_left, exists_eq', and_true, true_and, exists_eq_right, exists_const, V.int.injEq, V.str.injEq, V.bl.injEq, V.ref.injEq, List.cons.injEq, scal_ii, scal_ss, scal_bb, decide_eq_true_eq, Bool.not_eq_true', decide_eq_false_iff_not, if_true, if_false, Bool.false_eq_true, exists_and_left, S_len, sz_le]
  refine ⟨by decide, by decide, fun D hD => ?_⟩
  refine lc_mapW (xs := rngL 2) walk_rngL rfl (fun i y H' => ∃ r, y = .ref r ∧ r ≠ D ∧ Fr H r ∧ H' r = some (.lst [.bl false, .bl false])) (by decide) (fun _ _ _ => trivial) hD (fun j y H1 H2 st h => by
    obtain ⟨r, e1, e2, e3, e4⟩ := h
    exact ⟨r, e1, e2, e3, st _ _ e2 e4 (nt_lst _)⟩) (fun _ => True) (fun _ => trivial) (fun _ _ _ _ => trivial) (fun i x H1 Qy hx e1 _ hacc hy => ?_) (fun H1 acc e1 _ hacc hl hR => ?_)
  · refine ⟨rfl, ?_⟩
    simp only [tSeq, tIfS, tOr, tAnd, tNot, tTest, tB, tOp, tCB, tCons, tNil, tVar, tC, tRet, tRetN, tNext, tDrop, tAsg, gName, gNil, gCons, gTup, gSub, tAug, tAugS, ipI, tCall, tMeth, tMake, tCmp, tAndV, tOrV, tNotV, tIf, tChain, tTup, tLst, tSl, tPart, tNoPart, tBM, tM0, tM1, tUn, rU, tFld, tCallS, tCKw, rIn, tMethF, tMethS, rEq, rNe, rI, rI0, rIxL, rIxT, rIxS, rSub, rSlL, C8.rSlX, rNewStrs, tMake0, cxK, cxNK, tLc_list, tLc_rng1, tFor_list, tFor_str, tFor_rng1, tYes, wipe, L2.start, List.map_cons, List.map_nil, List.length_cons, List.length_nil, List.replicate, List.cons_append, List.nil_append, List.append_nil, Nat.reduceAdd, Nat.reduceSub, List.getElem?_cons_zero, List.getElem?_cons_succ, List.set_cons_zero, List.set_cons_succ, Option.some.injEq, exists_eq_left', exists_eq_left, exists_eq', and_true, true_and, exists_eq_right, exists_const, V.int.injEq, V.str.injEq, V.bl.injEq, V.ref.injEq, List.cons.injEq, scal_ii, scal_ss, scal_bb, decide_eq_true_eq, Bool.not_eq_true', decide_eq_false_iff_not, if_true, if_false, Bool.false_eq_true, exists_and_left, S_len, sz_le]
    refine ⟨by decide, by decide, fun D2 hD2 => ?_⟩
    refine lc_pureW (xs := rngL 2) walk_rngL rfl (fun _ => some (.bl false)) (by decide) (fun _ => trivial) (fun i x acc Qy Qn hx hy hn => ?_) ?_
    · refine ⟨rfl, ?_⟩
      simp only [tSeq, tIfS, tOr, tAnd, tNot, tTest, tB, tOp, tCB, tCons, tNil, tVar, tC, tRet, tRetN, tNext, tDrop, tAsg, gName, gNil, gCons, gTup, gSub, tAug, tAugS, ipI, tCall, tMeth, tMake, tCmp, tAndV, tOrV, tNotV, tIf, tChain, tTup, tLst, tSl, tPart, tNoPart, tBM, tM0, tM1, tUn, rU, tFld, tCallS, tCKw, rIn, tMethF, tMethS, rEq, rNe, rI, rI0, rIxL, rIxT, rIxS, rSub, rSlL, C8.rSlX, rNewStrs, tMake0, cxK, cxNK, tLc_list, tLc_rng1, tFor_list, tFor_str, tFor_rng1, tYes, wipe, L2.start, List.map_cons, List.map_nil, List.length_cons, List.length_nil, List.replicate, List.cons_append, List.nil_append, List.append_nil, Nat.reduceAdd, Nat.reduceSub, List.getElem?_cons_zero, List.getElem?_cons_succ, List.set_cons_zero, List.set_cons_succ, Option.some.injEq, exists_eq_left', exists_eq_left, exists_eq', and_true, true_and, exists_eq_right, exists_const, V.int.injEq, V.str.injEq, V.bl.injEq, V.ref.injEq, List.cons.injEq, scal_ii, scal_ss, scal_bb, decide_eq_true_eq, Bool.not_eq_true', decide_eq_false_iff_not, if_true, if_false, Bool.false_eq_true, exists_and_left, S_len, sz_le]
      exact hy _ rfl
    · refine hy _ _ (Lf.extN_upd hD2) trivial ⟨D2, rfl, fun z => ?_, ExtN.fr e1 hD2, upd_same⟩
      obtain ⟨a, ha⟩ := hacc
      rw [z, ha] at hD2
      cases hD2
  · have hS : ∀ H', ExtN H H' → SqL K H' p [.ref q] := fun H' e => SqL.of (e _ _ hp (nt_lst _))
    have hS2 : ∀ H', ExtN H H' → SqL K H' q [.int 0, .int 0] := fun H' e => SqL.of (e _ _ hq (nt_lst _))
    have t0 : Tab H D false H1 := by
      match acc, hl with
      | [y0, y1], _ =>
        obtain ⟨r0, rfl, _, f0, h0⟩ := hR 0 y0 rfl
        obtain ⟨r1, rfl, _, f1, h1⟩ := hR 1 y1 rfl
        exact ⟨r0, r1, false, false, false, false, hacc, h0, h1, (fun z => by cases z), f0, f1, Fr.of_none hD⟩
    refine ⟨⟨_, hS _ e1⟩, for_w (xs := [.ref q]) walk_list (fun i σ H' => ExtN H H' ∧ Tab H D (decide (1 ≤ i)) H' ∧ ∃ a b c d e, σ = [some (.int 2), some (.ref p), a, some (.ref D), b, c, d, e]) ⟨e1, t0, _, _, _, _, _, rfl⟩ (fun i σ H' _ z => hS _ z.1) (fun i x σ H' hx z => ?_) (fun σ H' z => ?_)⟩
    · obtain ⟨e2, t2, u1, u2, u3, u4, u5, rfl⟩ := z
      match i, hx with
      | 0, hx =>
        obtain rfl : V.ref q = x := Option.some.inj hx
        refine ⟨q, _, rfl, hS2 _ e2, rfl, ?_⟩
        simp only [tSeq, tIfS, tOr, tAnd, tNot, tTest, tB, tOp, tCB, tCons, tNil, tVar, tC, tRet, tRetN, tNext, tDrop, tAsg, gName, gNil, gCons, gTup, gSub, tAug, tAugS, ipI, tCall, tMeth, tMake, tCmp, tAndV, tOrV, tNotV, tIf, tChain, tTup, tLst, tSl, tPart, tNoPart, tBM, tM0, tM1, tUn, rU, tFld, tCallS, tCKw, rIn, tMethF, tMethS, rEq, rNe, rI, rI0, rIxL, rIxT, rIxS, rSub, rSlL, C8.rSlX, rNewStrs, tMake0, cxK, cxNK, tLc_list, tLc_rng1, tFor_list, tFor_str, tFor_rng1, tYes, wipe, L2.start, List.map_cons, List.map_nil, List.length_cons, List.length_nil, List.replicate, List.cons_append, List.nil_append, List.append_nil, Nat.reduceAdd, Nat.reduceSub, List.getElem?_cons_zero, List.getElem?_cons_succ, List.set_cons_zero, List.set_cons_succ, Option.some.injEq, exists_eq_left', exists_eq_left, exists_eq', and_true, true_and, exists_eq_right, exists_const, V.int.injEq, V.str.injEq, V.bl.injEq, V.ref.injEq, List.cons.injEq, scal_ii, scal_ss, scal_bb, decide_eq_true_eq, Bool.not_eq_true', decide_eq_false_iff_not, if_true, if_false, Bool.false_eq_true, exists_and_left, S_len, sz_le]
        obtain ⟨r0, r1, a, b, c, d, hDD, h0, h1, ha, f0, f1, fD⟩ := t2
        refine ⟨_, _, ⟨rfl, rfl⟩, _, _, rfl, rfl, _, rfl, ite2 (fun e => absurd e (by decide)) fun _ => ⟨_, rfl, ite2 (fun e => absurd e (by decide)) fun _ => ⟨_, rfl, ite2 (fun e => absurd e (by decide)) fun _ => ⟨_, rfl, ite2 (fun e => absurd e (by decide)) fun _ => ⟨_, _, rfl, SqL.of hDD, _, atI_nat (j := 0) rfl, r0, _, _, 0, rfl, rfl, h0, rfl, ExtN.upF e2 f0, ?_⟩⟩⟩⟩⟩
        exact ⟨r0, r1, true, b, _, _, by rw [upd_ne (fun z => by rw [z, h0] at hDD; cases hDD)]; exact hDD, upd_same, (row_upd (r := r1) h1).choose_spec.choose_spec, fun _ => rfl, f0, f1, fD⟩
    · obtain ⟨e2, t2, u1, u2, u3, u4, u5, rfl⟩ := z
      simp only [tSeq, tIfS, tOr, tAnd, tNot, tTest, tB, tOp, tCB, tCons, tNil, tVar, tC, tRet, tRetN, tNext, tDrop, tAsg, gName, gNil, gCons, gTup, gSub, tAug, tAugS, ipI, tCall, tMeth, tMake, tCmp, tAndV, tOrV, tNotV, tIf, tChain, tTup, tLst, tSl, tPart, tNoPart, tBM, tM0, tM1, tUn, rU, tFld, tCallS, tCKw, rIn, tMethF, tMethS, rEq, rNe, rI, rI0, rIxL, rIxT, rIxS, rSub, rSlL, C8.rSlX, rNewStrs, tMake0, cxK, cxNK, tLc_list, tLc_rng1, tFor_list, tFor_str, tFor_rng1, tYes, wipe, L2.start, List.map_cons, List.map_nil, List.length_cons, List.length_nil, List.replicate, List.cons_append, List.nil_append, List.append_nil, Nat.reduceAdd, Nat.reduceSub, List.getElem?_cons_zero, List.getElem?_cons_succ, List.set_cons_zero, List.set_cons_succ, Option.some.injEq, exists_eq_left', exists_eq_left, exists_eq', and_true, true_and, exists_eq_right, exists_const, V.int.injEq, V.str.injEq, V.bl.injEq, V.ref.injEq, List.cons.injEq, scal_ii, scal_ss, scal_bb, decide_eq_true_eq, Bool.not_eq_true', decide_eq_false_iff_not, if_true, if_false, Bool.false_eq_true, exists_and_left, S_len, sz_le]
      refine ⟨by decide, by decide, for_w (xs := rngL 2) walk_rngL (fun i σ H' => ExtN H H' ∧ Tab H D true H' ∧ ∃ a b c d e, σ = [some (.int 2), some (.ref p), a, some (.ref D), b, c, d, e]) ⟨e2, t2, _, _, _, _, _, rfl⟩ (fun _ _ _ _ _ => trivial) (fun i x σ H2 hx z => ?_) (fun σ H2 z => ?_)⟩
      · obtain ⟨e3, t3, v1, v2, v3, v4, v5, rfl⟩ := z
        have hi : i < 2 := (List.getElem?_eq_some_iff.mp hx).1
        rw [rngL_get hi] at hx
        obtain rfl := Option.some.inj hx
        simp only [tSeq, tIfS, tOr, tAnd, tNot, tTest, tB, tOp, tCB, tCons, tNil, tVar, tC, tRet, tRetN, tNext, tDrop, tAsg, gName, gNil, gCons, gTup, gSub, tAug, tAugS, ipI, tCall, tMeth, tMake, tCmp, tAndV, tOrV, tNotV, tIf, tChain, tTup, tLst, tSl, tPart, tNoPart, tBM, tM0, tM1, tUn, rU, tFld, tCallS, tCKw, rIn, tMethF, tMethS, rEq, rNe, rI, rI0, rIxL, rIxT, rIxS, rSub, rSlL, C8.rSlX, rNewStrs, tMake0, cxK, cxNK, tLc_list, tLc_rng1, tFor_list, tFor_str, tFor_rng1, tYes, wipe, L2.start, List.map_cons, List.map_nil, List.length_cons, List.length_nil, List.replicate, List.cons_append, List.nil_append, List.append_nil, Nat.reduceAdd, Nat.reduceSub, List.getElem?_cons_zero, List.getElem?_cons_succ, List.set_cons_zero, List.set_cons_succ, Option.some.injEq, exists_eq_left', exists_eq_left, exists_eq', and_true, true_and, exists_eq_right, exists_const, V.int.injEq, V.str.injEq, V.bl.injEq, V.ref.injEq, List.cons.injEq, scal_ii, scal_ss, scal_bb, decide_eq_true_eq, Bool.not_eq_true', decide_eq_false_iff_not, if_true, if_false, Bool.false_eq_true, exists_and_left, S_len, sz_le]
        refine ⟨by decide, by decide, for_w (xs := rngL 2) walk_rngL (fun k σ H' => ExtN H H' ∧ Tab H D true H' ∧ ∃ a b c e, σ = [some (.int 2), some (.ref p), a, some (.ref D), b, c, some (.int (i : Nat)), e]) ⟨e3, t3, _, _, _, _, rfl⟩ (fun _ _ _ _ _ => trivial) (fun k x σ H3 hx z => ?_) (fun σ H3 z => ?_)⟩
        · obtain ⟨e4, t4, w1, w2, w3, w5, rfl⟩ := z
          have hk : k < 2 := (List.getElem?_eq_some_iff.mp hx).1
          rw [rngL_get hk] at hx
          obtain rfl := Option.some.inj hx
          obtain ⟨r0, r1, hDD, hrow, fD⟩ := t4.get
          obtain ⟨r, x0, x1, gr, hr1, hx0⟩ := hrow k hk
          obtain ⟨s, y0, y1, gs, hs1, hy0⟩ := hrow i hi
          obtain ⟨cz, hcz⟩ : ∃ z, [V.bl x0, V.bl x1][i]? = some (.bl z) := by
            match i, hi with
            | 0, _ => exact ⟨x0, rfl⟩
            | 1, _ => exact ⟨x1, rfl⟩
          simp only [tSeq, tIfS, tOr, tAnd, tNot, tTest, tB, tOp, tCB, tCons, tNil, tVar, tC, tRet, tRetN, tNext, tDrop, tAsg, gName, gNil, gCons, gTup, gSub, tAug, tAugS, ipI, tCall, tMeth, tMake, tCmp, tAndV, tOrV, tNotV, tIf, tChain, tTup, tLst, tSl, tPart, tNoPart, tBM, tM0, tM1, tUn, rU, tFld, tCallS, tCKw, rIn, tMethF, tMethS, rEq, rNe, rI, rI0, rIxL, rIxT, rIxS, rSub, rSlL, C8.rSlX, rNewStrs, tMake0, cxK, cxNK, tLc_list, tLc_rng1, tFor_list, tFor_str, tFor_rng1, tYes, wipe, L2.start, List.map_cons, List.map_nil, List.length_cons, List.length_nil, List.replicate, List.cons_append, List.nil_append, List.append_nil, Nat.reduceAdd, Nat.reduceSub, List.getElem?_cons_zero, List.getElem?_cons_succ, List.set_cons_zero, List.set_cons_succ, Option.some.injEq, exists_eq_left', exists_eq_left, exists_eq', and_true, true_and, exists_eq_right, exists_const, V.int.injEq, V.str.injEq, V.bl.injEq, V.ref.injEq, List.cons.injEq, scal_ii, scal_ss, scal_bb, decide_eq_true_eq, Bool.not_eq_true', decide_eq_false_iff_not, if_true, if_false, Bool.false_eq_true, exists_and_left, S_len, sz_le]
          refine ⟨_, SqL.of hDD, _, atI_nat gr, r, rfl, _, SqL.of hr1, _, atI_nat hcz, cz, rfl, ite2 (fun _ => ?_) fun _ => ⟨e4, t4⟩⟩
          refine ⟨by decide, by decide, fun D2 hD2 => ?_⟩
          have up : ∀ {b : Addr} {o u : HO}, H3 b = some o → (upd H3 D2 u) b = some o := fun {b o u} e => by
            rw [upd_ne (fun z => by rw [z, hD2] at e; cases e)]
            exact e
          refine lc_pureW (xs := rngL 2) walk_rngL rfl (fun v => match v with | .int z => some (.bl (if z = 0 then x0 || y0 else x1 || y1)) | _ => none) (by decide) (fun _ => trivial) (fun j x acc Qy Qn hx hy hn => ?_) ?_
          · have hj : j < 2 := (List.getElem?_eq_some_iff.mp hx).1
            rw [rngL_get hj] at hx
            obtain rfl := Option.some.inj hx
            refine ⟨rfl, ?_⟩
            obtain ⟨xz, hxz⟩ : ∃ z, [V.bl x0, V.bl x1][j]? = some (.bl z) ∧ z = (if ((j : Nat) : Int) = 0 then x0 else x1) := by
              match j, hj with
              | 0, _ => exact ⟨x0, rfl, rfl⟩
              | 1, _ => exact ⟨x1, rfl, rfl⟩
            obtain ⟨yz, hyz⟩ : ∃ z, [V.bl y0, V.bl y1][j]? = some (.bl z) ∧ z = (if ((j : Nat) : Int) = 0 then y0 else y1) := by
              match j, hj with
              | 0, _ => exact ⟨y0, rfl, rfl⟩
              | 1, _ => exact ⟨y1, rfl, rfl⟩
            have ez : (if ((j : Nat) : Int) = 0 then x0 || y0 else x1 || y1) = (xz || yz) := by
              rw [hxz.2, hyz.2]
              split <;> rfl
            replace hy := hy (.bl (xz || yz)) (by rw [← ez])
            simp only [tSeq, tIfS, tOr, tAnd, tNot, tTest, tB, tOp, tCB, tCons, tNil, tVar, tC, tRet, tRetN, tNext, tDrop, tAsg, gName, gNil, gCons, gTup, gSub, tAug, tAugS, ipI, tCall, tMeth, tMake, tCmp, tAndV, tOrV, tNotV, tIf, tChain, tTup, tLst, tSl, tPart, tNoPart, tBM, tM0, tM1, tUn, rU, tFld, tCallS, tCKw, rIn, tMethF, tMethS, rEq, rNe, rI, rI0, rIxL, rIxT, rIxS, rSub, rSlL, C8.rSlX, rNewStrs, tMake0, cxK, cxNK, tLc_list, tLc_rng1, tFor_list, tFor_str, tFor_rng1, tYes, wipe, L2.start, List.map_cons, List.map_nil, List.length_cons, List.length_nil, List.replicate, List.cons_append, List.nil_append, List.append_nil, Nat.reduceAdd, Nat.reduceSub, List.getElem?_cons_zero, List.getElem?_cons_succ, List.set_cons_zero, List.set_cons_succ, Option.some.injEq, exists_eq_left', exists_eq_left, exists_eq', and_true, true_and, exists_eq_right, exists_const, V.int.injEq, V.str.injEq, V.bl.injEq, V.ref.injEq, List.cons.injEq, scal_ii, scal_ss, scal_bb, decide_eq_true_eq, Bool.not_eq_true', decide_eq_false_iff_not, if_true, if_false, Bool.false_eq_true, exists_and_left, S_len, sz_le]
            refine ⟨_, SqL.of (up hDD), _, atI_nat gr, r, rfl, _, SqL.of (up hr1), _, atI_nat hxz.1, xz, rfl, ?_⟩
            cases xz with
            | true => exact hy
            | false => exact ⟨_, SqL.of (up hDD), _, atI_nat gs, s, rfl, _, SqL.of (up hs1), _, atI_nat hyz.1, hy⟩
          · have hr2 : (rngL 2).filterMap (fun v => match v with | .int z => some (V.bl (if z = 0 then x0 || y0 else x1 || y1)) | _ => none) = [.bl (x0 || y0), .bl (x1 || y1)] := rfl
            rw [hr2]
            obtain ⟨g0, g1, G0, G1, GG⟩ : ∃ g0 g1, H3 g0 = H3 g0 ∧ H3 g1 = H3 g1 ∧ g0 = r0 ∧ g1 = r1 := ⟨r0, r1, rfl, rfl, rfl, rfl⟩
            refine ⟨D, _, k, k, rfl, rfl, up hDD, ?_, ?_⟩
            · match k, hk with
              | 0, _ => rfl
              | 1, _ => rfl
            · obtain ⟨q0, q1, hq1, hrow1, _, F0, F1⟩ := t4.get
              rw [hDD] at hq1
              cases hq1
              refine ⟨ExtN.upF (ExtN.upF e4 (ExtN.fr e4 hD2)) fD.1, ?_⟩
              exact Tab.put t4 hDD hD2 (ExtN.fr e4 hD2) hk fun z => by
                subst z
                rw [hx0 rfl rfl, Bool.true_or]
        · obtain ⟨e4, t4, w1, w2, w3, w5, rfl⟩ := z
          exact ⟨e4, t4, _, _, _, _, _, rfl⟩
      · obtain ⟨e3, t3, v1, v2, v3, v4, v5, rfl⟩ := z
        simp only [tSeq, tIfS, tOr, tAnd, tNot, tTest, tB, tOp, tCB, tCons, tNil, tVar, tC, tRet, tRetN, tNext, tDrop, tAsg, gName, gNil, gCons, gTup, gSub, tAug, tAugS, ipI, tCall, tMeth, tMake, tCmp, tAndV, tOrV, tNotV, tIf, tChain, tTup, tLst, tSl, tPart, tNoPart, tBM, tM0, tM1, tUn, rU, tFld, tCallS, tCKw, rIn, tMethF, tMethS, rEq, rNe, rI, rI0, rIxL, rIxT, rIxS, rSub, rSlL, C8.rSlX, rNewStrs, tMake0, cxK, cxNK, tLc_list, tLc_rng1, tFor_list, tFor_str, tFor_rng1, tYes, wipe, L2.start, List.map_cons, List.map_nil, List.length_cons, List.length_nil, List.replicate, List.cons_append, List.nil_append, List.append_nil, Nat.reduceAdd, Nat.reduceSub, List.getElem?_cons_zero, List.getElem?_cons_succ, List.set_cons_zero, List.set_cons_succ, Option.some.injEq, exists_eq_left', exists_eq_left, exists_eq', and_true, true_and, exists_eq_right, exists_const, V.int.injEq, V.str.injEq, V.bl.injEq, V.ref.injEq, List.cons.injEq, scal_ii, scal_ss, scal_bb, decide_eq_true_eq, Bool.not_eq_true', decide_eq_false_iff_not, if_true, if_false, Bool.false_eq_true, exists_and_left, S_len, sz_le]
        refine ⟨by decide, by decide, for_w (xs := rngL 2) walk_rngL (fun i σ H' => i = 0 ∧ H' = H2 ∧ ∃ a b c d e, σ = [some (.int 2), some (.ref p), a, some (.ref D), b, c, d, e]) ⟨rfl, rfl, _, _, _, _, _, rfl⟩ (fun _ _ _ _ _ => trivial) (fun i x σ H3 hx z => ?_) (fun σ H3 z => absurd z.1 (by decide))⟩
        obtain ⟨rfl, rfl, w1, w2, w3, w4, w5, rfl⟩ := z
        obtain rfl : V.int 0 = x := Option.some.inj hx
        obtain ⟨r0, r1, hDD, hrow, fD⟩ := t3.get
        obtain ⟨r, x0, x1, gr, hr1, hx0⟩ := hrow 0 (by decide)
        simp only [tSeq, tIfS, tOr, tAnd, tNot, tTest, tB, tOp, tCB, tCons, tNil, tVar, tC, tRet, tRetN, tNext, tDrop, tAsg, gName, gNil, gCons, gTup, gSub, tAug, tAugS, ipI, tCall, tMeth, tMake, tCmp, tAndV, tOrV, tNotV, tIf, tChain, tTup, tLst, tSl, tPart, tNoPart, tBM, tM0, tM1, tUn, rU, tFld, tCallS, tCKw, rIn, tMethF, tMethS, rEq, rNe, rI, rI0, rIxL, rIxT, rIxS, rSub, rSlL, C8.rSlX, rNewStrs, tMake0, cxK, cxNK, tLc_list, tLc_rng1, tFor_list, tFor_str, tFor_rng1, tYes, wipe, L2.start, List.map_cons, List.map_nil, List.length_cons, List.length_nil, List.replicate, List.cons_append, List.nil_append, List.append_nil, Nat.reduceAdd, Nat.reduceSub, List.getElem?_cons_zero, List.getElem?_cons_succ, List.set_cons_zero, List.set_cons_succ, Option.some.injEq, exists_eq_left', exists_eq_left, exists_eq', and_true, true_and, exists_eq_right, exists_const, V.int.injEq, V.str.injEq, V.bl.injEq, V.ref.injEq, List.cons.injEq, scal_ii, scal_ss, scal_bb, decide_eq_true_eq, Bool.not_eq_true', decide_eq_false_iff_not, if_true, if_false, Bool.false_eq_true, exists_and_left, S_len, sz_le]
        refine ⟨_, SqL.of hDD, _, atI_nat (j := 0) gr, r, rfl, _, SqL.of hr1, _, atI_nat (j := 0) rfl, x0, rfl, ite2 (fun _ => hE _ e3) fun e => absurd (hx0 rfl rfl) (by simpa using e)⟩
theorem sc_Pairs_fits : FnScope ["self", "rows", "row", "found"] ["self", "rows"] (defScope s_Pairs_fits) := ⟨rfl, rfl, rfl, by decide +kernel, rfl, by decide +kernel, by decide +kernel⟩
theorem ok_Pairs_fits (T : Txt w K mg) : Dok P w K mg base CX0 2 (ma K "Pairs" "fits") ["self", "rows"] (spFits 5) := by
  obtain ⟨fd, F⟩ := T.d_Pairs_fits
  have sc := sc_Pairs_fits
  have D_is_count := ok_is_count (P := P) (base := base) T
  have D_ahead_of := ok_ahead_of (P := P) (base := base) T
  refine ⟨fd, F.ok sc (fun vs H Q E h => ?_) (fun cdv A outer s H vs Q E hr h => ?_), F.bindsN fun _ _ _ _ _ _ us hl => match us, hl with | [_, _], _ => rfl, F.kp⟩
  · obtain ⟨v, p, rs, b, rfl, _⟩ := h
    rfl
  refine ⟨_, PSs.nox (pss_cons (ps_if (pt_not (pt_val (pe_f D_is_count hr (T.g "is_count") (pa_cons (pv 1) (pa_cons pe_int (pa_cons pe_int pa_nil)))))) (pss_one (ps_ret pe_bl)) pss_nil) (pss_cons (ps_for PassesOwn.never rfl (pi_list (pe_slice sl_list (pv 1) (po_some pe_int) po_none)) (pg_name (i := 2) sc.nd rfl (Or.inl rfl)) (pss_one (ps_if (pt_cmpR op_ne (pe_callB call_len_seq rfl (T.n "len") PySem.boot_len (pa_cons (pv 2) pa_nil)) pe_int (nomark _)) (pss_one (ps_ret pe_bl)) pss_nil))) (pss_one (ps_try_onlyE pss_never rfl rfl ⟨rfl, by decide, .inl (T.g "NoOrder")⟩ L2.takes0 (fun W pn xe tk _ => pss_one (ps_set (i := 3) sc.nd rfl (Or.inl rfl) (pe_fS D_ahead_of hr (T.g "ahead_of") tk (pa_cons (pe_ix (r := rIxL K) ix_list (pe_ix (r := rIxL K) ix_list (pv 1) pe_int (fun _ _ => rfl)) pe_int (fun _ _ => rfl)) (pa_cons (pe_slice (r := rSlL K) sl_list (pv 1) (po_some pe_int) po_none) pa_nil))))) (fun a oe cls d pn _ _ => pss_one (ps_ret pe_bl)))))), ?_⟩
  obtain ⟨v, p, rs, b, rfl, hp, hf, hQ⟩ := h
  have hp0 := hp
  obtain ⟨rfl, rfl⟩ : rs = [[2], [0, 0]] ∧ b = false := by
    replace hf : fitsM 5 rs = some b := hf
    unfold fitsM at hf
    simpa using hf
  obtain ⟨q1, q2, h1, h2, h3⟩ := rows2 hp
  simp only [tSeq, tIfS, tOr, tAnd, tNot, tTest, tB, tOp, tCB, tCons, tNil, tVar, tC, tRet, tRetN, tNext, tDrop, tAsg, gName, gNil, gCons, gTup, gSub, tAug, tAugS, ipI, tCall, tMeth, tMake, tCmp, tAndV, tOrV, tNotV, tIf, tChain, tTup, tLst, tSl, tPart, tNoPart, tBM, tM0, tM1, tUn, rU, tFld, tCallS, tCKw, rIn, tMethF, tMethS, rEq, rNe, rI, rI0, rIxL, rIxT, rIxS, rSub, rSlL, C8.rSlX, rNewStrs, tMake0, cxK, cxNK, tLc_list, tLc_rng1, tFor_list, tFor_str, tFor_rng1, tYes, wipe, L2.start, List.map_cons, List.map_nil, List.length_cons, List.length_nil, List.replicate, List.cons_append, List.nil_append, List.append_nil, Nat.reduceAdd, Nat.reduceSub, List.getElem?_cons_zero, List.getElem?_cons_succ, List.set_cons_zero, List.set_cons_succ, Option.some.injEq, exists_eq_left', exists_eq_left, exists_eq', and_true, true_and, exists_eq_right, exists_const, V.int.injEq, V.str.injEq, V.bl.injEq, V.ref.injEq, List.cons.injEq, scal_ii, scal_ss, scal_bb, decide_eq_true_eq, Bool.not_eq_true', decide_eq_false_iff_not, if_true, if_false, Bool.false_eq_true, exists_and_left, S_len, sz_le]
  refine ⟨p, _, 0, 14, rfl, hp0, _, rfl, ite2 (fun e => by cases e) fun _ => ⟨_, SqL.of h1, fun p1 hp1 => ?_⟩⟩
  have ec : cutV [V.ref q1, V.ref q2] (some 1) none = [V.ref q2] := rfl
  rw [ec]
  have up : ∀ {b : Addr} {o u : HO}, H b = some o → (upd H p1 u) b = some o := fun {b o u} e => by
    rw [upd_ne (fun z => by rw [z, hp1] at e; cases e)]
    exact e
  refine ⟨⟨_, SqL.of upd_same⟩, for_w (xs := [.ref q2]) walk_list (fun i σ H' => H' = upd H p1 (.lst [.ref q2]) ∧ ∃ u, σ = [some v, some (V.ref p), u, none]) ⟨rfl, _, rfl⟩ (fun i σ H' _ z => by rw [z.1]; exact SqL.of upd_same) (fun i x σ H' hx z => ?_) (fun σ H' z => ?_)⟩
  · obtain ⟨rfl, u, rfl⟩ := z
    match i, hx with
    | 0, hx =>
      obtain rfl : V.ref q2 = x := Option.some.inj hx
      simp only [tSeq, tIfS, tOr, tAnd, tNot, tTest, tB, tOp, tCB, tCons, tNil, tVar, tC, tRet, tRetN, tNext, tDrop, tAsg, gName, gNil, gCons, gTup, gSub, tAug, tAugS, ipI, tCall, tMeth, tMake, tCmp, tAndV, tOrV, tNotV, tIf, tChain, tTup, tLst, tSl, tPart, tNoPart, tBM, tM0, tM1, tUn, rU, tFld, tCallS, tCKw, rIn, tMethF, tMethS, rEq, rNe, rI, rI0, rIxL, rIxT, rIxS, rSub, rSlL, C8.rSlX, rNewStrs, tMake0, cxK, cxNK, tLc_list, tLc_rng1, tFor_list, tFor_str, tFor_rng1, tYes, wipe, L2.start, List.map_cons, List.map_nil, List.length_cons, List.length_nil, List.replicate, List.cons_append, List.nil_append, List.append_nil, Nat.reduceAdd, Nat.reduceSub, List.getElem?_cons_zero, List.getElem?_cons_succ, List.set_cons_zero, List.set_cons_succ, Option.some.injEq, exists_eq_left', exists_eq_left, exists_eq', and_true, true_and, exists_eq_right, exists_const, V.int.injEq, V.str.injEq, V.bl.injEq, V.ref.injEq, List.cons.injEq, scal_ii, scal_ss, scal_bb, decide_eq_true_eq, Bool.not_eq_true', decide_eq_false_iff_not, if_true, if_false, Bool.false_eq_true, exists_and_left, S_len, sz_le]
      exact ⟨_, .inl (SqL.of (up h3)), ite2 (fun e => absurd rfl e) fun _ => trivial⟩
  · obtain ⟨rfl, u, rfl⟩ := z
    simp only [tSeq, tIfS, tOr, tAnd, tNot, tTest, tB, tOp, tCB, tCons, tNil, tVar, tC, tRet, tRetN, tNext, tDrop, tAsg, gName, gNil, gCons, gTup, gSub, tAug, tAugS, ipI, tCall, tMeth, tMake, tCmp, tAndV, tOrV, tNotV, tIf, tChain, tTup, tLst, tSl, tPart, tNoPart, tBM, tM0, tM1, tUn, rU, tFld, tCallS, tCKw, rIn, tMethF, tMethS, rEq, rNe, rI, rI0, rIxL, rIxT, rIxS, rSub, rSlL, C8.rSlX, rNewStrs, tMake0, cxK, cxNK, tLc_list, tLc_rng1, tFor_list, tFor_str, tFor_rng1, tYes, wipe, L2.start, List.map_cons, List.map_nil, List.length_cons, List.length_nil, List.replicate, List.cons_append, List.nil_append, List.append_nil, Nat.reduceAdd, Nat.reduceSub, List.getElem?_cons_zero, List.getElem?_cons_succ, List.set_cons_zero, List.set_cons_succ, Option.some.injEq, exists_eq_left', exists_eq_left, exists_eq', and_true, true_and, exists_eq_right, exists_const, V.int.injEq, V.str.injEq, V.bl.injEq, V.ref.injEq, List.cons.injEq, scal_ii, scal_ss, scal_bb, decide_eq_true_eq, Bool.not_eq_true', decide_eq_false_iff_not, if_true, if_false, Bool.false_eq_true, exists_and_left, S_len, sz_le]
    refine ⟨_, SqL.of (up h1), _, atI_nat (j := 0) rfl, q1, rfl, _, SqL.of (up h2), _, atI_nat (j := 0) rfl, _, SqL.of (up h1), fun p2 hp2 => ?_⟩
    rw [ec]
    have up2 : ∀ {b : Addr} {o w : HO}, (upd H p1 (.lst [.ref q2])) b = some o → (upd (upd H p1 (.lst [.ref q2])) p2 w) b = some o := fun {b o w} e => by
      rw [upd_ne (fun z => by rw [z, hp2] at e; cases e)]
      exact e
    exact ⟨p2, q2, rfl, upd_same, up2 (up h3), fun H' e => ⟨true, T.tO, fun _ a ha => hQ _ (((Lf.extN_upd hp1).trans (Lf.extN_upd hp2)).trans e), fun z => by cases z⟩⟩
theorem Dok.mono {CX : CXT} {j k : Nat} {f : Addr} {ps : List Str} {sp : Sp} (D : Dok P w K mg base CX j f ps sp) (h : j ≤ k := by decide) : Dok P w K mg base CX k f ps sp := by
  obtain ⟨fd, F, b, kp⟩ := D
  exact ⟨fd, F.mono h, b, kp⟩
theorem ok_fits (T : Txt w K mg) (i : Fin 6) : Dok P w K mg base CX0 3 (kF K "fits" i) ["self", "rows"] (spFits i) := by
  match i with
  | 0 => exact (ok_Alike_fits T).mono
  | 1 => exact (ok_Open_fits T).mono
  | 2 => exact (ok_Tails_fits T).mono
  | 3 => exact (ok_Windows_fits T).mono
  | 4 => exact ok_Tree_fits T
  | 5 => exact (ok_Pairs_fits T).mono
end
end Lf
set_option Elab.async false
set_option linter.all false
set_option maxRecDepth 100000
set_option maxHeartbeats 4000000
/-! read_floor, is_said. -/
namespace Lf
open PySem PySem.Spec PyProof.Rows L2 LfR LamX LfM SX
section
variable {P : Program} {w : World} {K : PySem.W.Frag} {mg : Str → Option Value} {base : Heap}
/-- a floor that stands: its word, its rows -/
def FloorAt (H : Hp) (v : V) (f : Fl) : Prop := ∃ t q, v = .ref t ∧ H t = some (.tup [.str (S (kindW f.1)), .ref q]) ∧ RowsAt H q f.2
theorem FloorAt.ext {H H' : Hp} {v : V} {f : Fl} (h : FloorAt H v f) (e : ExtN H H') : FloorAt H' v f := by
  obtain ⟨t, q, h1, h2, h3⟩ := h
  exact ⟨t, q, h1, e _ _ h2 (fun ps z => by cases z), h3.ext e⟩
def erC : Er → Str
  | .row => "NoRow"
  | .name => "NoName"
  | .text => "NoText"
  | .kind => "NoKind"
  | .floor => "NoFloor"
theorem kindIx_eq {a : Tx} {k : Nat} (h : kindIx a = some k) : a = kindW k := by
  unfold kindIx at h
  repeat' split at h
  all_goals first
    | (rename_i e; cases h; exact eq_of_beq e)
    | cases h
def rF (wd mo : Tx) : Out (Nat × Rows) := if !isWord wd then .err .text else match readRows mo with
    | none => .err .text
    | some rs => match kindIx wd with
      | none => .err .kind
      | some k => match fitsM k rs with
        | some true => .ok (k, rs)
        | some false => .err .floor
        | none => .out
theorem rF1 {wd mo : Tx} (h : isWord wd = false) : rF wd mo = .err .text := by
  unfold rF
  rw [h] <;> rfl
theorem rF2 {wd mo : Tx} (h : isWord wd = true) (h2 : readRows mo = none) : rF wd mo = .err .text := by
  unfold rF
  rw [h, h2] <;> rfl
theorem rF3 {wd mo : Tx} {rs : Rows} (h : isWord wd = true) (h2 : readRows mo = some rs) (h3 : kindIx wd = none) : rF wd mo = .err .kind := by
  unfold rF
  rw [h, h2]
  show (match kindIx wd with | none => Out.err Er.kind | some k => _) = _
  rw [h3]
theorem rF4 {wd mo : Tx} {rs : Rows} {k : Nat} (h : isWord wd = true) (h2 : readRows mo = some rs) (h3 : kindIx wd = some k) : rF wd mo = match fitsM k rs with
        | some true => .ok (k, rs)
        | some false => .err .floor
        | none => .out := by
  unfold rF
  rw [h, h2]
  show (match kindIx wd with | none => Out.err Er.kind | some k => match fitsM k rs with
        | some true => Out.ok (k, rs)
        | some false => .err .floor
        | none => .out) = _
  rw [h3]
theorem par_len {sep : Tx} : ∀ {acc l p q : Tx}, TL.par sep acc l = some (p, q) → p.length ≤ acc.length + l.length ∧ q.length ≤ l.length
  | acc, [], p, q, h => by cases h
  | acc, c :: r, p, q, h => by
    unfold TL.par at h
    split at h
    · cases h
      rw [List.length_drop]
      omega
    · have := par_len h
      rw [List.length_append, List.length_singleton] at this
      rw [List.length_cons]
      omega
theorem part_of (a : Tx) : ∃ wd bk mo, Txt.partition (S a) " " = (S wd, S bk, S mo) ∧ readFloor a = rF wd mo ∧ wd.length ≤ a.length ∧ mo.length ≤ a.length := by
  cases h : TL.par [32] [] a with
  | none =>
    refine ⟨a, [], [], partition_none (b := [32]) (by simp) h, ?_, Nat.le_refl _, Nat.zero_le _⟩
    unfold readFloor
    rw [h] <;> rfl
  | some r =>
    obtain ⟨p, q⟩ := r
    have := par_len h
    refine ⟨p, [32], q, partition_some (b := [32]) (by simp) h, ?_, by simpa using this.1, this.2⟩
    unfold readFloor
    rw [h] <;> rfl
def spReadFloor (K : PySem.W.Frag) : Sp := fun vs H Q E => ∃ a : Tx, vs = [.str (S a)] ∧ a.length ≤ 100000 ∧ readFloor a ≠ .out ∧ (∀ f, readFloor a = .ok f → ∀ H' v, ExtN H H' → FloorAt H' v f → Q v H') ∧ (∀ e, readFloor a = .err e → ∀ H', ExtN H H' → E (.ref (ga K (erC e))) none H')
theorem sc_read_floor : FnScope ["text", "word", "blank", "more", "rows"] ["text"] (defScope s_read_floor) := ⟨rfl, rfl, rfl, by decide +kernel, rfl, by decide +kernel, by decide +kernel⟩
theorem ok_read_floor (T : Txt w K mg) : Dok P w K mg base (L2.CX P w) 6 (ga K "read_floor") ["text"] (spReadFloor K) := by
  obtain ⟨fd, F⟩ := T.d_read_floor
  have sc := sc_read_floor
  have D_is_word := ok_is_word (P := P) (base := base) T
  have D_read_rows := ok_read_rows (P := P) (base := base) T
  have D_kind_of := ok_kind_of (P := P) (base := base) T
  refine ⟨fd, F.ok sc (fun vs H Q E h => ?_) (fun cdv A outer s H vs Q E hr h => ?_), F.bindsN fun _ _ _ _ _ _ us hl => match us, hl with | [_], _ => rfl, F.kp⟩
  · obtain ⟨a, rfl, _⟩ := h
    rfl
  refine ⟨_, (pss_cons (ps_asg (pe_partition (pv 0) pe_str) (pg_tup (by rfl) (pgs_cons (pg_name (i := 1) sc.nd rfl (Or.inl rfl)) (pgs_cons (pg_name (i := 2) sc.nd rfl (Or.inl rfl)) (pgs_cons (pg_name (i := 3) sc.nd rfl (Or.inl rfl)) pgs_nil))))) (pss_cons (ps_if (pt_not (pt_val (pe_f D_is_word hr (T.g "is_word") (pa_cons (pv 1) pa_nil)))) (pss_one (ps_raise rfl (takes_of rfl rfl rfl rfl) (pmk_own PySem.F.excBase_ValueError (T.x "NoText").1 (T.g "NoText") (T.x "NoText").2.1 (raises_own (T.x "NoText").2.2.1 (T.x "NoText").2.2.2) rfl))) pss_nil) (pss_cons (ps_set (i := 4) sc.nd rfl (Or.inl rfl) (pe_fX D_read_rows hr (T.g "read_rows") (pass_out (takes_of rfl rfl rfl rfl)) (pa_cons (pv 3) pa_nil))) (pss_cons (ps_if (pt_not (pt_val (pe_oF (fun i => ok_fits T i) hr (kCls T) (kFits T) (pe_fX D_kind_of hr (T.g "kind_of") (pass_out (takes_of rfl rfl rfl rfl)) (pa_cons (pv 1) pa_nil)) pass0 (pa_cons (pv 4) pa_nil)))) (pss_one (ps_raise rfl (takes_of rfl rfl rfl rfl) (pmk_own PySem.F.excBase_ValueError (T.x "NoFloor").1 (T.g "NoFloor") (T.x "NoFloor").2.1 (raises_own (T.x "NoFloor").2.2.1 (T.x "NoFloor").2.2.2) rfl))) pss_nil) (pss_one (ps_ret (pe_tup (pa_cons (pv 1) (pa_cons (pv 4) pa_nil))))))))), ?_⟩
  obtain ⟨a, rfl, hl, hno, hQ, hE⟩ := h
  simp only [tSeq, tIfS, tOr, tAnd, tNot, tTest, tB, tOp, tCB, tCons, tNil, tVar, tC, tRet, tRetN, tNext, tDrop, tAsg, gName, gNil, gCons, gTup, gSub, tAug, tAugS, ipI, tCall, tMeth, tMake, tCmp, tAndV, tOrV, tNotV, tIf, tChain, tTup, tLst, tSl, tPart, tNoPart, tBM, tM0, tM1, tUn, rU, tFld, tCallS, tCKw, rIn, tMethF, tMethS, rEq, rNe, rI, rI0, rIxL, rIxT, rIxS, rSub, rSlL, C8.rSlX, rNewStrs, tMake0, cxK, cxNK, tLc_list, tLc_rng1, tFor_list, tFor_str, tFor_rng1, tYes, wipe, L2.start, List.map_cons, List.map_nil, List.length_cons, List.length_nil, List.replicate, List.cons_append, List.nil_append, List.append_nil, Nat.reduceAdd, Nat.reduceSub, List.getElem?_cons_zero, List.getElem?_cons_succ, List.set_cons_zero, List.set_cons_succ, Option.some.injEq, exists_eq_left', exists_eq_left, exists_eq', and_true, true_and, exists_eq_right, exists_const, V.int.injEq, V.str.injEq, V.bl.injEq, V.ref.injEq, List.cons.injEq, scal_ii, scal_ss, scal_bb, decide_eq_true_eq, Bool.not_eq_true', decide_eq_false_iff_not, if_true, if_false, Bool.false_eq_true, exists_and_left, S_len, sz_le]
  obtain ⟨wd, bk, mo, ep, er, l1, l2⟩ := part_of a
  refine ⟨rfl, sz_le (by omega), fun p hp => ?_⟩
  rw [ep]
  refine ⟨_, SqT.of upd_same, rfl, _, _, rfl, _, _, rfl, _, _, rfl, rfl, wd, rfl, by omega, _, rfl, ?_⟩
  have e0 := Lf.extN_upd (o := .tup [.str (S wd), .str (S bk), .str (S mo)]) hp
  rw [er] at hno
  rw [er] at hQ hE
  refine ite2 (fun e => hE .text (rF1 e) _ e0) fun e => ?_
  have e1 : isWord wd = true := by simpa using e
  refine ⟨mo, rfl, by omega, fun rs hrs q H2 e2 hq2 hat => ?_, fun hn H2 e2 => hE .text (rF2 e1 hn) _ (e0.trans e2)⟩
  refine ⟨wd, rfl, fun k hk H3 v e3 hv => ?_, fun hn H3 e3 => hE .kind (rF3 e1 hrs hn) _ ((e0.trans e2).trans e3)⟩
  rw [rF4 e1 hrs hk] at hno
  rw [rF4 e1 hrs hk] at hQ hE
  obtain ⟨x, dx, rfl, hx⟩ := hv
  cases hb : fitsM k.1 rs with
  | none =>
    rw [hb] at hno
    exact absurd rfl hno
  | some b =>
    rw [hb] at hQ hE
    refine ⟨x, rfl, dx, [], k, hx, rfl, _, q, rs, b, rfl, hat.ext e3, hb, fun H4 e4 => ⟨b, rfl, ite2 (fun eb => hE .floor (by rw [eb] <;> rfl) _ (((e0.trans e2).trans e3).trans e4)) fun eb => ⟨sz_le (by decide), fun p2 hp2 => ?_⟩⟩⟩
    have e5 := Lf.extN_upd (o := .tup [.str (S wd), .ref q]) hp2
    have ew : wd = kindW k.1 := kindIx_eq hk
    exact hQ (k.1, rs) (by
      cases b with
      | true => rfl
      | false => exact absurd rfl eb) _ _ ((((e0.trans e2).trans e3).trans e4).trans e5) ⟨p2, q, rfl, by rw [upd_same, ew], hat.ext ((e3.trans e4).trans e5)⟩
theorem inV_words (f : Tx) (l : List Tx) : inV (V.str (S f)) (l.map fun w => V.str (S w)) = l.contains f := by
  have e : ∀ w : Tx, eqV (V.str (S w)) (V.str (S f)) = (w == f) := fun w => S_beq w f
  rw [Bool.eq_iff_iff, List.contains_iff_mem]
  unfold inV
  rw [List.any_eq_true]
  constructor
  · rintro ⟨y, hy, h⟩
    obtain ⟨w, hw, rfl⟩ := List.mem_map.mp hy
    rw [e] at h
    rw [← eq_of_beq h]
    exact hw
  · intro h
    exact ⟨_, List.mem_map_of_mem h, by rw [e]; exact beq_self_eq_true f⟩
def spIsSaid : Sp := fun vs H Q _ => ∃ (p : Addr) (ws : List Tx), vs = [.ref p] ∧ H p = some (.lst ((ws.map S).map V.str)) ∧ ws ≠ [] ∧ ∀ H', ExtN H H' → Q (.bl (isSaid ws)) H'
theorem sc_is_said : FnScope ["words", "first"] ["words"] (defScope s_is_said) := ⟨rfl, rfl, rfl, by decide +kernel, rfl, by decide +kernel, by decide +kernel⟩
theorem ok_is_said (T : Txt w K mg) : Dok P w K mg base CX0 1 (ga K "is_said") ["words"] (spIsSaid) := by
  obtain ⟨fd, F⟩ := T.d_is_said
  have sc := sc_is_said
  refine ⟨fd, F.ok sc (fun vs H Q E h => ?_) (fun cdv A outer s H vs Q E hr h => ?_), F.bindsN fun _ _ _ _ _ _ us hl => match us, hl with | [_], _ => rfl, F.kp⟩
  · obtain ⟨p, ws, rfl, _⟩ := h
    rfl
  refine ⟨_, PSs.nox (pss_cons (ps_set (i := 1) sc.nd rfl (Or.inl rfl) (pe_ix ix_list (pv 0) pe_int (fun _ _ => rfl))) (pss_cons (ps_if (pt_cmpR op_in_seq (pv 1) (pe_tup (pa_cons pe_str (pa_cons pe_str (pa_cons pe_str (pa_cons pe_str pa_nil))))) rfl) (pss_one (ps_ret (pe_cmpR op_ge (pe_callB call_len_seq rfl (T.n "len") PySem.boot_len (pa_cons (pv 0) pa_nil)) pe_int (nomark _)))) pss_nil) (pss_cons (ps_if (pt_cmpR op_eq (pv 1) pe_str (nomark _)) (pss_one (ps_ret (pe_cmpR op_eq (pe_callB call_len_seq rfl (T.n "len") PySem.boot_len (pa_cons (pv 0) pa_nil)) pe_int (nomark _)))) pss_nil) (pss_cons (ps_if (pt_cmpR op_eq (pv 1) pe_str (nomark _)) (pss_one (ps_ret (pe_cmpR op_eq (pe_callB call_len_seq rfl (T.n "len") PySem.boot_len (pa_cons (pv 0) pa_nil)) pe_int (nomark _)))) pss_nil) (pss_one (ps_ret (pe_and (pe_cmpR op_in_seq (pv 1) (pe_tup (pa_cons pe_str (pa_cons pe_str (pa_cons pe_str (pa_cons pe_str (pa_cons pe_str pa_nil)))))) rfl) (pe_one (pe_cmpR op_eq (pe_callB call_len_seq rfl (T.n "len") PySem.boot_len (pa_cons (pv 0) pa_nil)) pe_int (nomark _)))))))))), ?_⟩
  obtain ⟨p, ws, rfl, hp, hne, hQ⟩ := h
  simp only [tSeq, tIfS, tOr, tAnd, tNot, tTest, tB, tOp, tCB, tCons, tNil, tVar, tC, tRet, tRetN, tNext, tDrop, tAsg, gName, gNil, gCons, gTup, gSub, tAug, tAugS, ipI, tCall, tMeth, tMake, tCmp, tAndV, tOrV, tNotV, tIf, tChain, tTup, tLst, tSl, tPart, tNoPart, tBM, tM0, tM1, tUn, rU, tFld, tCallS, tCKw, rIn, tMethF, tMethS, rEq, rNe, rI, rI0, rIxL, rIxT, rIxS, rSub, rSlL, C8.rSlX, rNewStrs, tMake0, cxK, cxNK, tLc_list, tLc_rng1, tFor_list, tFor_str, tFor_rng1, tYes, wipe, L2.start, List.map_cons, List.map_nil, List.length_cons, List.length_nil, List.replicate, List.cons_append, List.nil_append, List.append_nil, Nat.reduceAdd, Nat.reduceSub, List.getElem?_cons_zero, List.getElem?_cons_succ, List.set_cons_zero, List.set_cons_succ, Option.some.injEq, exists_eq_left', exists_eq_left, exists_eq', and_true, true_and, exists_eq_right, exists_const, V.int.injEq, V.str.injEq, V.bl.injEq, V.ref.injEq, List.cons.injEq, scal_ii, scal_ss, scal_bb, decide_eq_true_eq, Bool.not_eq_true', decide_eq_false_iff_not, if_true, if_false, Bool.false_eq_true, exists_and_left, S_len, sz_le]
  cases ws with
  | nil => exact absurd rfl hne
  | cons f r =>
    have hl : ∀ n : Nat, (((((f :: r).map S).map V.str).length : Nat) : Int) = (((f :: r).length : Nat) : Int) := fun _ => by rw [List.length_map, List.length_map]
    have up : ∀ {p1 : Addr} {u : HO}, H p1 = none → (upd H p1 u) p = some (.lst (((f :: r).map S).map V.str)) := fun {p1 u} h => by
      rw [upd_ne (fun z => by rw [← z, hp] at h; cases h)]
      exact hp
    refine ⟨_, SqL.of hp, _, atI_nat (j := 0) rfl, sz_le (by decide), fun p1 hp1 => ⟨_, .inr (SqT.of upd_same), rfl, rfl, ?_⟩⟩
    rw [show inV (V.str (S f)) [V.str "floor", V.str "keeps", V.str "shows", V.str "late"] = [wFloor, wKeeps, wShows, wLate].contains f from inV_words f [wFloor, wKeeps, wShows, wLate]]
    have q1 := hQ _ (Lf.extN_upd (o := .tup [V.str "floor", V.str "keeps", V.str "shows", V.str "late"]) hp1)
    have d3 : ∀ m : Nat, decide ((3 : Int) ≤ ((m : Nat) : Int)) = decide (3 ≤ m) := fun m => by
      rw [decide_eq_decide]
      omega
    have d11 : ∀ m : Nat, decide (((m : Nat) : Int) = 1) = (m == 1) := fun m => by
      rw [Bool.eq_iff_iff, decide_eq_true_eq, beq_iff_eq]
      omega
    have d13 : ∀ m : Nat, decide (((m : Nat) : Int) = 3) = (m == 3) := fun m => by
      rw [Bool.eq_iff_iff, decide_eq_true_eq, beq_iff_eq]
      omega
    have d12 : ∀ m : Nat, decide (((m : Nat) : Int) = 2) = (m == 2) := fun m => by
      rw [Bool.eq_iff_iff, decide_eq_true_eq, beq_iff_eq]
      omega
    unfold isSaid at q1
    rw [List.headD_cons] at q1
    refine ite2 (fun e => ⟨_, .inl (SqL.of (up hp1)), ?_⟩) fun e => ⟨scal_ss _ _, ite2 (fun e2 => ⟨_, .inl (SqL.of (up hp1)), ?_⟩) fun e2 => ⟨scal_ss _ _, ite2 (fun e3 => ⟨_, .inl (SqL.of (up hp1)), ?_⟩) fun e3 => ⟨sz_le (by decide), fun p2 hp2 => ⟨_, .inr (SqT.of upd_same), rfl, rfl, ?_⟩⟩⟩⟩
    · rw [if_pos e] at q1
      rw [hl 0, d3]
      exact q1
    · have ef : f = wNames := S_inj (V.str.inj e2)
      rw [if_neg e, if_pos (by rw [ef]; rfl)] at q1
      rw [hl 0, d11]
      exact q1
    · have ef : f = wBusy := S_inj (V.str.inj e3)
      rw [if_neg e, if_neg (by rw [ef]; decide), if_pos (by rw [ef]; rfl)] at q1
      rw [hl 0, d13]
      exact q1
    · rw [show inV (V.str (S f)) [V.str "drop", V.str "show", V.str "plan", V.str "end", V.str "why"] = [wDrop, wShow, wPlan, wEnd, wWhy].contains f from inV_words f [wDrop, wShow, wPlan, wEnd, wWhy]]
      have q2 := hQ _ ((Lf.extN_upd (o := .tup [V.str "floor", V.str "keeps", V.str "shows", V.str "late"]) hp1).trans (Lf.extN_upd (o := .tup [V.str "drop", V.str "show", V.str "plan", V.str "end", V.str "why"]) hp2))
      unfold isSaid at q2
      rw [List.headD_cons, if_neg e, if_neg (show ¬ (f == wNames) = true from fun z => e2 (by rw [eq_of_beq z]; rfl)), if_neg (show ¬ (f == wBusy) = true from fun z => e3 (by rw [eq_of_beq z]; rfl))] at q2
      refine ite2 (fun e4 => ⟨_, .inl (SqL.of (by rw [upd_ne (fun z => by rw [← z, up hp1] at hp2; cases hp2)]; exact up hp1)), ?_⟩) fun e4 => ?_
      · rw [hl 0, d12]
        rw [e4, Bool.true_and] at q2
        exact q2
      · rw [show [wDrop, wShow, wPlan, wEnd, wWhy].contains f = false by simpa using e4, Bool.false_and] at q2
        exact q2
end
end Lf
set_option Elab.async false
set_option linter.all false
set_option maxRecDepth 100000
set_option maxHeartbeats 4000000
/-! tails.py, planrows.py: that they answer. -/
namespace Lf
open PySem PySem.Spec PyProof.Rows L2 LfR LamX LfM SX
section
variable {P : Program} {w : World} {K : PySem.W.Frag} {mg : Str → Option Value} {base : Heap}
/-- the works of one bench -/
def GoodT (ws : List (Addr × List Int)) : Prop := ws.length ≤ 12 ∧ ∀ r ∈ ws, ∃ a b c : Int, r.2 = [a, b, c] ∧ 0 ≤ a ∧ a ≤ 100 ∧ 1 ≤ b ∧ b ≤ 100 ∧ 0 ≤ c ∧ c ≤ 100
/-- rows of a plan -/
def Four (rows : List (Addr × List Int)) : Prop := ∀ r ∈ rows, ∃ a b c d : Int, r.2 = [a, b, c, d]
/-- the j-th item of the list at a reference -/
def fldH (H : Hp) (j : Nat) : V → Option V
  | .ref q => match H q with
    | some (.lst xs) => xs[j]?
    | _ => none
  | _ => none
theorem fld_at {H : Hp} {q : Addr} {r : List Int} {j : Nat} {v : V} (h : H q = some (.lst (r.map V.int))) (e : (r.map V.int)[j]? = some v) : fldH H j (.ref q) = some v := by
  show (match H q with | some (.lst xs) => xs[j]? | _ => none) = _
  rw [h]
  exact e
theorem rowRefs_len (rows : List (Addr × List Int)) : (rowRefs rows).length = rows.length := List.length_map _
theorem ref_at {rows : List (Addr × List Int)} {i : Nat} {x : V} (h : (rowRefs rows)[i]? = some x) : ∃ r, rows[i]? = some r ∧ x = .ref r.1 := by
  unfold rowRefs at h
  rw [List.getElem?_map] at h
  obtain ⟨r, hr, e⟩ := Option.map_eq_some_iff.mp h
  exact ⟨r, hr, e.symm⟩
theorem ints_of : ∀ {l : List V}, (∀ y ∈ l, ∃ z, y = .int z) → ∃ ns : List Int, l = ns.map V.int
  | [], _ => ⟨[], rfl⟩
  | y :: l, h => by
    obtain ⟨z, hz⟩ := h y (List.mem_cons_self ..)
    obtain ⟨ns, hn⟩ := ints_of (l := l) fun x hx => h x (List.mem_cons_of_mem _ hx)
    exact ⟨z :: ns, by rw [hz, hn] <;> rfl⟩
def spLast : Sp := fun vs H Q _ => ∃ (p : Addr) (rows : List (Addr × List Int)), vs = [.ref p] ∧ H p = some (.lst (rowRefs rows)) ∧ RowsOk H rows ∧ Four rows ∧ rows.length ≤ 5000 ∧ ∀ (n : Int) H', ExtN H H' → Q (.int n) H'
theorem sc_last_moment : FnScope ["rows", "row"] ["rows"] (defScope s_last_moment) := ⟨rfl, rfl, rfl, by decide +kernel, rfl, by decide +kernel, by decide +kernel⟩
theorem ok_last_moment (T : Txt w K mg) : Dok P w K mg base CX0 1 (ga K "last_moment") ["rows"] (spLast) := by
  obtain ⟨fd, F⟩ := T.d_last_moment
  have sc := sc_last_moment
  refine ⟨fd, F.ok sc (fun vs H Q E h => ?_) (fun cdv A outer s H vs Q E hr h => ?_), F.bindsN fun _ _ _ _ _ _ us hl => match us, hl with | [_], _ => rfl, F.kp⟩
  · obtain ⟨p, rows, rfl, _⟩ := h
    rfl
  refine ⟨_, PSs.nox (pss_one (ps_ret (pe_callBK (cr_maxDef rfl (un64 hr)) rfl (T.n "max") (by decide +kernel) (pa_cons (pe_lc (own := [("row", 1)]) (g := gName 1) (tt := tYes) rfl sc.nd (pi_list (pv 0)) (blkOk_by (own := [("row", 1)]) (N := ["rows", "row"]) (sc := defScope s_last_moment) (by decide +kernel)) (fun _ _ _ _ _ => pg_name (i := 1) sc.nd rfl (Or.inl rfl)) (fun _ _ _ _ _ => pts_nil) (fun _ _ _ _ _ => (pe_ix (r := rIxL K) ix_list (pv 1) pe_int (fun _ _ => rfl)))) pa_nil) (pk_cons pe_int pk_nil)))), ?_⟩
  obtain ⟨p, rows, rfl, hp, hok, h4, hlen, hQ⟩ := h
  simp only [tSeq, tIfS, tOr, tAnd, tNot, tTest, tB, tOp, tCB, tCons, tNil, tVar, tC, tRet, tRetN, tNext, tDrop, tAsg, gName, gNil, gCons, gTup, gSub, tAug, tAugS, ipI, tCall, tMeth, tMake, tCmp, tAndV, tOrV, tNotV, tIf, tChain, tTup, tLst, tSl, tPart, tNoPart, tBM, tM0, tM1, tUn, rU, tFld, tCallS, tCKw, rIn, tMethF, tMethS, rEq, rNe, rI, rI0, rIxL, rIxT, rIxS, rSub, rSlL, C8.rSlX, rNewStrs, tMake0, cxK, cxNK, tLc_list, tLc_rng1, tFor_list, tFor_str, tFor_rng1, tYes, wipe, L2.start, List.map_cons, List.map_nil, List.length_cons, List.length_nil, List.replicate, List.cons_append, List.nil_append, List.append_nil, Nat.reduceAdd, Nat.reduceSub, List.getElem?_cons_zero, List.getElem?_cons_succ, List.set_cons_zero, List.set_cons_succ, Option.some.injEq, exists_eq_left', exists_eq_left, exists_eq', and_true, true_and, exists_eq_right, exists_const, V.int.injEq, V.str.injEq, V.bl.injEq, V.ref.injEq, List.cons.injEq, scal_ii, scal_ss, scal_bb, decide_eq_true_eq, Bool.not_eq_true', decide_eq_false_iff_not, if_true, if_false, Bool.false_eq_true, exists_and_left, S_len, sz_le]
  have hS : ∀ H', ExtN H H' → SqL K H' p (rowRefs rows) := fun H' x => SqL.of (x _ _ hp (nt_lst _))
  refine ⟨⟨_, hS _ (ExtN.refl _)⟩, fun D hD => ?_⟩
  have fl : ∀ v ∈ rowRefs rows, ∃ z, fldH H 3 v = some (.int z) := fun v hv => by
    obtain ⟨r, hr, rfl⟩ := List.mem_map.mp hv
    obtain ⟨a, b, c, d, e⟩ := h4 r hr
    exact ⟨d, fld_at (hok r hr) (by rw [e] <;> rfl)⟩
  refine lc_pureW (xs := rowRefs rows) walk_list rfl (fldH H 3) (by
    rw [rowRefs_len]
    exact Nat.lt_of_le_of_lt hlen (by rw [sizeLine_eq]; omega)) (fun acc => hS _ (Lf.extN_upd hD)) (fun i x acc Qy Qn hx hy hn => ?_) ?_
  · obtain ⟨r, hr, rfl⟩ := ref_at hx
    have hm := List.mem_of_getElem? hr
    obtain ⟨a, b, c, d, e⟩ := h4 r hm
    refine ⟨rfl, ?_⟩
    have hq := (Lf.extN_upd (o := .lst acc) hD) _ _ (hok r hm) (nt_lst _)
    replace hy := hy (.int d) (fld_at (hok r hm) (by rw [e] <;> rfl))
    rw [e] at hq
    simp only [tSeq, tIfS, tOr, tAnd, tNot, tTest, tB, tOp, tCB, tCons, tNil, tVar, tC, tRet, tRetN, tNext, tDrop, tAsg, gName, gNil, gCons, gTup, gSub, tAug, tAugS, ipI, tCall, tMeth, tMake, tCmp, tAndV, tOrV, tNotV, tIf, tChain, tTup, tLst, tSl, tPart, tNoPart, tBM, tM0, tM1, tUn, rU, tFld, tCallS, tCKw, rIn, tMethF, tMethS, rEq, rNe, rI, rI0, rIxL, rIxT, rIxS, rSub, rSlL, C8.rSlX, rNewStrs, tMake0, cxK, cxNK, tLc_list, tLc_rng1, tFor_list, tFor_str, tFor_rng1, tYes, wipe, L2.start, List.map_cons, List.map_nil, List.length_cons, List.length_nil, List.replicate, List.cons_append, List.nil_append, List.append_nil, Nat.reduceAdd, Nat.reduceSub, List.getElem?_cons_zero, List.getElem?_cons_succ, List.set_cons_zero, List.set_cons_succ, Option.some.injEq, exists_eq_left', exists_eq_left, exists_eq', and_true, true_and, exists_eq_right, exists_const, V.int.injEq, V.str.injEq, V.bl.injEq, V.ref.injEq, List.cons.injEq, scal_ii, scal_ss, scal_bb, decide_eq_true_eq, Bool.not_eq_true', decide_eq_false_iff_not, if_true, if_false, Bool.false_eq_true, exists_and_left, S_len, sz_le]
    exact ⟨_, SqL.of hq, _, atI_nat (j := 3) rfl, hy⟩
  · obtain ⟨ns, hns⟩ := ints_of (l := (rowRefs rows).filterMap (fldH H 3)) fun y hy => by
      obtain ⟨v, hv, e⟩ := List.mem_filterMap.mp hy
      obtain ⟨z, hz⟩ := fl v hv
      rw [hz] at e
      exact ⟨z, (Option.some.inj e).symm⟩
    rw [hns]
    exact ⟨D, ns, 0, rfl, rfl, SqL.of upd_same, fun n _ => hQ n _ (Lf.extN_upd hD)⟩
def spNextWork : Sp := fun vs H Q _ => ∃ (p l : Addr) (ws : List (Addr × List Int)) (ls : List Int) (m : Int), vs = [.ref p, .ref l, .int m] ∧ H p = some (.lst (rowRefs ws)) ∧ RowsOk H ws ∧ GoodT ws ∧ H l = some (.lst (ls.map V.int)) ∧ ls.length = ws.length ∧
  ∀ k : Int, (k = -1 ∧ ∀ (i : Nat) (r : Addr × List Int) (n : Int), ws[i]? = some r → ls[i]? = some n → ¬ (0 < n ∧ r.2.getD 0 0 ≤ m)) ∨ (∃ (i : Nat) (r : Addr × List Int) (n : Int), k = (i : Nat) ∧ ws[i]? = some r ∧ ls[i]? = some n ∧ 0 < n ∧ r.2.getD 0 0 ≤ m) → Q (.int k) H
def NWInv (ws : List (Addr × List Int)) (ls : List Int) (m : Int) (i : Nat) (fk : Int) : Prop :=
  (fk = -1 ∧ ∀ j, j < i → ∀ (r : Addr × List Int) (n : Int), ws[j]? = some r → ls[j]? = some n → ¬ (0 < n ∧ r.2.getD 0 0 ≤ m)) ∨ (∃ (j : Nat) (r : Addr × List Int) (n : Int), fk = (j : Nat) ∧ ws[j]? = some r ∧ ls[j]? = some n ∧ 0 < n ∧ r.2.getD 0 0 ≤ m)
theorem sc_next_work : FnScope ["works", "left", "moment", "found", "work"] ["works", "left", "moment"] (defScope s_next_work) := ⟨rfl, rfl, rfl, by decide +kernel, rfl, by decide +kernel, by decide +kernel⟩
theorem ok_next_work (T : Txt w K mg) : Dok P w K mg base CX0 1 (ga K "next_work") ["works", "left", "moment"] (spNextWork) := by
  obtain ⟨fd, F⟩ := T.d_next_work
  have sc := sc_next_work
  refine ⟨fd, F.ok sc (fun vs H Q E h => ?_) (fun cdv A outer s H vs Q E hr h => ?_), F.bindsN fun _ _ _ _ _ _ us hl => match us, hl with | [_, _, _], _ => rfl, F.kp⟩
  · obtain ⟨p, l, ws, ls, m, rfl, _⟩ := h
    rfl
  refine ⟨_, PSs.nox (pss_cons (ps_set (i := 3) sc.nd rfl (Or.inl rfl) (pe_un un_neg pe_int)) (pss_cons (ps_for PassesOwn.never rfl (pi_range1 rfl (T.n "range") (pa_cons (pe_callB call_len_seq rfl (T.n "len") PySem.boot_len (pa_cons (pv 0) pa_nil)) pa_nil)) (pg_name (i := 4) sc.nd rfl (Or.inl rfl)) (pss_one (ps_if (PW.pt (pw_and (pt_cmpR op_gt (pe_ix ix_list (pv 1) (pv 4) (fun _ _ => rfl)) pe_int (nomark _)) (pw_and1 (pt_cmpR op_le (pe_ix ix_list (pe_ix ix_list (pv 0) (pv 4) (fun _ _ => rfl)) pe_int (fun _ _ => rfl)) (pv 2) (nomark _))))) (pss_one (ps_if (PW.pt (pw_or (pt_cmpR op_lt (pv 3) pe_int (nomark _)) (pw_or1 (pt_cmpR op_gt (pe_ix ix_list (pe_ix ix_list (pv 0) (pv 4) (fun _ _ => rfl)) pe_int (fun _ _ => rfl)) (pe_ix ix_list (pe_ix ix_list (pv 0) (pv 3) (fun _ _ => rfl)) pe_int (fun _ _ => rfl)) (nomark _))))) (pss_one (ps_set (i := 3) sc.nd rfl (Or.inl rfl) (pv 4))) pss_nil)) pss_nil))) (pss_one (ps_ret (pv 3))))), ?_⟩
  obtain ⟨p, l, ws, ls, m, rfl, hp, hok, hg, hl, hll, hQ⟩ := h
  simp only [tSeq, tIfS, tOr, tAnd, tNot, tTest, tB, tOp, tCB, tCons, tNil, tVar, tC, tRet, tRetN, tNext, tDrop, tAsg, gName, gNil, gCons, gTup, gSub, tAug, tAugS, ipI, tCall, tMeth, tMake, tCmp, tAndV, tOrV, tNotV, tIf, tChain, tTup, tLst, tSl, tPart, tNoPart, tBM, tM0, tM1, tUn, rU, tFld, tCallS, tCKw, rIn, tMethF, tMethS, rEq, rNe, rI, rI0, rIxL, rIxT, rIxS, rSub, rSlL, C8.rSlX, rNewStrs, tMake0, cxK, cxNK, tLc_list, tLc_rng1, tFor_list, tFor_str, tFor_rng1, tYes, wipe, L2.start, List.map_cons, List.map_nil, List.length_cons, List.length_nil, List.replicate, List.cons_append, List.nil_append, List.append_nil, Nat.reduceAdd, Nat.reduceSub, List.getElem?_cons_zero, List.getElem?_cons_succ, List.set_cons_zero, List.set_cons_succ, Option.some.injEq, exists_eq_left', exists_eq_left, exists_eq', and_true, true_and, exists_eq_right, exists_const, V.int.injEq, V.str.injEq, V.bl.injEq, V.ref.injEq, List.cons.injEq, scal_ii, scal_ss, scal_bb, decide_eq_true_eq, Bool.not_eq_true', decide_eq_false_iff_not, if_true, if_false, Bool.false_eq_true, exists_and_left, S_len, sz_le]
  have hrl := rowRefs_len ws
  refine ⟨_, .inl (SqL.of hp), by omega, by have := hg.1; omega, ?_⟩
  rw [hrl, show ((ws.length : Nat) : Int).toNat = ws.length by omega]
  refine for_w (xs := rngL ws.length) walk_rngL (fun i σ H' => H' = H ∧ ∃ (fk : Int) (u : Option V), σ = [some (V.ref p), some (V.ref l), some (V.int m), some (V.int fk), u] ∧ NWInv ws ls m i fk)
    ⟨rfl, -1, _, rfl, .inl ⟨rfl, fun j hj => absurd hj (Nat.not_lt_zero _)⟩⟩ (fun _ _ _ _ _ => trivial) (fun i x σ H' hx z => ?_) (fun σ H' z => ?_)
  · obtain ⟨rfl, fk, u, rfl, hf⟩ := z
    have hi : i < ws.length := by
      have := (List.getElem?_eq_some_iff.mp hx).1
      rw [rngL_len] at this
      exact this
    rw [rngL_get hi] at hx
    obtain rfl := Option.some.inj hx
    have hr : ws[i]? = some ws[i] := List.getElem?_eq_getElem hi
    have hn : ls[i]? = some (ls[i]'(by omega)) := List.getElem?_eq_getElem _
    generalize ws[i] = r at hr
    generalize (ls[i]'(by omega)) = n at hn
    have hm := List.mem_of_getElem? hr
    obtain ⟨a, b, c, e, _⟩ := hg.2 r hm
    have hq := hok r hm
    rw [e] at hq
    have ea : r.2.getD 0 0 = a := by rw [e] <;> rfl
    have gr : (rowRefs ws)[i]? = some (V.ref r.1) := by
      unfold rowRefs
      rw [List.getElem?_map, hr] <;> rfl
    have skip : ¬ (0 < n ∧ a ≤ m) → NWInv ws ls m (i + 1) fk := fun hno => by
      rcases hf with ⟨h1, h2⟩ | h2
      · refine .inl ⟨h1, fun j hj r' n' e1 e2 => ?_⟩
        by_cases hji : j < i
        · exact h2 j hji r' n' e1 e2
        · have : j = i := by omega
          subst this
          rw [hr] at e1
          rw [hn] at e2
          cases e1
          cases e2
          rw [ea]
          exact hno
      · exact .inr h2
    simp only [tSeq, tIfS, tOr, tAnd, tNot, tTest, tB, tOp, tCB, tCons, tNil, tVar, tC, tRet, tRetN, tNext, tDrop, tAsg, gName, gNil, gCons, gTup, gSub, tAug, tAugS, ipI, tCall, tMeth, tMake, tCmp, tAndV, tOrV, tNotV, tIf, tChain, tTup, tLst, tSl, tPart, tNoPart, tBM, tM0, tM1, tUn, rU, tFld, tCallS, tCKw, rIn, tMethF, tMethS, rEq, rNe, rI, rI0, rIxL, rIxT, rIxS, rSub, rSlL, C8.rSlX, rNewStrs, tMake0, cxK, cxNK, tLc_list, tLc_rng1, tFor_list, tFor_str, tFor_rng1, tYes, wipe, L2.start, List.map_cons, List.map_nil, List.length_cons, List.length_nil, List.replicate, List.cons_append, List.nil_append, List.append_nil, Nat.reduceAdd, Nat.reduceSub, List.getElem?_cons_zero, List.getElem?_cons_succ, List.set_cons_zero, List.set_cons_succ, Option.some.injEq, exists_eq_left', exists_eq_left, exists_eq', and_true, true_and, exists_eq_right, exists_const, V.int.injEq, V.str.injEq, V.bl.injEq, V.ref.injEq, List.cons.injEq, scal_ii, scal_ss, scal_bb, decide_eq_true_eq, Bool.not_eq_true', decide_eq_false_iff_not, if_true, if_false, Bool.false_eq_true, exists_and_left, S_len, sz_le]
    refine ⟨_, SqL.of hl, _, atI_nat (by rw [List.getElem?_map, hn] <;> rfl), n, rfl, ite2 (fun h1 => ?_) fun h1 => ⟨fk, _, ⟨rfl, rfl⟩, skip fun z => h1 z.1⟩⟩
    refine ⟨_, SqL.of hp, _, atI_nat gr, r.1, rfl, _, SqL.of hq, _, atI_nat (j := 0) rfl, a, rfl, ite2 (fun h2 => ?_) fun h2 => ⟨fk, _, ⟨rfl, rfl⟩, skip fun z => h2 z.2⟩⟩
    have take : NWInv ws ls m (i + 1) (i : Nat) := .inr ⟨i, r, n, rfl, hr, hn, h1, by rw [ea]; exact h2⟩
    refine ite2 (fun h3 => ⟨i, _, ⟨rfl, rfl⟩, take⟩) fun h3 => ?_
    obtain ⟨j, r', n', rfl, hr', hn', h4, h5⟩ := hf.resolve_left fun z => h3 (by omega)
    have hm' := List.mem_of_getElem? hr'
    obtain ⟨a', b', c', e', _⟩ := hg.2 r' hm'
    have hq' := hok r' hm'
    rw [e'] at hq'
    have gr' : (rowRefs ws)[j]? = some (V.ref r'.1) := by
      unfold rowRefs
      rw [List.getElem?_map, hr'] <;> rfl
    refine ⟨_, SqL.of hp, _, atI_nat gr, r.1, rfl, _, SqL.of hq, _, atI_nat (j := 2) rfl, _, SqL.of hp, _, atI_nat gr', r'.1, rfl, _, SqL.of hq', _, atI_nat (j := 2) rfl, ?_⟩
    exact ⟨c, rfl, c', rfl, ite2 (fun _ => ⟨i, _, ⟨rfl, rfl⟩, take⟩) fun _ => ⟨j, _, ⟨rfl, rfl⟩, .inr ⟨j, r', n', rfl, hr', hn', h4, h5⟩⟩⟩
  · obtain ⟨rfl, fk, u, rfl, hf⟩ := z
    simp only [tSeq, tIfS, tOr, tAnd, tNot, tTest, tB, tOp, tCB, tCons, tNil, tVar, tC, tRet, tRetN, tNext, tDrop, tAsg, gName, gNil, gCons, gTup, gSub, tAug, tAugS, ipI, tCall, tMeth, tMake, tCmp, tAndV, tOrV, tNotV, tIf, tChain, tTup, tLst, tSl, tPart, tNoPart, tBM, tM0, tM1, tUn, rU, tFld, tCallS, tCKw, rIn, tMethF, tMethS, rEq, rNe, rI, rI0, rIxL, rIxT, rIxS, rSub, rSlL, C8.rSlX, rNewStrs, tMake0, cxK, cxNK, tLc_list, tLc_rng1, tFor_list, tFor_str, tFor_rng1, tYes, wipe, L2.start, List.map_cons, List.map_nil, List.length_cons, List.length_nil, List.replicate, List.cons_append, List.nil_append, List.append_nil, Nat.reduceAdd, Nat.reduceSub, List.getElem?_cons_zero, List.getElem?_cons_succ, List.set_cons_zero, List.set_cons_succ, Option.some.injEq, exists_eq_left', exists_eq_left, exists_eq', and_true, true_and, exists_eq_right, exists_const, V.int.injEq, V.str.injEq, V.bl.injEq, V.ref.injEq, List.cons.injEq, scal_ii, scal_ss, scal_bb, decide_eq_true_eq, Bool.not_eq_true', decide_eq_false_iff_not, if_true, if_false, Bool.false_eq_true, exists_and_left, S_len, sz_le]
    refine hQ fk ?_
    rcases hf with ⟨h1, h2⟩ | h2
    · refine .inl ⟨h1, fun j r n e1 e2 => h2 j ?_ r n e1 e2⟩
      exact (List.getElem?_eq_some_iff.mp e1).1
    · exact .inr h2
def spNextCome : Sp := fun vs H Q _ => ∃ (p : Addr) (ws : List (Addr × List Int)) (m : Int), vs = [.ref p, .int m] ∧ H p = some (.lst (rowRefs ws)) ∧ RowsOk H ws ∧ GoodT ws ∧
  ∀ (k : Int) H', ((k = -1 ∧ ∀ r ∈ ws, ¬ m < r.2.getD 0 0) ∨ ∃ r ∈ ws, k = r.2.getD 0 0 ∧ m < r.2.getD 0 0) → ExtN H H' → Q (.int k) H'
theorem sc_next_come : FnScope ["works", "moment", "work"] ["works", "moment"] (defScope s_next_come) := ⟨rfl, rfl, rfl, by decide +kernel, rfl, by decide +kernel, by decide +kernel⟩
theorem ok_next_come (T : Txt w K mg) : Dok P w K mg base CX0 1 (ga K "next_come") ["works", "moment"] (spNextCome) := by
  obtain ⟨fd, F⟩ := T.d_next_come
  have sc := sc_next_come
  refine ⟨fd, F.ok sc (fun vs H Q E h => ?_) (fun cdv A outer s H vs Q E hr h => ?_), F.bindsN fun _ _ _ _ _ _ us hl => match us, hl with | [_, _], _ => rfl, F.kp⟩
  · obtain ⟨p, ws, m, rfl, _⟩ := h
    rfl
  refine ⟨_, PSs.nox (pss_one (ps_ret (pe_callBK (cr_minDef rfl (un64 hr)) rfl (T.n "min") (by decide +kernel) (pa_cons (pe_lc (own := [("work", 2)]) (g := gName 2) rfl sc.nd (pi_list (pv 0)) (blkOk_by (own := [("work", 2)]) (N := ["works", "moment", "work"]) (sc := defScope s_next_come) (by decide +kernel)) (fun _ _ _ _ _ => pg_name (i := 2) sc.nd rfl (Or.inl rfl)) (fun _ _ _ _ _ => (pts_one (pt_cmpR op_gt (pe_ix (r := rIxL K) ix_list (pv 2) pe_int (fun _ _ => rfl)) (pv 1) (nomark _)))) (fun _ _ _ _ _ => (pe_ix (r := rIxL K) ix_list (pv 2) pe_int (fun _ _ => rfl)))) pa_nil) (pk_cons (pe_un un_neg pe_int) pk_nil)))), ?_⟩
  obtain ⟨p, ws, m, rfl, hp, hok, hg, hQ⟩ := h
  simp only [tSeq, tIfS, tOr, tAnd, tNot, tTest, tB, tOp, tCB, tCons, tNil, tVar, tC, tRet, tRetN, tNext, tDrop, tAsg, gName, gNil, gCons, gTup, gSub, tAug, tAugS, ipI, tCall, tMeth, tMake, tCmp, tAndV, tOrV, tNotV, tIf, tChain, tTup, tLst, tSl, tPart, tNoPart, tBM, tM0, tM1, tUn, rU, tFld, tCallS, tCKw, rIn, tMethF, tMethS, rEq, rNe, rI, rI0, rIxL, rIxT, rIxS, rSub, rSlL, C8.rSlX, rNewStrs, tMake0, cxK, cxNK, tLc_list, tLc_rng1, tFor_list, tFor_str, tFor_rng1, tYes, wipe, L2.start, List.map_cons, List.map_nil, List.length_cons, List.length_nil, List.replicate, List.cons_append, List.nil_append, List.append_nil, Nat.reduceAdd, Nat.reduceSub, List.getElem?_cons_zero, List.getElem?_cons_succ, List.set_cons_zero, List.set_cons_succ, Option.some.injEq, exists_eq_left', exists_eq_left, exists_eq', and_true, true_and, exists_eq_right, exists_const, V.int.injEq, V.str.injEq, V.bl.injEq, V.ref.injEq, List.cons.injEq, scal_ii, scal_ss, scal_bb, decide_eq_true_eq, Bool.not_eq_true', decide_eq_false_iff_not, if_true, if_false, Bool.false_eq_true, exists_and_left, S_len, sz_le]
  have hS : ∀ H', ExtN H H' → SqL K H' p (rowRefs ws) := fun H' x => SqL.of (x _ _ hp (nt_lst _))
  refine ⟨⟨_, hS _ (ExtN.refl _)⟩, fun D hD => ?_⟩
  have fl : ∀ r ∈ ws, fldH H 0 (V.ref r.1) = some (.int (r.2.getD 0 0)) := fun r hr => by
    obtain ⟨a, b, c, e, _⟩ := hg.2 r hr
    exact fld_at (hok r hr) (by rw [e] <;> rfl)
  refine lc_pureW (xs := rowRefs ws) walk_list rfl (fun v => match fldH H 0 v with | some (.int z) => if m < z then some (.int z) else none | _ => none) (by
    rw [rowRefs_len]
    exact Nat.lt_of_le_of_lt hg.1 (by rw [sizeLine_eq]; omega)) (fun acc => hS _ (Lf.extN_upd hD)) (fun i x acc Qy Qn hx hy hn => ?_) ?_
  · obtain ⟨r, hr, rfl⟩ := ref_at hx
    have hm := List.mem_of_getElem? hr
    obtain ⟨a, b, c, e, _⟩ := hg.2 r hm
    have ea : r.2.getD 0 0 = a := by rw [e] <;> rfl
    refine ⟨rfl, ?_⟩
    have hq := (Lf.extN_upd (o := .lst acc) hD) _ _ (hok r hm) (nt_lst _)
    rw [e] at hq
    simp only [fl r hm, ea] at hy hn
    simp only [tSeq, tIfS, tOr, tAnd, tNot, tTest, tB, tOp, tCB, tCons, tNil, tVar, tC, tRet, tRetN, tNext, tDrop, tAsg, gName, gNil, gCons, gTup, gSub, tAug, tAugS, ipI, tCall, tMeth, tMake, tCmp, tAndV, tOrV, tNotV, tIf, tChain, tTup, tLst, tSl, tPart, tNoPart, tBM, tM0, tM1, tUn, rU, tFld, tCallS, tCKw, rIn, tMethF, tMethS, rEq, rNe, rI, rI0, rIxL, rIxT, rIxS, rSub, rSlL, C8.rSlX, rNewStrs, tMake0, cxK, cxNK, tLc_list, tLc_rng1, tFor_list, tFor_str, tFor_rng1, tYes, wipe, L2.start, List.map_cons, List.map_nil, List.length_cons, List.length_nil, List.replicate, List.cons_append, List.nil_append, List.append_nil, Nat.reduceAdd, Nat.reduceSub, List.getElem?_cons_zero, List.getElem?_cons_succ, List.set_cons_zero, List.set_cons_succ, Option.some.injEq, exists_eq_left', exists_eq_left, exists_eq', and_true, true_and, exists_eq_right, exists_const, V.int.injEq, V.str.injEq, V.bl.injEq, V.ref.injEq, List.cons.injEq, scal_ii, scal_ss, scal_bb, decide_eq_true_eq, Bool.not_eq_true', decide_eq_false_iff_not, if_true, if_false, Bool.false_eq_true, exists_and_left, S_len, sz_le]
    refine ⟨_, SqL.of hq, _, atI_nat (j := 0) rfl, a, rfl, ite2 (fun h1 => ⟨_, SqL.of hq, _, atI_nat (j := 0) rfl, hy _ (if_pos h1)⟩) fun h1 => hn (if_neg h1)⟩
  · obtain ⟨ns, hns⟩ := ints_of (l := (rowRefs ws).filterMap (fun v => match fldH H 0 v with | some (.int z) => if m < z then some (.int z) else none | _ => none)) fun y hy => by
      obtain ⟨v, hv, e⟩ := List.mem_filterMap.mp hy
      obtain ⟨r, hr, rfl⟩ := List.mem_map.mp hv
      simp only [fl r hr] at e
      split at e
      · exact ⟨_, (Option.some.inj e).symm⟩
      · cases e
    rw [hns]
    refine ⟨D, ns, -1, rfl, rfl, SqL.of upd_same, fun k hk => hQ k _ ?_ (Lf.extN_upd hD)⟩
    rcases hk with ⟨h1, h2⟩ | h1
    · refine .inl ⟨h2, fun r hr hlt => ?_⟩
      have : V.int (r.2.getD 0 0) ∈ (rowRefs ws).filterMap (fun v => match fldH H 0 v with | some (.int z) => if m < z then some (V.int z) else none | _ => none) :=
        List.mem_filterMap.mpr ⟨_, List.mem_map_of_mem hr, by simp only [fl r hr]; exact if_pos hlt⟩
      rw [hns, h1] at this
      cases this
    · have : V.int k ∈ (rowRefs ws).filterMap (fun v => match fldH H 0 v with | some (.int z) => if m < z then some (V.int z) else none | _ => none) := by
        rw [hns]
        exact List.mem_map_of_mem h1
      obtain ⟨v, hv, e⟩ := List.mem_filterMap.mp this
      obtain ⟨r, hr, rfl⟩ := List.mem_map.mp hv
      simp only [fl r hr] at e
      split at e
      · rename_i hlt
        exact .inr ⟨r, hr, (V.int.inj (Option.some.inj e)).symm, hlt⟩
      · cases e
def spPlace : Sp := fun vs H Q _ => ∃ (p q : Addr) (fs : List (Addr × List Int)) (a b c d : Int), vs = [.ref p, .ref q] ∧ H p = some (.lst (rowRefs fs)) ∧ RowsOk H fs ∧ Four fs ∧ fs.length ≤ 5000 ∧ H q = some (.lst [.int a, .int b, .int c, .int d]) ∧
  ∀ (k : Int) H', (k = -1 ∨ ∃ i : Nat, k = (i : Nat) ∧ i < fs.length) → ExtN H H' → Q (.int k) H'
theorem sc_place_ahead : FnScope ["found", "row", "k"] ["found", "row"] (defScope s_place_ahead) := ⟨rfl, rfl, rfl, by decide +kernel, rfl, by decide +kernel, by decide +kernel⟩
theorem ok_place_ahead (T : Txt w K mg) : Dok P w K mg base CX0 1 (ga K "place_ahead") ["found", "row"] (spPlace) := by
  obtain ⟨fd, F⟩ := T.d_place_ahead
  have sc := sc_place_ahead
  refine ⟨fd, F.ok sc (fun vs H Q E h => ?_) (fun cdv A outer s H vs Q E hr h => ?_), F.bindsN fun _ _ _ _ _ _ us hl => match us, hl with | [_, _], _ => rfl, F.kp⟩
  · obtain ⟨p, q, fs, a, b, c, d, rfl, _⟩ := h
    rfl
  refine ⟨_, PSs.nox (pss_cons (ps_for PassesOwn.never rfl (pi_range1 rfl (T.n "range") (pa_cons (pe_callB call_len_seq rfl (T.n "len") PySem.boot_len (pa_cons (pv 0) pa_nil)) pa_nil)) (pg_name (i := 2) sc.nd rfl (Or.inl rfl)) (pss_one (ps_if (PW.pt (pw_and (pt_cmpR (op_eqD hr.units) (pe_slice sl_list (pe_ix ix_list (pv 0) (pv 2) (fun _ _ => rfl)) po_none (po_some pe_int)) (pe_slice sl_list (pv 1) po_none (po_some pe_int)) (nomark _)) (pw_and1 (pt_cmpR op_eq (pe_ix ix_list (pe_ix ix_list (pv 0) (pv 2) (fun _ _ => rfl)) pe_int (fun _ _ => rfl)) (pe_ix ix_list (pv 1) pe_int (fun _ _ => rfl)) (nomark _))))) (pss_one (ps_ret (pv 2))) pss_nil))) (pss_one (ps_ret (pe_un un_neg pe_int)))), ?_⟩
  obtain ⟨p, q, fs, a, b, c, d, rfl, hp, hok, h4, hlen, hq, hQ⟩ := h
  simp only [tSeq, tIfS, tOr, tAnd, tNot, tTest, tB, tOp, tCB, tCons, tNil, tVar, tC, tRet, tRetN, tNext, tDrop, tAsg, gName, gNil, gCons, gTup, gSub, tAug, tAugS, ipI, tCall, tMeth, tMake, tCmp, tAndV, tOrV, tNotV, tIf, tChain, tTup, tLst, tSl, tPart, tNoPart, tBM, tM0, tM1, tUn, rU, tFld, tCallS, tCKw, rIn, tMethF, tMethS, rEq, rNe, rI, rI0, rIxL, rIxT, rIxS, rSub, rSlL, C8.rSlX, rNewStrs, tMake0, cxK, cxNK, tLc_list, tLc_rng1, tFor_list, tFor_str, tFor_rng1, tYes, wipe, L2.start, List.map_cons, List.map_nil, List.length_cons, List.length_nil, List.replicate, List.cons_append, List.nil_append, List.append_nil, Nat.reduceAdd, Nat.reduceSub, List.getElem?_cons_zero, List.getElem?_cons_succ, List.set_cons_zero, List.set_cons_succ, Option.some.injEq, exists_eq_left', exists_eq_left, exists_eq', and_true, true_and, exists_eq_right, exists_const, V.int.injEq, V.str.injEq, V.bl.injEq, V.ref.injEq, List.cons.injEq, scal_ii, scal_ss, scal_bb, decide_eq_true_eq, Bool.not_eq_true', decide_eq_false_iff_not, if_true, if_false, Bool.false_eq_true, exists_and_left, S_len, sz_le]
  have hrl := rowRefs_len fs
  refine ⟨_, .inl (SqL.of hp), by omega, by omega, ?_⟩
  rw [hrl, show ((fs.length : Nat) : Int).toNat = fs.length by omega]
  refine for_w (xs := rngL fs.length) walk_rngL (fun i σ H' => ExtN H H' ∧ ∃ u, σ = [some (V.ref p), some (V.ref q), u]) ⟨ExtN.refl _, _, rfl⟩ (fun _ _ _ _ _ => trivial) (fun i x σ H' hx z => ?_) (fun σ H' z => ?_)
  · obtain ⟨e1, u, rfl⟩ := z
    have hi : i < fs.length := by
      have := (List.getElem?_eq_some_iff.mp hx).1
      rw [rngL_len] at this
      exact this
    rw [rngL_get hi] at hx
    obtain rfl := Option.some.inj hx
    have hr : fs[i]? = some fs[i] := List.getElem?_eq_getElem hi
    generalize fs[i] = r at hr
    have hm := List.mem_of_getElem? hr
    obtain ⟨f0, f1, f2, f3, e⟩ := h4 r hm
    have hf := hok r hm
    rw [e] at hf
    have gr : (rowRefs fs)[i]? = some (V.ref r.1) := by
      unfold rowRefs
      rw [List.getElem?_map, hr] <;> rfl
    have hp1 := e1 _ _ hp (nt_lst _)
    have hf1 := e1 _ _ hf (nt_lst _)
    have hq1 := e1 _ _ hq (nt_lst _)
    simp only [tSeq, tIfS, tOr, tAnd, tNot, tTest, tB, tOp, tCB, tCons, tNil, tVar, tC, tRet, tRetN, tNext, tDrop, tAsg, gName, gNil, gCons, gTup, gSub, tAug, tAugS, ipI, tCall, tMeth, tMake, tCmp, tAndV, tOrV, tNotV, tIf, tChain, tTup, tLst, tSl, tPart, tNoPart, tBM, tM0, tM1, tUn, rU, tFld, tCallS, tCKw, rIn, tMethF, tMethS, rEq, rNe, rI, rI0, rIxL, rIxT, rIxS, rSub, rSlL, C8.rSlX, rNewStrs, tMake0, cxK, cxNK, tLc_list, tLc_rng1, tFor_list, tFor_str, tFor_rng1, tYes, wipe, L2.start, List.map_cons, List.map_nil, List.length_cons, List.length_nil, List.replicate, List.cons_append, List.nil_append, List.append_nil, Nat.reduceAdd, Nat.reduceSub, List.getElem?_cons_zero, List.getElem?_cons_succ, List.set_cons_zero, List.set_cons_succ, Option.some.injEq, exists_eq_left', exists_eq_left, exists_eq', and_true, true_and, exists_eq_right, exists_const, V.int.injEq, V.str.injEq, V.bl.injEq, V.ref.injEq, List.cons.injEq, scal_ii, scal_ss, scal_bb, decide_eq_true_eq, Bool.not_eq_true', decide_eq_false_iff_not, if_true, if_false, Bool.false_eq_true, exists_and_left, S_len, sz_le]
    refine ⟨_, SqL.of hp1, _, atI_nat gr, r.1, rfl, _, SqL.of hf1, fun p1 hn1 => ?_⟩
    have c1 : cutV (List.map V.int [f0, f1, f2, f3]) none (some 2) = [V.int f0, V.int f1] := rfl
    have c2 : cutV [V.int a, V.int b, V.int c, V.int d] none (some 2) = [V.int a, V.int b] := rfl
    have x1 := Lf.extN_upd (o := .lst [V.int f0, V.int f1]) hn1
    rw [c1]
    refine ⟨_, SqL.of (x1 _ _ hq1 (nt_lst _)), fun p2 hn2 => ?_⟩
    rw [c2]
    have x2 := Lf.extN_upd (o := .lst [V.int a, V.int b]) hn2
    have e2 := (e1.trans x1).trans x2
    refine ⟨.list [.int f0, .int f1], .list [.int a, .int b], .lst (SqL.of (x2 _ _ upd_same (nt_lst _))) (.cons (.int _) (.cons (.int _) .nil)), .lst (SqL.of upd_same) (.cons (.int _) (.cons (.int _) .nil)), rfl, rfl, _, rfl, ite2 (fun _ => ?_) fun _ => e2⟩
    exact ⟨_, SqL.of (e2 _ _ hp (nt_lst _)), _, atI_nat gr, r.1, rfl, _, SqL.of (e2 _ _ hf (nt_lst _)), _, atI_nat (j := 3) rfl, _, SqL.of (e2 _ _ hq (nt_lst _)), _, atI_nat (j := 2) rfl, scal_ii _ _, ite2 (fun _ => hQ _ _ (.inr ⟨i, rfl, hi⟩) e2) fun _ => e2⟩
  · obtain ⟨e1, u, rfl⟩ := z
    simp only [tSeq, tIfS, tOr, tAnd, tNot, tTest, tB, tOp, tCB, tCons, tNil, tVar, tC, tRet, tRetN, tNext, tDrop, tAsg, gName, gNil, gCons, gTup, gSub, tAug, tAugS, ipI, tCall, tMeth, tMake, tCmp, tAndV, tOrV, tNotV, tIf, tChain, tTup, tLst, tSl, tPart, tNoPart, tBM, tM0, tM1, tUn, rU, tFld, tCallS, tCKw, rIn, tMethF, tMethS, rEq, rNe, rI, rI0, rIxL, rIxT, rIxS, rSub, rSlL, C8.rSlX, rNewStrs, tMake0, cxK, cxNK, tLc_list, tLc_rng1, tFor_list, tFor_str, tFor_rng1, tYes, wipe, L2.start, List.map_cons, List.map_nil, List.length_cons, List.length_nil, List.replicate, List.cons_append, List.nil_append, List.append_nil, Nat.reduceAdd, Nat.reduceSub, List.getElem?_cons_zero, List.getElem?_cons_succ, List.set_cons_zero, List.set_cons_succ, Option.some.injEq, exists_eq_left', exists_eq_left, exists_eq', and_true, true_and, exists_eq_right, exists_const, V.int.injEq, V.str.injEq, V.bl.injEq, V.ref.injEq, List.cons.injEq, scal_ii, scal_ss, scal_bb, decide_eq_true_eq, Bool.not_eq_true', decide_eq_false_iff_not, if_true, if_false, Bool.false_eq_true, exists_and_left, S_len, sz_le]
    exact hQ (-1) _ (.inl rfl) e1
end
end Lf
set_option Elab.async false
set_option linter.all false
set_option maxRecDepth 100000
set_option maxHeartbeats 4000000
/-! planrows.joined, tails.tail_plan, tail_end: that they answer; what they write beside: tables of code objects. -/
namespace Lf
open PySem PySem.Spec PyProof.Rows L2 LfR LamX LfM SX
section
variable {P : Program} {w : World} {K : PySem.W.Frag} {mg : Str → Option Value} {base : Heap}
/-! ### the tables -/
def lamJ : Str := ("joined" : Str) ++ ".<locals>." ++ "<lambda>"
def lamT : Str := ("tree_turns" : Str) ++ ".<locals>." ++ "<lambda>"
def TT (K : PySem.W.Frag) : List (Addr × Str) := [((He.cT K ("joined", none)).2, lamJ), ((He.cT K ("tree_turns", none)).2, lamT)]
structure TB2 (K : PySem.W.Frag) (mg : Str → Option Value) (base : Heap) : Prop where
  j : TabB base mg (He.cT K ("joined", none)).1 (He.cT K ("joined", none)).2
  t : TabB base mg (He.cT K ("tree_turns", none)).1 (He.cT K ("tree_turns", none)).2
/-- all but the tables stay, and these stay tables -/
structure XT (K : PySem.W.Frag) (H H' : Hp) : Prop where
  ext : LamX.ExtN H H'
  tab : Tabs (TT K) H → Tabs (TT K) H'
theorem XT.refl (H : Hp) : XT K H H := ⟨LamX.ExtN.refl H, fun t => t⟩
theorem XT.trans {H H1 H2 : Hp} (a : XT K H H1) (b : XT K H1 H2) : XT K H H2 := ⟨a.ext.trans b.ext, fun t => b.tab (a.tab t)⟩
theorem XT.of {H H' : Hp} (e : ExtN H H') : XT K H H' := ⟨e.weak, fun t => t.ext e.same⟩
theorem XT.l {H H' : Hp} {a : Addr} {xs : List V} (e : XT K H H') (h : H a = some (.lst xs)) : H' a = some (.lst xs) := e.ext _ _ h (nt_lst _)
theorem ExtN.l {H H' : Hp} {a : Addr} {xs : List V} (e : ExtN H H') (h : H a = some (.lst xs)) : H' a = some (.lst xs) := e.same _ _ h
/-- a list is written -/
theorem Tabs.updL {T : List (Addr × Str)} {H : Hp} {p : Addr} {xs ys : List V} (t : Tabs T H) (h : H p = some (.lst xs)) : Tabs T (upd H p (.lst ys)) := fun r hr => by
  obtain ⟨ps, h1, h2, h3⟩ := t r hr
  refine ⟨ps, by rw [upd_ne (fun z => by rw [z, h] at h1; cases h1)]; exact h1, h2, fun pos cv hc => ?_⟩
  obtain ⟨c, e1, e2⟩ := h3 pos cv hc
  refine ⟨c, e1, ?_⟩
  rw [upd_ne (fun z => by rw [z, h] at e2; cases e2)]
  exact e2
/-- nothing but tables stood there -/
def FrW (H : Hp) (p : Addr) : Prop := ∀ o, H p = some o → ∃ ps, o = .tbl ps
theorem XT.fr {H H' : Hp} {p : Addr} (e : XT K H H') (h : H' p = none) : FrW H p := fun o eo => Classical.byContradiction fun n => by
  rw [e.ext p o eo fun ps z => n ⟨ps, z⟩] at h
  cases h
theorem XT.updL {H H1 : Hp} {p : Addr} {xs ys : List V} (e : XT K H H1) (f : FrW H p) (h : H1 p = some (.lst xs)) : XT K H (upd H1 p (.lst ys)) := ⟨fun b u eb nt => by
  have hb : b ≠ p := fun z => by
    obtain ⟨ps, z2⟩ := f u (by rw [← z]; exact eb)
    exact nt ps z2
  rw [upd_ne hb]
  exact e.ext b u eb nt, fun t => Tabs.updL (e.tab t) h⟩
theorem XT.up {H H1 : Hp} {p : Addr} {o : HO} (e : XT K H H1) (h : H1 p = none) : XT K H (upd H1 p o) := e.trans (.of (Lf.extN_upd h))
/-- a def whose code object is known by name -/
theorem okC {CX : CXT} {x qual : Str} {params : Arguments} {body : List Stmt} {scope : Scope} {dvs : List V} {kws : List (Str × V)} {d : He.Defn} {fd : FuncData} {N ps : List Str} {k : Nat} {sp : Sp} (F : FunD K x qual params body scope dvs kws (He.fAd K d) fd) (Sc : FnScope N ps scope) (len : ∀ vs H Q E, sp vs H Q E → vs.length = ps.length)
    (hbody : ∀ (A : Around) (outer : List Env) (s : Shared) (H : Hp) (vs : List V) (Q : VK) (E : XK), Room k (A.deeper (envOfC qual scope s.heap.objs.size (He.fAd K d) (.ref (He.cT K d).1))) → sp vs H Q E →
      ∃ t, PSs (cxOf CX P w K mg base N qual scope (He.fAd K d) (.ref (He.cT K d).1) A outer s H E) body t ∧ t { nx := fun _ H' => Q .non H', rt := Q } (start N vs) H) : FnOk P w K mg base CX (k + 1) (He.fAd K d) fd ps sp := by
  obtain ⟨oc, od, dV, kV, doc, pm, an, cdv, ct, osl, rfl, lk, hcd, _, _⟩ := F.ex
  obtain ⟨c, rfl⟩ := He.codeIn_ref hcd
  have e : He.codeOf K d = c := He.codeOf_eq lk rfl
  have e2 : (He.cT K d).1 = c := e
  rw [e2] at hbody
  exact fn_of lk hcd Sc len fun A outer s H vs Q E hr hsp => hbody A outer s H vs Q E hr hsp
/-! ### rows of four numbers -/
def Quad (B : Addr → Prop) (H : Hp) (v : V) : Prop := ∃ (q : Addr) (a b c d : Int), v = .ref q ∧ H q = some (.lst [.int a, .int b, .int c, .int d]) ∧ B q
theorem quad_rows {B : Addr → Prop} {H : Hp} : ∀ {xs : List V}, (∀ v ∈ xs, Quad B H v) → ∃ rows : List (Addr × List Int), xs = rowRefs rows ∧ RowsOk H rows ∧ Four rows ∧ rows.length = xs.length
  | [], _ => ⟨[], rfl, (fun r hr => by cases hr), (fun r hr => by cases hr), rfl⟩
  | v :: xs, h => by
    obtain ⟨q, a, b, c, d, rfl, hq, _⟩ := h v (List.mem_cons_self ..)
    obtain ⟨rows, e1, e2, e3, e4⟩ := quad_rows (xs := xs) fun y hy => h y (List.mem_cons_of_mem _ hy)
    refine ⟨(q, [a, b, c, d]) :: rows, by rw [e1] <;> rfl, fun r hr => ?_, fun r hr => ?_, by rw [List.length_cons, List.length_cons, e4]⟩
    · rcases List.mem_cons.mp hr with rfl | hr
      · exact hq
      · exact e2 r hr
    · rcases List.mem_cons.mp hr with rfl | hr
      · exact ⟨a, b, c, d, rfl⟩
      · exact e3 r hr
theorem rows_quad {H : Hp} {rows : List (Addr × List Int)} (h1 : RowsOk H rows) (h2 : Four rows) : ∀ v ∈ rowRefs rows, Quad (fun _ => True) H v := fun v hv => by
  obtain ⟨r, hr, rfl⟩ := List.mem_map.mp hv
  obtain ⟨a, b, c, d, e⟩ := h2 r hr
  have := h1 r hr
  rw [e] at this
  exact ⟨r.1, a, b, c, d, rfl, this, trivial⟩
theorem memJ : ((He.cT K ("joined", none)).2, lamJ) ∈ TT K := List.mem_cons_self ..
theorem memT : ((He.cT K ("tree_turns", none)).2, lamT) ∈ TT K := List.mem_cons_of_mem _ (List.mem_cons_self ..)
theorem huJ (T : Txt w K mg) : ∀ p ∈ TT K, p.1 = (He.cT K ("joined", none)).2 → p.2 = lamJ := fun p hp e => by
  rcases List.mem_cons.mp hp with rfl | hp
  · rfl
  · rcases List.mem_cons.mp hp with rfl | hp
    · exact absurd e.symm T.pne
    · cases hp
theorem huT (T : Txt w K mg) : ∀ p ∈ TT K, p.1 = (He.cT K ("tree_turns", none)).2 → p.2 = lamT := fun p hp e => by
  rcases List.mem_cons.mp hp with rfl | hp
  · exact absurd e T.pne
  · rcases List.mem_cons.mp hp with rfl | hp
    · rfl
    · cases hp
/-! ### joined -/
def spJoined (K : PySem.W.Frag) : Sp := fun vs H Q _ => ∃ (p : Addr) (xs : List V), vs = [.ref p] ∧ H p = some (.lst xs) ∧ xs.length ≤ 2000 ∧ (∀ v ∈ xs, Quad (fun _ => True) H v) ∧ Tabs (TT K) H ∧
  ∀ H' q ys, XT K H H' → H' q = some (.lst ys) → ys.length ≤ 2000 → (∀ v ∈ ys, Quad (fun _ => True) H' v) → Q (.ref q) H'
/-- what the walk keeps: all of G but the new list; its rows are newer than G -/
def JInv (K : PySem.W.Frag) (G : Hp) (fd : Addr) (i : Nat) (H' : Hp) : Prop := (∀ b o, b ≠ fd → G b = some o → (∀ ps, o ≠ HO.tbl ps) → H' b = some o) ∧ Tabs (TT K) H' ∧ ∃ fs, H' fd = some (.lst fs) ∧ fs.length ≤ i ∧ ∀ v ∈ fs, Quad (FrW G) H' v
theorem sc_joined : FnScope ["rows", "found", "row", "at"] ["rows"] (defScope s_joined) := ⟨rfl, rfl, rfl, by decide +kernel, rfl, by decide +kernel, by decide +kernel⟩
theorem ok_joined (T : Txt w K mg) (B : TB2 K mg base) : Dok P w K mg base CX0 2 (ga K "joined") ["rows"] (spJoined K) := by
  obtain ⟨fd, F⟩ := T.d_joined
  have sc := sc_joined
  have D_place_ahead := ok_place_ahead (P := P) (base := base) T
  refine ⟨fd, okC (d := ("joined", none)) F sc (fun vs H Q E h => ?_) (fun A outer s H vs Q E hr h => ?_), F.bindsN fun _ _ _ _ _ _ us hl => match us, hl with | [_], _ => rfl, F.kp⟩
  · obtain ⟨p, xs, rfl, _⟩ := h
    rfl
  refine ⟨_, PSs.nox (pss_cons (ps_set (i := 1) sc.nd rfl (Or.inl rfl) (pe_lst pa_nil)) (pss_cons (ps_for PassesOwn.never rfl (pi_list (pe_sortedRows (T := TT K) rfl hr B.j rfl memJ (huJ T) rfl (T.n "sorted") (pa_cons (pv 0) pa_nil))) (pg_name (i := 2) sc.nd rfl (Or.inl rfl)) (pss_cons (ps_set (i := 3) sc.nd rfl (Or.inl rfl) (pe_f D_place_ahead hr (T.g "place_ahead") (pa_cons (pv 1) (pa_cons (pv 2) pa_nil)))) (pss_one (ps_if (pt_cmpR op_lt (pv 3) pe_int (nomark _)) (pss_one (ps_expr (pe_bm PySem.F.plainAttrs_list PySem.F.slot_list_append PySem.F.type_list_append mt_append (pv 1) (pa_cons (pe_callTy call_list_of rfl (T.n "list") (by decide +kernel) (pa_cons (pv 2) pa_nil)) pa_nil)))) (pss_one (ps_asg (pe_ix ix_list (pv 2) pe_int (fun _ _ => rfl)) (pg_sub (pe_ix ix_list (pv 1) (pv 3) (fun _ _ => rfl)) pe_int set_list))))))) (pss_one (ps_ret (pv 1))))), ?_⟩
  obtain ⟨p, xs, rfl, hp, hlen, hqd, hT, hQ⟩ := h
  simp only [tSeq, tIfS, tOr, tAnd, tNot, tTest, tB, tOp, tCB, tCons, tNil, tVar, tC, tRet, tRetN, tNext, tDrop, tAsg, gName, gNil, gCons, gTup, gSub, tAug, tAugS, ipI, tCall, tMeth, tMake, tCmp, tAndV, tOrV, tNotV, tIf, tChain, tTup, tLst, tSl, tPart, tNoPart, tBM, tM0, tM1, tUn, rU, tFld, tCallS, tCKw, rIn, tMethF, tMethS, rEq, rNe, rI, rI0, rIxL, rIxT, rIxS, rSub, rSlL, C8.rSlX, rNewStrs, tMake0, cxK, cxNK, tLc_list, tLc_rng1, tFor_list, tFor_str, tFor_rng1, tYes, wipe, L2.start, List.map_cons, List.map_nil, List.length_cons, List.length_nil, List.replicate, List.cons_append, List.nil_append, List.append_nil, Nat.reduceAdd, Nat.reduceSub, List.getElem?_cons_zero, List.getElem?_cons_succ, List.set_cons_zero, List.set_cons_succ, Option.some.injEq, exists_eq_left', exists_eq_left, exists_eq', and_true, true_and, exists_eq_right, exists_const, V.int.injEq, V.str.injEq, V.bl.injEq, V.ref.injEq, List.cons.injEq, scal_ii, scal_ss, scal_bb, decide_eq_true_eq, Bool.not_eq_true', decide_eq_false_iff_not, if_true, if_false, Bool.false_eq_true, exists_and_left, S_len, sz_le]
  refine ⟨sz_le (by decide), fun fd hfd => ?_⟩
  obtain ⟨rows, rfl, hok, h4, hl⟩ := quad_rows hqd
  have x1 := Lf.extN_upd (o := .lst []) hfd
  refine ⟨_, rfl, p, rows, rfl, SqL.of (x1.l hp), rowsOk_ext x1 hok, (fun r hr => by
    obtain ⟨a, b, c, d, e⟩ := h4 r hr
    rw [e]
    exact Nat.le_succ 3), hT.ext x1.same, fun H2 ys s e2 t2 perm hs => ?_⟩
  have X0 : XT K H (upd H2 s (.lst (rowRefs ys))) := ((XT.of x1).trans ⟨e2, fun _ => t2⟩).up hs
  have gs : (upd H2 s (.lst (rowRefs ys))) s = some (.lst (rowRefs ys)) := upd_same
  have up2 : ∀ {b : Addr} {zs : List V}, H2 b = some (.lst zs) → (upd H2 s (.lst (rowRefs ys))) b = some (.lst zs) := fun {b zs} e => by
    rw [upd_ne (fun z => by rw [z, hs] at e; cases e)]
    exact e
  have gfd : (upd H2 s (.lst (rowRefs ys))) fd = some (.lst []) := up2 (e2 _ _ upd_same (nt_lst _))
  have gr : ∀ r ∈ ys, ∃ a b c d : Int, (upd H2 s (.lst (rowRefs ys))) r.1 = some (.lst [.int a, .int b, .int c, .int d]) := fun r hr => by
    have hr' := perm.subset hr
    obtain ⟨a, b, c, d, e⟩ := h4 r hr'
    have := x1.l (hok r hr')
    rw [e] at this
    exact ⟨a, b, c, d, up2 (e2 _ _ this (nt_lst _))⟩
  have gT : Tabs (TT K) (upd H2 s (.lst (rowRefs ys))) := X0.tab hT
  have hyl : ys.length ≤ 2000 := by rw [perm.length_eq, hl]; exact hlen
  have nfs : s ≠ fd := fun z => by
    have := e2 _ _ (show (upd H fd (.lst [])) fd = some (.lst []) from upd_same) (nt_lst _)
    rw [← z, hs] at this
    cases this
  generalize upd H2 s (.lst (rowRefs ys)) = G at X0 gs gfd gr gT ⊢
  refine ⟨s, rfl, ⟨_, SqL.of gs⟩, for_w (xs := rowRefs ys) walk_list (fun i σ H' => JInv K G fd i H' ∧ ∃ u1 u2, σ = [some (.ref p), some (.ref fd), u1, u2]) ⟨⟨fun b o _ e _ => e, gT, [], gfd, Nat.zero_le _, fun v hv => by cases hv⟩, _, _, rfl⟩ (fun i σ H' _ z => SqL.of (z.1.1 _ _ nfs gs (nt_lst _))) (fun i x σ H' hx z => ?_) (fun σ H' z => ?_)⟩
  · obtain ⟨⟨k1, k2, fs, hfs, hfl, hfq⟩, u1, u2, rfl⟩ := z
    obtain ⟨r, hr, rfl⟩ := ref_at hx
    obtain ⟨a, b, c, d, hra⟩ := gr r (List.mem_of_getElem? hr)
    have nr : r.1 ≠ fd := fun z => by rw [z, gfd] at hra; cases hra
    have hr1 := k1 _ _ nr hra (nt_lst _)
    obtain ⟨frows, rfl, fok, f4, fl⟩ := quad_rows hfq
    have hi : i < ys.length := (List.getElem?_eq_some_iff.mp hr).1
    simp only [tSeq, tIfS, tOr, tAnd, tNot, tTest, tB, tOp, tCB, tCons, tNil, tVar, tC, tRet, tRetN, tNext, tDrop, tAsg, gName, gNil, gCons, gTup, gSub, tAug, tAugS, ipI, tCall, tMeth, tMake, tCmp, tAndV, tOrV, tNotV, tIf, tChain, tTup, tLst, tSl, tPart, tNoPart, tBM, tM0, tM1, tUn, rU, tFld, tCallS, tCKw, rIn, tMethF, tMethS, rEq, rNe, rI, rI0, rIxL, rIxT, rIxS, rSub, rSlL, C8.rSlX, rNewStrs, tMake0, cxK, cxNK, tLc_list, tLc_rng1, tFor_list, tFor_str, tFor_rng1, tYes, wipe, L2.start, List.map_cons, List.map_nil, List.length_cons, List.length_nil, List.replicate, List.cons_append, List.nil_append, List.append_nil, Nat.reduceAdd, Nat.reduceSub, List.getElem?_cons_zero, List.getElem?_cons_succ, List.set_cons_zero, List.set_cons_succ, Option.some.injEq, exists_eq_left', exists_eq_left, exists_eq', and_true, true_and, exists_eq_right, exists_const, V.int.injEq, V.str.injEq, V.bl.injEq, V.ref.injEq, List.cons.injEq, scal_ii, scal_ss, scal_bb, decide_eq_true_eq, Bool.not_eq_true', decide_eq_false_iff_not, if_true, if_false, Bool.false_eq_true, exists_and_left, S_len, sz_le]
    refine ⟨fd, r.1, frows, a, b, c, d, rfl, hfs, fok, f4, by omega, hr1, fun k H3 hk e3 => ?_⟩
    have frfd : ∀ {q : Addr}, FrW G q → q ≠ fd := fun {q} f z => by
      obtain ⟨ps, e⟩ := f _ (by rw [z]; exact gfd)
      cases e
    refine ⟨k, rfl, ite2 (fun _ => ⟨.inl ⟨rfl, _, SqL.of (e3.l hfs)⟩, _, .inl (SqL.of (e3.l hr1)), fun l hl => ?_⟩) fun hk0 => ?_⟩
    · have nl : fd ≠ l := fun z => by
        have := e3.l hfs
        rw [z, hl] at this
        cases this
      have hfs4 : (upd H3 l (.lst [.int a, .int b, .int c, .int d])) fd = some (.lst (rowRefs frows)) := by
        rw [upd_ne nl]
        exact e3.l hfs
      refine ⟨fd, _, .ref l, rfl, rfl, hfs4, Nat.lt_of_le_of_lt hfl (by rw [sizeLine_eq]; omega), fun b o hb e nt => ?_, Tabs.updL ((k2.ext e3.same).ext (Lf.extN_upd hl).same) hfs4, _, upd_same, by rw [List.length_append]; exact Nat.succ_le_succ hfl, fun v hv => ?_⟩
      · have h3 := e3.same _ _ (k1 b o hb e nt)
        rw [upd_ne hb, upd_ne (fun z => by rw [z, hl] at h3; cases h3)]
        exact h3
      · rcases List.mem_append.mp hv with hv | hv
        · obtain ⟨q, a', b', c', d', rfl, hq, hB⟩ := hfq v hv
          have h3 := e3.l hq
          exact ⟨q, a', b', c', d', rfl, by rw [upd_ne (frfd hB), upd_ne (fun z => by rw [z, hl] at h3; cases h3)]; exact h3, hB⟩
        · rw [List.mem_singleton.mp hv]
          refine ⟨l, a, b, c, d, rfl, by rw [upd_ne (Ne.symm nl), upd_same], fun o eo => Classical.byContradiction fun n => ?_⟩
          have := e3.same _ _ (k1 l o (Ne.symm nl) eo fun ps z => n ⟨ps, z⟩)
          rw [hl] at this
          cases this
    · obtain ⟨j, rfl, hj⟩ := hk.resolve_left fun z => hk0 (by omega)
      have hv : V.ref (frows[j]).1 ∈ rowRefs frows := List.mem_map_of_mem (List.getElem_mem hj)
      have gj : (rowRefs frows)[j]? = some (V.ref (frows[j]).1) := by
        unfold rowRefs
        rw [List.getElem?_map, List.getElem?_eq_getElem hj] <;> rfl
      generalize (frows[j]).1 = f at hv gj
      obtain ⟨q, a', b', c', d', eq, hq, hB⟩ := hfq _ hv
      obtain rfl := V.ref.inj eq
      have hq3 := e3.l hq
      refine ⟨_, SqL.of (e3.l hr1), _, atI_nat (j := 3) rfl, _, _, rfl, SqL.of (e3.l hfs), _, atI_nat gj, f, _, 3, 3, rfl, rfl, hq3, rfl, fun b o hb e nt => ?_, Tabs.updL (k2.ext e3.same) hq3, _, ?_, Nat.le_succ_of_le hfl, fun v hv => ?_⟩
      · have h3 := e3.same _ _ (k1 b o hb e nt)
        rw [upd_ne (fun z => by
          obtain ⟨ps, z2⟩ := hB o (by rw [← z]; exact e)
          exact nt ps z2)]
        exact h3
      · rw [upd_ne (Ne.symm (frfd hB))]
        exact e3.l hfs
      · obtain ⟨q2, a2, b2, c2, d2, rfl, hq2, hB2⟩ := hfq v hv
        by_cases e : q2 = f
        · subst e
          exact ⟨q2, a', b', c', d, rfl, upd_same, hB2⟩
        · exact ⟨q2, a2, b2, c2, d2, rfl, by rw [upd_ne e]; exact e3.l hq2, hB2⟩
  · obtain ⟨⟨k1, k2, fs, hfs, hfl, hfq⟩, u1, u2, rfl⟩ := z
    simp only [tSeq, tIfS, tOr, tAnd, tNot, tTest, tB, tOp, tCB, tCons, tNil, tVar, tC, tRet, tRetN, tNext, tDrop, tAsg, gName, gNil, gCons, gTup, gSub, tAug, tAugS, ipI, tCall, tMeth, tMake, tCmp, tAndV, tOrV, tNotV, tIf, tChain, tTup, tLst, tSl, tPart, tNoPart, tBM, tM0, tM1, tUn, rU, tFld, tCallS, tCKw, rIn, tMethF, tMethS, rEq, rNe, rI, rI0, rIxL, rIxT, rIxS, rSub, rSlL, C8.rSlX, rNewStrs, tMake0, cxK, cxNK, tLc_list, tLc_rng1, tFor_list, tFor_str, tFor_rng1, tYes, wipe, L2.start, List.map_cons, List.map_nil, List.length_cons, List.length_nil, List.replicate, List.cons_append, List.nil_append, List.append_nil, Nat.reduceAdd, Nat.reduceSub, List.getElem?_cons_zero, List.getElem?_cons_succ, List.set_cons_zero, List.set_cons_succ, Option.some.injEq, exists_eq_left', exists_eq_left, exists_eq', and_true, true_and, exists_eq_right, exists_const, V.int.injEq, V.str.injEq, V.bl.injEq, V.ref.injEq, List.cons.injEq, scal_ii, scal_ss, scal_bb, decide_eq_true_eq, Bool.not_eq_true', decide_eq_false_iff_not, if_true, if_false, Bool.false_eq_true, exists_and_left, S_len, sz_le]
    refine hQ H' fd fs ⟨fun b o e nt => ?_, fun _ => k2⟩ hfs (by rw [rowRefs_len] at hfl; omega) fun v hv => ?_
    · have hb : b ≠ fd := fun z => by rw [z, hfd] at e; cases e
      exact k1 b o hb (X0.ext b o e nt) nt
    · obtain ⟨q, a', b', c', d', rfl, hq, hB⟩ := hfq v hv
      exact ⟨q, a', b', c', d', rfl, hq, trivial⟩
/-! ### tail_plan -/
theorem fm_rows {H : Hp} {j : Nat} : ∀ {ws : List (Addr × List Int)}, (∀ r ∈ ws, fldH H j (V.ref r.1) = some (.int (r.2.getD j 0))) → (rowRefs ws).filterMap (fldH H j) = (ws.map fun r => r.2.getD j 0).map V.int
  | [], _ => rfl
  | r :: ws, h => by
    show (V.ref r.1 :: rowRefs ws).filterMap (fldH H j) = _
    rw [List.filterMap_cons, h r (List.mem_cons_self ..), fm_rows fun x hx => h x (List.mem_cons_of_mem _ hx)] <;> rfl
theorem sum_bound {ls : List Int} (h : ∀ n ∈ ls, 0 ≤ n ∧ n ≤ 100) : 0 ≤ ls.sum ∧ ls.sum ≤ 100 * (ls.length : Int) := by
  induction ls with
  | nil => exact ⟨Int.le_refl _, Int.le_refl _⟩
  | cons a l ih =>
    have h1 := h a (List.mem_cons_self ..)
    have h2 := ih fun x hx => h x (List.mem_cons_of_mem _ hx)
    rw [List.sum_cons, List.length_cons]
    omega
theorem sum_pos {ls : List Int} (h : ∀ n ∈ ls, 0 ≤ n) (hs : 0 < ls.sum) : ∃ (i : Nat) (n : Int), ls[i]? = some n ∧ 0 < n := by
  induction ls with
  | nil => exact absurd hs (by decide)
  | cons a l ih =>
    by_cases ha : 0 < a
    · exact ⟨0, a, rfl, ha⟩
    · have h1 := h a (List.mem_cons_self ..)
      rw [List.sum_cons] at hs
      obtain ⟨i, n, e1, e2⟩ := ih (fun x hx => h x (List.mem_cons_of_mem _ hx)) (by omega)
      exact ⟨i + 1, n, by simpa using e1, e2⟩
theorem sum_set {ls : List Int} : ∀ {i : Nat} {n m : Int}, ls[i]? = some n → (ls.set i m).sum = ls.sum - n + m := by
  induction ls with
  | nil => intro i n m h; simp at h
  | cons a l ih =>
    intro i n m h
    cases i with
    | zero =>
      simp only [List.getElem?_cons_zero, Option.some.injEq] at h
      subst h
      rw [List.set_cons_zero, List.sum_cons, List.sum_cons]
      omega
    | succ i =>
      rw [List.set_cons_succ, List.sum_cons, List.sum_cons, ih (n := n) (by simpa using h)]
      omega
theorem mem_le_sum {ls : List Int} (h : ∀ n ∈ ls, 0 ≤ n) {n : Int} (hn : n ∈ ls) : n ≤ ls.sum := by
  induction ls with
  | nil => cases hn
  | cons a l ih =>
    have h1 := h a (List.mem_cons_self ..)
    have h2 : ∀ x ∈ l, 0 ≤ x := fun x hx => h x (List.mem_cons_of_mem _ hx)
    rw [List.sum_cons]
    have hp : 0 ≤ l.sum := by
      clear ih hn
      induction l with
      | nil => exact Int.le_refl _
      | cons b l ih =>
        rw [List.sum_cons]
        have := h2 b (List.mem_cons_self ..)
        have := ih (fun x hx => h x (by
          rcases List.mem_cons.mp hx with rfl | hx
          · exact List.mem_cons_self ..
          · exact List.mem_cons_of_mem _ (List.mem_cons_of_mem _ hx))) fun x hx => h2 x (List.mem_cons_of_mem _ hx)
        omega
    rcases List.mem_cons.mp hn with rfl | hn
    · omega
    · have := ih h2 hn
      omega
theorem ixN_nat {n j : Nat} (h : j < n) : ixN n (j : Int) = some j := by
  unfold ixN
  simp
  omega
theorem meas1 {s m sz : Int} (h : 1 ≤ sz) (hle : sz ≤ s) : (s - sz).toNat + (101 - (m + sz)).toNat < s.toNat + (101 - m).toNat := by omega
theorem meas2 {s m sz : Int} {l : Nat} (h : 1 ≤ sz) (hle : sz ≤ s) (hm : l + (s.toNat + (101 - m).toNat) ≤ 1400) : l + 1 + ((s - sz).toNat + (101 - (m + sz)).toNat) ≤ 1400 := by omega
/-- what the bench's walk keeps -/
def TPI (H0 : Hp) (ws : List (Addr × List Int)) (L R : Addr) (ls : List Int) (m : Int) (xs : List V) (H' : Hp) : Prop :=
  ExtN H0 H' ∧ H' L = some (.lst (ls.map V.int)) ∧ H' R = some (.lst xs) ∧ ls.length = ws.length ∧ (∀ n ∈ ls, 0 ≤ n ∧ n ≤ 100) ∧ 0 ≤ m ∧ ∀ v ∈ xs, Quad (fun q => q ≠ L ∧ q ≠ R) H' v
def spTailPlan (K : PySem.W.Frag) : Sp := fun vs H Q _ => ∃ (p : Addr) (ws : List (Addr × List Int)), vs = [.ref p] ∧ H p = some (.lst (rowRefs ws)) ∧ RowsOk H ws ∧ GoodT ws ∧ Tabs (TT K) H ∧
  ∀ H' q ys, XT K H H' → H' q = some (.lst ys) → ys.length ≤ 2000 → (∀ v ∈ ys, Quad (fun _ => True) H' v) → Q (.ref q) H'
theorem sc_tail_plan : FnScope ["works", "work", "left", "rows", "moment", "come", "size"] ["works"] (defScope s_tail_plan) := ⟨rfl, rfl, rfl, by decide +kernel, rfl, by decide +kernel, by decide +kernel⟩
theorem ok_tail_plan (T : Txt w K mg) (B : TB2 K mg base) : Dok P w K mg base CX0 3 (ga K "tail_plan") ["works"] (spTailPlan K) := by
  obtain ⟨fd, F⟩ := T.d_tail_plan
  have sc := sc_tail_plan
  have D_joined := ok_joined (P := P) (base := base) T B
  have D_next_work := ok_next_work (P := P) (base := base) T
  have D_next_come := ok_next_come (P := P) (base := base) T
  refine ⟨fd, F.ok sc (fun vs H Q E h => ?_) (fun cdv A outer s H vs Q E hr h => ?_), F.bindsN fun _ _ _ _ _ _ us hl => match us, hl with | [_], _ => rfl, F.kp⟩
  · obtain ⟨p, ws, rfl, _⟩ := h
    rfl
  refine ⟨_, PSs.nox (pss_cons (ps_setLc (i := 2) (own := [("work", 1)]) (g := gName 1) (tt := tYes) rfl sc.nd rfl rfl (sw_true rfl rfl rfl (by decide +kernel)) (pi_list (pv 0)) (blkOk_by (own := [("work", 1)]) (N := ["works", "work", "left", "rows", "moment", "come", "size"]) (sc := defScope s_tail_plan) (by decide +kernel)) (fun _ _ _ _ _ => pg_name (i := 1) sc.nd rfl (Or.inl rfl)) (fun _ _ _ _ _ => pts_nil) (fun _ _ _ _ _ => (pe_ix (r := rIxL K) ix_list (pv 1) pe_int (fun _ _ => rfl)))) (pss_cons (ps_set (i := 3) sc.nd rfl (Or.inl rfl) (pe_lst pa_nil)) (pss_cons (ps_set (i := 4) sc.nd rfl (Or.inl rfl) pe_int) (pss_cons (ps_while PassesOwn.never (pt_cmpR op_gt (pe_callB (cr_sum rfl) rfl (T.n "sum") (by decide +kernel) (pa_cons (pv 2) pa_nil)) pe_int (nomark _)) (pss_cons (ps_set (i := 1) sc.nd rfl (Or.inl rfl) (pe_f D_next_work hr (T.g "next_work") (pa_cons (pv 0) (pa_cons (pv 2) (pa_cons (pv 4) pa_nil))))) (pss_cons (ps_set (i := 5) sc.nd rfl (Or.inl rfl) (pe_f D_next_come hr (T.g "next_come") (pa_cons (pv 0) (pa_cons (pv 4) pa_nil)))) (pss_one (ps_if (pt_cmpR op_lt (pv 1) pe_int (nomark _)) (pss_one (ps_set (i := 4) sc.nd rfl (Or.inl rfl) (pv 5))) (pss_cons (ps_set (i := 6) sc.nd rfl (Or.inl rfl) (pe_ix ix_list (pv 2) (pv 1) (fun _ _ => rfl))) (pss_cons (ps_if (pt_cmpR op_gt (pv 5) (pv 4) (nomark _)) (pss_one (ps_set (i := 6) sc.nd rfl (Or.inl rfl) (pe_callB (call_min2 rfl) rfl (T.n "min") (by decide +kernel) (pa_cons (pv 6) (pa_cons (pe_op op_sub (pv 5) (pv 4)) pa_nil))))) pss_nil) (pss_cons (ps_expr (pe_bm PySem.F.plainAttrs_list PySem.F.slot_list_append PySem.F.type_list_append mt_append (pv 3) (pa_cons (pe_lst (pa_cons pe_int (pa_cons (pv 1) (pa_cons (pv 4) (pa_cons (pe_op op_add (pv 4) (pv 6)) pa_nil))))) pa_nil))) (pss_cons (ps_augS (pv 2) (pv 1) get_list (pv 6) ip_sub set_list) (pss_one (ps_aug (i := 4) sc.nd rfl (Or.inl rfl) (pv 6) ip_add))))))))))) (pss_one (ps_ret (pe_f D_joined hr (T.g "joined") (pa_cons (pv 3) pa_nil)))))))), ?_⟩
  obtain ⟨p, ws, rfl, hp, hok, hg, hT, hQ⟩ := h
  simp only [tSeq, tIfS, tOr, tAnd, tNot, tTest, tB, tOp, tCB, tCons, tNil, tVar, tC, tRet, tRetN, tNext, tDrop, tAsg, gName, gNil, gCons, gTup, gSub, tAug, tAugS, ipI, tCall, tMeth, tMake, tCmp, tAndV, tOrV, tNotV, tIf, tChain, tTup, tLst, tSl, tPart, tNoPart, tBM, tM0, tM1, tUn, rU, tFld, tCallS, tCKw, rIn, tMethF, tMethS, rEq, rNe, rI, rI0, rIxL, rIxT, rIxS, rSub, rSlL, C8.rSlX, rNewStrs, tMake0, cxK, cxNK, tLc_list, tLc_rng1, tFor_list, tFor_str, tFor_rng1, tYes, wipe, L2.start, List.map_cons, List.map_nil, List.length_cons, List.length_nil, List.replicate, List.cons_append, List.nil_append, List.append_nil, Nat.reduceAdd, Nat.reduceSub, List.getElem?_cons_zero, List.getElem?_cons_succ, List.set_cons_zero, List.set_cons_succ, Option.some.injEq, exists_eq_left', exists_eq_left, exists_eq', and_true, true_and, exists_eq_right, exists_const, V.int.injEq, V.str.injEq, V.bl.injEq, V.ref.injEq, List.cons.injEq, scal_ii, scal_ss, scal_bb, decide_eq_true_eq, Bool.not_eq_true', decide_eq_false_iff_not, if_true, if_false, Bool.false_eq_true, exists_and_left, S_len, sz_le]
  have hS : ∀ H', ExtN H H' → SqL K H' p (rowRefs ws) := fun H' x => SqL.of (x.l hp)
  refine ⟨⟨_, hS _ (ExtN.refl _)⟩, fun L hL => ?_⟩
  have fl : ∀ r ∈ ws, fldH H 1 (V.ref r.1) = some (.int (r.2.getD 1 0)) := fun r hr => by
    obtain ⟨a, b, c, e, _⟩ := hg.2 r hr
    exact fld_at (hok r hr) (by rw [e] <;> rfl)
  refine lc_pureW (xs := rowRefs ws) walk_list rfl (fldH H 1) (by
    rw [rowRefs_len]
    exact Nat.lt_of_le_of_lt hg.1 (by rw [sizeLine_eq]; omega)) (fun acc => hS _ (Lf.extN_upd hL)) (fun i x acc Qy Qn hx hy hn => ?_) ?_
  · obtain ⟨r, hr, rfl⟩ := ref_at hx
    have hm := List.mem_of_getElem? hr
    obtain ⟨a, b, c, e, _⟩ := hg.2 r hm
    refine ⟨rfl, ?_⟩
    have hq := (Lf.extN_upd (o := .lst acc) hL).l (hok r hm)
    replace hy := hy _ (fl r hm)
    rw [e] at hq hy
    simp only [tSeq, tIfS, tOr, tAnd, tNot, tTest, tB, tOp, tCB, tCons, tNil, tVar, tC, tRet, tRetN, tNext, tDrop, tAsg, gName, gNil, gCons, gTup, gSub, tAug, tAugS, ipI, tCall, tMeth, tMake, tCmp, tAndV, tOrV, tNotV, tIf, tChain, tTup, tLst, tSl, tPart, tNoPart, tBM, tM0, tM1, tUn, rU, tFld, tCallS, tCKw, rIn, tMethF, tMethS, rEq, rNe, rI, rI0, rIxL, rIxT, rIxS, rSub, rSlL, C8.rSlX, rNewStrs, tMake0, cxK, cxNK, tLc_list, tLc_rng1, tFor_list, tFor_str, tFor_rng1, tYes, wipe, L2.start, List.map_cons, List.map_nil, List.length_cons, List.length_nil, List.replicate, List.cons_append, List.nil_append, List.append_nil, Nat.reduceAdd, Nat.reduceSub, List.getElem?_cons_zero, List.getElem?_cons_succ, List.set_cons_zero, List.set_cons_succ, Option.some.injEq, exists_eq_left', exists_eq_left, exists_eq', and_true, true_and, exists_eq_right, exists_const, V.int.injEq, V.str.injEq, V.bl.injEq, V.ref.injEq, List.cons.injEq, scal_ii, scal_ss, scal_bb, decide_eq_true_eq, Bool.not_eq_true', decide_eq_false_iff_not, if_true, if_false, Bool.false_eq_true, exists_and_left, S_len, sz_le]
    exact ⟨_, SqL.of hq, _, atI_nat (j := 1) rfl, hy⟩
  rw [fm_rows fl]
  have xL := Lf.extN_upd (o := .lst ((ws.map fun r : Addr × List Int => r.2.getD 1 0).map V.int)) hL
  refine ⟨sz_le (by decide), fun R hR => ?_⟩
  have xR := Lf.extN_upd (o := .lst []) hR
  have hRL : R ≠ L := fun z => by rw [z, upd_same] at hR; cases hR
  have hL2 : (upd (upd H L (.lst ((ws.map fun r : Addr × List Int => r.2.getD 1 0).map V.int))) R (.lst [])) L = some (.lst ((ws.map fun r : Addr × List Int => r.2.getD 1 0).map V.int)) := xR.l upd_same
  have hb : ∀ n ∈ (ws.map fun r : Addr × List Int => r.2.getD 1 0), 0 ≤ n ∧ n ≤ 100 := fun n hn => by
    obtain ⟨r, hr, rfl⟩ := List.mem_map.mp hn
    obtain ⟨a, b, c, e, h1, h2, h3, h4, h5, h6⟩ := hg.2 r hr
    rw [e]
    exact ⟨by show 0 ≤ b; omega, h4⟩
  have hR0 : H R = none := by
    rw [upd_ne hRL] at hR
    exact hR
  have hsum : ((ws.map fun r : Addr × List Int => r.2.getD 1 0).sum).toNat ≤ 1200 := by
    have := sum_bound hb
    rw [List.length_map] at this
    have := hg.1
    omega
  refine ⟨fun mm σ H' => ∃ ls m xs u1 u5 u6, TPI H ws L R ls m xs H' ∧ mm = ls.sum.toNat + (101 - m).toNat ∧ xs.length + mm ≤ 1400 ∧ σ = [some (.ref p), u1, some (.ref L), some (.ref R), some (.int m), u5, u6],
    ⟨_, _, 0, [], _, _, _, ⟨xL.trans xR, hL2, upd_same, List.length_map _, hb, by decide, fun v hv => by cases hv⟩, rfl, by show 0 + (_ + (101 - 0 : Int).toNat) ≤ 1400; omega, rfl⟩, fun mm σ H' z => ?_⟩
  obtain ⟨ls, m, xs, u1, u5, u6, ⟨i1, i2, i3, i4, i5, i6, i7⟩, rfl, hmm, rfl⟩ := z
  have hp1 := i1.l hp
  have hok1 := rowsOk_ext i1 hok
  simp only [tSeq, tIfS, tOr, tAnd, tNot, tTest, tB, tOp, tCB, tCons, tNil, tVar, tC, tRet, tRetN, tNext, tDrop, tAsg, gName, gNil, gCons, gTup, gSub, tAug, tAugS, ipI, tCall, tMeth, tMake, tCmp, tAndV, tOrV, tNotV, tIf, tChain, tTup, tLst, tSl, tPart, tNoPart, tBM, tM0, tM1, tUn, rU, tFld, tCallS, tCKw, rIn, tMethF, tMethS, rEq, rNe, rI, rI0, rIxL, rIxT, rIxS, rSub, rSlL, C8.rSlX, rNewStrs, tMake0, cxK, cxNK, tLc_list, tLc_rng1, tFor_list, tFor_str, tFor_rng1, tYes, wipe, L2.start, List.map_cons, List.map_nil, List.length_cons, List.length_nil, List.replicate, List.cons_append, List.nil_append, List.append_nil, Nat.reduceAdd, Nat.reduceSub, List.getElem?_cons_zero, List.getElem?_cons_succ, List.set_cons_zero, List.set_cons_succ, Option.some.injEq, exists_eq_left', exists_eq_left, exists_eq', and_true, true_and, exists_eq_right, exists_const, V.int.injEq, V.str.injEq, V.bl.injEq, V.ref.injEq, List.cons.injEq, scal_ii, scal_ss, scal_bb, decide_eq_true_eq, Bool.not_eq_true', decide_eq_false_iff_not, if_true, if_false, Bool.false_eq_true, exists_and_left, S_len, sz_le]
  refine ⟨L, ls, rfl, SqL.of i2, _, rfl, ite2 (fun h0 => ?_) fun h0 => ?_⟩
  · obtain ⟨NN, hNN⟩ : ∃ NN : L2.St → Hp → Prop, NN = fun σ' H2 => ∃ ls' m' xs' u1 u5 u6, TPI H ws L R ls' m' xs' H2 ∧ ls'.sum.toNat + (101 - m').toNat < ls.sum.toNat + (101 - m).toNat ∧ xs'.length + (ls'.sum.toNat + (101 - m').toNat) ≤ 1400 ∧ σ' = [some (.ref p), u1, some (.ref L), some (.ref R), some (.int m'), u5, u6] := ⟨_, rfl⟩
    refine ⟨NN, fun σ' H2 z => ?_, p, L, ws, ls, m, rfl, hp1, hok1, hg, i2, i4, fun k hk => ⟨p, ws, m, rfl, hp1, hok1, hg, fun c H2 hc e2 => ?_⟩⟩
    · rw [hNN] at z
      obtain ⟨ls', m', xs', v1, v5, v6, z1, z2, z3, z4⟩ := z
      exact ⟨_, z2, ls', m', xs', z1, rfl, z3, v1, v5, v6, z4⟩
    · refine ⟨k, rfl, ite2 (fun hk0 => ?_) fun hk0 => ?_⟩
      · rw [hNN]
        obtain ⟨rfl, hno⟩ := hk.resolve_right fun z => by
          obtain ⟨i, r, n, e, _⟩ := z
          omega
        obtain ⟨i, n, hi, hn0⟩ := sum_pos (fun n hn => (i5 n hn).1) h0
        have hil : i < ws.length := by
          rw [← i4]
          exact (List.getElem?_eq_some_iff.mp hi).1
        have hri : ws[i]? = some ws[i] := List.getElem?_eq_getElem hil
        obtain ⟨r, hr, rfl, hlt⟩ := hc.resolve_left fun z => hno i _ n hri hi ⟨hn0, Int.not_lt.mp (z.2 _ (List.mem_of_getElem? hri))⟩
        obtain ⟨a, b, c, e, h1, h2, _⟩ := hg.2 r hr
        have ea : r.2.getD 0 0 = a := by rw [e] <;> rfl
        rw [ea] at hlt ⊢
        exact ⟨ls, a, xs, _, _, _, ⟨i1.trans e2, e2.l i2, e2.l i3, i4, i5, by omega, fun v hv => by
          obtain ⟨q, a', b', c', d', e1, hq, hB⟩ := i7 v hv
          exact ⟨q, a', b', c', d', e1, e2.l hq, hB⟩⟩, by omega, by omega, rfl⟩
      · obtain ⟨i, r, n, rfl, hr, hn, hn0, hcm⟩ := hk.resolve_left fun z => hk0 (by omega)
        have hil : i < ls.length := (List.getElem?_eq_some_iff.mp hn).1
        have gi : (ls.map V.int)[i]? = some (.int n) := by rw [List.getElem?_map, hn] <;> rfl
        have hL2' := e2.l i2
        have hR2' := e2.l i3
        have hnb := i5 n (List.mem_of_getElem? hn)
        have core : ∀ (sz : Int) (v6 : Option V) (p1 : Addr), 1 ≤ sz → sz ≤ n → H2 p1 = none →
            (upd (upd H2 p1 (.lst [.int 0, .int (i : Nat), .int m, .int (m + sz)])) R (.lst (xs ++ [.ref p1]))) L = some (.lst (ls.map V.int)) ∧
            (upd H2 p1 (.lst [.int 0, .int (i : Nat), .int m, .int (m + sz)])) R = some (.lst xs) ∧
            NN [some (.ref p), some (.int (i : Nat)), some (.ref L), some (.ref R), some (.int (m + sz)), some (.int c), v6] (upd (upd (upd H2 p1 (.lst [.int 0, .int (i : Nat), .int m, .int (m + sz)])) R (.lst (xs ++ [.ref p1]))) L (.lst ((ls.map V.int).set i (.int (n - sz))))) := fun sz v6 p1 hs1 hs2 hp1n => by
          have x3 := Lf.extN_upd (o := .lst [.int 0, .int (i : Nat), .int m, .int (m + sz)]) hp1n
          have nR : R ≠ p1 := fun z => by rw [← z, hR2'] at hp1n; cases hp1n
          have nL : L ≠ p1 := fun z => by rw [← z, hL2'] at hp1n; cases hp1n
          refine ⟨by rw [upd_ne (Ne.symm hRL)]; exact x3.l hL2', x3.l hR2', ?_⟩
          rw [hNN]
          have hset : (ls.map V.int).set i (.int (n - sz)) = (ls.set i (n - sz)).map V.int := by rw [List.map_set]
          have hsm : (ls.set i (n - sz)).sum = ls.sum - sz := by
            rw [sum_set hn]
            omega
          have hle : n ≤ ls.sum := mem_le_sum (fun z hz => (i5 z hz).1) (List.mem_of_getElem? hn)
          refine ⟨ls.set i (n - sz), m + sz, xs ++ [.ref p1], _, _, _, ⟨((i1.trans e2).trans x3).upF hR0 |>.upF hL, by rw [hset]; exact upd_same, by rw [upd_ne hRL]; exact upd_same, by rw [List.length_set]; exact i4, fun z hz => ?_, by omega, fun v hv => ?_⟩, by rw [hsm]; exact meas1 hs1 (Int.le_trans hs2 hle), by rw [hsm, List.length_append, List.length_singleton]; exact meas2 hs1 (Int.le_trans hs2 hle) hmm, rfl⟩
          · rcases List.mem_or_eq_of_mem_set hz with hz | rfl
            · exact i5 z hz
            · omega
          · rcases List.mem_append.mp hv with hv | hv
            · obtain ⟨q, a', b', c', d', e1, hq, hB⟩ := i7 v hv
              exact ⟨q, a', b', c', d', e1, by rw [upd_ne hB.1, upd_ne hB.2]; exact x3.l (e2.l hq), hB⟩
            · rw [List.mem_singleton.mp hv]
              exact ⟨p1, 0, _, m, m + sz, rfl, by rw [upd_ne (Ne.symm nL), upd_ne (Ne.symm nR), upd_same], Ne.symm nL, Ne.symm nR⟩
        have hxl : xs.length < sizeLine := Nat.lt_of_le_of_lt (show xs.length ≤ 1400 by omega) (by rw [sizeLine_eq]; omega)
        refine ⟨_, _, rfl, SqL.of hL2', _, atI_nat gi, c, rfl, ite2 (fun hlt => ?_) fun hlt => ?_⟩
        · refine ⟨c, rfl, n, c - m, ⟨rfl, rfl⟩, .inl ⟨rfl, _, SqL.of hR2'⟩, sz_le (by decide), fun p1 hp1n => ?_⟩
          obtain ⟨c1, c2, c3⟩ := core (if c - m < n then c - m else n) (some (.int (if c - m < n then c - m else n))) p1 (by split <;> omega) (by split <;> omega) hp1n
          exact ⟨R, xs, .ref p1, rfl, rfl, c2, hxl, L, _, i, .int n, rfl, rfl, SqL.of c1, gi, n, rfl, L, _, _, i, rfl, rfl, c1, by rw [List.length_map]; exact ixN_nat hil, c3⟩
        · refine ⟨.inl ⟨rfl, _, SqL.of hR2'⟩, n, rfl, sz_le (by decide), fun p1 hp1n => ?_⟩
          obtain ⟨c1, c2, c3⟩ := core n (some (.int n)) p1 (by omega) (by omega) hp1n
          exact ⟨R, xs, .ref p1, rfl, rfl, c2, hxl, L, _, i, .int n, rfl, rfl, SqL.of c1, gi, n, rfl, n, rfl, L, _, _, i, rfl, rfl, c1, by rw [List.length_map]; exact ixN_nat hil, n, rfl, c3⟩
  · refine ⟨R, xs, rfl, i3, by omega, fun v hv => ?_, hT.ext i1.same, fun H' q ys e h1 h2 h3 => hQ H' q ys ((XT.of i1).trans e) h1 h2 h3⟩
    obtain ⟨q, a, b, c, d, e, hq, _⟩ := i7 v hv
    exact ⟨q, a, b, c, d, e, hq, trivial⟩
/-! ### done_at, tail_end -/
def spDone (K : PySem.W.Frag) : Sp := fun vs H Q _ => ∃ (p q : Addr) (ws : List (Addr × List Int)) (ys : List V) (k : Nat), vs = [.ref p, .ref q, .int (k : Nat)] ∧ H p = some (.lst (rowRefs ws)) ∧ RowsOk H ws ∧ GoodT ws ∧ H q = some (.lst ys) ∧ ys.length ≤ 2000 ∧ (∀ v ∈ ys, Quad (fun _ => True) H v) ∧ k < ws.length ∧ ∀ (n : Int) H', ExtN H H' → Q (.int n) H'
theorem sc_done_at : FnScope ["works", "rows", "work", "row"] ["works", "rows", "work"] (defScope s_done_at) := ⟨rfl, rfl, rfl, by decide +kernel, rfl, by decide +kernel, by decide +kernel⟩
theorem ok_done_at (T : Txt w K mg) : Dok P w K mg base CX0 2 (ga K "done_at") ["works", "rows", "work"] (spDone K) := by
  obtain ⟨fd, F⟩ := T.d_done_at
  have sc := sc_done_at
  have D_last_moment := ok_last_moment (P := P) (base := base) T
  refine ⟨fd, F.ok sc (fun vs H Q E h => ?_) (fun cdv A outer s H vs Q E hr h => ?_), F.bindsN fun _ _ _ _ _ _ us hl => match us, hl with | [_, _, _], _ => rfl, F.kp⟩
  · obtain ⟨p, q, ws, ys, k, rfl, _⟩ := h
    rfl
  refine ⟨_, PSs.nox (pss_one (ps_ret (pe_op op_add (pe_f D_last_moment hr (T.g "last_moment") (pa_cons (pe_lc (own := [("row", 3)]) (g := gName 3) rfl sc.nd (pi_list (pv 1)) (blkOk_by (own := [("row", 3)]) (N := ["works", "rows", "work", "row"]) (sc := defScope s_done_at) (by decide +kernel)) (fun _ _ _ _ _ => pg_name (i := 3) sc.nd rfl (Or.inl rfl)) (fun _ _ _ _ _ => (pts_one (pt_cmpR op_eq (pe_ix (r := rIxL K) ix_list (pv 3) pe_int (fun _ _ => rfl)) (pv 2) (nomark _)))) (fun _ _ _ _ _ => (pv 3))) pa_nil)) (pe_ix ix_list (pe_ix ix_list (pv 0) (pv 2) (fun _ _ => rfl)) pe_int (fun _ _ => rfl))))), ?_⟩
  obtain ⟨p, q, ws, ys, k, rfl, hp, hok, hg, hq, hyl, hyq, hk, hQ⟩ := h
  simp only [tSeq, tIfS, tOr, tAnd, tNot, tTest, tB, tOp, tCB, tCons, tNil, tVar, tC, tRet, tRetN, tNext, tDrop, tAsg, gName, gNil, gCons, gTup, gSub, tAug, tAugS, ipI, tCall, tMeth, tMake, tCmp, tAndV, tOrV, tNotV, tIf, tChain, tTup, tLst, tSl, tPart, tNoPart, tBM, tM0, tM1, tUn, rU, tFld, tCallS, tCKw, rIn, tMethF, tMethS, rEq, rNe, rI, rI0, rIxL, rIxT, rIxS, rSub, rSlL, C8.rSlX, rNewStrs, tMake0, cxK, cxNK, tLc_list, tLc_rng1, tFor_list, tFor_str, tFor_rng1, tYes, wipe, L2.start, List.map_cons, List.map_nil, List.length_cons, List.length_nil, List.replicate, List.cons_append, List.nil_append, List.append_nil, Nat.reduceAdd, Nat.reduceSub, List.getElem?_cons_zero, List.getElem?_cons_succ, List.set_cons_zero, List.set_cons_succ, Option.some.injEq, exists_eq_left', exists_eq_left, exists_eq', and_true, true_and, exists_eq_right, exists_const, V.int.injEq, V.str.injEq, V.bl.injEq, V.ref.injEq, List.cons.injEq, scal_ii, scal_ss, scal_bb, decide_eq_true_eq, Bool.not_eq_true', decide_eq_false_iff_not, if_true, if_false, Bool.false_eq_true, exists_and_left, S_len, sz_le]
  have hS : ∀ H', ExtN H H' → SqL K H' q ys := fun H' x => SqL.of (x.l hq)
  refine ⟨⟨_, hS _ (ExtN.refl _)⟩, fun D hD => ?_⟩
  refine lc_pureW (xs := ys) walk_list rfl (fun v => match fldH H 1 v with | some (.int z) => if V.int z = V.int (k : Nat) then some v else none | _ => none) (Nat.lt_of_le_of_lt hyl (by rw [sizeLine_eq]; omega)) (fun acc => hS _ (Lf.extN_upd hD)) (fun i x acc Qy Qn hx hy hn => ?_) ?_
  · obtain ⟨r, a, b, c, d, rfl, hr, _⟩ := hyq x (List.mem_of_getElem? hx)
    refine ⟨rfl, ?_⟩
    have ef : fldH H 1 (V.ref r) = some (.int b) := by
      show (match H r with | some (.lst xs) => xs[1]? | _ => none) = _
      rw [hr] <;> rfl
    simp only [ef] at hy hn
    have hr1 := (Lf.extN_upd (o := .lst acc) hD).l hr
    simp only [tSeq, tIfS, tOr, tAnd, tNot, tTest, tB, tOp, tCB, tCons, tNil, tVar, tC, tRet, tRetN, tNext, tDrop, tAsg, gName, gNil, gCons, gTup, gSub, tAug, tAugS, ipI, tCall, tMeth, tMake, tCmp, tAndV, tOrV, tNotV, tIf, tChain, tTup, tLst, tSl, tPart, tNoPart, tBM, tM0, tM1, tUn, rU, tFld, tCallS, tCKw, rIn, tMethF, tMethS, rEq, rNe, rI, rI0, rIxL, rIxT, rIxS, rSub, rSlL, C8.rSlX, rNewStrs, tMake0, cxK, cxNK, tLc_list, tLc_rng1, tFor_list, tFor_str, tFor_rng1, tYes, wipe, L2.start, List.map_cons, List.map_nil, List.length_cons, List.length_nil, List.replicate, List.cons_append, List.nil_append, List.append_nil, Nat.reduceAdd, Nat.reduceSub, List.getElem?_cons_zero, List.getElem?_cons_succ, List.set_cons_zero, List.set_cons_succ, Option.some.injEq, exists_eq_left', exists_eq_left, exists_eq', and_true, true_and, exists_eq_right, exists_const, V.int.injEq, V.str.injEq, V.bl.injEq, V.ref.injEq, List.cons.injEq, scal_ii, scal_ss, scal_bb, decide_eq_true_eq, Bool.not_eq_true', decide_eq_false_iff_not, if_true, if_false, Bool.false_eq_true, exists_and_left, S_len, sz_le]
    refine ⟨_, SqL.of hr1, _, atI_nat (j := 1) rfl, scal_ii _ _, ?_⟩
    by_cases e : V.int b = V.int (k : Nat)
    · rw [if_pos (by simpa using e)]
      exact hy _ (if_pos e)
    · rw [if_neg (by simpa using e)]
      exact hn (if_neg e)
  · have hsub : ∀ v ∈ ys.filterMap (fun v => match fldH H 1 v with | some (.int z) => if V.int z = V.int (k : Nat) then some v else none | _ => none), v ∈ ys := fun v hv => by
      obtain ⟨u, hu, e⟩ := List.mem_filterMap.mp hv
      split at e
      · split at e
        · cases e
          exact hu
        · cases e
      · cases e
    have hlen : (ys.filterMap (fun v => match fldH H 1 v with | some (.int z) => if V.int z = V.int (k : Nat) then some v else none | _ => none)).length ≤ 2000 := Nat.le_trans (List.length_filterMap_le _ _) hyl
    generalize ys.filterMap (fun v => match fldH H 1 v with | some (.int z) => if V.int z = V.int (k : Nat) then some v else none | _ => none) = zs at hsub hlen ⊢
    have x1 := Lf.extN_upd (o := .lst zs) hD
    obtain ⟨rows, rfl, rok, r4, rl⟩ := quad_rows (B := fun _ => True) (H := upd H D (.lst zs)) (xs := zs) fun v hv => by
      obtain ⟨r, a, b, c, d, e, hr, _⟩ := hyq v (hsub v hv)
      exact ⟨r, a, b, c, d, e, x1.l hr, trivial⟩
    have hr : ws[k]? = some ws[k] := List.getElem?_eq_getElem hk
    generalize ws[k] = r at hr
    have hm := List.mem_of_getElem? hr
    obtain ⟨a, b, c, e, _⟩ := hg.2 r hm
    have gr : (rowRefs ws)[k]? = some (V.ref r.1) := by
      unfold rowRefs
      rw [List.getElem?_map, hr] <;> rfl
    refine ⟨D, rows, rfl, upd_same, rok, r4, by omega, fun n H2 e2 => ?_⟩
    have hq2 := e2.l (x1.l (hok r hm))
    rw [e] at hq2
    exact ⟨_, SqL.of (e2.l (x1.l hp)), _, atI_nat gr, r.1, rfl, _, SqL.of hq2, _, atI_nat (j := 2) rfl, n, rfl, c, rfl, hQ _ _ (x1.trans e2)⟩
def spTailEnd (K : PySem.W.Frag) : Sp := fun vs H Q _ => ∃ (p : Addr) (ws : List (Addr × List Int)), vs = [.ref p] ∧ H p = some (.lst (rowRefs ws)) ∧ RowsOk H ws ∧ GoodT ws ∧ Tabs (TT K) H ∧ ∀ (n : Int) H', XT K H H' → Q (.int n) H'
theorem sc_tail_end : FnScope ["works", "rows", "work"] ["works"] (defScope s_tail_end) := ⟨rfl, rfl, rfl, by decide +kernel, rfl, by decide +kernel, by decide +kernel⟩
theorem ok_tail_end (T : Txt w K mg) (B : TB2 K mg base) : Dok P w K mg base CX0 4 (ga K "tail_end") ["works"] (spTailEnd K) := by
  obtain ⟨fd, F⟩ := T.d_tail_end
  have sc := sc_tail_end
  have D_tail_plan := ok_tail_plan (P := P) (base := base) T B
  have D_done_at := ok_done_at (P := P) (base := base) T
  refine ⟨fd, F.ok sc (fun vs H Q E h => ?_) (fun cdv A outer s H vs Q E hr h => ?_), F.bindsN fun _ _ _ _ _ _ us hl => match us, hl with | [_], _ => rfl, F.kp⟩
  · obtain ⟨p, ws, rfl, _⟩ := h
    rfl
  refine ⟨_, PSs.nox (pss_cons (ps_set (i := 1) sc.nd rfl (Or.inr rfl) (pe_f D_tail_plan hr (T.g "tail_plan") (pa_cons (pv 0) pa_nil))) (pss_one (ps_ret (pe_callBK (cr_maxDef rfl (un64 hr)) rfl (T.n "max") (by decide +kernel) (pa_cons (pe_lc (own := [("work", 2)]) (g := gName 2) (tt := tYes) rfl sc.nd (pi_range1 rfl (T.n "range") (pa_cons (pe_callB call_len_seq rfl (T.n "len") PySem.boot_len (pa_cons (pv 0) pa_nil)) pa_nil)) (blkOk_by (own := [("work", 2)]) (N := ["works", "rows", "work"]) (sc := defScope s_tail_end) (by decide +kernel)) (fun _ _ _ _ _ => pg_name (i := 2) sc.nd rfl (Or.inl rfl)) (fun _ _ _ _ _ => pts_nil) (fun _ _ _ _ _ => (pe_f D_done_at hr (T.g "done_at") (pa_cons (pv 0) (pa_cons (pv 1) (pa_cons (pv 2) pa_nil)))))) pa_nil) (pk_cons pe_int pk_nil))))), ?_⟩
  obtain ⟨p, ws, rfl, hp, hok, hg, hT, hQ⟩ := h
  simp only [tSeq, tIfS, tOr, tAnd, tNot, tTest, tB, tOp, tCB, tCons, tNil, tVar, tC, tRet, tRetN, tNext, tDrop, tAsg, gName, gNil, gCons, gTup, gSub, tAug, tAugS, ipI, tCall, tMeth, tMake, tCmp, tAndV, tOrV, tNotV, tIf, tChain, tTup, tLst, tSl, tPart, tNoPart, tBM, tM0, tM1, tUn, rU, tFld, tCallS, tCKw, rIn, tMethF, tMethS, rEq, rNe, rI, rI0, rIxL, rIxT, rIxS, rSub, rSlL, C8.rSlX, rNewStrs, tMake0, cxK, cxNK, tLc_list, tLc_rng1, tFor_list, tFor_str, tFor_rng1, tYes, wipe, L2.start, List.map_cons, List.map_nil, List.length_cons, List.length_nil, List.replicate, List.cons_append, List.nil_append, List.append_nil, Nat.reduceAdd, Nat.reduceSub, List.getElem?_cons_zero, List.getElem?_cons_succ, List.set_cons_zero, List.set_cons_succ, Option.some.injEq, exists_eq_left', exists_eq_left, exists_eq', and_true, true_and, exists_eq_right, exists_const, V.int.injEq, V.str.injEq, V.bl.injEq, V.ref.injEq, List.cons.injEq, scal_ii, scal_ss, scal_bb, decide_eq_true_eq, Bool.not_eq_true', decide_eq_false_iff_not, if_true, if_false, Bool.false_eq_true, exists_and_left, S_len, sz_le]
  refine ⟨p, ws, rfl, hp, hok, hg, hT, fun H1 q ys X1 hq hyl hyq => ?_⟩
  have hp1 := X1.l hp
  have hok1 : RowsOk H1 ws := fun r hr => X1.l (hok r hr)
  have hrl := rowRefs_len ws
  have := hg.1
  refine ⟨_, .inl (SqL.of hp1), by omega, by omega, fun D hD => ?_⟩
  rw [hrl, show ((ws.length : Nat) : Int).toNat = ws.length by omega]
  refine lc_mapW (xs := rngL ws.length) walk_rngL (rngL_len _) (fun i y _ => ∃ n, y = .int n) (by rw [sizeLine_eq]; omega) (fun _ _ _ => trivial) hD (fun j y H H' _ h => h) (fun _ => True) (fun _ => trivial) (fun _ _ _ _ => trivial) (fun i x H2 Qy hx e1 _ hacc hy => ?_) (fun H2 acc e1 _ hacc hl hR => ?_)
  · have hi : i < ws.length := by
      have := (List.getElem?_eq_some_iff.mp hx).1
      rw [rngL_len] at this
      exact this
    rw [rngL_get hi] at hx
    obtain rfl := Option.some.inj hx
    refine ⟨rfl, ?_⟩
    simp only [tSeq, tIfS, tOr, tAnd, tNot, tTest, tB, tOp, tCB, tCons, tNil, tVar, tC, tRet, tRetN, tNext, tDrop, tAsg, gName, gNil, gCons, gTup, gSub, tAug, tAugS, ipI, tCall, tMeth, tMake, tCmp, tAndV, tOrV, tNotV, tIf, tChain, tTup, tLst, tSl, tPart, tNoPart, tBM, tM0, tM1, tUn, rU, tFld, tCallS, tCKw, rIn, tMethF, tMethS, rEq, rNe, rI, rI0, rIxL, rIxT, rIxS, rSub, rSlL, C8.rSlX, rNewStrs, tMake0, cxK, cxNK, tLc_list, tLc_rng1, tFor_list, tFor_str, tFor_rng1, tYes, wipe, L2.start, List.map_cons, List.map_nil, List.length_cons, List.length_nil, List.replicate, List.cons_append, List.nil_append, List.append_nil, Nat.reduceAdd, Nat.reduceSub, List.getElem?_cons_zero, List.getElem?_cons_succ, List.set_cons_zero, List.set_cons_succ, Option.some.injEq, exists_eq_left', exists_eq_left, exists_eq', and_true, true_and, exists_eq_right, exists_const, V.int.injEq, V.str.injEq, V.bl.injEq, V.ref.injEq, List.cons.injEq, scal_ii, scal_ss, scal_bb, decide_eq_true_eq, Bool.not_eq_true', decide_eq_false_iff_not, if_true, if_false, Bool.false_eq_true, exists_and_left, S_len, sz_le]
    exact ⟨p, q, ws, ys, i, rfl, e1.l hp1, rowsOk_ext e1 hok1, hg, e1.l hq, hyl, (fun v hv => by
      obtain ⟨r, a, b, c, d, e, hr, _⟩ := hyq v hv
      exact ⟨r, a, b, c, d, e, e1.l hr, trivial⟩), hi, fun n H3 e3 => hy _ _ e3 trivial ⟨n, rfl⟩⟩
  · obtain ⟨ns, rfl⟩ := ints_of (l := acc) fun y hy => by
      obtain ⟨i, hi, e⟩ := List.mem_iff_getElem.mp hy
      exact hR i y (by rw [List.getElem?_eq_getElem hi, e])
    exact ⟨D, ns, 0, rfl, rfl, SqL.of hacc, fun n _ => hQ n _ (X1.trans (.of e1))⟩
end
end Lf
set_option Elab.async false
set_option linter.all false
set_option maxRecDepth 100000
set_option maxHeartbeats 4000000
/-! sorted(range(n), key=lambda work: (0 - heights[work], work)), heights a name of the def. -/
namespace LfR
open PySem PySem.Spec PyProof.Rows L2 LamX
section
variable {X : Cx}
theorem cr_range1 : CallR X (.type "range") (fun vs H Q => ∃ j, vs = [V.int j] ∧ ∀ p, H p = none → Q (.ref p) (upd H p (.rng 0 j))) := by
  intro pins s σ H vs us Q I r h
  obtain ⟨j, rfl, q⟩ := h
  obtain ⟨u1, rfl, t, rfl⟩ := vals1 r
  refine call_range_1 ⟨.ref s.heap.objs.size, upd H s.heap.objs.size (.rng 0 j), I.laid (t' := s.toks + 1 + 1) (fun b o e => Heap.get?_push_of_some _ e) (Nat.le_refl _) ?_, rfl, q _ (I.hok.fresh (Nat.le_refl _))⟩
  exact ⟨s.toks, t, s.toks + 1, Heap.get?_push_size _ rfl⟩
end
def natV (l : List Nat) : List V := l.map fun i => V.int (i : Nat)
theorem each_nats : ∀ {l : List Nat} {its : List Value}, PySem.W.EachIs (fun (v : Value) (i : Nat) => ∃ t, v = .int (i : Nat) t) its l → Vals (natV l) its
  | _, _, .nil => .nil
  | _, _, .cons r t => .cons r (each_nats t)
theorem each_of {R : Value → Nat → Prop} : ∀ {vs : List Value} {k n : Nat}, vs.length = n → (∀ (i : Nat) (v : Value), vs[i]? = some v → R v (k + i)) → PySem.W.EachIs R vs ((List.range' k n))
  | [], k, n, h, _ => by
    subst h
    exact .nil
  | v :: vs, k, n, h, g => by
    subst h
    rw [List.length_cons, List.range'_succ]
    refine .cons (g 0 v rfl) (each_of (k := k + 1) rfl fun i u e => ?_)
    have := g (i + 1) u (by simpa using e)
    rw [show k + 1 + i = k + (i + 1) by omega]
    exact this
def rankKey (hs : List Int) (i : Nat) : PyData := .tuple [.int (0 - hs.getD i 0), .int (i : Nat)]
abbrev lamN : List (Str × NameKind) := [(Str.ofString "work", .local), (Str.ofString "heights", .free)]
def tSortRank (K : PySem.W.Frag) (T : List (Addr × Str)) (j : Nat) (ta : TA) : TE := fun σ H Q => ta σ H fun vs H1 => ∃ (r a : Addr) (n : Nat) (hs : List Int), vs = [.ref r] ∧ H1 r = some (.rng 0 (n : Nat)) ∧ n ≤ 900 ∧ σ[j]? = some (some (.ref a)) ∧ SqL K H1 a (hs.map V.int) ∧ hs.length = n ∧ Tabs T H1 ∧
  ∀ (H2 : Hp) (l : List Nat) (p : Addr), ExtN H1 H2 → Tabs T H2 → l.Perm (List.range n) → H2 p = none → Q (.ref p) (upd H2 p (.lst (natV l)))
section
variable {X : Cx} {T : List (Addr × Str)} {c P : Addr} {e : Expr} {ta : TA} {j k1 k3 : Nat} {p0 pp a1 a2 a3 a4 a5 a6 b4 lpos kpos pos : Pos}
theorem pe_sortedRank (hc : X.calm = true) (hr : Room 1 X.A) (TB : TabB X.base X.mg c P) (hcode : X.env.code = .ref c) (hm : (P, X.env.qual ++ "<lambda>") ∈ T) (hu : ∀ p ∈ T, p.1 = P → p.2 = X.env.qual ++ "<lambda>")
    (hg : Gl X "sorted") (hms : X.mg "sorted" = none) (hN : X.N[j]? = some (Str.ofString "heights")) (hv : X.env.kindOf "heights" = some .cell) (ha : PA X [e] ta)
    (hdef : defaultsOf (lamP "work" pp) X.env = ([], []) := by rfl)
    (he : backTo pos (starEach [e] X.env) = (false, eval e X.env) :: backTo pos (starEach [] X.env) := by rfl) (hpl : (backTo pos (starEach [e] X.env)).any (·.1) = false := by rfl) :
    PE X (.Call (.Name "sorted" p0) [e] [⟨some "key", .Lambda (lamP "work" pp) (.Tuple [.BinOp (.Constant (.int 0) k1 a1) .Sub (.Subscript (.Name "heights" a2) (.Name "work" a3) a4) a5, .Name "work" a6] k3 b4) (lamS lamN) lpos, kpos⟩] pos) (tSortRank X.K T j ta) := by
  refine ⟨fun pins s σ H Q I h => ?_⟩
  refine wpAny_Call_Name_kw (ld_blt I hg hms (show bootBuiltins (Str.ofString "sorted") = some (.builtin "sorted") by decide +kernel) ?_ (by decide) (by decide))
  refine PyProof.Rows.callWith_kw (thn (ha.run pos pins s σ H _ I h) fun us s1 ⟨vs, H1, I1, r1, q1⟩ => ?_) he hpl (by rfl) (by rfl)
  obtain ⟨r, a, n, hs, rfl, hR, hn9, hσ, hS, hlen, hT, q⟩ := q1
  obtain rfl := Vals.ref1 r1
  obtain ⟨hc0, hch⟩ := I1.ok.has "heights" (.inl hv)
  refine wpAny_evalAll_cons (wpAny_bind (lam_make2 I1 TB hcode hm hu hT hdef (fun y hy hy2 => ?_) fun f c' pm ctv H2 s' I2 eN T2 hf hfn hfr hco => wpAny_bind (wpAny_standAt (wpAny_pure (wpAny_evalAll_nil ?_)))))
  · rcases List.mem_cons.mp hy with rfl | hy
    · cases hy2
    · obtain rfl := List.mem_singleton.mp hy
      exact ⟨hc0, hch⟩
  · show wpAny _ _ (call (.builtin "sorted") [.ref r] [(Str.ofString "key", .ref f)]) _ _ _
    have hS2 := extN_seq eN hS
    obtain ⟨its, rv, pl, hz⟩ := I2.list hS2
    have hi : IntsAre its hs := rv.ints
    have hR2 := eN _ _ hR (fun ps z => by cases z)
    obtain ⟨t1, t2, t3, hro⟩ := I2.hok r _ hR2
    have hcl : X.A.units + 64 < cLine := hr.units
    obtain ⟨⟨oc, ws, t, hoc, hdc, hw⟩, _, _⟩ := I2.hok c' _ hco
    have lim := I2.nolimit
    obtain ⟨mm, hns0, hl0⟩ := I2.loc
    obtain ⟨uu, ru, look⟩ := hl0 j "heights" (.ref a) hN hσ (.inr (.inl hv))
    obtain rfl : uu = Value.ref a := ru
    have hcell : s'.heap.IsCell hc0 (some (.ref a)) := by
      rcases look with ⟨hk, _⟩ | ⟨_, c2, hc2, hcell⟩
      · rw [hv] at hk
        cases hk
      · rw [hch] at hc2
        cases hc2
        exact hcell
    have hit : ∀ i, i < n → ∃ t, its[i]? = some (.int (hs.getD i 0) t) := fun i hi' => by
      obtain ⟨u, hu1, t, rfl⟩ := rv.get (i := i) (x := .int (hs.getD i 0)) (by simp [List.getElem?_map, List.getD_eq_getElem?_getD, List.getElem?_eq_getElem (show i < hs.length by omega)])
      exact ⟨t, hu1⟩
    refine sorted_key_C (β := Nat) (bs := List.range n) (R := fun (v : Value) (i : Nat) => ∃ t, v = .int (i : Nat) t) (b := false) (rankKey hs) (fun Q' hQ' E' => collect_range (a := 0) (b := (n : Nat)) (c := 1) (n := n) (t := t1) (u := t2) (v := t3) (I2.ok.hd hc) hro ?_ ?_ ?_ fun h' tk acc kk hacc => ?_)
      (PySem.W.AllAlike.of fun _ _ => by simp [PySem.W.alike, PySem.W.alikeAll, rankKey]) (PySem.W.Sortable.tuples fun _ => ⟨_, _, rfl⟩) (by rw [List.length_range, sizeLine_eq]; omega) (fun x _ => ?_) (PyProof.Rows.ksk_s1 _ _) (fun _ => PyProof.Rows.ksk_l1 _ _) (fun _ => PyProof.Rows.ksk_t1 _ _)
      (fun v x hv' hx h tk kp => ?_) fun out cc h' tk D kk hD hD2 hl2 eo => ?_
    · exact small_one (by decide) (by decide) (by omega) (by omega)
    · rw [rangeSize_one]
      split <;> omega
    · omega
    · refine hQ' _ _ _ ?_ kk
      rw [List.range_eq_range']
      refine each_of (by rw [Array.length_toList]; exact hacc.1) fun i v e => ?_
      obtain ⟨t, rfl⟩ := hacc.2 i v (by simpa using e)
      exact ⟨t, by simp⟩
    · have hd : (rankKey hs x).depth = 1 := by simp [rankKey, PyData.depth, PyData.depthAll]
      omega
    · obtain ⟨tv, rfl⟩ := hv'
      have hxn : x < n := List.mem_range.mp hx
      obtain ⟨t2', e2⟩ := hit x hxn
      refine lam_call (s := { s' with heap := h, toks := tk }) (x := "work") (show X.A.depth < recursionLimit from hr.depth) (lim.keeps kp) (kp _ _ hf) rfl rfl rfl (kp _ _ hoc) hdc hw (by rfl) (fun y hy => by rcases List.mem_cons.mp hy with rfl | hy <;> first | decide | (obtain rfl := List.mem_singleton.mp hy; decide)) rfl fun h₁ tk₁ hns k1 => ?_
      refine wpAny_mono (ev_rank (s := { s' with heap := h₁, toks := tk₁ }) (x := "work") (y := "heights") (a := a) (c := hc0) (its := its.toArray) (i := x) (z := hs.getD x 0) (m := fun y => [(("work" : Str), Value.int (x : Nat) tv)].reverse.lookup y) rfl rfl hns rfl (by decide) rfl ?_ ((hcell.keeps kp).keeps k1) (by decide) (by decide) ?_ (by simpa using e2) (by omega)) (fun v s₂ hq => ?_) fun _ _ z => z
      · have e3 : cloFrom X.env.cells lamN [] = [(Str.ofString "heights", (X.env.cells.lookup (Str.ofString "heights")).getD 0)] := rfl
        show List.lookup (Str.ofString "heights") (cloFrom X.env.cells lamN []) = some hc0
        rw [e3, hch] <;> rfl
      · obtain ⟨ol, g1, g2, n1, g3⟩ := pl.isList
        exact ⟨ol, k1 _ _ (kp _ _ g1), g2, n1, g3⟩
      · exact keyPure_weak k1 hq
    · have hn : H2 D = none := I2.hok.gone hD
      have hp : ((List.range n).mergeSort (PySem.W.dataLe false (rankKey hs))).Perm (List.range n) := List.mergeSort_perm _ _
      refine ⟨.ref D, upd H2 D (.lst (natV ((List.range n).mergeSort (PySem.W.dataLe false (rankKey hs))))), I2.laidN (t' := tk) kk hD hn ⟨?_, out, cc, each_nats eo, hD2⟩, rfl, q H2 _ D eN T2 hp hn⟩
      show (natV _).length ≤ sizeLine
      unfold natV
      rw [List.length_map, hp.length_eq, List.length_range, sizeLine_eq]
      omega
end
end LfR
set_option Elab.async false
set_option linter.all false
set_option maxRecDepth 100000
set_option maxHeartbeats 4000000
/-! tree_turns at the law's tree; the ends. -/
namespace Lf
open PySem PySem.Spec PyProof.Rows L2 LfR LamX LfM SX
section
variable {P : Program} {w : World} {K : PySem.W.Frag} {mg : Str → Option Value} {base : Heap}
def spTurns (K : PySem.W.Frag) : Sp := fun vs H Q _ => ∃ p : Addr, vs = [.ref p, .int 2] ∧ H p = some (.lst [.int 1, .int (-1)]) ∧ Tabs (TT K) H ∧ ∀ H' q xs, XT K H H' → H' q = some (.lst xs) → Q (.ref q) H'
theorem perm2 {l : List Nat} (h : l.Perm (List.range 2)) : l = [0, 1] ∨ l = [1, 0] := by
  have e : List.range 2 = [0, 1] := rfl
  rw [e] at h
  match l, h.length_eq with
  | [a, b], _ =>
    have h0 : 0 ∈ [a, b] := h.symm.subset (by decide)
    have h1 : 1 ∈ [a, b] := h.symm.subset (by decide)
    simp only [List.mem_cons, List.not_mem_nil, or_false] at h0 h1
    rcases h0 with rfl | rfl
    · rcases h1 with h1 | rfl
      · cases h1
      · exact .inl rfl
    · rcases h1 with rfl | h1
      · exact .inr rfl
      · cases h1
/-- what the turns' walk keeps -/
def TUI (K : PySem.W.Frag) (H0 : Hp) (p L tn : Addr) (l : List Nat) (zs : List V) (H' : Hp) : Prop :=
  (l = [0, 1] ∨ l = [1, 0] ∨ l = [1] ∨ l = []) ∧ XT K H0 H' ∧ H' L = some (.lst (natV l)) ∧ H' tn = some (.lst zs) ∧ L ≠ tn
def fW : V → Option V
  | .int z => some (if z = 0 then .int 1 else .int (-1))
  | _ => none
def fOut (xs : List V) (v : V) : Option V := if inV v xs = true then none else some v
theorem ints_flat (ns : List Int) : (ns.map V.int).all flatV = true := by
  rw [List.all_eq_true]
  intro v hv
  obtain ⟨z, _, rfl⟩ := List.mem_map.mp hv
  rfl
theorem turns_step {l : List Nat} {WL T1 : List V} (h : l = [0, 1] ∨ l = [1, 0] ∨ l = [1] ∨ l = []) (h0 : 0 < l.length) (hW : WL = (natV l).filterMap fW) (hT : T1 = (natV l).filterMap (fOut WL)) :
    ∃ ns : List Int, cutV T1 none (some 2) = ns.map V.int ∧ ns.length < 64 ∧ ∃ l' : List Nat, (natV l).filterMap (fOut (ns.map V.int)) = natV l' ∧ l'.length < l.length ∧ (l' = [0, 1] ∨ l' = [1, 0] ∨ l' = [1] ∨ l' = []) := by
  subst hW
  subst hT
  rcases h with rfl | rfl | rfl | rfl
  · exact ⟨[0], rfl, by decide, [1], rfl, by decide, .inr (.inr (.inl rfl))⟩
  · exact ⟨[0], rfl, by decide, [1], rfl, by decide, .inr (.inr (.inl rfl))⟩
  · exact ⟨[1], rfl, by decide, [], rfl, by decide, .inr (.inr (.inr rfl))⟩
  · exact absurd h0 (by decide)
theorem sc_tree_turns : FnScope ["behind", "benches", "left", "turns", "waiting", "turn", "heights", "work"] ["behind", "benches"] (defScope s_tree_turns) := ⟨rfl, rfl, rfl, by decide +kernel, rfl, by decide +kernel, by decide +kernel⟩
theorem ok_tree_turns (T : Txt w K mg) (B : TB2 K mg base) : Dok P w K mg base (L2.CX P w) 3 (ga K "tree_turns") ["behind", "benches"] (spTurns K) := by
  obtain ⟨fd, F⟩ := T.d_tree_turns
  have sc := sc_tree_turns
  have D_levels := ok_levels (P := P) (base := base) T
  refine ⟨fd, okC (d := ("tree_turns", none)) F sc (fun vs H Q E h => ?_) (fun A outer s H vs Q E hr h => ?_), F.bindsN fun _ _ _ _ _ _ us hl => match us, hl with | [_, _], _ => rfl, F.kp⟩
  · obtain ⟨p, rfl, _⟩ := h
    rfl
  refine ⟨_, (pss_cons (ps_set (i := 6) sc.nd rfl (Or.inr rfl) (pe_fX D_levels hr (T.g "levels") (pass_out (takes_of rfl rfl rfl rfl)) (pa_cons (pv 0) pa_nil))) (pss_cons (ps_set (i := 2) sc.nd rfl (Or.inl rfl) (pe_sortedRank (j := 6) (T := TT K) rfl (hr.mono (by decide)) B.t rfl memT (huT T) rfl (T.n "sorted") rfl rfl (pa_cons (pe_callTy cr_range1 rfl (T.n "range") (by decide +kernel) (pa_cons (pe_callB call_len_seq rfl (T.n "len") PySem.boot_len (pa_cons (pv 0) pa_nil)) pa_nil)) pa_nil))) (pss_cons (ps_set (i := 3) sc.nd rfl (Or.inl rfl) (pe_lst pa_nil)) (pss_cons (ps_while (passes_of rfl) (pt_cmpR op_gt (pe_callB call_len_seq rfl (T.n "len") PySem.boot_len (pa_cons (pv 2) pa_nil)) pe_int (nomark _)) (pss_cons (ps_set (i := 4) sc.nd rfl (Or.inr rfl) (pe_lc (own := [("work", 7)]) (g := gName 7) (tt := tYes) rfl sc.nd (pi_list (pv 2)) (blkOk_by (own := [("work", 7)]) (N := ["behind", "benches", "left", "turns", "waiting", "turn", "heights", "work"]) (sc := defScope s_tree_turns) (by decide +kernel)) (fun _ _ _ _ _ => pg_name (i := 7) sc.nd rfl (Or.inl rfl)) (fun _ _ _ _ _ => pts_nil) (fun _ _ _ _ _ => (pe_ix (r := rIxL K) ix_list (pv 0) (pv 7) (fun _ _ => rfl))))) (pss_cons (ps_set (i := 5) sc.nd rfl (Or.inr rfl) (pe_slice sl_list (pe_lc (own := [("work", 7)]) (g := gName 7) rfl sc.nd (pi_list (pv 2)) (blkOk_by (own := [("work", 7)]) (N := ["behind", "benches", "left", "turns", "waiting", "turn", "heights", "work"]) (sc := defScope s_tree_turns) (by decide +kernel)) (fun _ _ _ _ _ => pg_name (i := 7) sc.nd rfl (Or.inl rfl)) (fun _ _ _ _ _ => (pts_one (pt_cmpR (r := rIn K true) op_notIn_seq (pv 7) (pv 4) rfl))) (fun _ _ _ _ _ => (pv 7))) po_none (po_some (pv 1)))) (pss_cons (ps_expr (pe_bm PySem.F.plainAttrs_list PySem.F.slot_list_append PySem.F.type_list_append mt_append (pv 3) (pa_cons (pe_callB cr_sorted rfl (T.n "sorted") (by decide +kernel) (pa_cons (pv 5) pa_nil)) pa_nil))) (pss_one (ps_setLc (i := 2) (own := [("work", 7)]) (g := gName 7) rfl sc.nd rfl rfl (sw_true rfl rfl rfl (by decide +kernel)) (pi_list (pv 2)) (blkOk_by (own := [("work", 7)]) (N := ["behind", "benches", "left", "turns", "waiting", "turn", "heights", "work"]) (sc := defScope s_tree_turns) (by decide +kernel)) (fun _ _ _ _ _ => pg_name (i := 7) sc.nd rfl (Or.inl rfl)) (fun _ _ _ _ _ => (pts_one (pt_cmpR (r := rIn K true) op_notIn_seq (pv 7) (pv 5) rfl))) (fun _ _ _ _ _ => (pv 7)))))))) (pss_one (ps_ret (pv 3))))))), ?_⟩
  obtain ⟨p, rfl, hp, hT, hQ⟩ := h
  simp only [tSeq, tIfS, tOr, tAnd, tNot, tTest, tB, tOp, tCB, tCons, tNil, tVar, tC, tRet, tRetN, tNext, tDrop, tAsg, gName, gNil, gCons, gTup, gSub, tAug, tAugS, ipI, tCall, tMeth, tMake, tCmp, tAndV, tOrV, tNotV, tIf, tChain, tTup, tLst, tSl, tPart, tNoPart, tBM, tM0, tM1, tUn, rU, tFld, tCallS, tCKw, rIn, tMethF, tMethS, rEq, rNe, rI, rI0, rIxL, rIxT, rIxS, rSub, rSlL, C8.rSlX, rNewStrs, tMake0, cxK, cxNK, tLc_list, tLc_rng1, tFor_list, tFor_str, tFor_rng1, tYes, wipe, L2.start, List.map_cons, List.map_nil, List.length_cons, List.length_nil, List.replicate, List.cons_append, List.nil_append, List.append_nil, Nat.reduceAdd, Nat.reduceSub, List.getElem?_cons_zero, List.getElem?_cons_succ, List.set_cons_zero, List.set_cons_succ, Option.some.injEq, exists_eq_left', exists_eq_left, exists_eq', and_true, true_and, exists_eq_right, exists_const, V.int.injEq, V.str.injEq, V.bl.injEq, V.ref.injEq, List.cons.injEq, scal_ii, scal_ss, scal_bb, decide_eq_true_eq, Bool.not_eq_true', decide_eq_false_iff_not, if_true, if_false, Bool.false_eq_true, exists_and_left, S_len, sz_le]
  refine ⟨p, [1, -1], rfl, hp, .inl ⟨rfl, fun H1 q e1 hq0 hq => ?_⟩⟩
  simp only [tSortRank]
  simp only [tSeq, tIfS, tOr, tAnd, tNot, tTest, tB, tOp, tCB, tCons, tNil, tVar, tC, tRet, tRetN, tNext, tDrop, tAsg, gName, gNil, gCons, gTup, gSub, tAug, tAugS, ipI, tCall, tMeth, tMake, tCmp, tAndV, tOrV, tNotV, tIf, tChain, tTup, tLst, tSl, tPart, tNoPart, tBM, tM0, tM1, tUn, rU, tFld, tCallS, tCKw, rIn, tMethF, tMethS, rEq, rNe, rI, rI0, rIxL, rIxT, rIxS, rSub, rSlL, C8.rSlX, rNewStrs, tMake0, cxK, cxNK, tLc_list, tLc_rng1, tFor_list, tFor_str, tFor_rng1, tYes, wipe, L2.start, List.map_cons, List.map_nil, List.length_cons, List.length_nil, List.replicate, List.cons_append, List.nil_append, List.append_nil, Nat.reduceAdd, Nat.reduceSub, List.getElem?_cons_zero, List.getElem?_cons_succ, List.set_cons_zero, List.set_cons_succ, Option.some.injEq, exists_eq_left', exists_eq_left, exists_eq', and_true, true_and, exists_eq_right, exists_const, V.int.injEq, V.str.injEq, V.bl.injEq, V.ref.injEq, List.cons.injEq, scal_ii, scal_ss, scal_bb, decide_eq_true_eq, Bool.not_eq_true', decide_eq_false_iff_not, if_true, if_false, Bool.false_eq_true, exists_and_left, S_len, sz_le]
  have hp1 := e1.l hp
  refine ⟨_, .inl (SqL.of hp1), fun r hr0 => ?_⟩
  have x2 := Lf.extN_upd (o := .rng 0 2) hr0
  refine ⟨q, 2, upd_same, by decide, rfl, [2, 1], SqL.of (x2.l hq), rfl, (hT.ext e1.same).ext x2.same, fun H2 l s e3 t3 perm hs => ⟨sz_le (by decide), fun tn htn => ?_⟩⟩
  have hl0 : l = [0, 1] ∨ l = [1, 0] := perm2 perm
  have X2 : XT K H H2 := ((XT.of e1).trans (.of x2)).trans ⟨e3, fun _ => t3⟩
  have X3 : XT K H (upd (upd H2 s (.lst (natV l))) tn (.lst [])) := (X2.up hs).up htn
  have hsn : s ≠ tn := fun z => by rw [z, upd_same] at htn; cases htn
  have frt : FrW H tn := (X2.up hs).fr htn
  refine ⟨fun m σ H' => ∃ l L u4 u5 u7 zs, TUI K H p L tn l zs H' ∧ m = l.length ∧ zs.length + l.length ≤ 2 ∧ σ = [some (.ref p), some (.int 2), some (.ref L), some (.ref tn), u4, u5, some (.ref q), u7],
    ⟨_, l, s, _, _, _, [], ⟨hl0.elim .inl fun z => .inr (.inl z), X3, by rw [upd_ne hsn, upd_same], upd_same, hsn⟩, rfl, by rw [List.length_nil, perm.length_eq] <;> decide, rfl⟩, fun m σ H' z => ?_⟩
  obtain ⟨l, L, u4, u5, u7, zs, ⟨i1, i2, i3, i4, i5⟩, rfl, hzl, rfl⟩ := z
  simp only [tSeq, tIfS, tOr, tAnd, tNot, tTest, tB, tOp, tCB, tCons, tNil, tVar, tC, tRet, tRetN, tNext, tDrop, tAsg, gName, gNil, gCons, gTup, gSub, tAug, tAugS, ipI, tCall, tMeth, tMake, tCmp, tAndV, tOrV, tNotV, tIf, tChain, tTup, tLst, tSl, tPart, tNoPart, tBM, tM0, tM1, tUn, rU, tFld, tCallS, tCKw, rIn, tMethF, tMethS, rEq, rNe, rI, rI0, rIxL, rIxT, rIxS, rSub, rSlL, C8.rSlX, rNewStrs, tMake0, cxK, cxNK, tLc_list, tLc_rng1, tFor_list, tFor_str, tFor_rng1, tYes, wipe, L2.start, List.map_cons, List.map_nil, List.length_cons, List.length_nil, List.replicate, List.cons_append, List.nil_append, List.append_nil, Nat.reduceAdd, Nat.reduceSub, List.getElem?_cons_zero, List.getElem?_cons_succ, List.set_cons_zero, List.set_cons_succ, Option.some.injEq, exists_eq_left', exists_eq_left, exists_eq', and_true, true_and, exists_eq_right, exists_const, V.int.injEq, V.str.injEq, V.bl.injEq, V.ref.injEq, List.cons.injEq, scal_ii, scal_ss, scal_bb, decide_eq_true_eq, Bool.not_eq_true', decide_eq_false_iff_not, if_true, if_false, Bool.false_eq_true, exists_and_left, S_len, sz_le]
  have hnl : (natV l).length = l.length := List.length_map _
  obtain ⟨NN, hNN⟩ : ∃ NN : L2.St → Hp → Prop, NN = fun σ' H2 => ∃ l' L u4 u5 u7 zs, TUI K H p L tn l' zs H2 ∧ l'.length < l.length ∧ zs.length + l'.length ≤ 2 ∧ σ' = [some (.ref p), some (.int 2), some (.ref L), some (.ref tn), u4, u5, some (.ref q), u7] := ⟨_, rfl⟩
  refine ⟨_, .inl (SqL.of i3), ite2 (fun h0 => ⟨NN, fun σ' H2 z => ?_, ⟨_, SqL.of i3⟩, fun D4 hD4 => ?_⟩) fun h0 => hQ _ tn zs i2 i4⟩
  · rw [hNN] at z
    obtain ⟨l', L', v4, v5, v7, zs', z1, z2, z3, z4⟩ := z
    exact ⟨_, z2, l', L', v4, v5, v7, zs', z1, rfl, z3, z4⟩
  · have hlt : ∀ i ∈ l, i < 2 := fun i hi => by
      rcases i1 with rfl | rfl | rfl | rfl <;> revert i <;> decide
    have hp2 := i2.l hp
    have hl64 : l.length < 64 := by omega
    have hsz : (natV l).length < sizeLine := by rw [hnl, sizeLine_eq]; omega
    have at_ : ∀ {i : Nat} {x : V}, (natV l)[i]? = some x → ∃ k : Nat, x = .int (k : Nat) ∧ k < 2 := fun {i x} h => by
      unfold natV at h
      rw [List.getElem?_map] at h
      obtain ⟨k, hk, e⟩ := Option.map_eq_some_iff.mp h
      exact ⟨k, e.symm, hlt k (List.mem_of_getElem? hk)⟩
    obtain ⟨WL, hWL⟩ : ∃ WL, WL = (natV l).filterMap fW := ⟨_, rfl⟩
    have y4 : ∀ u, ExtN H' (upd H' D4 u) := fun u => Lf.extN_upd hD4
    refine lc_pureW (xs := natV l) walk_list rfl fW hsz (fun acc => SqL.of ((y4 _).l i3)) (fun i x acc Qy Qn hx hy hn => ?_) ?_
    · obtain ⟨k, rfl, hk⟩ := at_ hx
      refine ⟨rfl, ?_⟩
      simp only [tSeq, tIfS, tOr, tAnd, tNot, tTest, tB, tOp, tCB, tCons, tNil, tVar, tC, tRet, tRetN, tNext, tDrop, tAsg, gName, gNil, gCons, gTup, gSub, tAug, tAugS, ipI, tCall, tMeth, tMake, tCmp, tAndV, tOrV, tNotV, tIf, tChain, tTup, tLst, tSl, tPart, tNoPart, tBM, tM0, tM1, tUn, rU, tFld, tCallS, tCKw, rIn, tMethF, tMethS, rEq, rNe, rI, rI0, rIxL, rIxT, rIxS, rSub, rSlL, C8.rSlX, rNewStrs, tMake0, cxK, cxNK, tLc_list, tLc_rng1, tFor_list, tFor_str, tFor_rng1, tYes, wipe, L2.start, List.map_cons, List.map_nil, List.length_cons, List.length_nil, List.replicate, List.cons_append, List.nil_append, List.append_nil, Nat.reduceAdd, Nat.reduceSub, List.getElem?_cons_zero, List.getElem?_cons_succ, List.set_cons_zero, List.set_cons_succ, Option.some.injEq, exists_eq_left', exists_eq_left, exists_eq', and_true, true_and, exists_eq_right, exists_const, V.int.injEq, V.str.injEq, V.bl.injEq, V.ref.injEq, List.cons.injEq, scal_ii, scal_ss, scal_bb, decide_eq_true_eq, Bool.not_eq_true', decide_eq_false_iff_not, if_true, if_false, Bool.false_eq_true, exists_and_left, S_len, sz_le]
      match k, hk with
      | 0, _ => exact ⟨_, SqL.of ((y4 _).l hp2), _, atI_nat (j := 0) rfl, hy _ rfl⟩
      | 1, _ => exact ⟨_, SqL.of ((y4 _).l hp2), _, atI_nat (j := 1) rfl, hy _ rfl⟩
    rw [← hWL]
    have hWf : WL.all flatV = true := by
      rw [hWL]
      rcases i1 with rfl | rfl | rfl | rfl <;> rfl
    refine ⟨⟨_, SqL.of ((y4 _).l i3)⟩, fun D5 hD5 => ?_⟩
    have y5 : ∀ u, ExtN (upd H' D4 (.lst WL)) (upd (upd H' D4 (.lst WL)) D5 u) := fun u => Lf.extN_upd hD5
    obtain ⟨T1, hT1⟩ : ∃ T1, T1 = (natV l).filterMap (fOut WL) := ⟨_, rfl⟩
    refine lc_pureW (xs := natV l) walk_list rfl (fOut WL) hsz (fun acc => SqL.of ((y5 _).l ((y4 _).l i3))) (fun i x acc Qy Qn hx hy hn => ?_) ?_
    · obtain ⟨k, rfl, hk⟩ := at_ hx
      refine ⟨rfl, ?_⟩
      simp only [tSeq, tIfS, tOr, tAnd, tNot, tTest, tB, tOp, tCB, tCons, tNil, tVar, tC, tRet, tRetN, tNext, tDrop, tAsg, gName, gNil, gCons, gTup, gSub, tAug, tAugS, ipI, tCall, tMeth, tMake, tCmp, tAndV, tOrV, tNotV, tIf, tChain, tTup, tLst, tSl, tPart, tNoPart, tBM, tM0, tM1, tUn, rU, tFld, tCallS, tCKw, rIn, tMethF, tMethS, rEq, rNe, rI, rI0, rIxL, rIxT, rIxS, rSub, rSlL, C8.rSlX, rNewStrs, tMake0, cxK, cxNK, tLc_list, tLc_rng1, tFor_list, tFor_str, tFor_rng1, tYes, wipe, L2.start, List.map_cons, List.map_nil, List.length_cons, List.length_nil, List.replicate, List.cons_append, List.nil_append, List.append_nil, Nat.reduceAdd, Nat.reduceSub, List.getElem?_cons_zero, List.getElem?_cons_succ, List.set_cons_zero, List.set_cons_succ, Option.some.injEq, exists_eq_left', exists_eq_left, exists_eq', and_true, true_and, exists_eq_right, exists_const, V.int.injEq, V.str.injEq, V.bl.injEq, V.ref.injEq, List.cons.injEq, scal_ii, scal_ss, scal_bb, decide_eq_true_eq, Bool.not_eq_true', decide_eq_false_iff_not, if_true, if_false, Bool.false_eq_true, exists_and_left, S_len, sz_le]
      refine ⟨_, .inl (SqL.of ((y5 _).l upd_same)), rfl, hWf, ?_⟩
      unfold fOut at hy hn
      cases e : inV (V.int (k : Nat)) WL with
      | true => exact hn (by rw [e]; rfl)
      | false => exact hy _ (by rw [e]; rfl)
    rw [← hT1]
    refine ⟨_, SqL.of upd_same, fun p6 hp6 => ?_⟩
    obtain ⟨ns, hns, hns64, l', hl', hlen', hmem'⟩ := turns_step i1 (by omega) hWL hT1
    rw [hns]
    have y6 : ∀ u, ExtN (upd (upd H' D4 (.lst WL)) D5 (.lst T1)) (upd (upd (upd H' D4 (.lst WL)) D5 (.lst T1)) p6 u) := fun u => Lf.extN_upd hp6
    have Y6 : ExtN H' (upd (upd (upd H' D4 (.lst WL)) D5 (.lst T1)) p6 (.lst (ns.map V.int))) := ((y4 _).trans (y5 _)).trans (y6 _)
    have n6 : p6 ≠ tn := fun z => by
      have := ((y4 (.lst WL)).trans (y5 (.lst T1))).l i4
      rw [← z, hp6] at this
      cases this
    have g6 : (upd (upd (upd H' D4 (.lst WL)) D5 (.lst T1)) p6 (.lst (ns.map V.int))) p6 = some (.lst (ns.map V.int)) := upd_same
    generalize (upd (upd (upd H' D4 (.lst WL)) D5 (.lst T1)) p6 (.lst (ns.map V.int))) = G at Y6 g6 ⊢
    refine ⟨.inl ⟨rfl, _, SqL.of (Y6.l i4)⟩, p6, ns, rfl, SqL.of g6, hns64, fun ns' p7 _ _ hp7 => ?_⟩
    have Y7 : ExtN G (upd G p7 (.lst (ns'.map V.int))) := Lf.extN_upd hp7
    have Y := Y6.trans Y7
    have g7 := Y7.l g6
    generalize (upd G p7 (.lst (ns'.map V.int))) = G2 at Y g7 ⊢
    have htn2 := Y.l i4
    refine ⟨tn, zs, .ref p7, rfl, rfl, htn2, by rw [sizeLine_eq]; omega, ⟨_, SqL.of (by rw [upd_ne i5]; exact Y.l i3)⟩, fun D8 hD8 => ?_⟩
    have X8 : XT K H (upd G2 tn (.lst (zs ++ [.ref p7]))) := (i2.trans (.of Y)).updL frt htn2
    have gL : (upd G2 tn (.lst (zs ++ [.ref p7]))) L = some (.lst (natV l)) := by rw [upd_ne i5]; exact Y.l i3
    have gt : (upd G2 tn (.lst (zs ++ [.ref p7]))) tn = some (.lst (zs ++ [.ref p7])) := upd_same
    have g8 : (upd G2 tn (.lst (zs ++ [.ref p7]))) p6 = some (.lst (ns.map V.int)) := by rw [upd_ne n6]; exact g7
    generalize (upd G2 tn (.lst (zs ++ [.ref p7]))) = G3 at X8 gL gt g8 hD8 ⊢
    have y8 : ∀ u, ExtN G3 (upd G3 D8 u) := fun u => Lf.extN_upd hD8
    refine lc_pureW (xs := natV l) walk_list rfl (fOut (ns.map V.int)) hsz (fun acc => SqL.of ((y8 _).l gL)) (fun i x acc Qy Qn hx hy hn => ?_) ?_
    · obtain ⟨k, rfl, hk⟩ := at_ hx
      refine ⟨rfl, ?_⟩
      simp only [tSeq, tIfS, tOr, tAnd, tNot, tTest, tB, tOp, tCB, tCons, tNil, tVar, tC, tRet, tRetN, tNext, tDrop, tAsg, gName, gNil, gCons, gTup, gSub, tAug, tAugS, ipI, tCall, tMeth, tMake, tCmp, tAndV, tOrV, tNotV, tIf, tChain, tTup, tLst, tSl, tPart, tNoPart, tBM, tM0, tM1, tUn, rU, tFld, tCallS, tCKw, rIn, tMethF, tMethS, rEq, rNe, rI, rI0, rIxL, rIxT, rIxS, rSub, rSlL, C8.rSlX, rNewStrs, tMake0, cxK, cxNK, tLc_list, tLc_rng1, tFor_list, tFor_str, tFor_rng1, tYes, wipe, L2.start, List.map_cons, List.map_nil, List.length_cons, List.length_nil, List.replicate, List.cons_append, List.nil_append, List.append_nil, Nat.reduceAdd, Nat.reduceSub, List.getElem?_cons_zero, List.getElem?_cons_succ, List.set_cons_zero, List.set_cons_succ, Option.some.injEq, exists_eq_left', exists_eq_left, exists_eq', and_true, true_and, exists_eq_right, exists_const, V.int.injEq, V.str.injEq, V.bl.injEq, V.ref.injEq, List.cons.injEq, scal_ii, scal_ss, scal_bb, decide_eq_true_eq, Bool.not_eq_true', decide_eq_false_iff_not, if_true, if_false, Bool.false_eq_true, exists_and_left, S_len, sz_le]
      refine ⟨_, .inl (SqL.of ((y8 _).l g8)), rfl, ints_flat ns, ?_⟩
      unfold fOut at hy hn
      cases e : inV (V.int (k : Nat)) (ns.map V.int) with
      | true => exact hn (by rw [e]; rfl)
      | false => exact hy _ (by rw [e]; rfl)
    · rw [hl', hNN]
      refine ⟨l', D8, _, _, _, zs ++ [.ref p7], ⟨hmem', X8.up hD8, upd_same, (y8 _).l gt, fun z => ?_⟩, hlen', by rw [List.length_append, List.length_singleton]; omega, rfl⟩
      rw [z, gt] at hD8
      cases hD8
/-! ### the ends -/
def spPlanT (K : PySem.W.Frag) : Sp := fun vs H Q _ => ∃ (v : V) (p : Addr), vs = [v, .ref p] ∧ RowsAt H p [[2], [1, -1]] ∧ Tabs (TT K) H ∧ ∀ H' q xs, XT K H H' → H' q = some (.lst xs) → Q (.ref q) H'
theorem sc_Tree_plan : FnScope ["self", "rows"] ["self", "rows"] (defScope s_Tree_plan) := ⟨rfl, rfl, rfl, by decide +kernel, rfl, by decide +kernel, by decide +kernel⟩
theorem ok_Tree_plan (T : Txt w K mg) (B : TB2 K mg base) : Dok P w K mg base (L2.CX P w) 4 (ma K "Tree" "plan") ["self", "rows"] (spPlanT K) := by
  obtain ⟨fd, F⟩ := T.d_Tree_plan
  have sc := sc_Tree_plan
  have D_tree_turns := ok_tree_turns (P := P) (base := base) T B
  refine ⟨fd, F.ok sc (fun vs H Q E h => ?_) (fun cdv A outer s H vs Q E hr h => ?_), F.bindsN fun _ _ _ _ _ _ us hl => match us, hl with | [_, _], _ => rfl, F.kp⟩
  · obtain ⟨v, p, rfl, _⟩ := h
    rfl
  refine ⟨_, (pss_one (ps_ret (pe_fX D_tree_turns hr (T.g "tree_turns") (pass_out (takes_of rfl rfl rfl rfl)) (pa_cons (pe_ix ix_list (pv 1) pe_int (fun _ _ => rfl)) (pa_cons (pe_ix ix_list (pe_ix ix_list (pv 1) pe_int (fun _ _ => rfl)) pe_int (fun _ _ => rfl)) pa_nil))))), ?_⟩
  obtain ⟨v, p, rfl, hp, hT, hQ⟩ := h
  obtain ⟨q1, q2, h1, h2, h3⟩ := rows2 hp
  simp only [tSeq, tIfS, tOr, tAnd, tNot, tTest, tB, tOp, tCB, tCons, tNil, tVar, tC, tRet, tRetN, tNext, tDrop, tAsg, gName, gNil, gCons, gTup, gSub, tAug, tAugS, ipI, tCall, tMeth, tMake, tCmp, tAndV, tOrV, tNotV, tIf, tChain, tTup, tLst, tSl, tPart, tNoPart, tBM, tM0, tM1, tUn, rU, tFld, tCallS, tCKw, rIn, tMethF, tMethS, rEq, rNe, rI, rI0, rIxL, rIxT, rIxS, rSub, rSlL, C8.rSlX, rNewStrs, tMake0, cxK, cxNK, tLc_list, tLc_rng1, tFor_list, tFor_str, tFor_rng1, tYes, wipe, L2.start, List.map_cons, List.map_nil, List.length_cons, List.length_nil, List.replicate, List.cons_append, List.nil_append, List.append_nil, Nat.reduceAdd, Nat.reduceSub, List.getElem?_cons_zero, List.getElem?_cons_succ, List.set_cons_zero, List.set_cons_succ, Option.some.injEq, exists_eq_left', exists_eq_left, exists_eq', and_true, true_and, exists_eq_right, exists_const, V.int.injEq, V.str.injEq, V.bl.injEq, V.ref.injEq, List.cons.injEq, scal_ii, scal_ss, scal_bb, decide_eq_true_eq, Bool.not_eq_true', decide_eq_false_iff_not, if_true, if_false, Bool.false_eq_true, exists_and_left, S_len, sz_le]
  exact ⟨_, SqL.of h1, _, atI_nat (j := 1) rfl, _, SqL.of h1, _, atI_nat (j := 0) rfl, q1, rfl, _, SqL.of h2, _, atI_nat (j := 0) rfl, q2, rfl, h3, hT, hQ⟩
/-- what end is asked of: the bench's works, the law's tree -/
def EndOk (i : Fin 6) (rs : Rows) : Prop := (i = 2 ∧ rs.length ≤ 12 ∧ ∀ r ∈ rs, ∃ a b c : Int, r = [a, b, c] ∧ 0 ≤ a ∧ a ≤ 100 ∧ 1 ≤ b ∧ b ≤ 100 ∧ 0 ≤ c ∧ c ≤ 100) ∨ (i = 4 ∧ rs = [[2], [1, -1]])
def spEnd (K : PySem.W.Frag) (i : Fin 6) : Sp := fun vs H Q _ => ∃ (x dx p : Addr) (rs : Rows), vs = [.ref x, .ref p] ∧ H x = some (.ins (kC K i) dx []) ∧ RowsAt H p rs ∧ EndOk i rs ∧ Tabs (TT K) H ∧ ∀ (n : Int) H', XT K H H' → Q (.int n) H'
theorem sc_Tails_end : FnScope ["self", "rows"] ["self", "rows"] (defScope s_Tails_end) := ⟨rfl, rfl, rfl, by decide +kernel, rfl, by decide +kernel, by decide +kernel⟩
theorem ok_Tails_end (T : Txt w K mg) (B : TB2 K mg base) : Dok P w K mg base CX0 5 (ma K "Tails" "end") ["self", "rows"] (spEnd K 2) := by
  obtain ⟨fd, F⟩ := T.d_Tails_end
  have sc := sc_Tails_end
  have D_tail_end := ok_tail_end (P := P) (base := base) T B
  refine ⟨fd, F.ok sc (fun vs H Q E h => ?_) (fun cdv A outer s H vs Q E hr h => ?_), F.bindsN fun _ _ _ _ _ _ us hl => match us, hl with | [_, _], _ => rfl, F.kp⟩
  · obtain ⟨x, dx, p, rs, rfl, _⟩ := h
    rfl
  refine ⟨_, PSs.nox (pss_one (ps_ret (pe_f D_tail_end hr (T.g "tail_end") (pa_cons (pv 1) pa_nil)))), ?_⟩
  obtain ⟨x, dx, p, rs, rfl, hx, ⟨rows, hp, hok, rfl⟩, he, hT, hQ⟩ := h
  simp only [tSeq, tIfS, tOr, tAnd, tNot, tTest, tB, tOp, tCB, tCons, tNil, tVar, tC, tRet, tRetN, tNext, tDrop, tAsg, gName, gNil, gCons, gTup, gSub, tAug, tAugS, ipI, tCall, tMeth, tMake, tCmp, tAndV, tOrV, tNotV, tIf, tChain, tTup, tLst, tSl, tPart, tNoPart, tBM, tM0, tM1, tUn, rU, tFld, tCallS, tCKw, rIn, tMethF, tMethS, rEq, rNe, rI, rI0, rIxL, rIxT, rIxS, rSub, rSlL, C8.rSlX, rNewStrs, tMake0, cxK, cxNK, tLc_list, tLc_rng1, tFor_list, tFor_str, tFor_rng1, tYes, wipe, L2.start, List.map_cons, List.map_nil, List.length_cons, List.length_nil, List.replicate, List.cons_append, List.nil_append, List.append_nil, Nat.reduceAdd, Nat.reduceSub, List.getElem?_cons_zero, List.getElem?_cons_succ, List.set_cons_zero, List.set_cons_succ, Option.some.injEq, exists_eq_left', exists_eq_left, exists_eq', and_true, true_and, exists_eq_right, exists_const, V.int.injEq, V.str.injEq, V.bl.injEq, V.ref.injEq, List.cons.injEq, scal_ii, scal_ss, scal_bb, decide_eq_true_eq, Bool.not_eq_true', decide_eq_false_iff_not, if_true, if_false, Bool.false_eq_true, exists_and_left, S_len, sz_le]
  rcases he with ⟨_, h1, h2⟩ | ⟨h1, _⟩
  · rw [List.length_map] at h1
    exact ⟨p, rows, rfl, hp, hok, ⟨h1, fun r hr => h2 _ (List.mem_map_of_mem hr)⟩, hT, hQ⟩
  · exact absurd h1 (by decide)
theorem sc_Tree_end : FnScope ["self", "rows"] ["self", "rows"] (defScope s_Tree_end) := ⟨rfl, rfl, rfl, by decide +kernel, rfl, by decide +kernel, by decide +kernel⟩
theorem ok_Tree_end (T : Txt w K mg) (B : TB2 K mg base) : Dok P w K mg base (L2.CX P w) 5 (ma K "Tree" "end") ["self", "rows"] (spEnd K 4) := by
  obtain ⟨fd, F⟩ := T.d_Tree_end
  have sc := sc_Tree_end
  have D_Tree_plan := ok_Tree_plan (P := P) (base := base) T B
  refine ⟨fd, F.ok sc (fun vs H Q E h => ?_) (fun cdv A outer s H vs Q E hr h => ?_), F.bindsN fun _ _ _ _ _ _ us hl => match us, hl with | [_, _], _ => rfl, F.kp⟩
  · obtain ⟨x, dx, p, rs, rfl, _⟩ := h
    rfl
  refine ⟨_, (pss_one (ps_ret (pe_callB call_len_seq rfl (T.n "len") PySem.boot_len (pa_cons (pe_o D_Tree_plan hr (T.c "Tree") (T.m "Tree" "plan") (pv 0) (pass_out (takes_of rfl rfl rfl rfl)) (pa_cons (pv 1) pa_nil)) pa_nil)))), ?_⟩
  obtain ⟨x, dx, p, rs, rfl, hx, hp, he, hT, hQ⟩ := h
  have hrs : rs = [[2], [1, -1]] := by
    rcases he with ⟨h1, _⟩ | ⟨_, h1⟩
    · exact absurd h1 (by decide)
    · exact h1
  subst hrs
  simp only [tSeq, tIfS, tOr, tAnd, tNot, tTest, tB, tOp, tCB, tCons, tNil, tVar, tC, tRet, tRetN, tNext, tDrop, tAsg, gName, gNil, gCons, gTup, gSub, tAug, tAugS, ipI, tCall, tMeth, tMake, tCmp, tAndV, tOrV, tNotV, tIf, tChain, tTup, tLst, tSl, tPart, tNoPart, tBM, tM0, tM1, tUn, rU, tFld, tCallS, tCKw, rIn, tMethF, tMethS, rEq, rNe, rI, rI0, rIxL, rIxT, rIxS, rSub, rSlL, C8.rSlX, rNewStrs, tMake0, cxK, cxNK, tLc_list, tLc_rng1, tFor_list, tFor_str, tFor_rng1, tYes, wipe, L2.start, List.map_cons, List.map_nil, List.length_cons, List.length_nil, List.replicate, List.cons_append, List.nil_append, List.append_nil, Nat.reduceAdd, Nat.reduceSub, List.getElem?_cons_zero, List.getElem?_cons_succ, List.set_cons_zero, List.set_cons_succ, Option.some.injEq, exists_eq_left', exists_eq_left, exists_eq', and_true, true_and, exists_eq_right, exists_const, V.int.injEq, V.str.injEq, V.bl.injEq, V.ref.injEq, List.cons.injEq, scal_ii, scal_ss, scal_bb, decide_eq_true_eq, Bool.not_eq_true', decide_eq_false_iff_not, if_true, if_false, Bool.false_eq_true, exists_and_left, S_len, sz_le]
  exact ⟨dx, [], hx, rfl, _, p, rfl, hp, hT, fun H' q xs e hq => ⟨q, rfl, _, .inl (SqL.of hq), hQ _ _ e⟩⟩
/-- a def that raises nothing may stand for one that may -/
theorem Dok.raise {k : Nat} {f : Addr} {ps : List Str} {sp : Sp} (D : Dok P w K mg base CX0 k f ps sp) (h : ∀ vs H Q E E', sp vs H Q E → sp vs H Q E') : Dok P w K mg base (L2.CX P w) k f ps sp := by
  obtain ⟨fd, F, b, kp⟩ := D
  refine ⟨fd, ⟨F.len, fun A outer s H args us vs Q E hr e0 hb r hs => ?_⟩, b, kp⟩
  refine codeAny_mono (F.run A outer s H args us vs Q E hr e0 hb r hs) fun r s' hq => ?_
  cases r with
  | error e => exact hq.elim
  | ok fl => cases fl <;> exact hq
/-- the two kinds whose end is asked -/
def eK : Fin 2 → Fin 6
  | 0 => 2
  | 1 => 4
theorem ok_end (T : Txt w K mg) (B : TB2 K mg base) (i : Fin 2) : Dok P w K mg base (L2.CX P w) 5 (kF K "end" (eK i)) ["self", "rows"] (spEnd K (eK i)) := by
  match i with
  | 0 => exact (ok_Tails_end T B).raise fun vs H Q E E' h => h
  | 1 => exact ok_Tree_end T B
theorem kEnd (T : Txt w K mg) (i : Fin 2) : Meth K (kC K (eK i)) "end" (kF K "end" (eK i)) := by
  match i with
  | 0 => exact T.m "Tails" "end"
  | 1 => exact T.m "Tree" "end"
end
end Lf
set_option Elab.async false
set_option linter.all false
set_option maxRecDepth 100000
set_option maxHeartbeats 4000000
/-! desk.py. -/
namespace Lf
open PySem PySem.Spec PyProof.Rows L2 LfR LamX LfM SX
section
variable {P : Program} {w : World} {K : PySem.W.Frag} {mg : Str → Option Value} {base : Heap}
/-! ### the floors that stand -/
def KvOk (H : Hp) : List (Key × V) → State → Prop
  | [], [] => True
  | (k, v) :: r, (n, f) :: s => k = Sum.inr (S n) ∧ FloorAt H v f ∧ KvOk H r s
  | _, _ => False
theorem RowsAt.wk {H H' : Hp} {p : Addr} {rs : Rows} (h : RowsAt H p rs) (e : ∀ {a : Addr} {xs : List V}, H a = some (.lst xs) → H' a = some (.lst xs)) : RowsAt H' p rs := by
  obtain ⟨rows, h1, h2, h3⟩ := h
  exact ⟨rows, e h1, fun r hr => e (h2 r hr), h3⟩
theorem FloorAt.wk {H H' : Hp} {v : V} {f : Fl} (h : FloorAt H v f) (e : ∀ {a : Addr} {xs : List V}, H a = some (.lst xs) → H' a = some (.lst xs)) (e2 : ∀ {a : Addr} {xs : List V}, H a = some (.tup xs) → H' a = some (.tup xs)) : FloorAt H' v f := by
  obtain ⟨t, q, h1, h2, h3⟩ := h
  exact ⟨t, q, h1, e2 h2, h3.wk e⟩
theorem KvOk.wk {H H' : Hp} (e : ∀ {a : Addr} {xs : List V}, H a = some (.lst xs) → H' a = some (.lst xs)) (e2 : ∀ {a : Addr} {xs : List V}, H a = some (.tup xs) → H' a = some (.tup xs)) : ∀ {kvs : List (Key × V)} {st : State}, KvOk H kvs st → KvOk H' kvs st
  | [], [], h => h
  | (k, v) :: r, (n, f) :: s, h => ⟨h.1, h.2.1.wk e e2, KvOk.wk e e2 h.2.2⟩
  | [], _ :: _, h => h.elim
  | _ :: _, [], h => h.elim
theorem inr_S {a b : Tx} : ((Sum.inr (S a) : Key) = Sum.inr (S b)) ↔ a = b := ⟨fun h => S_inj (Sum.inr.inj h), fun h => by rw [h]⟩
theorem KvOk.find {H : Hp} {n : Tx} : ∀ {kvs : List (Key × V)} {st : State}, KvOk H kvs st → (∀ f, look st n = some f → ∃ v, valV kvs (Sum.inr (S n)) = some v ∧ FloorAt H v f) ∧ (look st n = none → valV kvs (Sum.inr (S n)) = none)
  | [], [], _ => ⟨(fun f h => by cases h), fun _ => rfl⟩
  | (k, v) :: r, (m, f) :: s, h => by
    obtain ⟨rfl, hf, hr⟩ := h
    have ih := KvOk.find (n := n) hr
    by_cases e : m = n
    · subst e
      have h1 : look ((m, f) :: s) m = some f := by
        show (if m == m then some f else look s m) = _
        rw [beq_self_eq_true, if_pos rfl]
      rw [h1]
      exact ⟨(fun g hg => ⟨v, valV_pos rfl, by cases hg; exact hf⟩), fun z => by cases z⟩
    · have h1 : look ((m, f) :: s) n = look s n := by
        show (if m == n then some f else look s n) = _
        rw [if_neg (by simpa using e)]
      rw [h1, valV_neg (fun z => e (inr_S.mp z))]
      exact ih
  | [], _ :: _, h => h.elim
  | _ :: _, [], h => h.elim
theorem KvOk.keys {H : Hp} : ∀ {kvs : List (Key × V)} {st : State}, KvOk H kvs st → kvs.map (·.1) = ((st.map (·.1)).map S).map Sum.inr
  | [], [], _ => rfl
  | (k, v) :: r, (m, f) :: s, h => by
    obtain ⟨rfl, hf, hr⟩ := h
    show Sum.inr (S m) :: r.map (·.1) = _
    rw [KvOk.keys hr] <;> rfl
  | [], _ :: _, h => h.elim
  | _ :: _, [], h => h.elim
theorem KvOk.len {H : Hp} {kvs : List (Key × V)} {st : State} (h : KvOk H kvs st) : kvs.length = st.length := by
  have := congrArg List.length h.keys
  simpa using this
theorem KvOk.any {H : Hp} {n : Tx} : ∀ {kvs : List (Key × V)} {st : State}, KvOk H kvs st → (kvs.any fun kv => decide (kv.1 = (Sum.inr (S n) : Key))) = st.any fun p => p.1 == n
  | [], [], _ => rfl
  | (k, v) :: r, (m, f) :: s, h => by
    obtain ⟨rfl, hf, hr⟩ := h
    rw [List.any_cons, List.any_cons, KvOk.any hr]
    congr 1
    rw [Bool.eq_iff_iff, decide_eq_true_eq, beq_iff_eq]
    exact inr_S
  | [], _ :: _, h => h.elim
  | _ :: _, [], h => h.elim
theorem KvOk.app {H : Hp} {n : Tx} {v : V} {f : Fl} (hv : FloorAt H v f) : ∀ {kvs : List (Key × V)} {st : State}, KvOk H kvs st → KvOk H (kvs ++ [(Sum.inr (S n), v)]) (st ++ [(n, f)])
  | [], [], _ => ⟨rfl, hv, trivial⟩
  | (k, u) :: r, (m, g) :: s, h => ⟨h.1, h.2.1, KvOk.app hv h.2.2⟩
  | [], _ :: _, h => h.elim
  | _ :: _, [], h => h.elim
theorem KvOk.upd_ {H : Hp} {n : Tx} {v : V} {f : Fl} (hv : FloorAt H v f) : ∀ {kvs : List (Key × V)} {st : State}, KvOk H kvs st → KvOk H (kvs.map fun kv => if kv.1 = (Sum.inr (S n) : Key) then (kv.1, v) else kv) (st.map fun p => if p.1 == n then (p.1, f) else p)
  | [], [], _ => trivial
  | (k, u) :: r, (m, g) :: s, h => by
    obtain ⟨rfl, hf, hr⟩ := h
    rw [List.map_cons, List.map_cons]
    by_cases e : m = n
    · subst e
      rw [if_pos rfl, if_pos (beq_self_eq_true _)]
      exact ⟨rfl, hv, KvOk.upd_ hv hr⟩
    · rw [if_neg (fun z => e (inr_S.mp z)), if_neg (by simpa using e)]
      exact ⟨rfl, hf, KvOk.upd_ hv hr⟩
  | [], _ :: _, h => h.elim
  | _ :: _, [], h => h.elim
theorem KvOk.put {H : Hp} {n : Tx} {v : V} {f : Fl} {kvs : List (Key × V)} {st : State} (h : KvOk H kvs st) (hv : FloorAt H v f) : KvOk H (putK kvs (Sum.inr (S n)) v) (putS st n f) := by
  unfold putK putS
  rw [h.any]
  split
  · exact KvOk.upd_ hv h
  · exact KvOk.app hv h
theorem KvOk.drop {H : Hp} {n : Tx} : ∀ {kvs : List (Key × V)} {st : State}, KvOk H kvs st → KvOk H (dropK kvs (Sum.inr (S n))) (dropS st n)
  | [], [], _ => trivial
  | (k, u) :: r, (m, g) :: s, h => by
    obtain ⟨rfl, hf, hr⟩ := h
    have ih := KvOk.drop (n := n) hr
    unfold dropK dropS at ih ⊢
    rw [List.filter_cons, List.filter_cons]
    by_cases e : m = n
    · subst e
      rw [if_neg (by simp), if_neg (by simp)]
      exact ih
    · rw [if_pos (by simpa using fun z => e (S_inj z)), if_pos (by simpa using e)]
      exact ⟨rfl, hf, ih⟩
  | [], _ :: _, h => h.elim
  | _ :: _, [], h => h.elim
/-- the desk at D, its dict at d -/
def DeskAt (K : PySem.W.Frag) (H : Hp) (D d : Addr) (st : State) : Prop := ∃ dx kvs, H D = some (.ins (ga K "Desk") dx [("floors", .ref d)]) ∧ H d = some (.dK kvs) ∧ KvOk H kvs st
theorem DeskAt.ext {H H' : Hp} {D d : Addr} {st : State} (h : DeskAt K H D d st) (e : XT K H H') : DeskAt K H' D d st := by
  obtain ⟨dx, kvs, h1, h2, h3⟩ := h
  exact ⟨dx, kvs, e.ext _ _ h1 (fun ps z => by cases z), e.ext _ _ h2 (fun ps z => by cases z), h3.wk (fun z => e.l z) fun z => e.ext _ _ z (fun ps z => by cases z)⟩
/-- the floors that the law's desk may hold -/
def GoodF (f : Fl) : Prop := ∃ i : Fin 2, (eK i).1 = f.1 ∧ EndOk (eK i) f.2
def GoodS (st : State) : Prop := st.length < 60 ∧ ∀ p ∈ st, GoodF p.2 ∧ p.1.length ≤ 1000
theorem GoodS.find {st : State} (h : GoodS st) {n : Tx} {f : Fl} (e : look st n = some f) : GoodF f := by
  have key : ∀ {s : State}, LfM.look s n = some f → ∃ p ∈ s, p.2 = f := by
    intro s
    induction s with
    | nil => intro e; cases e
    | cons p r ih =>
      intro e
      obtain ⟨m, g⟩ := p
      have e2 : (if m == n then some g else LfM.look r n) = some f := e
      split at e2
      · exact ⟨_, List.mem_cons_self .., Option.some.inj e2⟩
      · obtain ⟨p, hp, e3⟩ := ih e2
        exact ⟨p, List.mem_cons_of_mem _ hp, e3⟩
  obtain ⟨p, hp, rfl⟩ := key e
  exact (h.2 p hp).1
theorem iteTT {α : Type} {A B : Prop} (h : A) : if (none : Option α).isSome = false then A else B := by
  simpa using h
theorem iteFF {α : Type} {v : α} {A B : Prop} (h : B) : if (some v).isSome = false then A else B := by
  rw [if_neg (by simp)]
  exact h
theorem iteTT' {A B : Prop} (h : A) : if false = false then A else B := by
  rw [if_pos rfl]
  exact h
theorem mapO_len {α β : Type} {f : α → Option β} : ∀ {l : List α} {r : List β}, mapO f l = some r → r.length = l.length
  | [], r, h => by
    cases h
    rfl
  | a :: l, r, h => by
    unfold mapO at h
    cases e : f a with
    | none => rw [e] at h; cases h
    | some b =>
      rw [e] at h
      obtain ⟨r', h1, h2⟩ := Option.map_eq_some_iff.mp h
      rw [← h2, List.length_cons, List.length_cons, mapO_len h1]
theorem readRows_len {a : Tx} {rs : Rows} (h : readRows a = some rs) : rs.length ≤ a.length + 1 := by
  unfold readRows at h
  split at h
  · cases h
    exact Nat.zero_le _
  · rw [mapO_len h]
    exact spl_len _ _ _ _
theorem endOk_len {i : Fin 6} {rs : Rows} (h : EndOk i rs) : rs.length ≤ 100 := by
  rcases h with ⟨_, h, _⟩ | ⟨_, rfl⟩
  · omega
  · decide
/-! ### standing -/
def spStanding (K : PySem.W.Frag) : Sp := fun vs H Q E => ∃ (D d : Addr) (st : State) (n : Tx), vs = [.ref D, .str (S n)] ∧ DeskAt K H D d st ∧ (∀ f, look st n = some f → ∀ v, FloorAt H v f → Q v H) ∧ (look st n = none → E (.ref (ga K "NoName")) none H)
theorem sc_Desk_standing : FnScope ["self", "name"] ["self", "name"] (defScope s_Desk_standing) := ⟨rfl, rfl, rfl, by decide +kernel, rfl, by decide +kernel, by decide +kernel⟩
theorem ok_Desk_standing (T : Txt w K mg) : Dok P w K mg base (L2.CX P w) 1 (ma K "Desk" "standing") ["self", "name"] (spStanding K) := by
  obtain ⟨fd, F⟩ := T.d_Desk_standing
  have sc := sc_Desk_standing
  refine ⟨fd, F.ok sc (fun vs H Q E h => ?_) (fun cdv A outer s H vs Q E hr h => ?_), F.bindsN fun _ _ _ _ _ _ us hl => match us, hl with | [_, _], _ => rfl, F.kp⟩
  · obtain ⟨D, d, st, n, rfl, _⟩ := h
    rfl
  refine ⟨_, (pss_cons (ps_if (pt_cmp (pc_dnotin (hu_of hr) (pv 1) (pe_fld (pv 0) rfl))) (pss_one (ps_raise rfl (takes_of rfl rfl rfl rfl) (pmk_own PySem.F.excBase_ValueError (T.x "NoName").1 (T.g "NoName") (T.x "NoName").2.1 (raises_own (T.x "NoName").2.2.1 (T.x "NoName").2.2.2) rfl))) pss_nil) (pss_one (ps_ret (pe_dget (hu_of hr) (pe_fld (pv 0) rfl) (pv 1) (fun _ _ => rfl))))), ?_⟩
  obtain ⟨D, d, st, n, rfl, ⟨dx, kvs, h1, h2, h3⟩, hQ, hE⟩ := h
  obtain ⟨f1, f2⟩ := h3.find (n := n)
  simp only [tSeq, tIfS, tOr, tAnd, tNot, tTest, tB, tOp, tCB, tCons, tNil, tVar, tC, tRet, tRetN, tNext, tDrop, tAsg, gName, gNil, gCons, gTup, gSub, tAug, tAugS, ipI, tCall, tMeth, tMake, tCmp, tAndV, tOrV, tNotV, tIf, tChain, tTup, tLst, tSl, tPart, tNoPart, tBM, tM0, tM1, tUn, rU, tFld, tCallS, tCKw, rIn, tMethF, Lf.tMethS, tDNotIn, tDGet, tDPop1, sDPut, sFld, tDNewK, rEq, rNe, rI, rI0, rIxL, rIxT, rIxS, rSub, rSlL, C8.rSlX, rNewStrs, tMake0, cxK, cxNK, tLc_list, tLc_rng1, tFor_list, tFor_str, tFor_rng1, tYes, wipe, L2.start, List.map_cons, List.map_nil, List.length_cons, List.length_nil, List.replicate, List.cons_append, List.nil_append, List.append_nil, Nat.reduceAdd, Nat.reduceSub, List.getElem?_cons_zero, List.getElem?_cons_succ, List.set_cons_zero, List.set_cons_succ, Option.some.injEq, exists_eq_left', exists_eq_left, exists_eq', and_true, true_and, exists_eq_right, exists_const, V.int.injEq, V.str.injEq, V.bl.injEq, V.ref.injEq, List.cons.injEq, scal_ii, scal_ss, scal_bb, decide_eq_true_eq, Bool.not_eq_true', decide_eq_false_iff_not, if_true, if_false, Bool.false_eq_true, exists_and_left, S_len, sz_le]
  refine ⟨_, dx, _, h1, T.c "Desk", T.noF, _, rfl, d, rfl, _, DGet.k (k := Sum.inr (S n)) h2, ?_⟩
  cases e : look st n with
  | none =>
    rw [f2 e]
    exact iteTT (hE e)
  | some f =>
    obtain ⟨v, hv, hf⟩ := f1 f e
    have g := DGet.k (k := Sum.inr (S n)) h2
    rw [hv] at g ⊢
    exact iteFF ⟨_, dx, _, h1, T.c "Desk", T.noF, _, rfl, d, rfl, v, g, hQ f e v hf⟩
/-- late_floor: no floor is made -/
def spLate (K : PySem.W.Frag) : Sp := fun vs H Q E => ∃ (D d : Addr) (st : State) (n a : Tx), vs = [.ref D, .str (S n), .str (S a)] ∧ DeskAt K H D d st ∧ GoodS st ∧ a.length ≤ 100000 ∧
  ((look st n = none ∧ ∀ H', XT K H H' → E (.ref (ga K "NoName")) none H') ∨ ∃ k rs, look st n = some (k, rs) ∧ ((readRows a = none ∧ ∀ H', XT K H H' → E (.ref (ga K "NoText")) none H') ∨ ∃ more, readRows a = some more ∧ fitsM k (rs ++ more) = some false ∧ ∀ H', XT K H H' → E (.ref (ga K "NoFloor")) none H'))
theorem sc_Desk_late_floor : FnScope ["self", "name", "text", "word", "rows", "more"] ["self", "name", "text"] (defScope s_Desk_late_floor) := ⟨rfl, rfl, rfl, by decide +kernel, rfl, by decide +kernel, by decide +kernel⟩
theorem ok_Desk_late_floor (T : Txt w K mg) : Dok P w K mg base (L2.CX P w) 6 (ma K "Desk" "late_floor") ["self", "name", "text"] (spLate K) := by
  obtain ⟨fd, F⟩ := T.d_Desk_late_floor
  have sc := sc_Desk_late_floor
  have D_Desk_standing := ok_Desk_standing (P := P) (base := base) T
  have D_read_rows := ok_read_rows (P := P) (base := base) T
  have D_kind_of := ok_kind_of (P := P) (base := base) T
  refine ⟨fd, F.ok sc (fun vs H Q E h => ?_) (fun cdv A outer s H vs Q E hr h => ?_), F.bindsN fun _ _ _ _ _ _ us hl => match us, hl with | [_, _, _], _ => rfl, F.kp⟩
  · obtain ⟨D, d, st, n, a, rfl, _⟩ := h
    rfl
  refine ⟨_, (pss_cons (ps_asg (pe_o D_Desk_standing hr (T.c "Desk") (T.m "Desk" "standing") (pv 0) (pass_out (takes_of rfl rfl rfl rfl)) (pa_cons (pv 1) pa_nil)) (pg_tup (by rfl) (pgs_cons (pg_name (i := 3) sc.nd rfl (Or.inl rfl)) (pgs_cons (pg_name (i := 4) sc.nd rfl (Or.inl rfl)) pgs_nil)))) (pss_cons (ps_set (i := 5) sc.nd rfl (Or.inl rfl) (pe_op op_cat (pv 4) (pe_fX D_read_rows hr (T.g "read_rows") (pass_out (takes_of rfl rfl rfl rfl)) (pa_cons (pv 2) pa_nil)))) (pss_cons (ps_if (pt_not (pt_val (pe_oF (fun i => ok_fits T i) hr (kCls T) (kFits T) (pe_fX D_kind_of hr (T.g "kind_of") (pass_out (takes_of rfl rfl rfl rfl)) (pa_cons (pv 3) pa_nil)) pass0 (pa_cons (pv 5) pa_nil)))) (pss_one (ps_raise rfl (takes_of rfl rfl rfl rfl) (pmk_own PySem.F.excBase_ValueError (T.x "NoFloor").1 (T.g "NoFloor") (T.x "NoFloor").2.1 (raises_own (T.x "NoFloor").2.2.1 (T.x "NoFloor").2.2.2) rfl))) pss_nil) pss_never))), ?_⟩
  obtain ⟨D, d, st, n, a, rfl, hD, hg, hl, h⟩ := h
  have hD' := hD
  obtain ⟨dx, kvs, h1, h2, h3⟩ := hD'
  simp only [tSeq, tIfS, tOr, tAnd, tNot, tTest, tB, tOp, tCB, tCons, tNil, tVar, tC, tRet, tRetN, tNext, tDrop, tAsg, gName, gNil, gCons, gTup, gSub, tAug, tAugS, ipI, tCall, tMeth, tMake, tCmp, tAndV, tOrV, tNotV, tIf, tChain, tTup, tLst, tSl, tPart, tNoPart, tBM, tM0, tM1, tUn, rU, tFld, tCallS, tCKw, rIn, tMethF, Lf.tMethS, tDNotIn, tDGet, tDPop1, sDPut, sFld, tDNewK, rEq, rNe, rI, rI0, rIxL, rIxT, rIxS, rSub, rSlL, C8.rSlX, rNewStrs, tMake0, cxK, cxNK, tLc_list, tLc_rng1, tFor_list, tFor_str, tFor_rng1, tYes, wipe, L2.start, List.map_cons, List.map_nil, List.length_cons, List.length_nil, List.replicate, List.cons_append, List.nil_append, List.append_nil, Nat.reduceAdd, Nat.reduceSub, List.getElem?_cons_zero, List.getElem?_cons_succ, List.set_cons_zero, List.set_cons_succ, Option.some.injEq, exists_eq_left', exists_eq_left, exists_eq', and_true, true_and, exists_eq_right, exists_const, V.int.injEq, V.str.injEq, V.bl.injEq, V.ref.injEq, List.cons.injEq, scal_ii, scal_ss, scal_bb, decide_eq_true_eq, Bool.not_eq_true', decide_eq_false_iff_not, if_true, if_false, Bool.false_eq_true, exists_and_left, S_len, sz_le]
  refine ⟨dx, _, h1, rfl, D, d, st, n, rfl, hD, fun f hf v hv => ?_, fun hn => ?_⟩
  · rcases h with ⟨z, _⟩ | ⟨k, rs, hk, h⟩
    · rw [z] at hf
      cases hf
    rw [hk] at hf
    cases hf
    obtain ⟨i, hi, hei⟩ := hg.find hk
    obtain ⟨t, q, rfl, ht, hq⟩ := hv
    refine ⟨t, rfl, _, SqT.of ht, rfl, _, _, rfl, _, _, rfl, rfl, a, rfl, hl, fun more hm p H1 e1 hp1 hat => ?_, fun hn H1 e1 => ?_⟩
    · obtain ⟨hn, _⟩ | ⟨more', hm', hfit, hE⟩ := h
      · rw [hn] at hm
        cases hm
      rw [hm'] at hm
      have em : more' = more := Option.some.inj hm
      subst em
      replace hi : (eK i).1 = k := hi
      replace hei : EndOk (eK i) rs := hei
      have hq1 : RowsAt H1 q rs := hq.ext e1
      obtain ⟨ra, ha1, ha2, ha3⟩ := hq1
      obtain ⟨rb, hb1, hb2, hb3⟩ := hat
      have lb : rb.length ≤ 100001 := by
        have := readRows_len hm'
        rw [← hb3, List.length_map] at this
        omega
      have la : ra.length ≤ 100 := by
        have : rs.length ≤ 100 := endOk_len hei
        rw [← ha3, List.length_map] at this
        exact this
      refine ⟨q, p, _, _, rfl, rfl, ha1, hb1, by rw [rowRefs_len, rowRefs_len, sizeLine_eq]; omega, fun p2 hp2 => ?_⟩
      have e2 := Lf.extN_upd (o := .lst (rowRefs ra ++ rowRefs rb)) hp2
      have hcat : RowsAt (upd H1 p2 (.lst (rowRefs ra ++ rowRefs rb))) p2 (rs ++ more') := ⟨ra ++ rb, by rw [upd_same]; unfold rowRefs; rw [List.map_append], fun r hr => by
        rcases List.mem_append.mp hr with hr | hr
        · exact e2.l (ha2 r hr)
        · exact e2.l (hb2 r hr), by rw [List.map_append, ha3, hb3]⟩
      have ek : kindIx (kindW k) = some k := by
        rw [← hi]
        exact kindIx_at (eK i)
      refine ⟨kindW k, rfl, fun j hj H3 v3 e3 hv3 => ?_, fun hn => ?_⟩
      · rw [ek] at hj
        have hjk := Option.some.inj hj
        obtain ⟨x, dx3, rfl, hx⟩ := hv3
        exact ⟨x, rfl, dx3, [], j, hx, rfl, _, p2, rs ++ more', false, rfl, hcat.ext e3, by rw [← hjk]; exact hfit, fun H4 e4 => ⟨false, rfl, iteTT' (hE _ (.of (((e1.trans e2).trans e3).trans e4)))⟩⟩
      · rw [ek] at hn
        cases hn
    · obtain ⟨_, hE⟩ | ⟨more', hm', _⟩ := h
      · exact hE _ (.of e1)
      · rw [hm'] at hn
        cases hn
  · rcases h with ⟨_, hE⟩ | ⟨k, rs, hk, _⟩
    · exact hE _ (.refl _)
    · rw [hk] at hn
      cases hn
/-- busy_at: no plan is asked -/
def spBusy (K : PySem.W.Frag) : Sp := fun vs H Q E => ∃ (D d : Addr) (st : State) (n a : Tx), vs = [.ref D, .str (S n), .str (S a)] ∧ DeskAt K H D d st ∧ a.length ≤ 100000 ∧
  ((look st n = none ∧ ∀ H', XT K H H' → E (.ref (ga K "NoName")) none H') ∨ ∃ f, look st n = some f ∧ readCount a = none ∧ ∀ H', XT K H H' → E (.ref (ga K "NoText")) none H')
theorem sc_Desk_busy_at : FnScope ["self", "name", "text", "word", "rows", "moment", "plan", "bench", "work"] ["self", "name", "text"] (defScope s_Desk_busy_at) := ⟨rfl, rfl, rfl, by decide +kernel, rfl, by decide +kernel, by decide +kernel⟩
theorem ok_Desk_busy_at (T : Txt w K mg) : Dok P w K mg base (L2.CX P w) 3 (ma K "Desk" "busy_at") ["self", "name", "text"] (spBusy K) := by
  obtain ⟨fd, F⟩ := T.d_Desk_busy_at
  have sc := sc_Desk_busy_at
  have D_Desk_standing := ok_Desk_standing (P := P) (base := base) T
  have D_read_count := ok_read_count (P := P) (base := base) T
  refine ⟨fd, F.ok sc (fun vs H Q E h => ?_) (fun cdv A outer s H vs Q E hr h => ?_), F.bindsN fun _ _ _ _ _ _ us hl => match us, hl with | [_, _, _], _ => rfl, F.kp⟩
  · obtain ⟨D, d, st, n, a, rfl, _⟩ := h
    rfl
  refine ⟨_, (pss_cons (ps_asg (pe_o D_Desk_standing hr (T.c "Desk") (T.m "Desk" "standing") (pv 0) (pass_out (takes_of rfl rfl rfl rfl)) (pa_cons (pv 1) pa_nil)) (pg_tup (by rfl) (pgs_cons (pg_name (i := 3) sc.nd rfl (Or.inl rfl)) (pgs_cons (pg_name (i := 4) sc.nd rfl (Or.inl rfl)) pgs_nil)))) (pss_cons (ps_set (i := 5) sc.nd rfl (Or.inl rfl) (pe_fX D_read_count hr (T.g "read_count") (pass_out (takes_of rfl rfl rfl rfl)) (pa_cons (pv 2) pa_nil))) pss_never)), ?_⟩
  obtain ⟨D, d, st, n, a, rfl, hD, hl, h⟩ := h
  have hD' := hD
  obtain ⟨dx, kvs, h1, h2, h3⟩ := hD'
  simp only [tSeq, tIfS, tOr, tAnd, tNot, tTest, tB, tOp, tCB, tCons, tNil, tVar, tC, tRet, tRetN, tNext, tDrop, tAsg, gName, gNil, gCons, gTup, gSub, tAug, tAugS, ipI, tCall, tMeth, tMake, tCmp, tAndV, tOrV, tNotV, tIf, tChain, tTup, tLst, tSl, tPart, tNoPart, tBM, tM0, tM1, tUn, rU, tFld, tCallS, tCKw, rIn, tMethF, Lf.tMethS, tDNotIn, tDGet, tDPop1, sDPut, sFld, tDNewK, rEq, rNe, rI, rI0, rIxL, rIxT, rIxS, rSub, rSlL, C8.rSlX, rNewStrs, tMake0, cxK, cxNK, tLc_list, tLc_rng1, tFor_list, tFor_str, tFor_rng1, tYes, wipe, L2.start, List.map_cons, List.map_nil, List.length_cons, List.length_nil, List.replicate, List.cons_append, List.nil_append, List.append_nil, Nat.reduceAdd, Nat.reduceSub, List.getElem?_cons_zero, List.getElem?_cons_succ, List.set_cons_zero, List.set_cons_succ, Option.some.injEq, exists_eq_left', exists_eq_left, exists_eq', and_true, true_and, exists_eq_right, exists_const, V.int.injEq, V.str.injEq, V.bl.injEq, V.ref.injEq, List.cons.injEq, scal_ii, scal_ss, scal_bb, decide_eq_true_eq, Bool.not_eq_true', decide_eq_false_iff_not, if_true, if_false, Bool.false_eq_true, exists_and_left, S_len, sz_le]
  refine ⟨dx, _, h1, rfl, D, d, st, n, rfl, hD, fun f hf v hv => ?_, fun hn => ?_⟩
  · obtain ⟨t, q, rfl, ht, hq⟩ := hv
    rcases h with ⟨z, _⟩ | ⟨f', hf', hn, hE⟩
    · rw [z] at hf
      cases hf
    · refine ⟨t, rfl, _, SqT.of ht, rfl, _, _, rfl, _, _, rfl, rfl, a, rfl, hl, fun m hm => ?_, fun _ => hE _ (.refl _)⟩
      rw [hn] at hm
      cases hm
  · rcases h with ⟨_, hE⟩ | ⟨f', hf', _⟩
    · exact hE _ (.refl _)
    · rw [hf'] at hn
      cases hn
end
end Lf
set_option Elab.async false
set_option linter.all false
set_option maxRecDepth 100000
set_option maxHeartbeats 4000000
/-! Desk.answer, Desk.say. -/
namespace Lf
open PySem PySem.Spec PyProof.Rows L2 LfR LamX LfM SX
section
variable {P : Program} {w : World} {K : PySem.W.Frag} {mg : Str → Option Value} {base : Heap}
theorem small_of {i : Fin 6} {rs : Rows} (h : EndOk i rs) : ∀ r ∈ rs, SmallR r := by
  rcases h with ⟨_, _, h⟩ | ⟨_, rfl⟩
  · intro r hr
    obtain ⟨a, b, c, rfl, h1⟩ := h r hr
    refine ⟨by show 3 ≤ 100; decide, fun z hz => ?_⟩
    simp only [List.mem_cons, List.not_mem_nil, or_false] at hz
    omega
  · intro r hr
    simp only [List.mem_cons, List.not_mem_nil, or_false] at hr
    rcases hr with rfl | rfl
    · exact ⟨by decide, by decide⟩
    · exact ⟨by decide, by decide⟩
theorem iteW {c A B : Prop} [Decidable c] (hc : c) (h : A) : if c then A else B := by
  rw [if_pos hc]
  exact h
theorem iteX {c A B : Prop} [Decidable c] (hc : ¬ c) (h : B) : if c then A else B := by
  rw [if_neg hc]
  exact h
theorem ne_w {a b : Tx} (h : a ≠ b) : ¬ V.str (S a) = V.str (S b) := fun z => h (S_inj (V.str.inj z))
theorem kindW_len : ∀ i : Fin 6, (kindW i.1).length + 1 ≤ 16777216 ∧ (kindW i.1).length ≤ 10 := by decide
theorem shown_len {rs : Rows} (h : rs.length ≤ 100) (hs : ∀ r ∈ rs, SmallR r) : (shownRows rs).length ≤ 110000 := by
  unfold shownRows
  split
  · decide
  · have := joinL_len (sep := [32, 47, 32]) (m := 900) (l := rs.map shownRow) fun x hx => by
      obtain ⟨r, hr, rfl⟩ := List.mem_map.mp hx
      obtain ⟨h1, h2⟩ := hs r hr
      unfold shownRow
      split
      · decide
      · have := joinL_len (sep := [32]) (m := 8) (l := r.map showInt) fun x hx => by
          obtain ⟨z, hz, rfl⟩ := List.mem_map.mp hx
          exact showInt_len (h2 z hz)
        rw [List.length_map] at this
        simp only [List.length_singleton] at this
        omega
    rw [List.length_map] at this
    have l3 : [32, 47, 32].length = 3 := rfl
    rw [l3] at this
    omega
theorem cutV_two (x y : V) (r : List V) : cutV (x :: y :: r) (some 2) none = r := by
  unfold cutV HT.sIx
  simp
theorem said_form {ws : List Tx} (h : isSaid ws = true) : ws = [wNames] ∨ (∃ n x, ws = [wBusy, n, x]) ∨ (∃ f n, ws = [f, n] ∧ (f = wDrop ∨ f = wShow ∨ f = wPlan ∨ f = wEnd ∨ f = wWhy)) ∨ ∃ f n x r, ws = f :: n :: x :: r ∧ (f = wFloor ∨ f = wKeeps ∨ f = wShows ∨ f = wLate) := by
  unfold isSaid at h
  cases ws with
  | nil => exact absurd h (by decide)
  | cons f r =>
    replace h : (if [wFloor, wKeeps, wShows, wLate].contains f = true then decide (3 ≤ (f :: r).length) else if (f == wNames) = true then (f :: r).length == 1 else if (f == wBusy) = true then (f :: r).length == 3 else [wDrop, wShow, wPlan, wEnd, wWhy].contains f && (f :: r).length == 2) = true := h
    split at h
    · rename_i e
      rw [List.contains_iff_mem] at e
      simp only [List.mem_cons, List.not_mem_nil, or_false] at e
      rw [decide_eq_true_eq, List.length_cons] at h
      match r, h with
      | n :: x :: r, _ => exact .inr (.inr (.inr ⟨f, n, x, r, rfl, e⟩))
    · split at h
      · rename_i e
        have e := eq_of_beq e
        rw [List.length_cons] at h
        have h := eq_of_beq h
        match r, h with
        | [], _ => exact .inl (by rw [e])
      · split at h
        · rename_i e
          have e := eq_of_beq e
          rw [List.length_cons] at h
          have h := eq_of_beq h
          match r, h with
          | [n, x], _ => exact .inr (.inl ⟨n, x, by rw [e]⟩)
        · rw [Bool.and_eq_true, List.contains_iff_mem] at h
          obtain ⟨h1, h2⟩ := h
          simp only [List.mem_cons, List.not_mem_nil, or_false] at h1
          rw [List.length_cons] at h2
          have h2 := eq_of_beq h2
          match r, h2 with
          | [n], _ => exact .inr (.inr (.inl ⟨f, n, rfl, h1⟩))
/-- the words of a row -/
def WsAt (H : Hp) (p : Addr) (ws : List Tx) : Prop := H p = some (.lst ((ws.map S).map V.str))
def spAnswer (K : PySem.W.Frag) : Sp := fun vs H Q E => ∃ (D d wl : Addr) (st : State) (f n : Tx) (rest : List Tx), vs = [.ref D, .ref wl] ∧ DeskAt K H D d st ∧ GoodS st ∧ Tabs (TT K) H ∧ WsAt H wl (f :: n :: rest) ∧
  (∀ x ∈ rest, x.length ≤ 1000) ∧ rest.length ≤ 1001 ∧ (TL.joinL [32] rest).length ≤ 1000 ∧
  ((look st n = none ∧ ∀ H', XT K H H' → E (.ref (ga K "NoName")) none H') ∨ ∃ k rs, look st n = some (k, rs) ∧ ((f = wShow ∧ ∀ H', XT K H H' → Q (.str (S (kindW k ++ ([32] ++ shownRows rs)))) H') ∨
    ((f = wKeeps ∨ f = wShows) ∧ readRows (TL.joinL [32] rest) = none ∧ ∀ H', XT K H H' → E (.ref (ga K "NoText")) none H')))
theorem sc_Desk_answer : FnScope ["self", "words", "word", "rows", "kind", "end", "some"] ["self", "words"] (defScope s_Desk_answer) := ⟨rfl, rfl, rfl, by decide +kernel, rfl, by decide +kernel, by decide +kernel⟩
theorem ok_Desk_answer (T : Txt w K mg) (B : TB2 K mg base) : Dok P w K mg base (L2.CX P w) 6 (ma K "Desk" "answer") ["self", "words"] (spAnswer K) := by
  obtain ⟨fd, F⟩ := T.d_Desk_answer
  have sc := sc_Desk_answer
  have D_Desk_standing := ok_Desk_standing (P := P) (base := base) T
  have D_read_rows := ok_read_rows (P := P) (base := base) T
  have D_kind_of := ok_kind_of (P := P) (base := base) T
  have D_shown_rows := ok_shown_rows (P := P) (base := base) T
  refine ⟨fd, F.ok sc (fun vs H Q E h => ?_) (fun cdv A outer s H vs Q E hr h => ?_), F.bindsN fun _ _ _ _ _ _ us hl => match us, hl with | [_, _], _ => rfl, F.kp⟩
  · obtain ⟨D, d, wl, st, f, n, rest, rfl, _⟩ := h
    rfl
  refine ⟨_, (pss_cons (ps_asg (pe_o D_Desk_standing hr (T.c "Desk") (T.m "Desk" "standing") (pv 0) (pass_out (takes_of rfl rfl rfl rfl)) (pa_cons (pe_ix ix_list (pv 1) pe_int (fun _ _ => rfl)) pa_nil)) (pg_tup (by rfl) (pgs_cons (pg_name (i := 2) sc.nd rfl (Or.inl rfl)) (pgs_cons (pg_name (i := 3) sc.nd rfl (Or.inl rfl)) pgs_nil)))) (pss_cons (ps_set (i := 4) sc.nd rfl (Or.inl rfl) (pe_fX D_kind_of hr (T.g "kind_of") (pass_out (takes_of rfl rfl rfl rfl)) (pa_cons (pv 2) pa_nil))) (pss_cons (ps_if (pt_cmpR op_eq (pe_ix ix_list (pv 1) pe_int (fun _ _ => rfl)) pe_str (nomark _)) (pss_one (ps_ret (pe_op op_add_str (pe_op op_add_str (pv 2) pe_str) (pe_f D_shown_rows hr (T.g "shown_rows") (pa_cons (pv 3) pa_nil))))) pss_nil) (pss_cons (ps_if (pt_cmpR op_eq (pe_ix ix_list (pv 1) pe_int (fun _ _ => rfl)) pe_str (nomark _)) (pss_one (ps_never)) pss_nil) (pss_cons (ps_if (pt_cmpR op_eq (pe_ix ix_list (pv 1) pe_int (fun _ _ => rfl)) pe_str (nomark _)) (pss_one (ps_never)) pss_nil) (pss_cons (ps_set (i := 5) sc.nd rfl (Or.inl rfl) (pe_oF (sf := fun i => spEnd K (eK i)) (fun i => ok_end T B i) hr (fun i => kCls T (eK i)) (kEnd T) (pv 4) (pass_out (takes_of rfl rfl rfl rfl)) (pa_cons (pv 3) pa_nil))) (pss_cons (ps_if (PW.pt (pw_and (pt_cmpR op_eq (pe_ix ix_list (pv 1) pe_int (fun _ _ => rfl)) pe_str (nomark _)) (pw_and1 (pt_no)))) (pss_one (ps_never)) pss_nil) (pss_cons (ps_if (pt_cmpR op_eq (pe_ix ix_list (pv 1) pe_int (fun _ _ => rfl)) pe_str (nomark _)) (pss_one (ps_never)) pss_nil) (pss_cons (ps_set (i := 6) sc.nd rfl (Or.inl rfl) (pe_fX D_read_rows hr (T.g "read_rows") (pass_out (takes_of rfl rfl rfl rfl)) (pa_cons (pe_join pe_str (pe_slice sl_list (pv 1) (po_some pe_int) po_none)) pa_nil))) pss_never))))))))), ?_⟩
  obtain ⟨D, d, wl, st, f, n, rest, rfl, hD, hg, hT, hw, hx1, hx2, hx3, h⟩ := h
  have hD' := hD
  obtain ⟨dx0, kvs, h1, h2, h3⟩ := hD'
  simp only [tSeq, tIfS, tOr, tAnd, tNot, tTest, tB, tOp, tCB, tCons, tNil, tVar, tC, tRet, tRetN, tNext, tDrop, tAsg, gName, gNil, gCons, gTup, gSub, tAug, tAugS, ipI, tCall, tMeth, tMake, tCmp, tAndV, tOrV, tNotV, tIf, tChain, tTup, tLst, tSl, tPart, tNoPart, tBM, tM0, tM1, tUn, rU, tFld, tCallS, tCKw, rIn, tMethF, Lf.tMethS, tDNotIn, tDGet, tDPop1, sDPut, sFld, tDNewK, rEq, rNe, rI, rI0, rIxL, rIxT, rIxS, rSub, rSlL, C8.rSlX, rNewStrs, tMake0, cxK, cxNK, tLc_list, tLc_rng1, tFor_list, tFor_str, tFor_rng1, tYes, wipe, L2.start, List.map_cons, List.map_nil, List.length_cons, List.length_nil, List.replicate, List.cons_append, List.nil_append, List.append_nil, Nat.reduceAdd, Nat.reduceSub, List.getElem?_cons_zero, List.getElem?_cons_succ, List.set_cons_zero, List.set_cons_succ, Option.some.injEq, exists_eq_left', exists_eq_left, exists_eq', and_true, true_and, exists_eq_right, exists_const, V.int.injEq, V.str.injEq, V.bl.injEq, V.ref.injEq, List.cons.injEq, scal_ii, scal_ss, scal_bb, decide_eq_true_eq, Bool.not_eq_true', decide_eq_false_iff_not, if_true, if_false, Bool.false_eq_true, exists_and_left, S_len, sz_le]
  refine ⟨dx0, _, h1, rfl, _, SqL.of hw, _, atI_nat (j := 1) rfl, D, d, st, n, rfl, hD, fun g hgl v hv => ?_, fun hn => ?_⟩
  · rcases h with ⟨z, _⟩ | ⟨k, rs, hk, h⟩
    · rw [z] at hgl
      cases hgl
    rw [hk] at hgl
    have eg : (k, rs) = g := Option.some.inj hgl
    subst eg
    obtain ⟨i, hi, hei⟩ := hg.find hk
    replace hi : (eK i).1 = k := hi
    replace hei : EndOk (eK i) rs := hei
    obtain ⟨t, q, rfl, ht, hq⟩ := hv
    replace hq : RowsAt H q rs := hq
    have ek : kindIx (kindW k) = some k := by
      rw [← hi]
      exact kindIx_at (eK i)
    refine ⟨t, rfl, _, SqT.of ht, rfl, _, _, rfl, _, _, rfl, rfl, kindW k, rfl, fun j hj H3 kd e3 hkd => ?_, fun hn => by rw [ek] at hn; cases hn⟩
    rw [ek] at hj
    have hj2 : j = eK i := Fin.ext ((Option.some.inj hj).symm.trans hi.symm)
    subst hj2
    obtain ⟨x, dx3, rfl, hx⟩ := hkd
    have hw3 : H3 wl = some (.lst (((f :: n :: rest).map S).map V.str)) := e3.l hw
    have w0 := SqL.of (K := K) hw3
    have a0 : atI (((f :: n :: rest).map S).map V.str) 0 = some (V.str (S f)) := atI_nat (j := 0) rfl
    refine ⟨_, w0, _, a0, scal_ss _ _, ?_⟩
    rcases h with ⟨rfl, hQ⟩ | ⟨hf, hno, hE⟩
    · refine iteW rfl ⟨_, rfl, by rw [S_len]; exact sz_le (by rw [← hi]; exact (kindW_len _).1), q, rs, rfl, hq.ext e3, endOk_len hei, small_of hei, fun H4 e4 => ⟨_, rfl, ?_, ?_⟩⟩
      · have l1 := (kindW_len (eK i)).2
        have l2 := shown_len (endOk_len hei) (small_of hei)
        rw [hi] at l1
        show (S (kindW k) ++ S [32]).length + (S (shownRows rs)).length ≤ sizeLine
        rw [S_cat, S_len, S_len, List.length_append]
        exact sz_le (by
          have : [32].length = 1 := rfl
          omega)
      · have := hQ _ (.of (e3.trans e4))
        show Q (.str ((S (kindW k) ++ S [32]) ++ S (shownRows rs))) H4
        rw [S_cat, S_cat, List.append_assoc]
        exact this
    · have hne : f ≠ wShow ∧ f ≠ wPlan ∧ f ≠ wWhy ∧ f ≠ wEnd := by rcases hf with rfl | rfl <;> decide
      refine iteX (ne_w (b := wShow) hne.1) ⟨_, w0, _, a0, scal_ss _ _, iteX (ne_w (b := wPlan) hne.2.1) ⟨_, w0, _, a0, scal_ss _ _, iteX (ne_w (b := wWhy) hne.2.2.1) ?_⟩⟩
      refine ⟨x, rfl, dx3, [], i, hx, rfl, x, dx3, q, rs, rfl, hx, hq.ext e3, hei, hT.ext e3.same, fun m H4 X4 => ?_⟩
      have w4 := SqL.of (K := K) (X4.l hw3)
      refine ⟨_, w4, _, a0, scal_ss _ _, iteX (ne_w (b := wEnd) hne.2.2.2) ⟨_, w4, _, a0, scal_ss _ _, iteX (ne_w (b := wEnd) hne.2.2.2) ?_⟩⟩
      have ec : cutV (((f :: n :: rest).map S).map V.str) (some 2) none = (rest.map S).map V.str := cutV_two _ _ _
      refine ⟨_, w4, fun p5 hp5 => ?_⟩
      rw [ec]
      refine ⟨rest.map S, .inl (SqL.of upd_same), join_small [32] hx1 hx2 (by decide), ?_⟩
      rw [show Txt.join " " (rest.map S) = S (TL.joinL [32] rest) from join_S [32] rest]
      refine ⟨_, rfl, by omega, fun rs' hrs => ?_, fun _ H6 e6 => hE _ ((((XT.of e3).trans X4).up hp5).trans (.of e6))⟩
      rw [hno] at hrs
      cases hrs
  · rcases h with ⟨_, hE⟩ | ⟨k, rs, hk, _⟩
    · exact hE _ (.refl _)
    · rw [hk] at hn
      cases hn
/-- all but the dict at d and the tables stays -/
structure XO (K : PySem.W.Frag) (d : Addr) (H H' : Hp) : Prop where
  ext : ∀ b o, b ≠ d → H b = some o → (∀ ps, o ≠ HO.tbl ps) → H' b = some o
  tab : Tabs (TT K) H → Tabs (TT K) H'
theorem XO.of {d : Addr} {H H' : Hp} (e : XT K H H') : XO K d H H' := ⟨fun b o _ h n => e.ext b o h n, e.tab⟩
theorem XO.dict {d : Addr} {H H1 : Hp} {kvs kvs' : List (Key × V)} (e : XT K H H1) (h : H1 d = some (.dK kvs)) : XO K d H (upd H1 d (.dK kvs')) := ⟨fun b o hb eb nt => by
  rw [upd_ne hb]
  exact e.ext b o eb nt, fun t r hr => by
  obtain ⟨ps, h1, h2, h3⟩ := e.tab t r hr
  refine ⟨ps, by rw [upd_ne (fun z => by rw [z, h] at h1; cases h1)]; exact h1, h2, fun pos cv hc => ?_⟩
  obtain ⟨c, e1, e2⟩ := h3 pos cv hc
  refine ⟨c, e1, ?_⟩
  rw [upd_ne (fun z => by rw [z, h] at e2; cases e2)]
  exact e2⟩
theorem KvOk.desk {H : Hp} {D d dx : Addr} {kvs kvs' : List (Key × V)} {st st' : State} (_ : KvOk H kvs st) (h1 : H D = some (.ins (ga K "Desk") dx [("floors", .ref d)])) (h2 : H d = some (.dK kvs)) (h3 : KvOk H kvs' st') : DeskAt K (upd H d (.dK kvs')) D d st' :=
  ⟨dx, kvs', by rw [upd_ne (fun z => by rw [z, h2] at h1; cases h1)]; exact h1, upd_same, h3.wk (fun {a xs} z => by
    rw [upd_ne (fun y => by rw [y, h2] at z; cases z)]
    exact z) fun {a xs} z => by
    rw [upd_ne (fun y => by rw [y, h2] at z; cases z)]
    exact z⟩
def spSay (K : PySem.W.Frag) : Sp := fun vs H Q E => ∃ (D d : Addr) (st : State) (row : Tx), vs = [.ref D, .str (S row)] ∧ DeskAt K H D d st ∧ GoodS st ∧ Tabs (TT K) H ∧ row.length ≤ 1000 ∧ sayM st row ≠ .out ∧
  (∀ e, sayM st row = .err e → ∀ H', XT K H H' → E (.ref (ga K (erC e))) none H') ∧ (∀ tx st', sayM st row = .ok (tx, st') → ∀ H', XO K d H H' → DeskAt K H' D d st' → Q (.str (S tx)) H')
theorem sc_Desk_say : FnScope ["self", "row", "words", "text", "made"] ["self", "row"] (defScope s_Desk_say) := ⟨rfl, rfl, rfl, by decide +kernel, rfl, by decide +kernel, by decide +kernel⟩
theorem ok_Desk_say (T : Txt w K mg) (B : TB2 K mg base) : Dok P w K mg base (L2.CX P w) 7 (ma K "Desk" "say") ["self", "row"] (spSay K) := by
  obtain ⟨fd, F⟩ := T.d_Desk_say
  have sc := sc_Desk_say
  have D_Desk_standing := ok_Desk_standing (P := P) (base := base) T
  have D_Desk_busy_at := ok_Desk_busy_at (P := P) (base := base) T
  have D_Desk_late_floor := ok_Desk_late_floor (P := P) (base := base) T
  have D_Desk_answer := ok_Desk_answer (P := P) (base := base) T B
  have D_is_said := ok_is_said (P := P) (base := base) T
  have D_is_word := ok_is_word (P := P) (base := base) T
  have D_read_floor := ok_read_floor (P := P) (base := base) T
  refine ⟨fd, F.ok sc (fun vs H Q E h => ?_) (fun cdv A outer s H vs Q E hr h => ?_), F.bindsN fun _ _ _ _ _ _ us hl => match us, hl with | [_, _], _ => rfl, F.kp⟩
  · obtain ⟨D, d, st, row, rfl, _⟩ := h
    rfl
  refine ⟨_, (pss_cons (ps_set (i := 2) sc.nd rfl (Or.inl rfl) (pe_split (pv 1) pe_str)) (pss_cons (ps_if (pt_not (pt_val (pe_f D_is_said hr (T.g "is_said") (pa_cons (pv 2) pa_nil)))) (pss_one (ps_raise rfl (takes_of rfl rfl rfl rfl) (pmk_own PySem.F.excBase_ValueError (T.x "NoRow").1 (T.g "NoRow") (T.x "NoRow").2.1 (raises_own (T.x "NoRow").2.2.1 (T.x "NoRow").2.2.2) rfl))) pss_nil) (pss_cons (ps_if (pt_cmpR op_eq (pe_ix ix_list (pv 2) pe_int (fun _ _ => rfl)) pe_str (nomark _)) (pss_one (ps_ret (pe_join pe_str (pe_callB (call_sortedD rfl) rfl (T.n "sorted") (by decide +kernel) (pa_cons (pe_fld (pv 0) rfl) pa_nil))))) pss_nil) (pss_cons (ps_if (pt_cmpR op_eq (pe_ix ix_list (pv 2) pe_int (fun _ _ => rfl)) pe_str (nomark _)) (pss_one (ps_ret (pe_o D_Desk_busy_at hr (T.c "Desk") (T.m "Desk" "busy_at") (pv 0) (pass_out (takes_of rfl rfl rfl rfl)) (pa_cons (pe_ix ix_list (pv 2) pe_int (fun _ _ => rfl)) (pa_cons (pe_ix ix_list (pv 2) pe_int (fun _ _ => rfl)) pa_nil))))) pss_nil) (pss_cons (ps_if (pt_cmpR op_eq (pe_ix ix_list (pv 2) pe_int (fun _ _ => rfl)) pe_str (nomark _)) (pss_cons (ps_expr (pe_o D_Desk_standing hr (T.c "Desk") (T.m "Desk" "standing") (pv 0) (pass_out (takes_of rfl rfl rfl rfl)) (pa_cons (pe_ix ix_list (pv 2) pe_int (fun _ _ => rfl)) pa_nil))) (pss_cons (ps_expr (pe_dpop1 (pe_fld (pv 0) rfl) (pe_ix ix_list (pv 2) pe_int (fun _ _ => rfl)) ⟨rfl, rfl, rfl, rfl⟩)) (pss_one (ps_ret pe_str)))) pss_nil) (pss_cons (ps_if (pt_cmpR op_notIn_seq (pe_ix ix_list (pv 2) pe_int (fun _ _ => rfl)) (pe_tup (pa_cons pe_str (pa_cons pe_str pa_nil))) rfl) (pss_one (ps_ret (pe_o D_Desk_answer hr (T.c "Desk") (T.m "Desk" "answer") (pv 0) (pass_out (takes_of rfl rfl rfl rfl)) (pa_cons (pv 2) pa_nil)))) pss_nil) (pss_cons (ps_set (i := 3) sc.nd rfl (Or.inl rfl) (pe_join pe_str (pe_slice sl_list (pv 2) (po_some pe_int) po_none))) (pss_cons (ps_if (pt_cmpR op_eq (pe_ix ix_list (pv 2) pe_int (fun _ _ => rfl)) pe_str (nomark _)) (pss_one (ps_set (i := 4) sc.nd rfl (Or.inl rfl) (pe_o D_Desk_late_floor hr (T.c "Desk") (T.m "Desk" "late_floor") (pv 0) (pass_out (takes_of rfl rfl rfl rfl)) (pa_cons (pe_ix ix_list (pv 2) pe_int (fun _ _ => rfl)) (pa_cons (pv 3) pa_nil))))) (pss_cons (ps_if (pt_not (pt_val (pe_f D_is_word hr (T.g "is_word") (pa_cons (pe_ix ix_list (pv 2) pe_int (fun _ _ => rfl)) pa_nil)))) (pss_one (ps_raise rfl (takes_of rfl rfl rfl rfl) (pmk_own PySem.F.excBase_ValueError (T.x "NoName").1 (T.g "NoName") (T.x "NoName").2.1 (raises_own (T.x "NoName").2.2.1 (T.x "NoName").2.2.2) rfl))) pss_nil) (pss_one (ps_set (i := 4) sc.nd rfl (Or.inl rfl) (pe_fX D_read_floor hr (T.g "read_floor") (pass_out (takes_of rfl rfl rfl rfl)) (pa_cons (pv 3) pa_nil)))))) (pss_cons (ps_dput (hu_of hr) (pe_fld (pv 0) rfl) (pe_ix ix_list (pv 2) pe_int (fun _ _ => rfl)) (pv 4) rfl) (pss_one (ps_ret pe_str))))))))))), ?_⟩
  obtain ⟨D, d, st, row, rfl, hD, hg, hT, hl, hno, hE, hQ⟩ := h
  simp only [tSeq, tIfS, tOr, tAnd, tNot, tTest, tB, tOp, tCB, tCons, tNil, tVar, tC, tRet, tRetN, tNext, tDrop, tAsg, gName, gNil, gCons, gTup, gSub, tAug, tAugS, ipI, tCall, tMeth, tMake, tCmp, tAndV, tOrV, tNotV, tIf, tChain, tTup, tLst, tSl, tPart, tNoPart, tBM, tM0, tM1, tUn, rU, tFld, tCallS, tCKw, rIn, tMethF, Lf.tMethS, tDNotIn, tDGet, tDPop1, sDPut, sFld, tDNewK, rEq, rNe, rI, rI0, rIxL, rIxT, rIxS, rSub, rSlL, C8.rSlX, rNewStrs, tMake0, cxK, cxNK, tLc_list, tLc_rng1, tFor_list, tFor_str, tFor_rng1, tYes, wipe, L2.start, List.map_cons, List.map_nil, List.length_cons, List.length_nil, List.replicate, List.cons_append, List.nil_append, List.append_nil, Nat.reduceAdd, Nat.reduceSub, List.getElem?_cons_zero, List.getElem?_cons_succ, List.set_cons_zero, List.set_cons_succ, Option.some.injEq, exists_eq_left', exists_eq_left, exists_eq', and_true, true_and, exists_eq_right, exists_const, V.int.injEq, V.str.injEq, V.bl.injEq, V.ref.injEq, List.cons.injEq, scal_ii, scal_ss, scal_bb, decide_eq_true_eq, Bool.not_eq_true', decide_eq_false_iff_not, if_true, if_false, Bool.false_eq_true, exists_and_left, S_len, sz_le]
  refine ⟨rfl, sz_le (by omega), fun p hp => ?_⟩
  have es : Txt.split (S row) " " = (TL.spl [32] 0 [] row).map S := split_S (b := [32]) (by decide) (by decide)
  rw [es]
  have hws1 : ∀ x ∈ TL.spl [32] 0 [] row, x.length ≤ 1000 := fun x hx => by
    have := spl_part_len [32] 0 [] row x hx
    simp at this
    omega
  have hws2 := spl_len [32] 0 [] row
  have hws3 : TL.joinL [32] (TL.spl [32] 0 [] row) = row := (join_spl row []).trans (List.nil_append _)
  have hne := spl_ne [32] 0 [] row
  unfold sayM at hno hE hQ
  generalize TL.spl [32] 0 [] row = ws at hws1 hws2 hws3 hne hno hE hQ ⊢
  have x0 := Lf.extN_upd (o := .lst ((ws.map S).map V.str)) hp
  refine ⟨p, ws, rfl, upd_same, hne, fun H1 e1 => ⟨_, rfl, ?_⟩⟩
  have X1 : XT K H H1 := .of (x0.trans e1)
  have hw1 : H1 p = some (.lst ((ws.map S).map V.str)) := e1.l upd_same
  have hD1 := hD.ext X1
  have hT1 := X1.tab hT
  have hD1' := hD1
  obtain ⟨dx, kvs, g1, g2, g3⟩ := hD1'
  cases hs : isSaid ws with
  | false => exact iteTT' (hE .row (w_no hs) _ X1)
  | true =>
  refine iteX (by decide) ?_
  rcases said_form hs with rfl | ⟨n, x, rfl⟩ | ⟨f, n, rfl, hf⟩ | ⟨f, n, x, r, rfl, hf⟩
  · -- names
    refine ⟨_, SqL.of hw1, _, atI_nat (j := 0) rfl, scal_ss _ _, iteW rfl ?_⟩
    refine ⟨_, dx, _, g1, T.c "Desk", T.noF, _, rfl, d, rfl, kvs, .inl g2, _, g3.keys, by rw [List.length_map, List.length_map]; exact Nat.lt_of_lt_of_le hg.1 (by decide), fun ys p2 hperm hsrt hp2 => ?_⟩
    have ey := srt_uniq hperm hsrt
    subst ey
    refine ⟨_, .inl (SqL.of upd_same), join_small [32] (m := 1000) (k := 100) (fun x hx => ?_) ?_ (by decide), ?_⟩
    · have := (List.mergeSort_perm (st.map (·.1)) leT).subset hx
      obtain ⟨q, hq, rfl⟩ := List.mem_map.mp this
      exact (hg.2 q hq).2
    · unfold srt
      rw [List.length_mergeSort, List.length_map]
      exact Nat.le_of_lt (Nat.lt_of_lt_of_le hg.1 (by decide))
    · rw [show Txt.join " " ((srt (st.map (·.1))).map S) = S (TL.joinL [32] (srt (st.map (·.1)))) from join_S [32] _]
      exact hQ _ _ (w_names st) _ (.of (X1.up hp2)) (hD1.ext (.of (Lf.extN_upd hp2)))
  · -- busy
    refine ⟨_, SqL.of hw1, _, atI_nat (j := 0) rfl, scal_ss _ _, iteX (ne_w (b := wNames) (by decide)) ?_⟩
    refine ⟨_, SqL.of hw1, _, atI_nat (j := 0) rfl, scal_ss _ _, iteW rfl ?_⟩
    refine ⟨dx, _, g1, rfl, _, SqL.of hw1, _, atI_nat (j := 1) rfl, _, SqL.of hw1, _, atI_nat (j := 2) rfl, D, d, st, n, x, rfl, hD1, by have := hws1 x (by simp); omega, ?_⟩
    rw [w_busy] at hno hE
    cases hl : look st n with
    | none =>
      rw [hl] at hE
      exact .inl ⟨rfl, fun H' X' => hE .name rfl _ (X1.trans X')⟩
    | some f' =>
      rw [hl] at hno hE
      cases hc : readCount x with
      | some m =>
        rw [hc] at hno
        exact absurd rfl hno
      | none =>
        rw [hc] at hE
        exact .inr ⟨f', rfl, rfl, fun H' X' => hE .text rfl _ (X1.trans X')⟩
  · -- two words
    have h0 : f ≠ wNames ∧ f ≠ wBusy := by rcases hf with rfl | rfl | rfl | rfl | rfl <;> decide
    refine ⟨_, SqL.of hw1, _, atI_nat (j := 0) rfl, scal_ss _ _, iteX (ne_w (b := wNames) h0.1) ?_⟩
    refine ⟨_, SqL.of hw1, _, atI_nat (j := 0) rfl, scal_ss _ _, iteX (ne_w (b := wBusy) h0.2) ?_⟩
    refine ⟨_, SqL.of hw1, _, atI_nat (j := 0) rfl, scal_ss _ _, ?_⟩
    by_cases hfd : f = wDrop
    · subst hfd
      refine iteW rfl ?_
      rw [w_drop] at hE hQ
      refine ⟨dx, _, g1, rfl, _, SqL.of hw1, _, atI_nat (j := 1) rfl, D, d, st, n, rfl, hD1, fun f' hf' v hv => ?_, fun hn => hE .name (by rw [hn]) _ X1⟩
      obtain ⟨v2, hv2, hf2⟩ := (g3.find (n := n)).1 f' hf'
      rw [hf'] at hQ
      refine ⟨_, dx, _, g1, T.c "Desk", T.noF, _, rfl, d, rfl, .inl ⟨kvs, .inl g2⟩, _, SqL.of hw1, _, atI_nat (j := 1) rfl, kvs, g2, Sum.inr (S n), rfl, v2, hv2, ?_⟩
      exact hQ wOk (dropS st n) rfl _ (XO.dict X1 g2) (g3.desk g1 g2 g3.drop)
    · refine iteX (ne_w (b := wDrop) hfd) ?_
      have hfs : f = wShow ∨ f = wPlan ∨ f = wEnd ∨ f = wWhy := hf.resolve_left hfd
      have hnf : [wFloor, wLate].contains f = false := by rcases hfs with rfl | rfl | rfl | rfl <;> decide
      refine ⟨_, SqL.of hw1, _, atI_nat (j := 0) rfl, sz_le (by decide), fun p1 hp1 => ⟨_, .inr (SqT.of upd_same), rfl, rfl, ?_⟩⟩
      rw [show inV (V.str (S f)) [V.str "floor", V.str "late"] = [wFloor, wLate].contains f from inV_words f [wFloor, wLate], hnf]
      have x2 := Lf.extN_upd (o := .tup [V.str "floor", V.str "late"]) hp1
      have X2 := X1.trans (.of x2)
      refine iteTT' ⟨dx, _, x2.same _ _ g1, rfl, D, d, p, st, f, n, [], rfl, hD1.ext (.of x2), hg, hT1.ext x2.same, x2.l hw1, (fun x hx => by cases hx), Nat.zero_le _, Nat.zero_le _, ?_⟩
      cases hl : look st n with
      | none =>
        refine .inl ⟨rfl, fun H' X' => hE .name ?_ _ (X2.trans X')⟩
        rcases hfs with rfl | hfs
        · rw [w_show, hl]
        · rw [w_ask st f n hfs, hl]
      | some f' =>
        obtain ⟨k, rs⟩ := f'
        rcases hfs with rfl | hfs
        · refine .inr ⟨k, rs, rfl, .inl ⟨rfl, fun H' X' => hQ _ st ?_ _ (.of (X2.trans X')) ((hD1.ext (.of x2)).ext X')⟩⟩
          rw [w_show, hl]
        · rw [w_ask st f n hfs, hl] at hno
          exact absurd rfl hno
  · -- three words
    have h0 : f ≠ wNames ∧ f ≠ wBusy ∧ f ≠ wDrop := by rcases hf with rfl | rfl | rfl | rfl <;> decide
    refine ⟨_, SqL.of hw1, _, atI_nat (j := 0) rfl, scal_ss _ _, iteX (ne_w (b := wNames) h0.1) ?_⟩
    refine ⟨_, SqL.of hw1, _, atI_nat (j := 0) rfl, scal_ss _ _, iteX (ne_w (b := wBusy) h0.2.1) ?_⟩
    refine ⟨_, SqL.of hw1, _, atI_nat (j := 0) rfl, scal_ss _ _, iteX (ne_w (b := wDrop) h0.2.2) ?_⟩
    have hjl : (TL.joinL [32] (x :: r)).length ≤ 1000 := by
      have := congrArg List.length hws3
      rw [joinL_cons _ _ (by simp), joinL_cons _ _ (by simp), List.length_append, List.length_append, List.length_append, List.length_append] at this
      omega
    have hxr1 : ∀ y ∈ x :: r, y.length ≤ 1000 := fun y hy => hws1 y (List.mem_cons_of_mem _ (List.mem_cons_of_mem _ hy))
    have hxr2 : (x :: r).length ≤ 1001 := by
      rw [List.length_cons, List.length_cons] at hws2
      omega
    refine ⟨_, SqL.of hw1, _, atI_nat (j := 0) rfl, sz_le (by decide), fun p1 hp1 => ⟨_, .inr (SqT.of upd_same), rfl, rfl, ?_⟩⟩
    rw [show inV (V.str (S f)) [V.str "floor", V.str "late"] = [wFloor, wLate].contains f from inV_words f [wFloor, wLate]]
    have x2 := Lf.extN_upd (o := .tup [V.str "floor", V.str "late"]) hp1
    have X2 := X1.trans (.of x2)
    have hD2 := hD1.ext (.of x2)
    have hT2 := hT1.ext x2.same
    have hw2 := x2.l hw1
    have g1' := x2.same _ _ g1
    generalize upd H1 p1 (.tup [V.str "floor", V.str "late"]) = H2 at x2 X2 hD2 hT2 hw2 g1' ⊢
    by_cases hfl : f = wFloor ∨ f = wLate
    · rw [show [wFloor, wLate].contains f = true by rcases hfl with rfl | rfl <;> decide]
      refine iteX (by decide) ⟨_, SqL.of hw2, fun p2 hp2 => ?_⟩
      rw [show cutV (((f :: n :: x :: r).map S).map V.str) (some 2) none = ((x :: r).map S).map V.str from cutV_two _ _ _]
      refine ⟨(x :: r).map S, .inl (SqL.of upd_same), join_small [32] hxr1 hxr2 (by decide), ?_⟩
      rw [show Txt.join " " ((x :: r).map S) = S (TL.joinL [32] (x :: r)) from join_S [32] _]
      have x3 := Lf.extN_upd (o := .lst (((x :: r).map S).map V.str)) hp2
      have X3 := X2.trans (.of x3)
      have hD3 := hD2.ext (.of x3)
      have hw3 := x3.l hw2
      have g1'' := x3.same _ _ g1'
      generalize upd H2 p2 (.lst (((x :: r).map S).map V.str)) = H3 at x3 X3 hD3 hw3 g1'' ⊢
      refine ⟨_, SqL.of hw3, _, atI_nat (j := 0) rfl, scal_ss _ _, ?_⟩
      rcases hfl with rfl | rfl
      · refine iteX (ne_w (b := wLate) (by decide)) ⟨_, SqL.of hw3, _, atI_nat (j := 1) rfl, n, rfl, by have := hws1 n (by simp); omega, _, rfl, ?_⟩
        rw [w_floor] at hno
        rw [w_floor] at hE hQ
        cases hwn : isWord n with
        | false =>
          rw [hwn] at hE
          exact iteTT' (hE .name rfl _ X3)
        | true =>
          rw [hwn] at hno hE hQ
          replace hno : (match readFloor (TL.joinL [32] (x :: r)) with | .err e => .err e | .ok v => .ok (wOk, putS st n v) | .out => .out) ≠ Out.out := hno
          replace hE : ∀ e, (match readFloor (TL.joinL [32] (x :: r)) with | .err e => Out.err e | .ok v => .ok (wOk, putS st n v) | .out => .out) = Out.err e → ∀ H', XT K H H' → E (.ref (ga K (erC e))) none H' := hE
          replace hQ : ∀ tx st', (match readFloor (TL.joinL [32] (x :: r)) with | .err e => Out.err e | .ok v => .ok (wOk, putS st n v) | .out => .out) = Out.ok (tx, st') → ∀ H', XO K d H H' → DeskAt K H' D d st' → Q (.str (S tx)) H' := hQ
          refine iteX (by decide) ⟨_, rfl, by omega, fun z => ?_, fun v0 hv0 H4 v e4 hv => ?_, fun e he H4 e4 => hE e (by rw [he]) _ (X3.trans (.of e4))⟩
          · rw [z] at hno
            exact hno rfl
          · rw [hv0] at hQ
            have X4 := X3.trans (.of e4)
            obtain ⟨dx4, kvs4, m1, m2, m3⟩ := hD3.ext (.of e4)
            refine ⟨_, dx4, _, m1, T.c "Desk", T.noF, _, rfl, _, SqL.of (e4.l hw3), _, atI_nat (j := 1) rfl, d, rfl, _, DPut.k (k := Sum.inr (S n)) m2 ?_, hQ wOk _ rfl _ (XO.dict X4 m2) (m3.desk m1 m2 (m3.put hv))⟩
            rw [m3.len, sizeLine_eq]
            exact Nat.lt_trans hg.1 (by decide)
      · refine iteW rfl ⟨dx, _, g1'', rfl, _, SqL.of hw3, _, atI_nat (j := 1) rfl, D, d, st, n, _, rfl, hD3, hg, by omega, ?_⟩
        rw [w_late] at hno
        rw [w_late] at hE
        cases hl : look st n with
        | none =>
          rw [hl] at hE
          exact .inl ⟨rfl, fun H' X' => hE .name rfl _ (X3.trans X')⟩
        | some f' =>
          obtain ⟨k, rs⟩ := f'
          refine .inr ⟨k, rs, rfl, ?_⟩
          rw [hl] at hno hE
          replace hno : (match readRows (TL.joinL [32] (x :: r)) with | none => Out.err Er.text | some more => match fitsM k (rs ++ more) with | some false => .err .floor | _ => (.out : Out (Tx × State))) ≠ Out.out := hno
          replace hE : ∀ e, (match readRows (TL.joinL [32] (x :: r)) with | none => Out.err Er.text | some more => match fitsM k (rs ++ more) with | some false => .err .floor | _ => (.out : Out (Tx × State))) = Out.err e → ∀ H', XT K H H' → E (.ref (ga K (erC e))) none H' := hE
          cases hr : readRows (TL.joinL [32] (x :: r)) with
          | none =>
            rw [hr] at hE
            exact .inl ⟨rfl, fun H' X' => hE .text rfl _ (X3.trans X')⟩
          | some more =>
            rw [hr] at hno hE
            replace hno : (match fitsM k (rs ++ more) with | some false => .err .floor | _ => (.out : Out (Tx × State))) ≠ Out.out := hno
            replace hE : ∀ e, (match fitsM k (rs ++ more) with | some false => .err .floor | _ => (.out : Out (Tx × State))) = Out.err e → ∀ H', XT K H H' → E (.ref (ga K (erC e))) none H' := hE
            cases hfit : fitsM k (rs ++ more) with
            | none =>
              rw [hfit] at hno
              exact absurd rfl hno
            | some b =>
              cases b with
              | true =>
                rw [hfit] at hno
                exact absurd rfl hno
              | false =>
                rw [hfit] at hE
                exact .inr ⟨more, rfl, hfit, fun H' X' => hE .floor rfl _ (X3.trans X')⟩
    · have hks : f = wKeeps ∨ f = wShows := by
        rcases hf with h | h | h | h
        · exact absurd (.inl h) hfl
        · exact .inl h
        · exact .inr h
        · exact absurd (.inr h) hfl
      rw [show [wFloor, wLate].contains f = false by rcases hks with rfl | rfl <;> decide]
      refine iteTT' ⟨dx, _, g1', rfl, D, d, p, st, f, n, x :: r, rfl, hD2, hg, hT2, hw2, hxr1, hxr2, hjl, ?_⟩
      rw [w_keeps st f n x r hks] at hno
      rw [w_keeps st f n x r hks] at hE
      cases hl : look st n with
      | none =>
        rw [hl] at hE
        exact .inl ⟨rfl, fun H' X' => hE .name rfl _ (X2.trans X')⟩
      | some f' =>
        obtain ⟨k, rs⟩ := f'
        rw [hl] at hno hE
        replace hno : (match readRows (TL.joinL [32] (x :: r)) with | none => Out.err Er.text | some _ => (.out : Out (Tx × State))) ≠ Out.out := hno
        replace hE : ∀ e, (match readRows (TL.joinL [32] (x :: r)) with | none => Out.err Er.text | some _ => (.out : Out (Tx × State))) = Out.err e → ∀ H', XT K H H' → E (.ref (ga K (erC e))) none H' := hE
        cases hr : readRows (TL.joinL [32] (x :: r)) with
        | none =>
          rw [hr] at hE
          exact .inr ⟨k, rs, rfl, .inr ⟨hks, rfl, fun H' X' => hE .text rfl _ (X2.trans X')⟩⟩
        | some more =>
          rw [hr] at hno
          exact absurd rfl hno
end
end Lf
set_option Elab.async false
set_option linter.all false
set_option maxRecDepth 100000
set_option maxHeartbeats 4000000
/-! the law's helpers: numbers, names. -/
namespace Lf
open PySem PySem.Spec PyProof.Rows L2 LfR LamX LfM SX
section
variable {P : Program} {w : World} {K : PySem.W.Frag} {mg : Str → Option Value} {base : Heap}
/-- a number that may be multiplied by its like -/
def Bt (n : Int) : Prop := ∃ B : Nat, B ≤ 2000000 ∧ n.natAbs < 2 ^ B
def Bt1 (n : Int) : Prop := ∃ B : Nat, B ≤ 1500000 ∧ n.natAbs < 2 ^ B
theorem Bt1.bt {n : Int} (h : Bt1 n) : Bt n := by
  obtain ⟨B, h1, h2⟩ := h
  exact ⟨B, by omega, h2⟩
theorem Bt1.add {n s : Int} (h : Bt1 n) (h0 : 0 ≤ s) (h1 : s ≤ 100) : Bt (n + s) := by
  obtain ⟨B, hB, hn⟩ := h
  refine ⟨B + 7, by omega, ?_⟩
  have e : 2 ^ (B + 7) = 2 ^ B * 128 := by rw [Nat.pow_add]
  rw [e]
  generalize 2 ^ B = z at hn ⊢
  omega
theorem Bt1.small {n : Int} (h : n.natAbs < 1024) : Bt1 n := ⟨10, by decide, h⟩
theorem Bt1.bits {n : Int} (h : Builtin.Int.intBits n ≤ 1048576) : Bt1 n := by
  refine ⟨Builtin.Int.intBits n, by omega, ?_⟩
  unfold Builtin.Int.intBits
  by_cases e : n = 0
  · subst e
    decide
  · rw [if_neg (by simpa using e)]
    exact (Nat.log2_lt (by omega)).mp (Nat.lt_succ_self _)
theorem Bt.bits {n : Int} (h : Bt n) : Builtin.Int.intBits n ≤ 4194304 := by
  obtain ⟨B, hB, hn⟩ := h
  unfold Builtin.Int.intBits
  by_cases e : n = 0
  · rw [if_pos (by simpa using e)]
    exact Nat.zero_le _
  · rw [if_neg (by simpa using e)]
    have := (Nat.log2_lt (k := B) (by omega)).mpr hn
    omega
def mixM (n k : Int) : Int := ((n * n + k * n + 7 * k * k) * 1103515245) % 2147483629
def spMix : Sp := fun vs H Q _ => ∃ n k : Int, vs = [.int n, .int k] ∧ Bt n ∧ 0 ≤ k ∧ k ≤ 1000 ∧ Q (.int (mixM n k)) H
theorem sc_law_mix : FnScope ["_law_number", "_law_k"] ["_law_number", "_law_k"] (defScope s_law_mix) := ⟨rfl, rfl, rfl, by decide +kernel, rfl, by decide +kernel, by decide +kernel⟩
theorem ok_law_mix (T : Txt w K mg) : Dok P w K mg base CX0 1 (ga K "_law_mix") ["_law_number", "_law_k"] (spMix) := by
  obtain ⟨fd, F⟩ := T.d_law_mix
  have sc := sc_law_mix
  refine ⟨fd, F.ok sc (fun vs H Q E h => ?_) (fun cdv A outer s H vs Q E hr h => ?_), F.bindsN fun _ _ _ _ _ _ us hl => match us, hl with | [_, _], _ => rfl, F.kp⟩
  · obtain ⟨n, k, rfl, _⟩ := h
    rfl
  refine ⟨_, PSs.nox (pss_one (ps_ret (pe_op op_mod (pe_op op_mul (pe_op op_add (pe_op op_add (pe_op op_mulB (pv 0) (pv 0)) (pe_op op_mul (pv 1) (pv 0))) (pe_op op_mul (pe_op op_mul pe_int (pv 1)) (pv 1))) pe_int) pe_int))), ?_⟩
  obtain ⟨n, k, rfl, hn, hk0, hk, hQ⟩ := h
  simp only [tSeq, tIfS, tOr, tAnd, tNot, tTest, tB, tOp, tCB, tCons, tNil, tVar, tC, tRet, tRetN, tNext, tDrop, tAsg, gName, gNil, gCons, gTup, gSub, tAug, tAugS, ipI, tCall, tMeth, tMake, tCmp, tAndV, tOrV, tNotV, tIf, tChain, tTup, tLst, tSl, tPart, tNoPart, tBM, tM0, tM1, tUn, rU, tFld, tCallS, tCKw, rIn, tMethF, Lf.tMethS, tDNotIn, tDGet, tDPop1, sDPut, sFld, tDNewK, rEq, rNe, rI, rI0, rIxL, rIxT, rIxS, rSub, rSlL, C8.rSlX, rNewStrs, tMake0, cxK, cxNK, tLc_list, tLc_rng1, tFor_list, tFor_str, tFor_rng1, tYes, wipe, L2.start, List.map_cons, List.map_nil, List.length_cons, List.length_nil, List.replicate, List.cons_append, List.nil_append, List.append_nil, Nat.reduceAdd, Nat.reduceSub, List.getElem?_cons_zero, List.getElem?_cons_succ, List.set_cons_zero, List.set_cons_succ, Option.some.injEq, exists_eq_left', exists_eq_left, exists_eq', and_true, true_and, exists_eq_right, exists_const, V.int.injEq, V.str.injEq, V.bl.injEq, V.ref.injEq, List.cons.injEq, scal_ii, scal_ss, scal_bb, decide_eq_true_eq, Bool.not_eq_true', decide_eq_false_iff_not, if_true, if_false, Bool.false_eq_true, exists_and_left, S_len, sz_le]
  exact ⟨⟨hn.bits, hn.bits⟩, .inl ⟨by omega, by omega⟩, .inl ⟨by decide, by decide⟩, .inl ⟨by omega, by omega⟩, .inr ⟨by decide, by decide⟩, by decide, hQ⟩
def spCell (K : PySem.W.Frag) : Sp := fun vs H Q _ => ∃ (a : Addr) (ns : List Int) (k : Nat), vs = [.ref a, .int (k : Nat)] ∧ SqL K H a (ns.map V.int) ∧ Q (.int (ns.getD k 0)) H
theorem sc_law_cell_at : FnScope ["_law_script", "_law_k"] ["_law_script", "_law_k"] (defScope s_law_cell_at) := ⟨rfl, rfl, rfl, by decide +kernel, rfl, by decide +kernel, by decide +kernel⟩
theorem ok_law_cell_at (T : Txt w K mg) : Dok P w K mg base CX0 1 (ga K "_law_cell_at") ["_law_script", "_law_k"] (spCell K) := by
  obtain ⟨fd, F⟩ := T.d_law_cell_at
  have sc := sc_law_cell_at
  refine ⟨fd, F.ok sc (fun vs H Q E h => ?_) (fun cdv A outer s H vs Q E hr h => ?_), F.bindsN fun _ _ _ _ _ _ us hl => match us, hl with | [_, _], _ => rfl, F.kp⟩
  · obtain ⟨a, ns, k, rfl, _⟩ := h
    rfl
  refine ⟨_, PSs.nox (pss_cons (ps_if (pt_cmpR op_lt (pv 1) (pe_callB call_len_seq rfl (T.n "len") PySem.boot_len (pa_cons (pv 0) pa_nil)) (nomark _)) (pss_one (ps_ret (pe_ix ix_list (pv 0) (pv 1) (fun _ _ => rfl)))) pss_nil) (pss_one (ps_ret pe_int))), ?_⟩
  obtain ⟨a, ns, k, rfl, hS, hQ⟩ := h
  simp only [tSeq, tIfS, tOr, tAnd, tNot, tTest, tB, tOp, tCB, tCons, tNil, tVar, tC, tRet, tRetN, tNext, tDrop, tAsg, gName, gNil, gCons, gTup, gSub, tAug, tAugS, ipI, tCall, tMeth, tMake, tCmp, tAndV, tOrV, tNotV, tIf, tChain, tTup, tLst, tSl, tPart, tNoPart, tBM, tM0, tM1, tUn, rU, tFld, tCallS, tCKw, rIn, tMethF, Lf.tMethS, tDNotIn, tDGet, tDPop1, sDPut, sFld, tDNewK, rEq, rNe, rI, rI0, rIxL, rIxT, rIxS, rSub, rSlL, C8.rSlX, rNewStrs, tMake0, cxK, cxNK, tLc_list, tLc_rng1, tFor_list, tFor_str, tFor_rng1, tYes, wipe, L2.start, List.map_cons, List.map_nil, List.length_cons, List.length_nil, List.replicate, List.cons_append, List.nil_append, List.append_nil, Nat.reduceAdd, Nat.reduceSub, List.getElem?_cons_zero, List.getElem?_cons_succ, List.set_cons_zero, List.set_cons_succ, Option.some.injEq, exists_eq_left', exists_eq_left, exists_eq', and_true, true_and, exists_eq_right, exists_const, V.int.injEq, V.str.injEq, V.bl.injEq, V.ref.injEq, List.cons.injEq, scal_ii, scal_ss, scal_bb, decide_eq_true_eq, Bool.not_eq_true', decide_eq_false_iff_not, if_true, if_false, Bool.false_eq_true, exists_and_left, S_len, sz_le]
  refine ⟨_, .inl hS, ite2 (fun h => ?_) fun h => ?_⟩
  · rw [List.length_map] at h
    have hk : k < ns.length := by omega
    rw [List.getD_eq_getElem?_getD, List.getElem?_eq_getElem hk] at hQ
    exact ⟨_, hS, _, atI_nat (by rw [List.getElem?_map, List.getElem?_eq_getElem hk] <;> rfl), hQ⟩
  · rw [List.length_map] at h
    rw [List.getD_eq_getElem?_getD, List.getElem?_eq_none (by omega)] at hQ
    exact hQ
/-- the three names -/
def letM (c at_ : Int) (k j : Nat) : Nat := 97 + ((mixM (c + (j : Int) * (j : Int)) 3 + (k : Int) * (if (j : Int) = at_ then 1 else 0)) % 26).toNat
def nameM (c at_ : Int) (k n : Nat) : Tx := (List.range n).map (letM c at_ k)
theorem letM_rng (c at_ : Int) (k j : Nat) : 97 ≤ letM c at_ k j ∧ letM c at_ k j ≤ 122 := by
  unfold letM
  have h1 := Int.emod_nonneg (mixM (c + (j : Int) * (j : Int)) 3 + (k : Int) * (if (j : Int) = at_ then 1 else 0)) (show (26 : Int) ≠ 0 by decide)
  have h2 := Int.emod_lt_of_pos (mixM (c + (j : Int) * (j : Int)) 3 + (k : Int) * (if (j : Int) = at_ then 1 else 0)) (show (0 : Int) < 26 by decide)
  omega
theorem nameM_word {c at_ : Int} {k n : Nat} (h1 : 0 < n) (h2 : n ≤ 8) : isWord (nameM c at_ k n) = true := by
  unfold isWord allIn nameM
  rw [List.length_map, List.length_range, decide_eq_true h1, decide_eq_true h2, Bool.true_and, Bool.true_and, List.all_eq_true]
  intro x hx
  obtain ⟨j, _, rfl⟩ := List.mem_map.mp hx
  have := letM_rng c at_ k j
  generalize letM c at_ k j = y at this
  rw [List.contains_iff_mem]
  unfold lets
  simp only [List.mem_cons, List.not_mem_nil, or_false]
  omega
theorem nameM_ne {c at_ : Int} {k l n : Nat} (h0 : 0 ≤ at_) (h1 : at_ < (n : Int)) (hk : k < 3) (hl : l < 3) (h : k ≠ l) : nameM c at_ k n ≠ nameM c at_ l n := fun e => by
  obtain ⟨j, rfl⟩ := Int.eq_ofNat_of_zero_le h0
  have hj : j < n := by omega
  have e1 := congrArg (fun l : List Nat => l[j]?) e
  unfold nameM at e1
  simp only [List.getElem?_map, List.getElem?_range hj, Option.map_some, Option.some.injEq] at e1
  unfold letM at e1
  rw [if_pos rfl] at e1
  generalize mixM (c + (j : Int) * (j : Int)) 3 = m at e1
  omega
theorem lets_at : ∀ n : Nat, n < 26 → atI ("abcdefghijklmnopqrstuvwxyz" : Str).cps.toList (n : Int) = some (97 + ((n : Nat) : Int).toNat) := by
  intro n h
  have e : ("abcdefghijklmnopqrstuvwxyz" : Str).cps.toList = lets := rfl
  rw [e]
  have key : ∀ n : Nat, n < 26 → lets[n]? = some (97 + n) := by decide
  exact atI_nat (key n h)
def spNames (K : PySem.W.Frag) : Sp := fun vs H Q _ => ∃ c : Int, vs = [.int c] ∧ Bt1 c ∧ ∀ H' p g t u, ExtN H H' → H' p = some (.lst [.str (S g), .str (S t), .str (S u)]) → isWord g = true → isWord t = true → isWord u = true → g ≠ t → g ≠ u → t ≠ u → Q (.ref p) H'
theorem sc_law_names : FnScope ["_law_cell", "_law_letters", "_law_size", "_law_at", "_law_names_here", "_law_k", "_law_name", "_law_j"] ["_law_cell"] (defScope s_law_names) := ⟨rfl, rfl, rfl, by decide +kernel, rfl, by decide +kernel, by decide +kernel⟩
theorem ok_law_names (T : Txt w K mg) : Dok P w K mg base CX0 2 (ga K "_law_names") ["_law_cell"] (spNames K) := by
  obtain ⟨fd, F⟩ := T.d_law_names
  have sc := sc_law_names
  have D_law_mix := ok_law_mix (P := P) (base := base) T
  refine ⟨fd, F.ok sc (fun vs H Q E h => ?_) (fun cdv A outer s H vs Q E hr h => ?_), F.bindsN fun _ _ _ _ _ _ us hl => match us, hl with | [_], _ => rfl, F.kp⟩
  · obtain ⟨c, rfl, _⟩ := h
    rfl
  refine ⟨_, PSs.nox (pss_cons (ps_set (i := 1) sc.nd rfl (Or.inl rfl) pe_str) (pss_cons (ps_set (i := 2) sc.nd rfl (Or.inl rfl) (pe_op op_add pe_int (pe_op op_mod (pe_f D_law_mix hr (T.g "_law_mix") (pa_cons (pv 0) (pa_cons pe_int pa_nil))) pe_int))) (pss_cons (ps_set (i := 3) sc.nd rfl (Or.inl rfl) (pe_op op_mod (pe_f D_law_mix hr (T.g "_law_mix") (pa_cons (pv 0) (pa_cons pe_int pa_nil))) (pv 2))) (pss_cons (ps_set (i := 4) sc.nd rfl (Or.inl rfl) (pe_lst pa_nil)) (pss_cons (ps_for PassesOwn.never rfl (pi_range1 rfl (T.n "range") (pa_cons pe_int pa_nil)) (pg_name (i := 5) sc.nd rfl (Or.inl rfl)) (pss_cons (ps_set (i := 6) sc.nd rfl (Or.inl rfl) pe_str) (pss_cons (ps_for PassesOwn.never rfl (pi_range1 rfl (T.n "range") (pa_cons (pv 2) pa_nil)) (pg_name (i := 7) sc.nd rfl (Or.inl rfl)) (pss_one (ps_set (i := 6) sc.nd rfl (Or.inl rfl) (pe_op op_add_str (pv 6) (pe_ix ix_str (pv 1) (pe_op op_mod (pe_op op_add (pe_f D_law_mix hr (T.g "_law_mix") (pa_cons (pe_op op_add (pv 0) (pe_op op_mul (pv 7) (pv 7))) (pa_cons pe_int pa_nil))) (pe_op op_mul (pv 5) (pe_callTy call_int1 rfl (T.n "int") (by decide +kernel) (pa_cons (pe_cmpR op_eq (pv 7) (pv 3) (nomark _)) pa_nil)))) pe_int) (fun _ _ => rfl)))))) (pss_one (ps_expr (pe_bm PySem.F.plainAttrs_list PySem.F.slot_list_append PySem.F.type_list_append mt_append (pv 4) (pa_cons (pv 6) pa_nil))))))) (pss_one (ps_ret (pv 4)))))))), ?_⟩
  obtain ⟨c, rfl, hc, hQ⟩ := h
  simp only [tSeq, tIfS, tOr, tAnd, tNot, tTest, tB, tOp, tCB, tCons, tNil, tVar, tC, tRet, tRetN, tNext, tDrop, tAsg, gName, gNil, gCons, gTup, gSub, tAug, tAugS, ipI, tCall, tMeth, tMake, tCmp, tAndV, tOrV, tNotV, tIf, tChain, tTup, tLst, tSl, tPart, tNoPart, tBM, tM0, tM1, tUn, rU, tFld, tCallS, tCKw, rIn, tMethF, Lf.tMethS, tDNotIn, tDGet, tDPop1, sDPut, sFld, tDNewK, rEq, rNe, rI, rI0, rIxL, rIxT, rIxS, rSub, rSlL, C8.rSlX, rNewStrs, tMake0, cxK, cxNK, tLc_list, tLc_rng1, tFor_list, tFor_str, tFor_rng1, tYes, wipe, L2.start, List.map_cons, List.map_nil, List.length_cons, List.length_nil, List.replicate, List.cons_append, List.nil_append, List.append_nil, Nat.reduceAdd, Nat.reduceSub, List.getElem?_cons_zero, List.getElem?_cons_succ, List.set_cons_zero, List.set_cons_succ, Option.some.injEq, exists_eq_left', exists_eq_left, exists_eq', and_true, true_and, exists_eq_right, exists_const, V.int.injEq, V.str.injEq, V.bl.injEq, V.ref.injEq, List.cons.injEq, scal_ii, scal_ss, scal_bb, decide_eq_true_eq, Bool.not_eq_true', decide_eq_false_iff_not, if_true, if_false, Bool.false_eq_true, exists_and_left, S_len, sz_le]
  have h8 : 0 ≤ mixM c 1 % 8 ∧ mixM c 1 % 8 < 8 := ⟨Int.emod_nonneg _ (by decide), Int.emod_lt_of_pos _ (by decide)⟩
  refine ⟨c, 1, rfl, hc.bt, by decide, by decide, _, rfl, by decide, c, 2, rfl, hc.bt, by decide, by decide, _, rfl, by omega, sz_le (by decide), fun p hp => ⟨by decide, by decide, ?_⟩⟩
  obtain ⟨sz, hsz⟩ : ∃ sz, sz = 1 + mixM c 1 % 8 := ⟨_, rfl⟩
  rw [← hsz]
  have hat : 0 ≤ mixM c 2 % sz ∧ mixM c 2 % sz < sz := ⟨Int.emod_nonneg _ (by omega), Int.emod_lt_of_pos _ (by omega)⟩
  generalize mixM c 2 % sz = at_ at hat ⊢
  refine for_w (xs := rngL 3) walk_rngL (fun i σ H' => H' = upd H p (.lst ((List.range i).map fun k => V.str (S (nameM c at_ k sz.toNat)))) ∧ ∃ u5 u6 u7, σ = [some (.int c), some (.str "abcdefghijklmnopqrstuvwxyz"), some (.int sz), some (.int at_), some (.ref p), u5, u6, u7]) ⟨rfl, _, _, _, rfl⟩ (fun _ _ _ _ _ => trivial) (fun i x σ H' hx z => ?_) (fun σ H' z => ?_)
  · obtain ⟨rfl, u5, u6, u7, rfl⟩ := z
    have hi : i < 3 := (List.getElem?_eq_some_iff.mp hx).1
    rw [rngL_get hi] at hx
    obtain rfl := Option.some.inj hx
    simp only [tSeq, tIfS, tOr, tAnd, tNot, tTest, tB, tOp, tCB, tCons, tNil, tVar, tC, tRet, tRetN, tNext, tDrop, tAsg, gName, gNil, gCons, gTup, gSub, tAug, tAugS, ipI, tCall, tMeth, tMake, tCmp, tAndV, tOrV, tNotV, tIf, tChain, tTup, tLst, tSl, tPart, tNoPart, tBM, tM0, tM1, tUn, rU, tFld, tCallS, tCKw, rIn, tMethF, Lf.tMethS, tDNotIn, tDGet, tDPop1, sDPut, sFld, tDNewK, rEq, rNe, rI, rI0, rIxL, rIxT, rIxS, rSub, rSlL, C8.rSlX, rNewStrs, tMake0, cxK, cxNK, tLc_list, tLc_rng1, tFor_list, tFor_str, tFor_rng1, tYes, wipe, L2.start, List.map_cons, List.map_nil, List.length_cons, List.length_nil, List.replicate, List.cons_append, List.nil_append, List.append_nil, Nat.reduceAdd, Nat.reduceSub, List.getElem?_cons_zero, List.getElem?_cons_succ, List.set_cons_zero, List.set_cons_succ, Option.some.injEq, exists_eq_left', exists_eq_left, exists_eq', and_true, true_and, exists_eq_right, exists_const, V.int.injEq, V.str.injEq, V.bl.injEq, V.ref.injEq, List.cons.injEq, scal_ii, scal_ss, scal_bb, decide_eq_true_eq, Bool.not_eq_true', decide_eq_false_iff_not, if_true, if_false, Bool.false_eq_true, exists_and_left, S_len, sz_le]
    refine ⟨by omega, by omega, ?_⟩
    refine for_w (xs := rngL sz.toNat) walk_rngL (fun j σ H2 => H2 = upd H p (.lst ((List.range i).map fun k => V.str (S (nameM c at_ k sz.toNat)))) ∧ ∃ u7, σ = [some (.int c), some (.str "abcdefghijklmnopqrstuvwxyz"), some (.int sz), some (.int at_), some (.ref p), some (.int (i : Nat)), some (.str (S (nameM c at_ i j))), u7]) ⟨rfl, _, rfl⟩ (fun _ _ _ _ _ => trivial) (fun j x σ H2 hx z => ?_) (fun σ H2 z => ?_)
    · obtain ⟨rfl, u7, rfl⟩ := z
      have hj : j < sz.toNat := by
        have := (List.getElem?_eq_some_iff.mp hx).1
        rw [rngL_len] at this
        exact this
      rw [rngL_get hj] at hx
      obtain rfl := Option.some.inj hx
      simp only [tSeq, tIfS, tOr, tAnd, tNot, tTest, tB, tOp, tCB, tCons, tNil, tVar, tC, tRet, tRetN, tNext, tDrop, tAsg, gName, gNil, gCons, gTup, gSub, tAug, tAugS, ipI, tCall, tMeth, tMake, tCmp, tAndV, tOrV, tNotV, tIf, tChain, tTup, tLst, tSl, tPart, tNoPart, tBM, tM0, tM1, tUn, rU, tFld, tCallS, tCKw, rIn, tMethF, Lf.tMethS, tDNotIn, tDGet, tDPop1, sDPut, sFld, tDNewK, rEq, rNe, rI, rI0, rIxL, rIxT, rIxS, rSub, rSlL, C8.rSlX, rNewStrs, tMake0, cxK, cxNK, tLc_list, tLc_rng1, tFor_list, tFor_str, tFor_rng1, tYes, wipe, L2.start, List.map_cons, List.map_nil, List.length_cons, List.length_nil, List.replicate, List.cons_append, List.nil_append, List.append_nil, Nat.reduceAdd, Nat.reduceSub, List.getElem?_cons_zero, List.getElem?_cons_succ, List.set_cons_zero, List.set_cons_succ, Option.some.injEq, exists_eq_left', exists_eq_left, exists_eq', and_true, true_and, exists_eq_right, exists_const, V.int.injEq, V.str.injEq, V.bl.injEq, V.ref.injEq, List.cons.injEq, scal_ii, scal_ss, scal_bb, decide_eq_true_eq, Bool.not_eq_true', decide_eq_false_iff_not, if_true, if_false, Bool.false_eq_true, exists_and_left, S_len, sz_le]
      have hj8 : j < 8 := by omega
      have hjj : (0 : Int) ≤ (j : Int) * (j : Int) ∧ (j : Int) * (j : Int) ≤ 100 := by
        have : j * j ≤ 7 * 7 := Nat.mul_le_mul (by omega) (by omega)
        have e : (j : Int) * (j : Int) = ((j * j : Nat) : Int) := (Int.natCast_mul j j).symm
        rw [e]
        omega
      refine ⟨.inl ⟨by omega, by omega⟩, c + (j : Int) * (j : Int), 3, rfl, hc.add hjj.1 hjj.2, by decide, by decide, .inr ⟨.inl ⟨by omega, by omega⟩, _, rfl, by decide, sz_le (by decide), letM c at_ i j, ?_, sz_le (by unfold nameM; rw [List.length_map, List.length_range]; omega), rfl, ?_⟩⟩
      · unfold letM
        have h1 := Int.emod_nonneg (mixM (c + (j : Int) * (j : Int)) 3 + (i : Int) * (if (j : Int) = at_ then 1 else 0)) (show (26 : Int) ≠ 0 by decide)
        have h2 := Int.emod_lt_of_pos (mixM (c + (j : Int) * (j : Int)) 3 + (i : Int) * (if (j : Int) = at_ then 1 else 0)) (show (0 : Int) < 26 by decide)
        generalize (mixM (c + (j : Int) * (j : Int)) 3 + (i : Int) * (if (j : Int) = at_ then 1 else 0)) % 26 = z at h1 h2
        obtain ⟨n, rfl⟩ := Int.eq_ofNat_of_zero_le h1
        exact lets_at n (by omega)
      · show S (nameM c at_ i j) ++ S [letM c at_ i j] = _
        rw [S_cat]
        unfold nameM
        rw [List.range_succ, List.map_append] <;> rfl
    · obtain ⟨rfl, u7, rfl⟩ := z
      simp only [tSeq, tIfS, tOr, tAnd, tNot, tTest, tB, tOp, tCB, tCons, tNil, tVar, tC, tRet, tRetN, tNext, tDrop, tAsg, gName, gNil, gCons, gTup, gSub, tAug, tAugS, ipI, tCall, tMeth, tMake, tCmp, tAndV, tOrV, tNotV, tIf, tChain, tTup, tLst, tSl, tPart, tNoPart, tBM, tM0, tM1, tUn, rU, tFld, tCallS, tCKw, rIn, tMethF, Lf.tMethS, tDNotIn, tDGet, tDPop1, sDPut, sFld, tDNewK, rEq, rNe, rI, rI0, rIxL, rIxT, rIxS, rSub, rSlL, C8.rSlX, rNewStrs, tMake0, cxK, cxNK, tLc_list, tLc_rng1, tFor_list, tFor_str, tFor_rng1, tYes, wipe, L2.start, List.map_cons, List.map_nil, List.length_cons, List.length_nil, List.replicate, List.cons_append, List.nil_append, List.append_nil, Nat.reduceAdd, Nat.reduceSub, List.getElem?_cons_zero, List.getElem?_cons_succ, List.set_cons_zero, List.set_cons_succ, Option.some.injEq, exists_eq_left', exists_eq_left, exists_eq', and_true, true_and, exists_eq_right, exists_const, V.int.injEq, V.str.injEq, V.bl.injEq, V.ref.injEq, List.cons.injEq, scal_ii, scal_ss, scal_bb, decide_eq_true_eq, Bool.not_eq_true', decide_eq_false_iff_not, if_true, if_false, Bool.false_eq_true, exists_and_left, S_len, sz_le]
      refine ⟨.inl ⟨rfl, _, SqL.of upd_same⟩, p, _, _, rfl, rfl, upd_same, ?_, ?_⟩
      · rw [List.length_map, List.length_range, sizeLine_eq]
        omega
      · rw [List.range_succ, List.map_append]
        funext b
        by_cases hb : b = p
        · rw [hb, upd_same, upd_same] <;> rfl
        · rw [upd_ne hb, upd_ne hb, upd_ne hb]
  · obtain ⟨rfl, u5, u6, u7, rfl⟩ := z
    simp only [tSeq, tIfS, tOr, tAnd, tNot, tTest, tB, tOp, tCB, tCons, tNil, tVar, tC, tRet, tRetN, tNext, tDrop, tAsg, gName, gNil, gCons, gTup, gSub, tAug, tAugS, ipI, tCall, tMeth, tMake, tCmp, tAndV, tOrV, tNotV, tIf, tChain, tTup, tLst, tSl, tPart, tNoPart, tBM, tM0, tM1, tUn, rU, tFld, tCallS, tCKw, rIn, tMethF, Lf.tMethS, tDNotIn, tDGet, tDPop1, sDPut, sFld, tDNewK, rEq, rNe, rI, rI0, rIxL, rIxT, rIxS, rSub, rSlL, C8.rSlX, rNewStrs, tMake0, cxK, cxNK, tLc_list, tLc_rng1, tFor_list, tFor_str, tFor_rng1, tYes, wipe, L2.start, List.map_cons, List.map_nil, List.length_cons, List.length_nil, List.replicate, List.cons_append, List.nil_append, List.append_nil, Nat.reduceAdd, Nat.reduceSub, List.getElem?_cons_zero, List.getElem?_cons_succ, List.set_cons_zero, List.set_cons_succ, Option.some.injEq, exists_eq_left', exists_eq_left, exists_eq', and_true, true_and, exists_eq_right, exists_const, V.int.injEq, V.str.injEq, V.bl.injEq, V.ref.injEq, List.cons.injEq, scal_ii, scal_ss, scal_bb, decide_eq_true_eq, Bool.not_eq_true', decide_eq_false_iff_not, if_true, if_false, Bool.false_eq_true, exists_and_left, S_len, sz_le]
    have hw : ∀ k, isWord (nameM c at_ k sz.toNat) = true := fun k => nameM_word (by omega) (by omega)
    have hd : ∀ k l, k < 3 → l < 3 → k ≠ l → nameM c at_ k sz.toNat ≠ nameM c at_ l sz.toNat := fun k l h1 h2 h3 => nameM_ne hat.1 (by omega) h1 h2 h3
    exact hQ _ p _ _ _ (Lf.extN_upd hp) upd_same (hw 0) (hw 1) (hw 2) (hd 0 1 (by decide) (by decide) (by decide)) (hd 0 2 (by decide) (by decide) (by decide)) (hd 1 2 (by decide) (by decide) (by decide))
theorem long_no {a : Tx} (h : 8 < a.length) : isWord a = false := by
  unfold isWord allIn
  rw [decide_eq_false (p := a.length ≤ 8) (by omega), Bool.false_and, Bool.and_false]
theorem sign_no {a : Tx} {x : Nat} (h : lets.contains x = false) : isWord (a ++ [x]) = false := by
  unfold isWord allIn
  rw [List.all_append, List.all_cons, h, Bool.false_and, Bool.and_false, Bool.and_false, Bool.and_false]
theorem app_free {a b : Tx} {x : Nat} (h : x ∉ a) (h2 : x ∉ b) : x ∉ a ++ b := fun z => by
  rcases List.mem_append.mp z with z | z
  · exact h z
  · exact h2 z
def spNoName (K : PySem.W.Frag) : Sp := fun vs H Q _ => ∃ (g : Tx) (c : Int), vs = [.str (S g), .int c] ∧ isWord g = true ∧ Bt c ∧ ∀ H' m, ExtN H H' → isWord m = false → 32 ∉ m → m.length ≤ 20 → Q (.str (S m)) H'
theorem sc_law_no_name : FnScope ["_law_name", "_law_cell"] ["_law_name", "_law_cell"] (defScope s_law_no_name) := ⟨rfl, rfl, rfl, by decide +kernel, rfl, by decide +kernel, by decide +kernel⟩
theorem ok_law_no_name (T : Txt w K mg) : Dok P w K mg base CX0 2 (ga K "_law_no_name") ["_law_name", "_law_cell"] (spNoName K) := by
  obtain ⟨fd, F⟩ := T.d_law_no_name
  have sc := sc_law_no_name
  have D_law_mix := ok_law_mix (P := P) (base := base) T
  refine ⟨fd, F.ok sc (fun vs H Q E h => ?_) (fun cdv A outer s H vs Q E hr h => ?_), F.bindsN fun _ _ _ _ _ _ us hl => match us, hl with | [_, _], _ => rfl, F.kp⟩
  · obtain ⟨g, c, rfl, _⟩ := h
    rfl
  refine ⟨_, PSs.nox (pss_one (ps_ret (pe_ix ix_list (pe_lst (pa_cons pe_str (pa_cons (pe_op op_add_str (pv 0) pe_str) (pa_cons (pe_op op_add_str (pe_slice C8.sl_txt (pv 0) (po_some pe_int) po_none) pe_str) (pa_cons (pe_op op_add_str (pe_slice C8.sl_txt (pv 0) po_none (po_some (pe_un un_neg pe_int))) pe_str) (pa_cons (pe_op op_add_str (pe_slice C8.sl_txt (pv 0) (po_some pe_int) po_none) pe_str) pa_nil)))))) (pe_op op_mod (pe_f D_law_mix hr (T.g "_law_mix") (pa_cons (pv 1) (pa_cons pe_int pa_nil))) pe_int) (fun _ _ => rfl)))), ?_⟩
  obtain ⟨g, c, rfl, hg, hc, hQ⟩ := h
  simp only [tSeq, tIfS, tOr, tAnd, tNot, tTest, tB, tOp, tCB, tCons, tNil, tVar, tC, tRet, tRetN, tNext, tDrop, tAsg, gName, gNil, gCons, gTup, gSub, tAug, tAugS, ipI, tCall, tMeth, tMake, tCmp, tAndV, tOrV, tNotV, tIf, tChain, tTup, tLst, tSl, tPart, tNoPart, tBM, tM0, tM1, tUn, rU, tFld, tCallS, tCKw, rIn, tMethF, Lf.tMethS, tDNotIn, tDGet, tDPop1, sDPut, sFld, tDNewK, rEq, rNe, rI, rI0, rIxL, rIxT, rIxS, rSub, rSlL, C8.rSlX, rNewStrs, tMake0, cxK, cxNK, tLc_list, tLc_rng1, tFor_list, tFor_str, tFor_rng1, tYes, wipe, L2.start, List.map_cons, List.map_nil, List.length_cons, List.length_nil, List.replicate, List.cons_append, List.nil_append, List.append_nil, Nat.reduceAdd, Nat.reduceSub, List.getElem?_cons_zero, List.getElem?_cons_succ, List.set_cons_zero, List.set_cons_succ, Option.some.injEq, exists_eq_left', exists_eq_left, exists_eq', and_true, true_and, exists_eq_right, exists_const, V.int.injEq, V.str.injEq, V.bl.injEq, V.ref.injEq, List.cons.injEq, scal_ii, scal_ss, scal_bb, decide_eq_true_eq, Bool.not_eq_true', decide_eq_false_iff_not, if_true, if_false, Bool.false_eq_true, exists_and_left, S_len, sz_le]
  obtain ⟨l1, l2⟩ := word_len hg
  have gne : g ≠ [] := fun z => by rw [z] at l1; exact absurd l1 (by decide)
  rw [show Txt.slice (S g) (some 1) none = S (g.drop 1) from slice_from (i := 1) (by decide), show Txt.slice (S g) none (some (-1)) = S (g.take (g.length - 1)) from slice_butlast gne]
  have ld : (g.drop 1).length ≤ 8 := by rw [List.length_drop]; omega
  have lt : (g.take (g.length - 1)).length ≤ 8 := by rw [List.length_take]; omega
  refine ⟨sz_le (by show g.length + 8 ≤ _; omega), sz_le (by omega), sz_le (by rw [S_len]; show _ + 1 ≤ _; omega), sz_le (by omega), sz_le (by rw [S_len]; show _ + 1 ≤ _; omega), sz_le (by omega), sz_le (by rw [S_len]; show _ + 1 ≤ _; omega), sz_le (by decide), fun p hp => ?_⟩
  refine ⟨c, 4, rfl, hc, by decide, by decide, _, rfl, by decide, _, SqL.of upd_same, ?_⟩
  have h5 : 0 ≤ mixM c 4 % 5 ∧ mixM c 4 % 5 < 5 := ⟨Int.emod_nonneg _ (by decide), Int.emod_lt_of_pos _ (by decide)⟩
  have x1 := Lf.extN_upd (o := .lst [V.str "", V.str (S g ++ "abcdefgh"), V.str (S (g.drop 1) ++ "A"), V.str (S (g.take (g.length - 1)) ++ "1"), V.str (S (g.drop 1) ++ "-")]) hp
  obtain ⟨i, hi⟩ := Int.eq_ofNat_of_zero_le h5.1
  rw [hi]
  have hi5 : i < 5 := by omega
  have hlet := word_lets hg
  have n32 : 32 ∉ g := word_free hg
  have n32d : 32 ∉ g.drop 1 := fun z => n32 (List.mem_of_mem_drop z)
  have n32t : 32 ∉ g.take (g.length - 1) := fun z => n32 (List.mem_of_mem_take z)
  generalize upd H p (.lst [V.str "", V.str (S g ++ "abcdefgh"), V.str (S (g.drop 1) ++ "A"), V.str (S (g.take (g.length - 1)) ++ "1"), V.str (S (g.drop 1) ++ "-")]) = G at x1 ⊢
  match i, hi5 with
  | 0, _ => exact ⟨_, atI_nat (j := 0) rfl, hQ _ [] x1 rfl (by simp) (by simp)⟩
  | 1, _ =>
    refine ⟨_, atI_nat (j := 1) rfl, ?_⟩
    rw [show (S g ++ "abcdefgh" : Str) = S (g ++ [97, 98, 99, 100, 101, 102, 103, 104]) from S_cat g [97, 98, 99, 100, 101, 102, 103, 104]]
    exact hQ _ _ x1 (long_no (by rw [List.length_append]; show 8 < _ + 8; omega)) (by simp [n32]) (by rw [List.length_append]; show _ + 8 ≤ 20; omega)
  | 2, _ =>
    refine ⟨_, atI_nat (j := 2) rfl, ?_⟩
    rw [show (S (g.drop 1) ++ "A" : Str) = S (g.drop 1 ++ [65]) from S_cat _ [65]]
    exact hQ _ _ x1 (sign_no (by decide)) (app_free n32d (by decide)) (by rw [List.length_append]; show _ + 1 ≤ 20; omega)
  | 3, _ =>
    refine ⟨_, atI_nat (j := 3) rfl, ?_⟩
    rw [show (S (g.take (g.length - 1)) ++ "1" : Str) = S (g.take (g.length - 1) ++ [49]) from S_cat _ [49]]
    exact hQ _ _ x1 (sign_no (by decide)) (app_free n32t (by decide)) (by rw [List.length_append]; show _ + 1 ≤ 20; omega)
  | 4, _ =>
    refine ⟨_, atI_nat (j := 4) rfl, ?_⟩
    rw [show (S (g.drop 1) ++ "-" : Str) = S (g.drop 1 ++ [45]) from S_cat _ [45]]
    exact hQ _ _ x1 (sign_no (by decide)) (app_free n32d (by decide)) (by rw [List.length_append]; show _ + 1 ≤ 20; omega)
end
end Lf
set_option Elab.async false
set_option linter.all false
set_option maxRecDepth 100000
set_option maxHeartbeats 4000000
/-! the law's rows. -/
namespace Lf
open PySem PySem.Spec PyProof.Rows L2 LfR LamX LfM SX
section
variable {P : Program} {w : World} {K : PySem.W.Frag} {mg : Str → Option Value} {base : Heap}
theorem ll0 : (Str.ofString "").length = 0 := rfl
theorem ll1 : (Str.ofString " ").length = 1 := rfl
theorem ll2 : (Str.ofString "  tails -").length = 9 := rfl
theorem ll3 : (Str.ofString " -").length = 2 := rfl
theorem ll4 : (Str.ofString " - / 1").length = 6 := rfl
theorem ll5 : (Str.ofString " -0").length = 3 := rfl
theorem ll6 : (Str.ofString " -1").length = 3 := rfl
theorem ll7 : (Str.ofString " .").length = 2 := rfl
theorem ll8 : (Str.ofString " 0").length = 2 := rfl
theorem ll9 : (Str.ofString " 0 0").length = 4 := rfl
theorem ll10 : (Str.ofString " 00").length = 3 := rfl
theorem ll11 : (Str.ofString " 1").length = 2 := rfl
theorem ll12 : (Str.ofString " 1 +2").length = 5 := rfl
theorem ll13 : (Str.ofString " 1 0 1").length = 6 := rfl
theorem ll14 : (Str.ofString " 1 2").length = 4 := rfl
theorem ll15 : (Str.ofString " 1,2").length = 4 := rfl
theorem ll16 : (Str.ofString " Tails -").length = 8 := rfl
theorem ll17 : (Str.ofString " alike 0 / 1").length = 12 := rfl
theorem ll18 : (Str.ofString " names").length = 6 := rfl
theorem ll19 : (Str.ofString " none -").length = 7 := rfl
theorem ll20 : (Str.ofString " open 1 / 1 2").length = 13 := rfl
theorem ll21 : (Str.ofString " pairs 2 / 0 0").length = 14 := rfl
theorem ll22 : (Str.ofString " tail 1 2").length = 9 := rfl
theorem ll23 : (Str.ofString " tails").length = 6 := rfl
theorem ll24 : (Str.ofString " tails ").length = 7 := rfl
theorem ll25 : (Str.ofString " tails -").length = 8 := rfl
theorem ll26 : (Str.ofString " tails 1 0 1").length = 12 := rfl
theorem ll27 : (Str.ofString " tails 1 2").length = 10 := rfl
theorem ll28 : (Str.ofString " tails 1 2 3 /").length = 14 := rfl
theorem ll29 : (Str.ofString " tailss -").length = 9 := rfl
theorem ll30 : (Str.ofString " tailss 1 2 03").length = 14 := rfl
theorem ll31 : (Str.ofString " tree 1 / 1 0").length = 13 := rfl
theorem ll32 : (Str.ofString " windows -").length = 10 := rfl
theorem ll33 : (Str.ofString " x").length = 2 := rfl
theorem ll34 : (Str.ofString "Names").length = 5 := rfl
theorem ll35 : (Str.ofString "Show ").length = 5 := rfl
theorem ll36 : (Str.ofString "abcdefgh ").length = 9 := rfl
theorem ll37 : (Str.ofString "busy ").length = 5 := rfl
theorem ll38 : (Str.ofString "drop").length = 4 := rfl
theorem ll39 : (Str.ofString "drop ").length = 5 := rfl
theorem ll40 : (Str.ofString "end ").length = 4 := rfl
theorem ll41 : (Str.ofString "floor").length = 5 := rfl
theorem ll42 : (Str.ofString "floor ").length = 6 := rfl
theorem ll43 : (Str.ofString "keeps ").length = 6 := rfl
theorem ll44 : (Str.ofString "late ").length = 5 := rfl
theorem ll45 : (Str.ofString "name").length = 4 := rfl
theorem ll46 : (Str.ofString "names ").length = 6 := rfl
theorem ll47 : (Str.ofString "plan").length = 4 := rfl
theorem ll48 : (Str.ofString "plan ").length = 5 := rfl
theorem ll49 : (Str.ofString "show").length = 4 := rfl
theorem ll50 : (Str.ofString "show ").length = 5 := rfl
theorem ll51 : (Str.ofString "shows ").length = 6 := rfl
theorem ll52 : (Str.ofString "why").length = 3 := rfl
theorem ll53 : (Str.ofString "why ").length = 4 := rfl
theorem szT {n : Nat} (h : n ≤ 16777216) : (n ≤ sizeLine) = True := eq_true (sz_le h)
theorem lenA (a b : Str) : (a ++ b).length = a.length + b.length := by
  rw [← S_tl a, ← S_tl b, S_cat, S_len, S_len, S_len, List.length_append]
/-- rows with their mark -/
def Tups (H : Hp) (vs : List V) (rows : List (Str × Int)) : Prop := vs.length = rows.length ∧ ∀ (i : Nat) (r : Str × Int), rows[i]? = some r → ∃ t, vs[i]? = some (.ref t) ∧ H t = some (.tup [.str r.1, .int r.2])
theorem Tups.ext {H H' : Hp} {vs : List V} {rows : List (Str × Int)} (h : Tups H vs rows) (e : ExtN H H') : Tups H' vs rows := ⟨h.1, fun i r hr => by
  obtain ⟨t, h1, h2⟩ := h.2 i r hr
  exact ⟨t, h1, e.same _ _ h2⟩⟩
theorem Tups.app {H : Hp} {a b : List V} {r s : List (Str × Int)} (h1 : Tups H a r) (h2 : Tups H b s) : Tups H (a ++ b) (r ++ s) := by
  refine ⟨by rw [List.length_append, List.length_append, h1.1, h2.1], fun i x hx => ?_⟩
  by_cases hi : i < r.length
  · rw [List.getElem?_append_left hi] at hx
    rw [List.getElem?_append_left (by rw [h1.1]; exact hi)]
    exact h1.2 i x hx
  · rw [List.getElem?_append_right (by omega)] at hx
    rw [List.getElem?_append_right (by rw [h1.1]; omega), h1.1]
    exact h2.2 _ x hx
theorem lc_tups {p : Addr} {rows : List Str} {mk : Int} {j : Nat} {σ : L2.St} {H1 : Hp} {D : Addr} {Qd : Hp → Prop} (hj : j < σ.length) (hp : H1 p = some (.lst (rows.map V.str))) (hl : rows.length ≤ 1000) (hD : H1 D = none)
    (hd : ∀ H acc, ExtN H1 H → H D = some (.lst acc) → Tups H acc (rows.map fun r => (r, mk)) → Qd H) : LcGoal (Itl K p) (gName j) tYes (tTup (tCons (tVar j) (tCons (tC (.int mk)) tNil))) [j] σ H1 D Qd := by
  refine lc_mapW (xs := rows.map V.str) walk_list rfl (fun i y H => ∃ t r, y = .ref t ∧ t ≠ D ∧ rows[i]? = some r ∧ H t = some (.tup [.str r, .int mk])) (by
    rw [List.length_map]
    exact Nat.lt_of_le_of_lt hl (by rw [sizeLine_eq]; omega)) (fun H' x _ => SqL.of (x.l hp)) hD (fun i y H H' st h => by
    obtain ⟨t, r, e1, e2, e3, e4⟩ := h
    exact ⟨t, r, e1, e2, e3, st _ _ e2 e4 (fun ps z => by cases z)⟩) (fun _ => True) (fun _ => trivial) (fun _ _ _ _ => trivial) (fun i x H Qy hx e1 _ hacc hy => ?_) (fun H acc e1 _ hacc hln hR => ?_)
  · rw [List.getElem?_map] at hx
    obtain ⟨r, hr, rfl⟩ := Option.map_eq_some_iff.mp hx
    have ws : wipe σ [j] = σ.set j none := rfl
    refine ⟨by show (List.set (List.set (wipe σ [j]) j _) j none) = _; rw [ws, List.set_set, List.set_set], ?_⟩
    refine ⟨_, by rw [ws, List.set_set, List.getElem?_set_self (by simpa using hj)], sz_le (by show 2 ≤ 16777216; decide), fun t ht => hy _ _ (Lf.extN_upd ht) trivial ⟨t, r, rfl, fun z => ?_, hr, upd_same⟩⟩
    obtain ⟨a, ha⟩ := hacc
    rw [z, ha] at ht
    cases ht
  · refine hd H acc e1 hacc ⟨by rw [hln, List.length_map, List.length_map], fun i r hr => ?_⟩
    rw [List.getElem?_map] at hr
    obtain ⟨r0, hr0, rfl⟩ := Option.map_eq_some_iff.mp hr
    have hi : i < acc.length := by
      rw [hln, List.length_map]
      exact (List.getElem?_eq_some_iff.mp hr0).1
    obtain ⟨t, r', e1', _, e3, e4⟩ := hR i _ (List.getElem?_eq_getElem hi)
    rw [hr0] at e3
    cases e3
    exact ⟨t, by rw [List.getElem?_eq_getElem hi, e1'], e4⟩
theorem cat_step {H : Hp} {p q : Addr} {a b : List V} {Q : V → Hp → Prop} (hp : H p = some (.lst a)) (hq : H q = none) (hz : a.length + b.length ≤ 16777216) (h : ∀ r G, ExtN H G → G r = some (.lst (a ++ b)) → Q (.ref r) G) : rCat (.ref p) (.ref q) (upd H q (.lst b)) Q :=
  ⟨p, q, a, b, rfl, rfl, (Lf.extN_upd hq).l hp, upd_same, sz_le hz, fun r hr => h r _ ((Lf.extN_upd hq).trans (Lf.extN_upd hr)) upd_same⟩
theorem upd2_ext {H : Hp} {p : Addr} {a b : HO} (hp : H p = none) : ExtN H (upd (upd H p a) p b) := ⟨fun q o e => by
  have hq : q ≠ p := fun z => by rw [z, hp] at e; cases e
  rw [upd_ne hq, upd_ne hq]
  exact e⟩
theorem tups3 {H : Hp} {t1 t2 t3 : Addr} {a b c : Str} {m : Int} (h1 : H t1 = some (.tup [.str a, .int m])) (h2 : H t2 = some (.tup [.str b, .int m])) (h3 : H t3 = some (.tup [.str c, .int m])) : Tups H [.ref t1, .ref t2, .ref t3] [(a, m), (b, m), (c, m)] := by
  refine ⟨rfl, fun i r hr => ?_⟩
  have hi : i < 3 := (List.getElem?_eq_some_iff.mp hr).1
  match i, hi with
  | 0, _ =>
    obtain rfl := Option.some.inj hr
    exact ⟨t1, rfl, h1⟩
  | 1, _ =>
    obtain rfl := Option.some.inj hr
    exact ⟨t2, rfl, h2⟩
  | 2, _ =>
    obtain rfl := Option.some.inj hr
    exact ⟨t3, rfl, h3⟩
def spRowsW (K : PySem.W.Frag) : Sp := fun vs H Q _ => ∃ g u : Tx, vs = [.str (S g), .str (S u)] ∧ g.length ≤ 20 ∧ u.length ≤ 20 ∧ ∀ H' p xs, ExtN H H' → H' p = some (.lst xs) → Tups H' xs ((rs1 (S g) (S u)).map fun r => (r, 1)) → Q (.ref p) H'
theorem sc_law_rows_of_words : FnScope ["_law_g", "_law_u", "_law_rows", "_law_row"] ["_law_g", "_law_u"] (defScope s_law_rows_of_words) := ⟨rfl, rfl, rfl, by decide +kernel, rfl, by decide +kernel, by decide +kernel⟩
theorem ok_law_rows_of_words (T : Txt w K mg) : Dok P w K mg base CX0 1 (ga K "_law_rows_of_words") ["_law_g", "_law_u"] (spRowsW K) := by
  obtain ⟨fd, F⟩ := T.d_law_rows_of_words
  have sc := sc_law_rows_of_words
  refine ⟨fd, F.ok sc (fun vs H Q E h => ?_) (fun cdv A outer s H vs Q E hr h => ?_), F.bindsN fun _ _ _ _ _ _ us hl => match us, hl with | [_, _], _ => rfl, F.kp⟩
  · obtain ⟨g, u, rfl, _⟩ := h
    rfl
  refine ⟨_, PSs.nox (pss_cons (ps_set (i := 2) sc.nd rfl (Or.inl rfl) (pe_lst (pa_cons pe_str (pa_cons pe_str (pa_cons pe_str (pa_cons pe_str (pa_cons pe_str (pa_cons pe_str (pa_cons (pe_op op_add_str pe_str (pv 1)) (pa_cons (pe_op op_add_str pe_str (pv 0)) (pa_cons pe_str pa_nil))))))))))) (pss_cons (ps_set (i := 2) sc.nd rfl (Or.inl rfl) (pe_op op_cat (pv 2) (pe_lst (pa_cons (pe_op op_add_str (pe_op op_add_str (pe_op op_add_str pe_str (pv 0)) pe_str) (pv 0)) (pa_cons pe_str (pa_cons (pe_op op_add_str (pe_op op_add_str pe_str (pv 0)) pe_str) (pa_cons pe_str (pa_cons (pe_op op_add_str (pe_op op_add_str pe_str (pv 0)) pe_str) pa_nil)))))))) (pss_cons (ps_set (i := 2) sc.nd rfl (Or.inl rfl) (pe_op op_cat (pv 2) (pe_lst (pa_cons (pe_op op_add_str (pe_op op_add_str (pe_op op_add_str pe_str (pv 0)) pe_str) (pv 0)) (pa_cons pe_str (pa_cons (pe_op op_add_str (pe_op op_add_str pe_str (pv 0)) pe_str) pa_nil)))))) (pss_cons (ps_set (i := 2) sc.nd rfl (Or.inl rfl) (pe_op op_cat (pv 2) (pe_lst (pa_cons (pe_op op_add_str pe_str (pv 0)) (pa_cons (pe_op op_add_str pe_str (pv 0)) (pa_cons (pe_op op_add_str pe_str (pv 0)) (pa_cons (pe_op op_add_str (pe_op op_add_str pe_str (pv 0)) pe_str) (pa_cons (pe_op op_add_str pe_str (pv 0)) (pa_cons (pe_op op_add_str (pe_op op_add_str (pv 1) pe_str) (pv 0)) pa_nil))))))))) (pss_one (ps_ret (pe_lc (own := [("_law_row", 3)]) (g := gName 3) (tt := tYes) rfl sc.nd (pi_list (pv 2)) (blkOk_by (own := [("_law_row", 3)]) (N := ["_law_g", "_law_u", "_law_rows", "_law_row"]) (sc := defScope s_law_rows_of_words) (by decide +kernel)) (fun _ _ _ _ _ => pg_name (i := 3) sc.nd rfl (Or.inl rfl)) (fun _ _ _ _ _ => pts_nil) (fun _ _ _ _ _ => (pe_tup (pa_cons (pv 3) (pa_cons pe_int pa_nil))))))))))), ?_⟩
  obtain ⟨g, u, rfl, hg, hu, hQ⟩ := h
  simp only [tSeq, tIfS, tOr, tAnd, tNot, tTest, tB, tOp, tCB, tCons, tNil, tVar, tC, tRet, tRetN, tNext, tDrop, tAsg, gName, gNil, gCons, gTup, gSub, tAug, tAugS, ipI, tCall, tMeth, tMake, tCmp, tAndV, tOrV, tNotV, tIf, tChain, tTup, tLst, tSl, tPart, tNoPart, tBM, tM0, tM1, tUn, rU, tFld, tCallS, tCKw, rIn, tMethF, Lf.tMethS, tDNotIn, tDGet, tDPop1, sDPut, sFld, tDNewK, rEq, rNe, rI, rI0, rIxL, rIxT, rIxS, rSub, rSlL, C8.rSlX, rNewStrs, tMake0, cxK, cxNK, tLc_list, tLc_rng1, tFor_list, tFor_str, tFor_rng1, tYes, wipe, L2.start, List.map_cons, List.map_nil, List.length_cons, List.length_nil, List.replicate, List.cons_append, List.nil_append, List.append_nil, Nat.reduceAdd, Nat.reduceSub, List.getElem?_cons_zero, List.getElem?_cons_succ, List.set_cons_zero, List.set_cons_succ, Option.some.injEq, exists_eq_left', exists_eq_left, exists_eq', and_true, true_and, exists_eq_right, exists_const, V.int.injEq, V.str.injEq, V.bl.injEq, V.ref.injEq, List.cons.injEq, scal_ii, scal_ss, scal_bb, decide_eq_true_eq, Bool.not_eq_true', decide_eq_false_iff_not, if_true, if_false, Bool.false_eq_true, exists_and_left, S_len, sz_le]
  simp (disch := omega) only [lenA, S_len, ll0, ll1, ll2, ll3, ll4, ll5, ll6, ll7, ll8, ll9, ll10, ll11, ll12, ll13, ll14, ll15, ll16, ll17, ll18, ll19, ll20, ll21, ll22, ll23, ll24, ll25, ll26, ll27, ll28, ll29, ll30, ll31, ll32, ll33, ll34, ll35, ll36, ll37, ll38, ll39, ll40, ll41, ll42, ll43, ll44, ll45, ll46, ll47, ll48, ll49, ll50, ll51, ll52, ll53, szT, true_and]
  intro p0 hp0 p1 hp1
  refine cat_step upd_same hp1 (Nat.le_of_ble_eq_true rfl) fun r1 G1 e1 h1 p2 hp2 => ?_
  refine cat_step h1 hp2 (Nat.le_of_ble_eq_true rfl) fun r2 G2 e2 h2 p3 hp3 => ?_
  refine cat_step h2 hp3 (Nat.le_of_ble_eq_true rfl) fun r3 G3 e3 h3 => ?_
  refine ⟨r3, rfl, ⟨_, SqL.of h3⟩, fun D hD => lc_tups (rows := rs1 (S g) (S u)) (j := 3) (by show 3 < 4; decide) h3 (Nat.le_of_ble_eq_true rfl) hD fun H' acc e4 hacc ht => ?_⟩
  exact hQ H' D acc (((((Lf.extN_upd hp0).trans e1).trans e2).trans e3).trans e4) hacc ht
def spRowsN (K : PySem.W.Frag) : Sp := fun vs H Q _ => ∃ u m : Tx, vs = [.str (S u), .str (S m)] ∧ u.length ≤ 20 ∧ m.length ≤ 20 ∧ ∀ H' p xs, ExtN H H' → H' p = some (.lst xs) → Tups H' xs ((rs2 (S u) (S m)).map fun r => (r, 2)) → Q (.ref p) H'
theorem sc_law_rows_of_names : FnScope ["_law_u", "_law_m", "_law_rows", "_law_row"] ["_law_u", "_law_m"] (defScope s_law_rows_of_names) := ⟨rfl, rfl, rfl, by decide +kernel, rfl, by decide +kernel, by decide +kernel⟩
theorem ok_law_rows_of_names (T : Txt w K mg) : Dok P w K mg base CX0 1 (ga K "_law_rows_of_names") ["_law_u", "_law_m"] (spRowsN K) := by
  obtain ⟨fd, F⟩ := T.d_law_rows_of_names
  have sc := sc_law_rows_of_names
  refine ⟨fd, F.ok sc (fun vs H Q E h => ?_) (fun cdv A outer s H vs Q E hr h => ?_), F.bindsN fun _ _ _ _ _ _ us hl => match us, hl with | [_, _], _ => rfl, F.kp⟩
  · obtain ⟨u, m, rfl, _⟩ := h
    rfl
  refine ⟨_, PSs.nox (pss_cons (ps_set (i := 2) sc.nd rfl (Or.inl rfl) (pe_lst (pa_cons (pe_op op_add_str pe_str (pv 0)) (pa_cons (pe_op op_add_str pe_str (pv 1)) (pa_cons (pe_op op_add_str pe_str (pv 1)) (pa_cons (pe_op op_add_str pe_str (pv 0)) (pa_cons (pe_op op_add_str pe_str (pv 0)) (pa_cons (pe_op op_add_str pe_str (pv 1)) (pa_cons (pe_op op_add_str pe_str (pv 0)) pa_nil))))))))) (pss_cons (ps_expr (pe_bm PySem.F.plainAttrs_list PySem.F.slot_list_append PySem.F.type_list_append mt_append (pv 2) (pa_cons (pe_op op_add_str (pe_op op_add_str pe_str (pv 0)) pe_str) pa_nil))) (pss_cons (ps_set (i := 2) sc.nd rfl (Or.inl rfl) (pe_op op_cat (pv 2) (pe_lst (pa_cons (pe_op op_add_str (pe_op op_add_str pe_str (pv 1)) pe_str) (pa_cons (pe_op op_add_str (pe_op op_add_str pe_str (pv 0)) pe_str) (pa_cons (pe_op op_add_str (pe_op op_add_str pe_str (pv 0)) pe_str) (pa_cons (pe_op op_add_str (pe_op op_add_str pe_str (pv 1)) pe_str) (pa_cons (pe_op op_add_str (pe_op op_add_str pe_str (pv 1)) pe_str) pa_nil)))))))) (pss_cons (ps_set (i := 2) sc.nd rfl (Or.inl rfl) (pe_op op_cat (pv 2) (pe_lst (pa_cons (pe_op op_add_str (pe_op op_add_str pe_str (pv 1)) pe_str) (pa_cons (pe_op op_add_str (pe_op op_add_str pe_str (pv 0)) pe_str) (pa_cons (pe_op op_add_str (pe_op op_add_str pe_str (pv 1)) pe_str) pa_nil)))))) (pss_one (ps_ret (pe_lc (own := [("_law_row", 3)]) (g := gName 3) (tt := tYes) rfl sc.nd (pi_list (pv 2)) (blkOk_by (own := [("_law_row", 3)]) (N := ["_law_u", "_law_m", "_law_rows", "_law_row"]) (sc := defScope s_law_rows_of_names) (by decide +kernel)) (fun _ _ _ _ _ => pg_name (i := 3) sc.nd rfl (Or.inl rfl)) (fun _ _ _ _ _ => pts_nil) (fun _ _ _ _ _ => (pe_tup (pa_cons (pv 3) (pa_cons pe_int pa_nil))))))))))), ?_⟩
  obtain ⟨u, m, rfl, hu, hm, hQ⟩ := h
  simp only [tSeq, tIfS, tOr, tAnd, tNot, tTest, tB, tOp, tCB, tCons, tNil, tVar, tC, tRet, tRetN, tNext, tDrop, tAsg, gName, gNil, gCons, gTup, gSub, tAug, tAugS, ipI, tCall, tMeth, tMake, tCmp, tAndV, tOrV, tNotV, tIf, tChain, tTup, tLst, tSl, tPart, tNoPart, tBM, tM0, tM1, tUn, rU, tFld, tCallS, tCKw, rIn, tMethF, Lf.tMethS, tDNotIn, tDGet, tDPop1, sDPut, sFld, tDNewK, rEq, rNe, rI, rI0, rIxL, rIxT, rIxS, rSub, rSlL, C8.rSlX, rNewStrs, tMake0, cxK, cxNK, tLc_list, tLc_rng1, tFor_list, tFor_str, tFor_rng1, tYes, wipe, L2.start, List.map_cons, List.map_nil, List.length_cons, List.length_nil, List.replicate, List.cons_append, List.nil_append, List.append_nil, Nat.reduceAdd, Nat.reduceSub, List.getElem?_cons_zero, List.getElem?_cons_succ, List.set_cons_zero, List.set_cons_succ, Option.some.injEq, exists_eq_left', exists_eq_left, exists_eq', and_true, true_and, exists_eq_right, exists_const, V.int.injEq, V.str.injEq, V.bl.injEq, V.ref.injEq, List.cons.injEq, scal_ii, scal_ss, scal_bb, decide_eq_true_eq, Bool.not_eq_true', decide_eq_false_iff_not, if_true, if_false, Bool.false_eq_true, exists_and_left, S_len, sz_le]
  simp (disch := omega) only [lenA, S_len, ll0, ll1, ll2, ll3, ll4, ll5, ll6, ll7, ll8, ll9, ll10, ll11, ll12, ll13, ll14, ll15, ll16, ll17, ll18, ll19, ll20, ll21, ll22, ll23, ll24, ll25, ll26, ll27, ll28, ll29, ll30, ll31, ll32, ll33, ll34, ll35, ll36, ll37, ll38, ll39, ll40, ll41, ll42, ll43, ll44, ll45, ll46, ll47, ll48, ll49, ll50, ll51, ll52, ll53, szT, true_and]
  intro p0 hp0
  refine ⟨.inl ⟨rfl, _, SqL.of upd_same⟩, p0, _, _, rfl, rfl, upd_same, Nat.lt_of_le_of_lt (show 7 ≤ 1000 by decide) (by rw [sizeLine_eq]; decide), fun p1 hp1 => ?_⟩
  refine cat_step upd_same hp1 (Nat.le_of_ble_eq_true rfl) fun r1 G1 e1 h1 p2 hp2 => ?_
  refine cat_step h1 hp2 (Nat.le_of_ble_eq_true rfl) fun r2 G2 e2 h2 => ?_
  refine ⟨r2, rfl, ⟨_, SqL.of h2⟩, fun D hD => lc_tups (rows := rs2 (S u) (S m)) (j := 3) (by show 3 < 4; decide) h2 (Nat.le_of_ble_eq_true rfl) hD fun H' acc e4 hacc ht => ?_⟩
  exact hQ H' D acc ((((upd2_ext hp0).trans e1).trans e2).trans e4) hacc ht
def rsT (g t u : Str) : List (Str × Int) := (rs3 g t u).map (fun r => (r, 3)) ++ (rs4 g u).map (fun r => (r, 4)) ++ (rs5 g t u).map (fun r => (r, 5))
def spRowsT (K : PySem.W.Frag) : Sp := fun vs H Q _ => ∃ g t u : Tx, vs = [.str (S g), .str (S t), .str (S u)] ∧ g.length ≤ 20 ∧ t.length ≤ 20 ∧ u.length ≤ 20 ∧ ∀ H' p xs, ExtN H H' → H' p = some (.lst xs) → Tups H' xs (rsT (S g) (S t) (S u)) → Q (.ref p) H'
theorem sc_law_rows_of_texts : FnScope ["_law_g", "_law_t", "_law_u", "_law_rows", "_law_found", "_law_row"] ["_law_g", "_law_t", "_law_u"] (defScope s_law_rows_of_texts) := ⟨rfl, rfl, rfl, by decide +kernel, rfl, by decide +kernel, by decide +kernel⟩
theorem ok_law_rows_of_texts (T : Txt w K mg) : Dok P w K mg base CX0 1 (ga K "_law_rows_of_texts") ["_law_g", "_law_t", "_law_u"] (spRowsT K) := by
  obtain ⟨fd, F⟩ := T.d_law_rows_of_texts
  have sc := sc_law_rows_of_texts
  refine ⟨fd, F.ok sc (fun vs H Q E h => ?_) (fun cdv A outer s H vs Q E hr h => ?_), F.bindsN fun _ _ _ _ _ _ us hl => match us, hl with | [_, _, _], _ => rfl, F.kp⟩
  · obtain ⟨g, t, u, rfl, _⟩ := h
    rfl
  refine ⟨_, PSs.nox (pss_cons (ps_set (i := 3) sc.nd rfl (Or.inl rfl) (pe_lst (pa_cons (pe_op op_add_str (pe_op op_add_str pe_str (pv 2)) pe_str) (pa_cons (pe_op op_add_str (pe_op op_add_str pe_str (pv 2)) pe_str) (pa_cons (pe_op op_add_str (pe_op op_add_str pe_str (pv 2)) pe_str) (pa_cons (pe_op op_add_str (pe_op op_add_str pe_str (pv 2)) pe_str) pa_nil)))))) (pss_cons (ps_set (i := 3) sc.nd rfl (Or.inl rfl) (pe_op op_cat (pv 3) (pe_lst (pa_cons (pe_op op_add_str (pe_op op_add_str pe_str (pv 2)) pe_str) (pa_cons (pe_op op_add_str (pe_op op_add_str pe_str (pv 2)) pe_str) (pa_cons (pe_op op_add_str (pe_op op_add_str pe_str (pv 2)) pe_str) pa_nil)))))) (pss_cons (ps_set (i := 3) sc.nd rfl (Or.inl rfl) (pe_op op_cat (pv 3) (pe_lst (pa_cons (pe_op op_add_str (pe_op op_add_str pe_str (pv 0)) pe_str) (pa_cons (pe_op op_add_str (pe_op op_add_str pe_str (pv 0)) pe_str) (pa_cons (pe_op op_add_str (pe_op op_add_str pe_str (pv 0)) pe_str) (pa_cons (pe_op op_add_str (pe_op op_add_str pe_str (pv 0)) pe_str) pa_nil))))))) (pss_cons (ps_set (i := 3) sc.nd rfl (Or.inl rfl) (pe_op op_cat (pv 3) (pe_lst (pa_cons (pe_op op_add_str (pe_op op_add_str pe_str (pv 0)) pe_str) (pa_cons (pe_op op_add_str (pe_op op_add_str pe_str (pv 0)) pe_str) (pa_cons (pe_op op_add_str (pe_op op_add_str pe_str (pv 0)) pe_str) (pa_cons (pe_op op_add_str (pe_op op_add_str pe_str (pv 1)) pe_str) pa_nil))))))) (pss_cons (ps_set (i := 3) sc.nd rfl (Or.inl rfl) (pe_op op_cat (pv 3) (pe_lst (pa_cons (pe_op op_add_str (pe_op op_add_str pe_str (pv 1)) pe_str) (pa_cons (pe_op op_add_str (pe_op op_add_str pe_str (pv 1)) pe_str) pa_nil))))) (pss_cons (ps_setLc (i := 4) (own := [("_law_row", 5)]) (g := gName 5) (tt := tYes) rfl sc.nd rfl rfl (sw_true rfl rfl rfl (by decide +kernel)) (pi_list (pv 3)) (blkOk_by (own := [("_law_row", 5)]) (N := ["_law_g", "_law_t", "_law_u", "_law_rows", "_law_found", "_law_row"]) (sc := defScope s_law_rows_of_texts) (by decide +kernel)) (fun _ _ _ _ _ => pg_name (i := 5) sc.nd rfl (Or.inl rfl)) (fun _ _ _ _ _ => pts_nil) (fun _ _ _ _ _ => (pe_tup (pa_cons (pv 5) (pa_cons pe_int pa_nil))))) (pss_cons (ps_set (i := 4) sc.nd rfl (Or.inl rfl) (pe_op op_cat (pv 4) (pe_lst (pa_cons (pe_tup (pa_cons (pe_op op_add_str (pe_op op_add_str pe_str (pv 2)) pe_str) (pa_cons pe_int pa_nil))) (pa_cons (pe_tup (pa_cons (pe_op op_add_str (pe_op op_add_str pe_str (pv 2)) pe_str) (pa_cons pe_int pa_nil))) (pa_cons (pe_tup (pa_cons (pe_op op_add_str (pe_op op_add_str pe_str (pv 0)) pe_str) (pa_cons pe_int pa_nil))) pa_nil)))))) (pss_cons (ps_set (i := 3) sc.nd rfl (Or.inl rfl) (pe_lst (pa_cons (pe_op op_add_str (pe_op op_add_str pe_str (pv 2)) pe_str) (pa_cons (pe_op op_add_str (pe_op op_add_str pe_str (pv 0)) pe_str) (pa_cons (pe_op op_add_str (pe_op op_add_str pe_str (pv 2)) pe_str) pa_nil))))) (pss_cons (ps_set (i := 3) sc.nd rfl (Or.inl rfl) (pe_op op_cat (pv 3) (pe_lst (pa_cons (pe_op op_add_str (pe_op op_add_str pe_str (pv 2)) pe_str) (pa_cons (pe_op op_add_str (pe_op op_add_str pe_str (pv 2)) pe_str) (pa_cons (pe_op op_add_str (pe_op op_add_str pe_str (pv 2)) pe_str) pa_nil)))))) (pss_cons (ps_set (i := 3) sc.nd rfl (Or.inl rfl) (pe_op op_cat (pv 3) (pe_lst (pa_cons (pe_op op_add_str (pe_op op_add_str pe_str (pv 0)) pe_str) (pa_cons (pe_op op_add_str (pe_op op_add_str pe_str (pv 1)) pe_str) pa_nil))))) (pss_cons (ps_set (i := 3) sc.nd rfl (Or.inl rfl) (pe_op op_cat (pv 3) (pe_lst (pa_cons (pe_op op_add_str (pe_op op_add_str pe_str (pv 0)) pe_str) (pa_cons (pe_op op_add_str (pe_op op_add_str pe_str (pv 1)) pe_str) (pa_cons (pe_op op_add_str (pe_op op_add_str pe_str (pv 2)) pe_str) pa_nil)))))) (pss_one (ps_ret (pe_op op_cat (pv 4) (pe_lc (own := [("_law_row", 5)]) (g := gName 5) (tt := tYes) rfl sc.nd (pi_list (pv 3)) (blkOk_by (own := [("_law_row", 5)]) (N := ["_law_g", "_law_t", "_law_u", "_law_rows", "_law_found", "_law_row"]) (sc := defScope s_law_rows_of_texts) (by decide +kernel)) (fun _ _ _ _ _ => pg_name (i := 5) sc.nd rfl (Or.inl rfl)) (fun _ _ _ _ _ => pts_nil) (fun _ _ _ _ _ => (pe_tup (pa_cons (pv 5) (pa_cons pe_int pa_nil))))))))))))))))))), ?_⟩
  obtain ⟨g, t, u, rfl, hg, ht, hu, hQ⟩ := h
  simp only [tSeq, tIfS, tOr, tAnd, tNot, tTest, tB, tOp, tCB, tCons, tNil, tVar, tC, tRet, tRetN, tNext, tDrop, tAsg, gName, gNil, gCons, gTup, gSub, tAug, tAugS, ipI, tCall, tMeth, tMake, tCmp, tAndV, tOrV, tNotV, tIf, tChain, tTup, tLst, tSl, tPart, tNoPart, tBM, tM0, tM1, tUn, rU, tFld, tCallS, tCKw, rIn, tMethF, Lf.tMethS, tDNotIn, tDGet, tDPop1, sDPut, sFld, tDNewK, rEq, rNe, rI, rI0, rIxL, rIxT, rIxS, rSub, rSlL, C8.rSlX, rNewStrs, tMake0, cxK, cxNK, tLc_list, tLc_rng1, tFor_list, tFor_str, tFor_rng1, tYes, wipe, L2.start, List.map_cons, List.map_nil, List.length_cons, List.length_nil, List.replicate, List.cons_append, List.nil_append, List.append_nil, Nat.reduceAdd, Nat.reduceSub, List.getElem?_cons_zero, List.getElem?_cons_succ, List.set_cons_zero, List.set_cons_succ, Option.some.injEq, exists_eq_left', exists_eq_left, exists_eq', and_true, true_and, exists_eq_right, exists_const, V.int.injEq, V.str.injEq, V.bl.injEq, V.ref.injEq, List.cons.injEq, scal_ii, scal_ss, scal_bb, decide_eq_true_eq, Bool.not_eq_true', decide_eq_false_iff_not, if_true, if_false, Bool.false_eq_true, exists_and_left, S_len, sz_le]
  simp (disch := omega) only [lenA, S_len, ll0, ll1, ll2, ll3, ll4, ll5, ll6, ll7, ll8, ll9, ll10, ll11, ll12, ll13, ll14, ll15, ll16, ll17, ll18, ll19, ll20, ll21, ll22, ll23, ll24, ll25, ll26, ll27, ll28, ll29, ll30, ll31, ll32, ll33, ll34, ll35, ll36, ll37, ll38, ll39, ll40, ll41, ll42, ll43, ll44, ll45, ll46, ll47, ll48, ll49, ll50, ll51, ll52, ll53, szT, true_and]
  intro p0 hp0 p1 hp1
  refine cat_step upd_same hp1 (Nat.le_of_ble_eq_true rfl) fun r1 G1 e1 h1 p2 hp2 => ?_
  refine cat_step h1 hp2 (Nat.le_of_ble_eq_true rfl) fun r2 G2 e2 h2 p3 hp3 => ?_
  refine cat_step h2 hp3 (Nat.le_of_ble_eq_true rfl) fun r3 G3 e3 h3 p4 hp4 => ?_
  refine cat_step h3 hp4 (Nat.le_of_ble_eq_true rfl) fun r4 G4 e4 h4 => ?_
  have X4 := ((((Lf.extN_upd hp0).trans e1).trans e2).trans e3).trans e4
  refine ⟨r4, rfl, ⟨_, SqL.of h4⟩, fun D hD => lc_tups (rows := rs3 (S g) (S t) (S u)) (j := 5) (by show 5 < 6; decide) h4 (Nat.le_of_ble_eq_true rfl) hD fun G5 acc e5 hacc ht3 => ?_⟩
  intro t1 ht1 t2 ht2 t3 ht3' pl hpl
  have y1 := Lf.extN_upd (o := .tup [V.str ("floor " ++ S u ++ " tailss -"), V.int 4]) ht1
  have y2 := Lf.extN_upd (o := .tup [V.str ("floor " ++ S u ++ " tail 1 2"), V.int 4]) ht2
  have y3 := Lf.extN_upd (o := .tup [V.str ("floor " ++ S g ++ " none -"), V.int 4]) ht3'
  have la : acc.length = 17 := ht3.1
  refine cat_step (((y1.trans y2).trans y3).l hacc) hpl (by rw [la]; exact Nat.le_of_ble_eq_true rfl) fun rf G6 e6 h6 q0 hq0 q1 hq1 => ?_
  have T4 : Tups G6 [.ref t1, .ref t2, .ref t3] ((rs4 (S g) (S u)).map fun r => (r, 4)) := tups3 (e6.same _ _ (y3.same _ _ (y2.same _ _ upd_same))) (e6.same _ _ (y3.same _ _ upd_same)) (e6.same _ _ upd_same)
  have T3 : Tups G6 acc ((rs3 (S g) (S t) (S u)).map fun r => (r, 3)) := ht3.ext (((y1.trans y2).trans y3).trans e6)
  refine cat_step upd_same hq1 (Nat.le_of_ble_eq_true rfl) fun r7 G7 e7 h7 q2 hq2 => ?_
  refine cat_step h7 hq2 (Nat.le_of_ble_eq_true rfl) fun r8 G8 e8 h8 q3 hq3 => ?_
  refine cat_step h8 hq3 (Nat.le_of_ble_eq_true rfl) fun r9 G9 e9 h9 => ?_
  have X9 := (((Lf.extN_upd hq0).trans e7).trans e8).trans e9
  refine ⟨r9, rfl, ⟨_, SqL.of h9⟩, fun D2 hD2 => lc_tups (rows := rs5 (S g) (S t) (S u)) (j := 5) (by show 5 < 6; decide) h9 (Nat.le_of_ble_eq_true rfl) hD2 fun G10 acc2 e10 hacc2 ht5 => ?_⟩
  have Y := X9.trans e10
  have la2 : acc2.length = 11 := ht5.1
  refine ⟨rf, D2, _, _, rfl, rfl, Y.l h6, hacc2, by rw [List.length_append, la, la2]; exact sz_le (Nat.le_of_ble_eq_true rfl), fun pz hpz => ?_⟩
  have z1 := Lf.extN_upd (o := .lst (acc ++ [.ref t1, .ref t2, .ref t3] ++ acc2)) hpz
  refine hQ _ pz _ ((((((X4.trans e5).trans ((y1.trans y2).trans y3)).trans e6).trans Y)).trans z1) upd_same ?_
  unfold rsT
  exact ((T3.ext (Y.trans z1)).app (T4.ext (Y.trans z1))).app (ht5.ext z1)
end
end Lf
set_option Elab.async false
set_option linter.all false
set_option maxRecDepth 100000
set_option maxHeartbeats 4000000
/-! _law_refused. -/
namespace Lf
open PySem PySem.Spec PyProof.Rows L2 LfR LamX LfM SX
section
variable {P : Program} {w : World} {K : PySem.W.Frag} {mg : Str → Option Value} {base : Heap}
theorem erC_in (e : Er) : excN.contains (erC e) = true := by cases e <;> decide +kernel
theorem erC_eq (e f : Er) : decide (erC e = erC f) = decide (e = f) := by cases e <;> cases f <;> decide +kernel
def spRefused (K : PySem.W.Frag) : Sp := fun vs H Q _ => ∃ (D d : Addr) (st : State) (row : Tx) (e : Er), vs = [.ref D, .str (S row)] ∧ DeskAt K H D d st ∧ GoodS st ∧ Tabs (TT K) H ∧ row.length ≤ 1000 ∧ sayM st row = .err e ∧
  ∀ H' p, XT K H H' → H' p = some (.lst [.bl (decide (e = .row)), .bl (decide (e = .name)), .bl (decide (e = .text)), .bl (decide (e = .kind)), .bl (decide (e = .floor)), .bl true]) → Q (.ref p) H'
theorem sc_law_refused : FnScope ["_law_desk", "_law_row", "_law_caught", "e", "_law_found"] ["_law_desk", "_law_row"] (defScope s_law_refused) := ⟨rfl, rfl, rfl, by decide +kernel, rfl, by decide +kernel, by decide +kernel⟩
theorem ok_law_refused (T : Txt w K mg) (B : TB2 K mg base) : Dok P w K mg base CX0 8 (ga K "_law_refused") ["_law_desk", "_law_row"] (spRefused K) := by
  obtain ⟨fd, F⟩ := T.d_law_refused
  have sc := sc_law_refused
  have D_Desk_say := ok_Desk_say (P := P) (base := base) T B
  refine ⟨fd, F.ok sc (fun vs H Q E h => ?_) (fun cdv A outer s H vs Q E hr h => ?_), F.bindsN fun _ _ _ _ _ _ us hl => match us, hl with | [_, _], _ => rfl, F.kp⟩
  · obtain ⟨D, d, st, row, e, rfl, _⟩ := h
    rfl
  refine ⟨_, PSs.nox (pss_cons (ps_set (i := 2) sc.nd rfl (Or.inl rfl) pe_non) (pss_cons (ps_try_keep (i := 3) (j := 2) rfl rfl rfl sc.nd rfl rfl rfl rfl (by decide) ⟨rfl, by decide, .inl (T.g "FloorError")⟩ rfl (by decide) (by decide) (fun W pn xe tk _ => pss_one (ps_expr (pe_oS D_Desk_say hr (T.c "Desk") (T.m "Desk" "say") (pv 0) tk (pa_cons (pv 1) pa_nil))))) (pss_cons (ps_if (pt_val (pe_callB call_isKT rfl (T.n "isinstance") (by decide +kernel) (pa_cons (pv 2) (pa_cons (pe_tup (pa_cons (pe_glob (v := V.ref (ga K "NoRoom")) rfl (T.g "NoRoom") rfl) (pa_cons (pe_glob (v := V.ref (ga K "NoOrder")) rfl (T.g "NoOrder") rfl) pa_nil))) pa_nil)))) (pss_one (ps_never)) pss_nil) (pss_cons (ps_set (i := 4) sc.nd rfl (Or.inl rfl) (pe_lst (pa_cons (pe_callB call_isK rfl (T.n "isinstance") (by decide +kernel) (pa_cons (pv 2) (pa_cons (pe_glob (v := V.ref (ga K "NoRow")) rfl (T.g "NoRow") rfl) pa_nil))) (pa_cons (pe_callB call_isK rfl (T.n "isinstance") (by decide +kernel) (pa_cons (pv 2) (pa_cons (pe_glob (v := V.ref (ga K "NoName")) rfl (T.g "NoName") rfl) pa_nil))) (pa_cons (pe_callB call_isK rfl (T.n "isinstance") (by decide +kernel) (pa_cons (pv 2) (pa_cons (pe_glob (v := V.ref (ga K "NoText")) rfl (T.g "NoText") rfl) pa_nil))) pa_nil))))) (pss_one (ps_ret (pe_op op_cat (pv 4) (pe_lst (pa_cons (pe_callB call_isK rfl (T.n "isinstance") (by decide +kernel) (pa_cons (pv 2) (pa_cons (pe_glob (v := V.ref (ga K "NoKind")) rfl (T.g "NoKind") rfl) pa_nil))) (pa_cons (pe_callB call_isK rfl (T.n "isinstance") (by decide +kernel) (pa_cons (pv 2) (pa_cons (pe_glob (v := V.ref (ga K "NoFloor")) rfl (T.g "NoFloor") rfl) pa_nil))) (pa_cons (pe_callB call_isK rfl (T.n "isinstance") (by decide +kernel) (pa_cons (pv 2) (pa_cons (pe_bltn (v := V.ty "ValueError") rfl (T.n "ValueError") (by decide +kernel) rfl) pa_nil))) pa_nil))))))))))), ?_⟩
  obtain ⟨D, d, st, row, e, rfl, hD, hg, hT, hl, he, hQ⟩ := h
  have hD' := hD
  obtain ⟨dx0, kvs, h1, h2, h3⟩ := hD'
  simp only [tSeq, tIfS, tOr, tAnd, tNot, tTest, tB, tOp, tCB, tCons, tNil, tVar, tC, tRet, tRetN, tNext, tDrop, tAsg, gName, gNil, gCons, gTup, gSub, tAug, tAugS, ipI, tCall, tMeth, tMake, tCmp, tAndV, tOrV, tNotV, tIf, tChain, tTup, tLst, tSl, tPart, tNoPart, tBM, tM0, tM1, tUn, rU, tFld, tCallS, tCKw, rIn, tMethF, Lf.tMethS, tDNotIn, tDGet, tDPop1, sDPut, sFld, tDNewK, rEq, rNe, rI, rI0, rIxL, rIxT, rIxS, rSub, rSlL, C8.rSlX, rNewStrs, tMake0, cxK, cxNK, tLc_list, tLc_rng1, tFor_list, tFor_str, tFor_rng1, tYes, wipe, L2.start, List.map_cons, List.map_nil, List.length_cons, List.length_nil, List.replicate, List.cons_append, List.nil_append, List.append_nil, Nat.reduceAdd, Nat.reduceSub, List.getElem?_cons_zero, List.getElem?_cons_succ, List.set_cons_zero, List.set_cons_succ, Option.some.injEq, exists_eq_left', exists_eq_left, exists_eq', and_true, true_and, exists_eq_right, exists_const, V.int.injEq, V.str.injEq, V.bl.injEq, V.ref.injEq, List.cons.injEq, scal_ii, scal_ss, scal_bb, decide_eq_true_eq, Bool.not_eq_true', decide_eq_false_iff_not, if_true, if_false, Bool.false_eq_true, exists_and_left, S_len, sz_le]
  refine ⟨by decide, dx0, _, h1, rfl, D, d, st, row, rfl, hD, hg, hT, hl, by rw [he]; simp, fun e' he' H1 X1 => ⟨T.t _ (erC_in e'), fun a ha => ?_⟩, fun tx st' h => by rw [he] at h; cases h⟩
  rw [he] at he'
  have ee : e = e' := by
    injection he'
  subst ee
  simp only [tSeq, tIfS, tOr, tAnd, tNot, tTest, tB, tOp, tCB, tCons, tNil, tVar, tC, tRet, tRetN, tNext, tDrop, tAsg, gName, gNil, gCons, gTup, gSub, tAug, tAugS, ipI, tCall, tMeth, tMake, tCmp, tAndV, tOrV, tNotV, tIf, tChain, tTup, tLst, tSl, tPart, tNoPart, tBM, tM0, tM1, tUn, rU, tFld, tCallS, tCKw, rIn, tMethF, Lf.tMethS, tDNotIn, tDGet, tDPop1, sDPut, sFld, tDNewK, rEq, rNe, rI, rI0, rIxL, rIxT, rIxS, rSub, rSlL, C8.rSlX, rNewStrs, tMake0, cxK, cxNK, tLc_list, tLc_rng1, tFor_list, tFor_str, tFor_rng1, tYes, wipe, L2.start, List.map_cons, List.map_nil, List.length_cons, List.length_nil, List.replicate, List.cons_append, List.nil_append, List.append_nil, Nat.reduceAdd, Nat.reduceSub, List.getElem?_cons_zero, List.getElem?_cons_succ, List.set_cons_zero, List.set_cons_succ, Option.some.injEq, exists_eq_left', exists_eq_left, exists_eq', and_true, true_and, exists_eq_right, exists_const, V.int.injEq, V.str.injEq, V.bl.injEq, V.ref.injEq, List.cons.injEq, scal_ii, scal_ss, scal_bb, decide_eq_true_eq, Bool.not_eq_true', decide_eq_false_iff_not, if_true, if_false, Bool.false_eq_true, exists_and_left, S_len, sz_le]
  have Xa := X1.up (o := ExK (.ref (ga K (erC e))) none a) ha
  have hxa : (upd H1 a (ExK (.ref (ga K (erC e))) none a)) a = some (ExK (.ref (ga K (erC e))) none a) := upd_same
  generalize upd H1 a (ExK (.ref (ga K (erC e))) none a) = G at Xa hxa ⊢
  have C := T.ec _ (erC_in e)
  refine ⟨sz_le (by decide), fun p hp => ?_⟩
  have y1 := Lf.extN_upd (o := .tup [V.ref (ga K "NoRoom"), V.ref (ga K "NoOrder")]) hp
  refine ⟨a, ga K (erC e), p, _, _, false, rfl, y1.same _ _ hxa, C, upd_same, .cons (.own _) (.cons (.own _) .nil), (T.kitV _ (erC_in e)).2, false, rfl, iteX (by decide) ?_⟩
  have hx1 := y1.same _ _ hxa
  have X1' := Xa.trans (.of y1)
  have isk : ∀ f : Er, PySem.W.kitOne K (.ref (ga K (erC e))) (.ref (ga K (erC f))) = some (decide (e = f)) := fun f => by
    rw [← erC_eq e f]
    exact T.kit _ _ (erC_in e) (erC_in f)
  generalize upd G p (.tup [V.ref (ga K "NoRoom"), V.ref (ga K "NoOrder")]) = G1 at X1' hx1 ⊢
  refine ⟨a, _, _, _, _, rfl, hx1, C, .own _, isk .row, ⟨a, _, _, _, _, rfl, hx1, C, .own _, isk .name, ⟨a, _, _, _, _, rfl, hx1, C, .own _, isk .text, sz_le (by decide), fun p2 hp2 => ?_⟩⟩⟩
  have y2 := Lf.extN_upd (o := .lst [V.bl (decide (e = .row)), V.bl (decide (e = .name)), V.bl (decide (e = .text))]) hp2
  have hx2 := y2.same _ _ hx1
  refine ⟨a, _, _, _, _, rfl, hx2, C, .own _, isk .kind, ⟨a, _, _, _, _, rfl, hx2, C, .own _, isk .floor, ⟨a, _, _, _, _, rfl, hx2, C, .ty _, (T.kitV _ (erC_in e)).1, sz_le (by decide), fun p3 hp3 => ?_⟩⟩⟩
  exact cat_step upd_same hp3 (Nat.le_of_ble_eq_true rfl) fun r G4 e4 h4 => hQ _ r ((X1'.trans (.of y2)).trans (.of e4)) h4
end
end Lf
set_option Elab.async false
set_option linter.all false
set_option maxRecDepth 100000
set_option maxHeartbeats 4000000
/-! plain facts of the law's end. -/
namespace Lf
open PySem PySem.Spec PyProof.Rows L2 LfR LamX LfM SX
section
variable {P : Program} {w : World} {K : PySem.W.Frag} {mg : Str → Option Value} {base : Heap}
theorem lln1 : (Str.ofString "tails ").length = 6 := rfl
theorem lln2 : (Str.ofString " tree 2 / 1 -1").length = 14 := rfl
theorem cutV_mem {xs : List V} {lo hi : Option Int} {x : V} (h : x ∈ cutV xs lo hi) : x ∈ xs := by
  unfold cutV at h
  exact List.mem_of_mem_drop (List.mem_of_mem_take h)
theorem names_small {l : List Tx} (h : ∀ x ∈ l, isWord x = true) (hl : l.length ≤ 3) : (((srt l).map S).map (·.length)).sum + ((srt l).map S).length * (S [32]).length ≤ 16777216 :=
  join_small [32] (m := 8) (k := 3) (fun x hx => (word_len (h x ((List.mergeSort_perm l leT).subset hx))).2) (by unfold srt; rw [List.length_mergeSort]; exact hl) (by decide)
def nmT (l : List Tx) : Tx := TL.joinL [32] (srt l)
theorem join_nm {l : List Tx} : Txt.join " " ((srt l).map S) = S (nmT l) := join_S [32] _
theorem XO.refl {d : Addr} (H : Hp) : XO K d H H := .of (.refl H)
theorem XO.trans {d : Addr} {H H1 H2 : Hp} (a : XO K d H H1) (b : XO K d H1 H2) : XO K d H H2 := ⟨fun p o hp e n => b.ext p o hp (a.ext p o hp e n) n, fun t => b.tab (a.tab t)⟩
theorem DeskAt.ne {H : Hp} {D d p : Addr} {st : State} {xs : List V} (h : DeskAt K H D d st) (e : H p = some (.lst xs)) : p ≠ d := fun z => by
  obtain ⟨dx, kvs, _, h2, _⟩ := h
  rw [z, h2] at e
  cases e
theorem XO.l {d p : Addr} {H H' : Hp} {xs : List V} (e : XO K d H H') (hp : p ≠ d) (h : H p = some (.lst xs)) : H' p = some (.lst xs) := e.ext p _ hp h fun ps z => by cases z
theorem XO.seq {d p D : Addr} {st : State} {H H' : Hp} {xs : List V} (e : XO K d H H') (hd : DeskAt K H D d st) (h : SqL K H p xs) : SqL K H' p xs := by
  obtain ⟨dx, kvs, _, h2, _⟩ := hd
  rcases h with (h | ⟨o, h⟩) | h
  · exact .inl (.inl (e.ext p _ (fun z => by rw [z, h2] at h; cases h) h (fun ps z => by cases z)))
  · exact .inl (.inr ⟨o, e.ext p _ (fun z => by rw [z, h2] at h; cases h) h (fun ps z => by cases z)⟩)
  · exact .inr h
theorem ints_cut {ns : List Int} (hb : ∀ z ∈ ns, Builtin.Int.intBits z ≤ 1048576) : ∀ v ∈ [V.int 2] ++ cutV (ns.map V.int) (some 2) (some 63), ∃ z : Int, v = .int z ∧ Bt1 z := by
  intro v hv
  rcases List.mem_append.mp hv with hv | hv
  · have hv := List.mem_singleton.mp hv
    exact ⟨2, hv, .small (by decide)⟩
  · obtain ⟨z, hz, rfl⟩ := List.mem_map.mp (cutV_mem hv)
    exact ⟨z, rfl, .bits (hb z hz)⟩
theorem works_end {ps : List (Nat × Nat)} (h : Drawn ps) : EndOk (2 : Fin 6) (worksR ps) := by
  refine .inl ⟨rfl, ?_, fun r hr => ?_⟩
  · unfold worksR
    rw [List.length_append, List.length_map]
    have := h.1
    show ps.length + 1 ≤ 12
    omega
  · unfold worksR at hr
    rcases List.mem_append.mp hr with hr | hr
    · obtain ⟨p, hp, rfl⟩ := List.mem_map.mp hr
      have := h.2 p hp
      exact ⟨(p.1 : Int), (p.2 : Int), 3, rfl, by omega, by omega, by omega, by omega, by decide, by decide⟩
    · have hr := List.mem_singleton.mp hr
      subst hr
      exact ⟨0, 1, 10, rfl, by decide, by decide, by decide, by decide, by decide, by decide⟩
theorem goodW {ps : List (Nat × Nat)} (h : Drawn ps) : GoodF (2, worksR ps) := ⟨0, rfl, works_end h⟩
theorem goodTr : GoodF (4, [[2], [1, -1]]) := ⟨1, rfl, .inr ⟨rfl, rfl⟩⟩
def st1 (g : Tx) (ps : List (Nat × Nat)) : State := [(g, (2, worksR ps))]
def st2 (g t : Tx) (ps : List (Nat × Nat)) : State := [(g, (2, worksR ps)), (t, (4, [[2], [1, -1]]))]
def st3 (g t u : Tx) (ps : List (Nat × Nat)) : State := [(g, (2, worksR ps)), (t, (4, [[2], [1, -1]])), (u, (2, worksR ps))]
theorem good0 : GoodS [] := ⟨by decide, fun p hp => by cases hp⟩
theorem good3 {g t u : Tx} {ps : List (Nat × Nat)} (h : Drawn ps) (hg : isWord g = true) (ht : isWord t = true) (hu : isWord u = true) : GoodS (st3 g t u ps) := by
  refine ⟨by show 3 < 60; decide, fun p hp => ?_⟩
  have l1 := (word_len hg).2
  have l2 := (word_len ht).2
  have l3 := (word_len hu).2
  unfold st3 at hp
  simp only [List.mem_cons, List.not_mem_nil, or_false] at hp
  rcases hp with rfl | rfl | rfl
  · exact ⟨goodW h, by dsimp only; omega⟩
  · exact ⟨goodTr, by dsimp only; omega⟩
  · exact ⟨goodW h, by dsimp only; omega⟩
theorem good2 {g t : Tx} {ps : List (Nat × Nat)} (h : Drawn ps) (hg : isWord g = true) (ht : isWord t = true) : GoodS (st2 g t ps) := by
  refine ⟨by show 2 < 60; decide, fun p hp => (good3 (u := g) h hg ht hg).2 p ?_⟩
  unfold st2 at hp
  unfold st3
  simp only [List.mem_cons, List.not_mem_nil, or_false] at hp ⊢
  rcases hp with h | h
  · exact .inl h
  · exact .inr (.inl h)
theorem good1 {g : Tx} {ps : List (Nat × Nat)} (h : Drawn ps) (hg : isWord g = true) : GoodS (st1 g ps) := by
  refine ⟨by show 1 < 60; decide, fun p hp => (good3 (t := g) (u := g) h hg hg hg).2 p ?_⟩
  unfold st1 at hp
  unfold st3
  simp only [List.mem_cons, List.not_mem_nil, or_false] at hp ⊢
  exact .inl hp
theorem put2 {g t : Tx} {ps : List (Nat × Nat)} (h : g ≠ t) : putS (st1 g ps) t (4, [[2], [1, -1]]) = st2 g t ps := by
  unfold putS st1 st2
  simp [h]
theorem put3 {g t u : Tx} {ps : List (Nat × Nat)} (h1 : g ≠ u) (h2 : t ≠ u) : putS (st2 g t ps) u (2, worksR ps) = st3 g t u ps := by
  unfold putS st2 st3
  simp [h1, h2]
theorem drop3 {g t u : Tx} {ps : List (Nat × Nat)} (h1 : g ≠ u) (h2 : t ≠ u) : dropS (st3 g t u ps) u = st2 g t ps := by
  unfold dropS st2 st3
  simp [h1, h2]
theorem look_cons {n m : Tx} {v : Fl} {s : State} : look ((n, v) :: s) m = if n == m then some v else look s m := rfl
theorem look_g {g : Tx} {v : Fl} {s : State} : look ((g, v) :: s) g = some v := by
  rw [look_cons, if_pos (by simp)]
theorem look_n {g m : Tx} {v : Fl} {s : State} (h : g ≠ m) : look ((g, v) :: s) m = look s m := by
  rw [look_cons, if_neg (by simpa using h)]
theorem known {g t u m : Tx} {ps : List (Nat × Nat)} (hg : isWord g = true) (ht : isWord t = true) (hu : isWord u = true) (hm : isWord m = false) (bm : 32 ∉ m) (n1 : g ≠ t) (n2 : g ≠ u) (n3 : t ≠ u) : Known (st2 g t ps) g t u m (worksR ps) :=
  ⟨hg, ht, hu, hm, bm, look_g, (look_n n1).trans look_g, (look_n n2).trans ((look_n n3).trans rfl), (look_n (fun z => by rw [z, hm] at hg; cases hg)).trans ((look_n (fun z => by rw [z, hm] at ht; cases ht)).trans rfl)⟩
theorem tx_tails {ps : List (Nat × Nat)} : ("tails " ++ S (worksT ps) : Str) = S (floorT ps) := by
  show S [116, 97, 105, 108, 115, 32] ++ S (worksT ps) = _
  rw [S_cat] <;> rfl
theorem tx_floor {g : Tx} {b : Tx} : ("floor " ++ S g ++ " " ++ S b : Str) = S (wFloor ++ ([32] ++ (g ++ ([32] ++ b)))) := by
  show S [102, 108, 111, 111, 114, 32] ++ S g ++ S [32] ++ S b = _
  rw [S_cat, S_cat, S_cat, List.append_assoc, List.append_assoc] <;> rfl
theorem tx_tree {t : Tx} : ("floor " ++ S t ++ " tree 2 / 1 -1" : Str) = S (wFloor ++ ([32] ++ (t ++ ([32] ++ treeT)))) := by
  show S [102, 108, 111, 111, 114, 32] ++ S t ++ S [32, 116, 114, 101, 101, 32, 50, 32, 47, 32, 49, 32, 45, 49] = _
  rw [S_cat, S_cat, List.append_assoc] <;> rfl
theorem tx_show {g : Tx} : ("show " ++ S g : Str) = S (wShow ++ ([32] ++ g)) := by
  show S [115, 104, 111, 119, 32] ++ S g = _
  rw [S_cat] <;> rfl
theorem tx_drop {g : Tx} : ("drop " ++ S g : Str) = S (wDrop ++ ([32] ++ g)) := by
  show S [100, 114, 111, 112, 32] ++ S g = _
  rw [S_cat] <;> rfl
theorem work_len {p : Nat × Nat} : (workT p).length = 5 := rfl
theorem worksT_len {ps : List (Nat × Nat)} (h : ps.length ≤ 11) : (worksT ps).length ≤ 120 := by
  have := joinL_len (sep := [32, 47, 32]) (m := 6) (l := ps.map workT ++ [lastT]) fun x hx => by
    rcases List.mem_append.mp hx with hx | hx
    · obtain ⟨p, _, rfl⟩ := List.mem_map.mp hx
      exact Nat.le_of_ble_eq_true rfl
    · have hx := List.mem_singleton.mp hx
      subst hx
      exact Nat.le_of_ble_eq_true rfl
  unfold worksT
  rw [List.length_append, List.length_map] at this
  have l3 : [32, 47, 32].length = 3 := rfl
  have l1 : [lastT].length = 1 := rfl
  rw [l3, l1] at this
  omega
theorem floorT_len {ps : List (Nat × Nat)} (h : ps.length ≤ 11) : (floorT ps).length ≤ 130 := by
  have := worksT_len h
  unfold floorT
  rw [List.length_append, List.length_append]
  show 5 + (1 + _) ≤ 130
  omega
theorem rl1 {g u : Tx} (hg : g.length ≤ 20) (hu : u.length ≤ 20) : ∀ x ∈ rs1 (S g) (S u), x.length ≤ 1000 := by
  simp only [rs1, List.forall_mem_cons, List.not_mem_nil, false_implies, implies_true, and_true, lenA, S_len, ll0, ll1, ll2, ll3, ll4, ll5, ll6, ll7, ll8, ll9, ll10, ll11, ll12, ll13, ll14, ll15, ll16, ll17, ll18, ll19, ll20, ll21, ll22, ll23, ll24, ll25, ll26, ll27, ll28, ll29, ll30, ll31, ll32, ll33, ll34, ll35, ll36, ll37, ll38, ll39, ll40, ll41, ll42, ll43, ll44, ll45, ll46, ll47, ll48, ll49, ll50, ll51, ll52, ll53]
  (repeat' apply And.intro) <;> first | omega | trivial
theorem rl2 {u m : Tx} (hu : u.length ≤ 20) (hm : m.length ≤ 20) : ∀ x ∈ rs2 (S u) (S m), x.length ≤ 1000 := by
  simp only [rs2, List.forall_mem_cons, List.not_mem_nil, false_implies, implies_true, and_true, lenA, S_len, ll0, ll1, ll2, ll3, ll4, ll5, ll6, ll7, ll8, ll9, ll10, ll11, ll12, ll13, ll14, ll15, ll16, ll17, ll18, ll19, ll20, ll21, ll22, ll23, ll24, ll25, ll26, ll27, ll28, ll29, ll30, ll31, ll32, ll33, ll34, ll35, ll36, ll37, ll38, ll39, ll40, ll41, ll42, ll43, ll44, ll45, ll46, ll47, ll48, ll49, ll50, ll51, ll52, ll53]
  (repeat' apply And.intro) <;> first | omega | trivial
theorem rl3 {g t u : Tx} (hg : g.length ≤ 20) (ht : t.length ≤ 20) (hu : u.length ≤ 20) : ∀ x ∈ rs3 (S g) (S t) (S u), x.length ≤ 1000 := by
  simp only [rs3, List.forall_mem_cons, List.not_mem_nil, false_implies, implies_true, and_true, lenA, S_len, ll0, ll1, ll2, ll3, ll4, ll5, ll6, ll7, ll8, ll9, ll10, ll11, ll12, ll13, ll14, ll15, ll16, ll17, ll18, ll19, ll20, ll21, ll22, ll23, ll24, ll25, ll26, ll27, ll28, ll29, ll30, ll31, ll32, ll33, ll34, ll35, ll36, ll37, ll38, ll39, ll40, ll41, ll42, ll43, ll44, ll45, ll46, ll47, ll48, ll49, ll50, ll51, ll52, ll53]
  (repeat' apply And.intro) <;> first | omega | trivial
theorem rl4 {g u : Tx} (hg : g.length ≤ 20) (hu : u.length ≤ 20) : ∀ x ∈ rs4 (S g) (S u), x.length ≤ 1000 := by
  simp only [rs4, List.forall_mem_cons, List.not_mem_nil, false_implies, implies_true, and_true, lenA, S_len, ll0, ll1, ll2, ll3, ll4, ll5, ll6, ll7, ll8, ll9, ll10, ll11, ll12, ll13, ll14, ll15, ll16, ll17, ll18, ll19, ll20, ll21, ll22, ll23, ll24, ll25, ll26, ll27, ll28, ll29, ll30, ll31, ll32, ll33, ll34, ll35, ll36, ll37, ll38, ll39, ll40, ll41, ll42, ll43, ll44, ll45, ll46, ll47, ll48, ll49, ll50, ll51, ll52, ll53]
  (repeat' apply And.intro) <;> first | omega | trivial
theorem rl5 {g t u : Tx} (hg : g.length ≤ 20) (ht : t.length ≤ 20) (hu : u.length ≤ 20) : ∀ x ∈ rs5 (S g) (S t) (S u), x.length ≤ 1000 := by
  simp only [rs5, List.forall_mem_cons, List.not_mem_nil, false_implies, implies_true, and_true, lenA, S_len, ll0, ll1, ll2, ll3, ll4, ll5, ll6, ll7, ll8, ll9, ll10, ll11, ll12, ll13, ll14, ll15, ll16, ll17, ll18, ll19, ll20, ll21, ll22, ll23, ll24, ll25, ll26, ll27, ll28, ll29, ll30, ll31, ll32, ll33, ll34, ll35, ll36, ll37, ll38, ll39, ll40, ll41, ll42, ll43, ll44, ll45, ll46, ll47, ll48, ll49, ll50, ll51, ll52, ll53]
  (repeat' apply And.intro) <;> first | omega | trivial
/-- all the rows with their marks -/
def rsAll (g t u m : Str) : List (Str × Int) := (rs1 g u).map (fun r => (r, 1)) ++ (rs2 u m).map (fun r => (r, 2)) ++ rsT g t u
theorem bad_part {st : State} {l : List Str} {n : Int} {e : Er} (hb : ∀ x ∈ l, ∃ a, x = S a ∧ sayM st a = .err e) (hl : ∀ x ∈ l, x.length ≤ 1000) (hn : e.no = n) : ∀ r ∈ l.map (fun r => (r, n)), ∃ (a : Tx) (e : Er), r.1 = S a ∧ a.length ≤ 1000 ∧ sayM st a = .err e ∧ r.2 = e.no := by
  intro r hr
  obtain ⟨x, hx, rfl⟩ := List.mem_map.mp hr
  obtain ⟨a, rfl, ha⟩ := hb x hx
  refine ⟨a, e, rfl, ?_, ha, hn.symm⟩
  have := hl _ hx
  rw [S_len] at this
  exact this
theorem bad_all {st : State} {g t u m : Tx} {rs : Rows} (k : Known st g t u m rs) (hm : m.length ≤ 20) : ∀ r ∈ rsAll (S g) (S t) (S u) (S m), ∃ (a : Tx) (e : Er), r.1 = S a ∧ a.length ≤ 1000 ∧ sayM st a = .err e ∧ r.2 = e.no := by
  have l1 := (word_len k.wg).2
  have l2 := (word_len k.wt).2
  have l3 := (word_len k.wu).2
  intro r hr
  unfold rsAll rsT at hr
  simp only [List.mem_append] at hr
  rcases hr with (hr | hr) | ((hr | hr) | hr)
  · exact bad_part (bad1 k) (rl1 (by omega) (by omega)) rfl r hr
  · exact bad_part (bad2 k) (rl2 (by omega) (by omega)) rfl r hr
  · exact bad_part (bad3 k) (rl3 (by omega) (by omega) (by omega)) rfl r hr
  · exact bad_part (bad4 k) (rl4 (by omega) (by omega)) rfl r hr
  · exact bad_part (bad5 k) (rl5 (by omega) (by omega) (by omega)) rfl r hr
theorem rsAll_len (g t u m : Str) : (rsAll g t u m).length = 70 := by
  unfold rsAll rsT
  simp only [List.length_append, List.length_map]
  rfl
theorem say_ok {x d : Addr} {st st' : State} {row tx : Tx} {H : Hp} {Q : V → Hp → Prop} {E : XK} (hs : sayM st row = .ok (tx, st')) (hD : DeskAt K H x d st) (hg : GoodS st) (hT : Tabs (TT K) H) (hl : row.length ≤ 1000)
    (h : ∀ H', XO K d H H' → DeskAt K H' x d st' → Tabs (TT K) H' → Q (.str (S tx)) H') : spSay K [.ref x, .str (S row)] H Q E :=
  ⟨x, d, st, row, rfl, hD, hg, hT, hl, by rw [hs]; simp, (fun e he => by rw [hs] at he; cases he), fun tx' st'' h2 H' X D' => by
    rw [hs] at h2
    cases h2
    exact h H' X D' (X.tab hT)⟩
theorem say_n2 {g t : Tx} {ps : List (Nat × Nat)} : sayM (st2 g t ps) wNames = .ok (nmT [g, t], st2 g t ps) := say_names _
theorem say_n3 {g t u : Tx} {ps : List (Nat × Nat)} : sayM (st3 g t u ps) wNames = .ok (nmT [g, t, u], st3 g t u ps) := say_names _
theorem say_sg {g t : Tx} {ps : List (Nat × Nat)} (h : Drawn ps) (wg : isWord g = true) : sayM (st2 g t ps) (wShow ++ ([32] ++ g)) = .ok (floorT ps, st2 g t ps) := by
  rw [say_show (st := st2 g t ps) wg (k := 2) (rs := worksR ps) look_g, works_show h] <;> rfl
theorem say_st {g t : Tx} {ps : List (Nat × Nat)} (wt : isWord t = true) (n1 : g ≠ t) : sayM (st2 g t ps) (wShow ++ ([32] ++ t)) = .ok (treeT, st2 g t ps) := by
  rw [say_show (st := st2 g t ps) wt (k := 4) (rs := [[2], [1, -1]]) ((look_n n1).trans look_g), tree_show]
theorem look_u3 {g t u : Tx} {ps : List (Nat × Nat)} (n2 : g ≠ u) (n3 : t ≠ u) : look (st3 g t u ps) u = some (2, worksR ps) := (look_n n2).trans ((look_n n3).trans look_g)
theorem say_su {g t u : Tx} {ps : List (Nat × Nat)} (h : Drawn ps) (wu : isWord u = true) (n2 : g ≠ u) (n3 : t ≠ u) : sayM (st3 g t u ps) (wShow ++ ([32] ++ u)) = .ok (floorT ps, st3 g t u ps) := by
  rw [say_show wu (k := 2) (rs := worksR ps) (look_u3 n2 n3), works_show h] <;> rfl
theorem say_du {g t u : Tx} {ps : List (Nat × Nat)} (wu : isWord u = true) (n2 : g ≠ u) (n3 : t ≠ u) : sayM (st3 g t u ps) (wDrop ++ ([32] ++ u)) = .ok (wOk, st2 g t ps) := by
  rw [say_drop wu (look_u3 n2 n3), drop3 n2 n3]
theorem say_fu {g t u : Tx} {ps : List (Nat × Nat)} (h : Drawn ps) (wu : isWord u = true) (n2 : g ≠ u) (n3 : t ≠ u) : sayM (st2 g t ps) (wFloor ++ ([32] ++ (u ++ ([32] ++ floorT ps)))) = .ok (wOk, st3 g t u ps) := by
  rw [say_floor wu (floor_read h), put3 n2 n3]
theorem say_xu {g t u : Tx} {ps : List (Nat × Nat)} (wu : isWord u = true) (n2 : g ≠ u) (n3 : t ≠ u) : sayM (st2 g t ps) (wShow ++ ([32] ++ u)) = .err .name :=
  say_show_no wu ((look_n n2).trans ((look_n n3).trans rfl))
/-- the bools that a refusal shows -/
def bsR (e : Er) : List V := [.bl (decide (e = .row)), .bl (decide (e = .name)), .bl (decide (e = .text)), .bl (decide (e = .kind)), .bl (decide (e = .floor)), .bl true]
def bsD (e : Er) : PyData := .list [.bool (decide (e = .row)), .bool (decide (e = .name)), .bool (decide (e = .text)), .bool (decide (e = .kind)), .bool (decide (e = .floor)), .bool true]
theorem bsR_dp {H : Hp} {p : Addr} {e : Er} (h : H p = some (.lst (bsR e))) : Dp K H (.ref p) (bsD e) :=
  .lst (SqL.of h) (.cons (.bl _) (.cons (.bl _) (.cons (.bl _) (.cons (.bl _) (.cons (.bl _) (.cons (.bl _) .nil))))))
theorem bsD_shaped (e : Er) : SeqAt.shaped (bsD e) = true := by cases e <;> decide +kernel
theorem bsD_eqv (e : Er) : PyData.eqv (bsD e) (bsD e) = true := by cases e <;> decide +kernel
def fMark (e : Er) : V → Option V
  | .int z => some (.bl (decide (e.no = z + 1)))
  | _ => none
theorem marks (e : Er) : (rngL 5).filterMap (fMark e) ++ [V.bl true] = bsR e := by cases e <;> rfl
def fName : V → Option V
  | .int z => some (.bl (decide (z = 1 ∨ z = 5)))
  | _ => none
theorem namesL : (rngL 6).filterMap fName = bsR .name := by rfl
theorem len_row {w n : Tx} (h : n.length ≤ 900) (hw : w.length ≤ 10) : (w ++ ([32] ++ n)).length ≤ 1000 := by
  simp only [List.length_append, List.length_cons, List.length_nil]
  omega
theorem six {acc : List V} (hl : acc.length = 6) (h : ∀ (i : Nat) (y : V), acc[i]? = some y → y = V.bl (inV (.int (i : Nat)) [.int 1, .int 5])) : acc = bsR .name := by
  match acc, hl with
  | [a, b, c, d, e, f], _ =>
    rw [h 0 a rfl, h 1 b rfl, h 2 c rfl, h 3 d rfl, h 4 e rfl, h 5 f rfl]
    rfl
end
end Lf
set_option Elab.async false
set_option linter.all false
set_option maxRecDepth 100000
set_option maxHeartbeats 4000000
/-! the law. -/
namespace Lf
open PySem PySem.Spec PyProof.Rows L2 LfR LamX LfM SX
section
variable {P : Program} {w : World} {K : PySem.W.Frag} {mg : Str → Option Value} {base : Heap}
theorem pe_new {X : Cx} {k j : Nat} {f C : Addr} {ps : List Str} {sp : Sp} {x : Str} {p pos : Pos} (D : Dok X.prog X.w X.K X.mg X.base CX0 k f ps sp) (M : Mk X.K C f) (hr : Room j X.A) (hm : X.mg x = some (.ref C)) (hk : k + 1 ≤ j := by decide) (hg : Gl X x := by rfl)
    (hdb : (x == ("__debug__" : Str)) = false := by decide) : PE X (.Call (.Name x p) [] [] pos) (tMake C sp [] E0 tNil) := by
  obtain ⟨fd, F, b, kp⟩ := D
  exact pe_make0 M F (hr.mono hk) hg hm b .nil pass0 hdb
def spInit (K : PySem.W.Frag) : Sp := fun vs H Q _ => ∃ (x dx : Addr), vs = [.ref x] ∧ H x = some (.ins (ga K "Desk") dx []) ∧ ∀ d, H d = none → Q .non (upd (upd H d (.dK [])) x (.ins (ga K "Desk") dx [("floors", .ref d)]))
theorem sc_Desk_init : FnScope ["self"] ["self"] (defScope s_Desk_init) := ⟨rfl, rfl, rfl, by decide +kernel, rfl, by decide +kernel, by decide +kernel⟩
theorem ok_Desk_init (T : Txt w K mg) : Dok P w K mg base CX0 1 (ma K "Desk" "__init__") ["self"] (spInit K) := by
  obtain ⟨fd, F⟩ := T.d_Desk_init
  have sc := sc_Desk_init
  refine ⟨fd, F.ok sc (fun vs H Q E h => ?_) (fun cdv A outer s H vs Q E hr h => ?_), F.bindsN fun _ _ _ _ _ _ us hl => match us, hl with | [_], _ => rfl, F.kp⟩
  · obtain ⟨x, dx, rfl, _⟩ := h
    rfl
  refine ⟨_, PSs.nox (pss_one (ps_fld (pv 0) pe_dnewK rfl)), ?_⟩
  obtain ⟨x, dx, rfl, hx, hQ⟩ := h
  simp only [tSeq, tIfS, tOr, tAnd, tNot, tTest, tB, tOp, tCB, tCons, tNil, tVar, tC, tRet, tRetN, tNext, tDrop, tAsg, gName, gNil, gCons, gTup, gUnl, gSub, tAug, tAugS, ipI, tCall, tMeth, tMake, tCmp, tAndV, tOrV, tNotV, tIf, tChain, tTup, tLst, tSl, tPart, tNoPart, tBM, tM0, tM1, tUn, rU, tFld, tCallS, tCKw, rIn, tMethF, Lf.tMethS, tDNotIn, tDGet, tDPop1, sDPut, sFld, tDNewK, rEq, rNe, rI, rI0, rIxL, rIxT, rIxS, rSub, rSlL, C8.rSlX, rNewStrs, tMake0, cxK, cxNK, tLc_list, tLc_rng1, tFor_list, tFor_str, tFor_rng1, tYes, wipe, L2.start, List.map_cons, List.map_nil, List.length_cons, List.length_nil, List.replicate, List.cons_append, List.nil_append, List.append_nil, Nat.reduceAdd, Nat.reduceSub, List.getElem?_cons_zero, List.getElem?_cons_succ, List.set_cons_zero, List.set_cons_succ, Option.some.injEq, exists_eq_left', exists_eq_left, exists_eq', and_true, true_and, exists_eq_right, exists_const, V.int.injEq, V.str.injEq, V.bl.injEq, V.ref.injEq, List.cons.injEq, scal_ii, scal_ss, scal_bb, decide_eq_true_eq, Bool.not_eq_true', decide_eq_false_iff_not, if_true, if_false, Bool.false_eq_true, exists_and_left, S_len, sz_le]
  intro d hd
  have hx2 : (upd H d (.dK [])) x = some (.ins (ga K "Desk") dx []) := by
    rw [upd_ne (fun z => by rw [z, hd] at hx; cases hx)]
    exact hx
  exact ⟨_, dx, _, hx2, T.c "Desk", T.noF, by decide, hQ d hd⟩
theorem dig {z : Int} (h0 : 0 ≤ z) (h1 : z < 10) : Str.ofString (toString z) = S [48 + z.toNat] := by
  obtain ⟨n, rfl⟩ := Int.eq_ofNat_of_zero_le h0
  rw [num_S, TL.numL_lt (by omega), show ((n : Nat) : Int).toNat = n by omega]
/-- the k-th drawn work -/
def pkM (c : Int) (k : Nat) : Nat × Nat := ((mixM c (k : Nat) % 9).toNat, (1 + mixM c ((k : Nat) + 20) % 9).toNat)
theorem pkM_ok (c : Int) (k : Nat) : (pkM c k).1 < 9 ∧ 1 ≤ (pkM c k).2 ∧ (pkM c k).2 < 10 := by
  have h1 : 0 ≤ mixM c (k : Nat) % 9 ∧ mixM c (k : Nat) % 9 < 9 := ⟨Int.emod_nonneg _ (by decide), Int.emod_lt_of_pos _ (by decide)⟩
  have h2 : 0 ≤ mixM c ((k : Nat) + 20) % 9 ∧ mixM c ((k : Nat) + 20) % 9 < 9 := ⟨Int.emod_nonneg _ (by decide), Int.emod_lt_of_pos _ (by decide)⟩
  unfold pkM
  refine ⟨?_, ?_, ?_⟩ <;> dsimp only <;> omega
def spLaw (K : PySem.W.Frag) : Sp := fun vs H Q _ => ∃ (a : Addr) (ns : List Int), vs = [.ref a] ∧ SqL K H a (ns.map V.int) ∧ ns.length ≤ 63 ∧ (∀ z ∈ ns, Builtin.Int.intBits z ≤ 1048576) ∧ Tabs (TT K) H ∧ ∀ H', Q (.bl true) H'
theorem sc_law : FnScope ["_law_script", "_law_desk", "_law_g", "_law_t", "_law_u", "_law_cell", "_law_works", "_law_text", "_law_listed", "_law_one", "_law_rows", "_law_row", "_law_mark", "_law_k"] ["_law_script"] (defScope s_law) := ⟨rfl, rfl, rfl, by decide +kernel, rfl, by decide +kernel, by decide +kernel⟩
theorem ok_law (T : Txt w K mg) (B : TB2 K mg base) {fd : FuncData} (F : FnP K "law" "law" s_law (ga K "law") fd) : FnOk P w K mg base (L2.CX P w) 9 (ga K "law") fd ["_law_script"] (spLaw K) := by
  have sc := sc_law
  have D_Desk_init := ok_Desk_init (P := P) (base := base) T
  have D_Desk_say := ok_Desk_say (P := P) (base := base) T B
  have D_law_refused := ok_law_refused (P := P) (base := base) T B
  have D_law_mix := ok_law_mix (P := P) (base := base) T
  have D_law_cell_at := ok_law_cell_at (P := P) (base := base) T
  have D_law_names := ok_law_names (P := P) (base := base) T
  have D_law_no_name := ok_law_no_name (P := P) (base := base) T
  have D_law_rows_of_words := ok_law_rows_of_words (P := P) (base := base) T
  have D_law_rows_of_names := ok_law_rows_of_names (P := P) (base := base) T
  have D_law_rows_of_texts := ok_law_rows_of_texts (P := P) (base := base) T
  refine F.ok sc (fun vs H Q E h => ?_) (fun cdv A outer s H vs Q E hr h => ?_)
  · obtain ⟨a, ns, rfl, _⟩ := h
    rfl
  refine ⟨_, (pss_cons (ps_set (i := 1) sc.nd rfl (Or.inl rfl) (pe_new D_Desk_init T.mkD hr (T.g "Desk"))) (pss_cons (ps_asg (pe_f D_law_names hr (T.g "_law_names") (pa_cons (pe_f D_law_cell_at hr (T.g "_law_cell_at") (pa_cons (pv 0) (pa_cons pe_int pa_nil))) pa_nil)) (pg_unl rfl (pgs_cons (pg_name (i := 2) sc.nd rfl (Or.inl rfl)) (pgs_cons (pg_name (i := 3) sc.nd rfl (Or.inl rfl)) (pgs_cons (pg_name (i := 4) sc.nd rfl (Or.inl rfl)) pgs_nil))))) (pss_cons (ps_set (i := 5) sc.nd rfl (Or.inr rfl) (pe_f D_law_cell_at hr (T.g "_law_cell_at") (pa_cons (pv 0) (pa_cons pe_int pa_nil)))) (pss_cons (ps_setLc (i := 6) (own := [("_law_k", 13)]) (g := gName 13) (tt := tYes) rfl sc.nd rfl rfl (sw_true rfl rfl rfl (by decide +kernel)) (pi_range1 rfl (T.n "range") (pa_cons (pe_op op_mod (pv 5) pe_int) pa_nil)) (blkOk_by (own := [("_law_k", 13)]) (N := ["_law_script", "_law_desk", "_law_g", "_law_t", "_law_u", "_law_cell", "_law_works", "_law_text", "_law_listed", "_law_one", "_law_rows", "_law_row", "_law_mark", "_law_k"]) (sc := defScope s_law) (by decide +kernel)) (fun _ _ _ _ _ => pg_name (i := 13) sc.nd rfl (Or.inl rfl)) (fun _ _ _ _ _ => pts_nil) (fun _ _ _ _ _ => (pe_op op_add_str (pe_op op_add_str (pe_op op_add_str (pe_callTy call_str_int rfl (T.n "str") (by decide +kernel) (pa_cons (pe_op op_mod (pe_f D_law_mix hr (T.g "_law_mix") (pa_cons (pv 5) (pa_cons (pv 13) pa_nil))) pe_int) pa_nil)) pe_str) (pe_callTy call_str_int rfl (T.n "str") (by decide +kernel) (pa_cons (pe_op op_add pe_int (pe_op op_mod (pe_f D_law_mix hr (T.g "_law_mix") (pa_cons (pv 5) (pa_cons (pe_op op_add (pv 13) pe_int) pa_nil))) pe_int)) pa_nil))) pe_str))) (pss_cons (ps_set (i := 7) sc.nd rfl (Or.inl rfl) (pe_op op_add_str pe_str (pe_join pe_str (pe_op op_cat (pv 6) (pe_lst (pa_cons pe_str pa_nil)))))) (pss_cons (ps_if (PW.pt (pw_or (pt_cmpR op_ne (pe_o D_Desk_say hr (T.c "Desk") (T.m "Desk" "say") (pv 1) (pass_out (takes_of rfl rfl rfl rfl)) (pa_cons (pe_op op_add_str (pe_op op_add_str (pe_op op_add_str pe_str (pv 2)) pe_str) (pv 7)) pa_nil)) pe_str (nomark _)) (pw_or1 (pt_cmpR op_ne (pe_o D_Desk_say hr (T.c "Desk") (T.m "Desk" "say") (pv 1) (pass_out (takes_of rfl rfl rfl rfl)) (pa_cons (pe_op op_add_str (pe_op op_add_str pe_str (pv 3)) pe_str) pa_nil)) pe_str (nomark _))))) (pss_one (ps_ret pe_bl)) pss_nil) (pss_cons (ps_set (i := 8) sc.nd rfl (Or.inl rfl) (pe_join pe_str (pe_callB cr_sortedS rfl (T.n "sorted") (by decide +kernel) (pa_cons (pe_lst (pa_cons (pv 2) (pa_cons (pv 3) pa_nil))) pa_nil)))) (pss_cons (ps_for (passes_of rfl) rfl (pi_list (pe_op op_cat (pe_lst (pa_cons pe_int pa_nil)) (pe_slice sl_list (pv 0) (po_some pe_int) (po_some pe_int)))) (pg_name (i := 9) sc.nd rfl (Or.inl rfl)) (pss_cons (ps_set (i := 10) sc.nd rfl (Or.inl rfl) (pe_op op_cat (pe_op op_cat (pe_f D_law_rows_of_words hr (T.g "_law_rows_of_words") (pa_cons (pv 2) (pa_cons (pv 4) pa_nil))) (pe_f D_law_rows_of_names hr (T.g "_law_rows_of_names") (pa_cons (pv 4) (pa_cons (pe_f D_law_no_name hr (T.g "_law_no_name") (pa_cons (pv 2) (pa_cons (pv 9) pa_nil))) pa_nil)))) (pe_f D_law_rows_of_texts hr (T.g "_law_rows_of_texts") (pa_cons (pv 2) (pa_cons (pv 3) (pa_cons (pv 4) pa_nil)))))) (pss_cons (ps_asg (pe_ix ix_list (pv 10) (pe_op op_mod (pe_f D_law_mix hr (T.g "_law_mix") (pa_cons (pv 9) (pa_cons pe_int pa_nil))) (pe_callB call_len_seq rfl (T.n "len") PySem.boot_len (pa_cons (pv 10) pa_nil))) (fun _ _ => rfl)) (pg_tup (by rfl) (pgs_cons (pg_name (i := 11) sc.nd rfl (Or.inl rfl)) (pgs_cons (pg_name (i := 12) sc.nd rfl (Or.inr rfl)) pgs_nil)))) (pss_cons (ps_if (pt_cmpR (op_neD hr.units) (pe_f D_law_refused hr (T.g "_law_refused") (pa_cons (pv 1) (pa_cons (pv 11) pa_nil))) (pe_op op_cat (pe_lc (own := [("_law_k", 13)]) (g := gName 13) (tt := tYes) rfl sc.nd (pi_range1 rfl (T.n "range") (pa_cons pe_int pa_nil)) (blkOk_by (own := [("_law_k", 13)]) (N := ["_law_script", "_law_desk", "_law_g", "_law_t", "_law_u", "_law_cell", "_law_works", "_law_text", "_law_listed", "_law_one", "_law_rows", "_law_row", "_law_mark", "_law_k"]) (sc := defScope s_law) (by decide +kernel)) (fun _ _ _ _ _ => pg_name (i := 13) sc.nd rfl (Or.inl rfl)) (fun _ _ _ _ _ => pts_nil) (fun _ _ _ _ _ => (pe_cmpR op_eq (pv 12) (pe_op op_add (pv 13) pe_int) (nomark _)))) (pe_lst (pa_cons pe_bl pa_nil))) (nomark _)) (pss_one (ps_ret pe_bl)) pss_nil) (pss_one (ps_if (PW.pt (pw_or (pt_cmpR op_ne (pe_o D_Desk_say hr (T.c "Desk") (T.m "Desk" "say") (pv 1) (pass_out (takes_of rfl rfl rfl rfl)) (pa_cons pe_str pa_nil)) (pv 8) (nomark _)) (pw_or (pt_cmpR op_ne (pe_o D_Desk_say hr (T.c "Desk") (T.m "Desk" "say") (pv 1) (pass_out (takes_of rfl rfl rfl rfl)) (pa_cons (pe_op op_add_str pe_str (pv 2)) pa_nil)) (pv 7) (nomark _)) (pw_or1 (pt_cmpR op_ne (pe_o D_Desk_say hr (T.c "Desk") (T.m "Desk" "say") (pv 1) (pass_out (takes_of rfl rfl rfl rfl)) (pa_cons (pe_op op_add_str pe_str (pv 3)) pa_nil)) pe_str (nomark _)))))) (pss_one (ps_ret pe_bl)) pss_nil)))))) (pss_cons (ps_if (PW.pt (pw_or (pt_cmpR op_ne (pe_o D_Desk_say hr (T.c "Desk") (T.m "Desk" "say") (pv 1) (pass_out (takes_of rfl rfl rfl rfl)) (pa_cons (pe_op op_add_str (pe_op op_add_str (pe_op op_add_str pe_str (pv 4)) pe_str) (pv 7)) pa_nil)) pe_str (nomark _)) (pw_or1 (pt_cmpR op_ne (pe_o D_Desk_say hr (T.c "Desk") (T.m "Desk" "say") (pv 1) (pass_out (takes_of rfl rfl rfl rfl)) (pa_cons (pe_op op_add_str pe_str (pv 4)) pa_nil)) (pv 7) (nomark _))))) (pss_one (ps_ret pe_bl)) pss_nil) (pss_cons (ps_if (PW.pt (pw_or (pt_cmpR op_ne (pe_o D_Desk_say hr (T.c "Desk") (T.m "Desk" "say") (pv 1) (pass_out (takes_of rfl rfl rfl rfl)) (pa_cons pe_str pa_nil)) (pe_join pe_str (pe_callB cr_sortedS rfl (T.n "sorted") (by decide +kernel) (pa_cons (pe_lst (pa_cons (pv 2) (pa_cons (pv 3) (pa_cons (pv 4) pa_nil)))) pa_nil))) (nomark _)) (pw_or1 (pt_cmpR op_ne (pe_o D_Desk_say hr (T.c "Desk") (T.m "Desk" "say") (pv 1) (pass_out (takes_of rfl rfl rfl rfl)) (pa_cons (pe_op op_add_str pe_str (pv 4)) pa_nil)) pe_str (nomark _))))) (pss_one (ps_ret pe_bl)) pss_nil) (pss_one (ps_ret (pe_and (pe_cmpR (op_eqD hr.units) (pe_f D_law_refused hr (T.g "_law_refused") (pa_cons (pv 1) (pa_cons (pe_op op_add_str pe_str (pv 4)) pa_nil))) (pe_lc (own := [("_law_k", 13)]) (g := gName 13) (tt := tYes) rfl sc.nd (pi_range1 rfl (T.n "range") (pa_cons pe_int pa_nil)) (blkOk_by (own := [("_law_k", 13)]) (N := ["_law_script", "_law_desk", "_law_g", "_law_t", "_law_u", "_law_cell", "_law_works", "_law_text", "_law_listed", "_law_one", "_law_rows", "_law_row", "_law_mark", "_law_k"]) (sc := defScope s_law) (by decide +kernel)) (fun _ _ _ _ _ => pg_name (i := 13) sc.nd rfl (Or.inl rfl)) (fun _ _ _ _ _ => pts_nil) (fun _ _ _ _ _ => (pe_cmpR (r := rIn K false) op_in_seq (pv 13) (pe_tup (pa_cons pe_int (pa_cons pe_int pa_nil))) rfl))) (nomark _)) (pe_one (pe_cmpR op_eq (pe_o D_Desk_say hr (T.c "Desk") (T.m "Desk" "say") (pv 1) (pass_out (takes_of rfl rfl rfl rfl)) (pa_cons pe_str pa_nil)) (pv 8) (nomark _)))))))))))))))), ?_⟩
  obtain ⟨a, ns, rfl, hS, hlen, hbits, hT, hQ⟩ := h
  simp only [tSeq, tIfS, tOr, tAnd, tNot, tTest, tB, tOp, tCB, tCons, tNil, tVar, tC, tRet, tRetN, tNext, tDrop, tAsg, gName, gNil, gCons, gTup, gUnl, gSub, tAug, tAugS, ipI, tCall, tMeth, tMake, tCmp, tAndV, tOrV, tNotV, tIf, tChain, tTup, tLst, tSl, tPart, tNoPart, tBM, tM0, tM1, tUn, rU, tFld, tCallS, tCKw, rIn, tMethF, Lf.tMethS, tDNotIn, tDGet, tDPop1, sDPut, sFld, tDNewK, rEq, rNe, rI, rI0, rIxL, rIxT, rIxS, rSub, rSlL, C8.rSlX, rNewStrs, tMake0, cxK, cxNK, tLc_list, tLc_rng1, tFor_list, tFor_str, tFor_rng1, tYes, wipe, L2.start, List.map_cons, List.map_nil, List.length_cons, List.length_nil, List.replicate, List.cons_append, List.nil_append, List.append_nil, Nat.reduceAdd, Nat.reduceSub, List.getElem?_cons_zero, List.getElem?_cons_succ, List.set_cons_zero, List.set_cons_succ, Option.some.injEq, exists_eq_left', exists_eq_left, exists_eq', and_true, true_and, exists_eq_right, exists_const, V.int.injEq, V.str.injEq, V.bl.injEq, V.ref.injEq, List.cons.injEq, scal_ii, scal_ss, scal_bb, decide_eq_true_eq, Bool.not_eq_true', decide_eq_false_iff_not, if_true, if_false, Bool.false_eq_true, exists_and_left, S_len, sz_le]
  intro x dx hx hdx hne
  refine ⟨x, dx, rfl, upd_same, fun d hd => ⟨rfl, ?_⟩⟩
  have z0 : ExtN H (upd (upd H dx (.own x)) x (.ins (ga K "Desk") dx [])) := (Lf.extN_upd hdx).trans (Lf.extN_upd (by rw [upd_ne (Ne.symm hne)]; exact hx))
  have hdxx : d ≠ x := fun z => by rw [z, upd_same] at hd; cases hd
  have z1 := (z0.trans (Lf.extN_upd (o := .dK []) hd)).upF (o := .ins (ga K "Desk") dx [("floors", .ref d)]) (show Fr H x from hx)
  have hD1 : DeskAt K (upd (upd (upd (upd H dx (.own x)) x (.ins (ga K "Desk") dx [])) d (.dK [])) x (.ins (ga K "Desk") dx [("floors", .ref d)])) x d [] := ⟨dx, [], upd_same, by rw [upd_ne hdxx, upd_same], trivial⟩
  generalize upd (upd (upd (upd H dx (.own x)) x (.ins (ga K "Desk") dx [])) d (.dK [])) x (.ins (ga K "Desk") dx [("floors", .ref d)]) = H1 at z1 hD1 ⊢
  have hcell : ∀ k, Bt1 (ns.getD k 0) := fun k => by
    by_cases hk : k < ns.length
    · rw [List.getD_eq_getElem?_getD, List.getElem?_eq_getElem hk]
      exact .bits (hbits _ (List.getElem_mem hk))
    · rw [List.getD_eq_getElem?_getD, List.getElem?_eq_none (by omega)]
      exact .small (by decide)
  have hS1 := extN_seq z1.weak hS
  refine ⟨a, ns, 0, rfl, hS1, _, rfl, hcell 0, fun H2 pn g t u e2 hpn wg wt wu n1 n2 n3 => ?_⟩
  have hS2 := extN_seq e2.weak hS1
  have hD2 := hD1.ext (.of e2)
  have hT2 := (hT.ext z1.same).ext e2.same
  have hc1 := hcell 1
  have hm : 0 ≤ ns.getD 1 0 % 12 ∧ ns.getD 1 0 % 12 < 12 := ⟨Int.emod_nonneg _ (by decide), Int.emod_lt_of_pos _ (by decide)⟩
  refine ⟨pn, rfl, _, SqL.of hpn, rfl, _, _, rfl, _, _, rfl, _, _, rfl, rfl, a, ns, 1, rfl, hS2, _, rfl, by decide, by omega, by omega, fun Dw hDw => ?_⟩
  generalize ns.getD 1 0 = cell at hc1 hm ⊢
  obtain ⟨nw, hnw⟩ := Int.eq_ofNat_of_zero_le hm.1
  have hnw12 : nw < 12 := by omega
  rw [hnw, show ((nw : Nat) : Int).toNat = nw by omega]
  refine lc_pureW (xs := rngL nw) walk_rngL (rngL_len _) (fun v => match v with | .int z => some (.str (S (workT (pkM cell z.toNat)))) | _ => none) (by rw [sizeLine_eq]; omega) (fun _ => trivial) (fun i y acc Qy Qn hy hyy hn => ?_) ?_
  · have hi : i < nw := by
      have := (List.getElem?_eq_some_iff.mp hy).1
      rw [rngL_len] at this
      exact this
    rw [rngL_get hi] at hy
    obtain rfl := Option.some.inj hy
    refine ⟨rfl, ?_⟩
    simp only [tSeq, tIfS, tOr, tAnd, tNot, tTest, tB, tOp, tCB, tCons, tNil, tVar, tC, tRet, tRetN, tNext, tDrop, tAsg, gName, gNil, gCons, gTup, gUnl, gSub, tAug, tAugS, ipI, tCall, tMeth, tMake, tCmp, tAndV, tOrV, tNotV, tIf, tChain, tTup, tLst, tSl, tPart, tNoPart, tBM, tM0, tM1, tUn, rU, tFld, tCallS, tCKw, rIn, tMethF, Lf.tMethS, tDNotIn, tDGet, tDPop1, sDPut, sFld, tDNewK, rEq, rNe, rI, rI0, rIxL, rIxT, rIxS, rSub, rSlL, C8.rSlX, rNewStrs, tMake0, cxK, cxNK, tLc_list, tLc_rng1, tFor_list, tFor_str, tFor_rng1, tYes, wipe, L2.start, List.map_cons, List.map_nil, List.length_cons, List.length_nil, List.replicate, List.cons_append, List.nil_append, List.append_nil, Nat.reduceAdd, Nat.reduceSub, List.getElem?_cons_zero, List.getElem?_cons_succ, List.set_cons_zero, List.set_cons_succ, Option.some.injEq, exists_eq_left', exists_eq_left, exists_eq', and_true, true_and, exists_eq_right, exists_const, V.int.injEq, V.str.injEq, V.bl.injEq, V.ref.injEq, List.cons.injEq, scal_ii, scal_ss, scal_bb, decide_eq_true_eq, Bool.not_eq_true', decide_eq_false_iff_not, if_true, if_false, Bool.false_eq_true, exists_and_left, S_len, sz_le]
    have h1 : 0 ≤ mixM cell (i : Nat) % 9 ∧ mixM cell (i : Nat) % 9 < 9 := ⟨Int.emod_nonneg _ (by decide), Int.emod_lt_of_pos _ (by decide)⟩
    have h2 : 0 ≤ mixM cell ((i : Nat) + 20) % 9 ∧ mixM cell ((i : Nat) + 20) % 9 < 9 := ⟨Int.emod_nonneg _ (by decide), Int.emod_lt_of_pos _ (by decide)⟩
    have s1 := dig h1.1 (by omega : mixM cell (i : Nat) % 9 < 10)
    have s2 := dig (by omega : 0 ≤ 1 + mixM cell ((i : Nat) + 20) % 9) (by omega)
    refine ⟨cell, i, rfl, hc1.bt, by omega, by omega, _, rfl, by decide, log_small ⟨by omega, by omega⟩, ?_, cell, (i : Nat) + 20, rfl, hc1.bt, by omega, by omega, _, rfl, by decide, log_small ⟨by omega, by omega⟩, ?_, ?_, ?_⟩
    · rw [s1, S_len]
      exact sz_le (show 1 + 1 ≤ 16777216 by decide)
    · rw [s1, s2, lenA, S_len, S_len]
      exact sz_le (show 1 + 1 + 1 ≤ 16777216 by decide)
    · rw [s1, s2, lenA, lenA, S_len, S_len]
      exact sz_le (show 1 + 1 + 1 + 2 ≤ 16777216 by decide)
    · rw [s1, s2]
      have hq := hyy _ rfl
      rw [show ((i : Nat) : Int).toNat = i by omega] at hq
      have e : (S [48 + (mixM cell (i : Nat) % 9).toNat] ++ " " ++ S [48 + (1 + mixM cell ((i : Nat) + 20) % 9).toNat] ++ " 3" : Str) = S (workT (pkM cell i)) := by
        show S [48 + (mixM cell (i : Nat) % 9).toNat] ++ S [32] ++ S [48 + (1 + mixM cell ((i : Nat) + 20) % 9).toNat] ++ S [32, 51] = _
        rw [S_cat, S_cat, S_cat] <;> rfl
      rw [e]
      exact hq
  have hfm : (rngL nw).filterMap (fun v => match v with | .int z => some (V.str (S (workT (pkM cell z.toNat)))) | _ => none) = (((List.range nw).map (pkM cell)).map workT).map fun x => V.str (S x) := by
    unfold rngL
    rw [List.filterMap_map, List.map_map, List.map_map, ← List.filterMap_eq_map]
    refine congrArg (fun f => List.filterMap f (List.range nw)) (funext fun z => ?_)
    show some (V.str (S (workT (pkM cell ((z : Nat) : Int).toNat)))) = _
    rw [show ((z : Nat) : Int).toNat = z by omega] <;> rfl
  rw [hfm]
  have hps : Drawn ((List.range nw).map (pkM cell)) := ⟨by rw [List.length_map, List.length_range]; omega, fun p hp => by
    obtain ⟨k, _, rfl⟩ := List.mem_map.mp hp
    exact pkM_ok cell k⟩
  generalize (List.range nw).map (pkM cell) = ps at hps ⊢
  have yw := Lf.extN_upd (o := .lst ((ps.map workT).map fun x => V.str (S x))) hDw
  have hD3 := hD2.ext (.of yw)
  have hT3 := hT2.ext yw.same
  have hS3 := extN_seq yw.weak hS2
  have gw : (upd H2 Dw (.lst ((ps.map workT).map fun x => V.str (S x)))) Dw = some (.lst ((ps.map workT).map fun x => V.str (S x))) := upd_same
  generalize upd H2 Dw (.lst ((ps.map workT).map fun x => V.str (S x))) = H3 at hD3 hT3 hS3 gw ⊢
  simp only [tSeq, tIfS, tOr, tAnd, tNot, tTest, tB, tOp, tCB, tCons, tNil, tVar, tC, tRet, tRetN, tNext, tDrop, tAsg, gName, gNil, gCons, gTup, gUnl, gSub, tAug, tAugS, ipI, tCall, tMeth, tMake, tCmp, tAndV, tOrV, tNotV, tIf, tChain, tTup, tLst, tSl, tPart, tNoPart, tBM, tM0, tM1, tUn, rU, tFld, tCallS, tCKw, rIn, tMethF, Lf.tMethS, tDNotIn, tDGet, tDPop1, sDPut, sFld, tDNewK, rEq, rNe, rI, rI0, rIxL, rIxT, rIxS, rSub, rSlL, C8.rSlX, rNewStrs, tMake0, cxK, cxNK, tLc_list, tLc_rng1, tFor_list, tFor_str, tFor_rng1, tYes, wipe, L2.start, List.map_cons, List.map_nil, List.length_cons, List.length_nil, List.replicate, List.cons_append, List.nil_append, List.append_nil, Nat.reduceAdd, Nat.reduceSub, List.getElem?_cons_zero, List.getElem?_cons_succ, List.set_cons_zero, List.set_cons_succ, Option.some.injEq, exists_eq_left', exists_eq_left, exists_eq', and_true, true_and, exists_eq_right, exists_const, V.int.injEq, V.str.injEq, V.bl.injEq, V.ref.injEq, List.cons.injEq, scal_ii, scal_ss, scal_bb, decide_eq_true_eq, Bool.not_eq_true', decide_eq_false_iff_not, if_true, if_false, Bool.false_eq_true, exists_and_left, S_len, sz_le]
  refine ⟨sz_le (by decide), fun p hp => ?_⟩
  have hpl := hps.1
  refine cat_step gw hp (by rw [List.length_map, List.length_map]; show ps.length + 1 ≤ _; omega) fun rw1 H4 e4 h4 => ?_
  have eL : ((ps.map workT).map fun x => V.str (S x)) ++ [V.str "0 1 10"] = ((ps.map workT ++ [lastT]).map S).map V.str := by
    simp only [List.map_append, List.map_map]
    rfl
  rw [eL] at h4
  have hD4 := hD3.ext (.of e4)
  have hT4 := hT3.ext e4.same
  have hS4 := extN_seq e4.weak hS3
  have fl := floorT_len hpl
  have wl := worksT_len hpl
  have lg := (word_len wg).2
  have lt := (word_len wt).2
  have lu := (word_len wu).2
  refine ⟨_, rfl, (ps.map workT ++ [lastT]).map S, .inl (SqL.of h4), join_small [32, 47, 32] (m := 6) (k := 12) (fun x hx => ?_) (by rw [List.length_append, List.length_map]; show ps.length + 1 ≤ 12; omega) (by decide), ?_⟩
  · rcases List.mem_append.mp hx with hx | hx
    · obtain ⟨q, _, rfl⟩ := List.mem_map.mp hx
      exact Nat.le_of_ble_eq_true rfl
    · have hx := List.mem_singleton.mp hx
      subst hx
      exact Nat.le_of_ble_eq_true rfl
  rw [show Txt.join " / " ((ps.map workT ++ [lastT]).map S) = S (worksT ps) from join_S [32, 47, 32] _, tx_tails, tx_floor, tx_tree]
  simp only [lln1, lln2]
  simp (disch := omega) only [lenA, S_len, ll0, ll1, ll2, ll3, ll4, ll5, ll6, ll7, ll8, ll9, ll10, ll11, ll12, ll13, ll14, ll15, ll16, ll17, ll18, ll19, ll20, ll21, ll22, ll23, ll24, ll25, ll26, ll27, ll28, ll29, ll30, ll31, ll32, ll33, ll34, ll35, ll36, ll37, ll38, ll39, ll40, ll41, ll42, ll43, ll44, ll45, ll46, ll47, ll48, ll49, ll50, ll51, ll52, ll53, szT, true_and]
  obtain ⟨dx4, kv4, g4, -, -⟩ := id hD4
  refine ⟨_, _, g4, rfl, ?_⟩
  have sf := say_floor (st := []) wg (floor_read hps)
  refine ⟨x, d, [], _, rfl, hD4, good0, hT4, by simp only [List.length_append, List.length_cons, List.length_nil, wFloor]; omega, by rw [sf]; simp, (fun e he => by rw [sf] at he; cases he), fun tx st' hs H5 X5 hD5 => ?_⟩
  rw [sf] at hs
  cases hs
  replace hD5 : DeskAt K H5 x d (st1 g ps) := hD5
  refine ⟨scal_ss _ _, iteX (fun z => z rfl) ?_⟩
  obtain ⟨dx5, kv5, g5, -, -⟩ := id hD5
  refine ⟨_, _, g5, rfl, ?_⟩
  have sf := say_floor (st := st1 g ps) wt tree_read
  refine ⟨x, d, st1 g ps, _, rfl, hD5, good1 hps wg, X5.tab hT4, by simp only [List.length_append, List.length_cons, List.length_nil, wFloor]; show _ + (0 + 1 + (t.length + (0 + 1 + 13))) ≤ 1000; omega, by rw [sf]; simp, (fun e he => by rw [sf] at he; cases he), fun tx st' hs H6 X6 hD6 => ?_⟩
  rw [sf] at hs
  cases hs
  rw [put2 n1] at hD6
  have hT6 := X6.tab (X5.tab hT4)
  refine ⟨scal_ss _ _, iteX (fun z => z rfl) ?_⟩
  intro p0 hp0
  refine ⟨p0, [S g, S t], rfl, SqL.of upd_same, by show 2 < 64; decide, fun ys pl hperm hsrt hpl0 => ?_⟩
  have ey := srt_uniq (l := [g, t]) hperm hsrt
  subst ey
  refine ⟨_, rfl, _, .inl (SqL.of upd_same), names_small (l := [g, t]) (by simp [wg, wt]) (by show 2 ≤ 3; decide), ?_⟩
  rw [join_nm]
  have y7 := (Lf.extN_upd (o := .lst [V.str (S g), V.str (S t)]) hp0).trans (Lf.extN_upd (o := .lst (((srt [g, t]).map S).map V.str)) hpl0)
  have hD7 := hD6.ext (.of y7)
  have hT7 := hT6.ext y7.same
  have hS7 := extN_seq y7.weak (X6.seq hD5 (X5.seq hD4 hS4))
  generalize upd (upd H6 p0 (.lst [V.str (S g), V.str (S t)])) pl (.lst (((srt [g, t]).map S).map V.str)) = H7 at hD7 hT7 hS7 ⊢
  intro pc hpc
  have yc := Lf.extN_upd (o := .lst [V.int 2]) hpc
  refine ⟨_, extN_seq yc.weak hS7, fun pd hpd => ?_⟩
  have cl := cutV_length (ns.map V.int) (some 2) (some 63)
  rw [List.length_map] at cl
  refine cat_step upd_same hpd (by show 1 + _ ≤ _; omega) fun lp H8 e8 h8 => ?_
  have e8' := yc.trans e8
  have hD8 := hD7.ext (.of e8')
  have hT8 := hT7.ext e8'.same
  refine ⟨lp, rfl, ⟨_, SqL.of h8⟩, ?_⟩
  have hin := ints_cut hbits
  generalize [V.int 2] ++ cutV (ns.map V.int) (some 2) (some 63) = ll at h8 hin ⊢
  refine for_w (xs := ll) walk_list (fun _ σ H' => DeskAt K H' x d (st2 g t ps) ∧ Tabs (TT K) H' ∧ H' lp = some (.lst ll) ∧ ∃ u9 u10 u11 u12 u13, σ = [some (V.ref a), some (V.ref x), some (V.str (S g)), some (V.str (S t)), some (V.str (S u)), some (V.int cell), some (V.ref Dw), some (V.str (S (floorT ps))), some (V.str (S (nmT [g, t]))), u9, u10, u11, u12, u13]) ⟨hD8, hT8, h8, _, _, _, _, _, rfl⟩ (fun _ _ _ _ z => SqL.of z.2.2.1) (fun i v σ H9 hv z => ?_) (fun σ H9 z => ?_)
  · obtain ⟨hD9, hT9, h9, u9, u10, u11, u12, u13, rfl⟩ := z
    obtain ⟨one, rfl, hone⟩ := hin v (List.mem_of_getElem? hv)
    simp only [tSeq, tIfS, tOr, tAnd, tNot, tTest, tB, tOp, tCB, tCons, tNil, tVar, tC, tRet, tRetN, tNext, tDrop, tAsg, gName, gNil, gCons, gTup, gUnl, gSub, tAug, tAugS, ipI, tCall, tMeth, tMake, tCmp, tAndV, tOrV, tNotV, tIf, tChain, tTup, tLst, tSl, tPart, tNoPart, tBM, tM0, tM1, tUn, rU, tFld, tCallS, tCKw, rIn, tMethF, Lf.tMethS, tDNotIn, tDGet, tDPop1, sDPut, sFld, tDNewK, rEq, rNe, rI, rI0, rIxL, rIxT, rIxS, rSub, rSlL, C8.rSlX, rNewStrs, tMake0, cxK, cxNK, tLc_list, tLc_rng1, tFor_list, tFor_str, tFor_rng1, tYes, wipe, L2.start, List.map_cons, List.map_nil, List.length_cons, List.length_nil, List.replicate, List.cons_append, List.nil_append, List.append_nil, Nat.reduceAdd, Nat.reduceSub, List.getElem?_cons_zero, List.getElem?_cons_succ, List.set_cons_zero, List.set_cons_succ, Option.some.injEq, exists_eq_left', exists_eq_left, exists_eq', and_true, true_and, exists_eq_right, exists_const, V.int.injEq, V.str.injEq, V.bl.injEq, V.ref.injEq, List.cons.injEq, scal_ii, scal_ss, scal_bb, decide_eq_true_eq, Bool.not_eq_true', decide_eq_false_iff_not, if_true, if_false, Bool.false_eq_true, exists_and_left, S_len, sz_le]
    simp only [tx_show]
    refine ⟨g, u, rfl, by omega, by omega, fun Ha pa xa ea ha ta => ?_⟩
    refine ⟨g, one, rfl, wg, hone.bt, fun Hb m eb wm bm lm => ?_⟩
    refine ⟨u, m, rfl, by omega, lm, fun Hc pcc xc ec hc tc => ?_⟩
    have na : xa.length = 23 := ta.1
    have nc : xc.length = 16 := tc.1
    refine ⟨pa, pcc, xa, xc, rfl, rfl, (eb.trans ec).l ha, hc, by rw [na, nc]; exact sz_le (by decide), fun pe hpe => ?_⟩
    have ye := Lf.extN_upd (o := .lst (xa ++ xc)) hpe
    have tac := ((ta.ext (eb.trans ec)).app tc).ext ye
    refine ⟨g, t, u, rfl, by omega, by omega, by omega, fun Hf pf xf ef hf tf => ?_⟩
    have nf : xf.length = 31 := tf.1
    refine ⟨pe, pf, xa ++ xc, xf, rfl, rfl, ef.l upd_same, hf, by rw [List.length_append, na, nc, nf]; exact sz_le (by decide), fun ph hph => ?_⟩
    have yh := Lf.extN_upd (o := .lst (xa ++ xc ++ xf)) hph
    have tall : Tups _ (xa ++ xc ++ xf) (rsAll (S g) (S t) (S u) (S m)) := ((tac.ext ef).app tf).ext yh
    have eAll := ((ea.trans (eb.trans ec)).trans ye).trans (ef.trans yh)
    have hall : (upd Hf ph (.lst (xa ++ xc ++ xf))) ph = some (.lst (xa ++ xc ++ xf)) := upd_same
    have nall : (xa ++ xc ++ xf).length = 70 := by rw [List.length_append, List.length_append, na, nc, nf]
    generalize upd Hf ph (.lst (xa ++ xc ++ xf)) = Hg at tall eAll hall ⊢
    generalize xa ++ xc ++ xf = rowsV at tall hall nall ⊢
    have hDg := hD9.ext (.of eAll)
    have hTg := hT9.ext eAll.same
    have h9g := eAll.l h9
    refine ⟨one, 6, rfl, hone.bt, by decide, by decide, ph, rfl, rowsV, .inl (SqL.of hall), _, rfl, by rw [nall]; decide, ph, rfl, rowsV, SqL.of hall, ?_⟩
    rw [nall]
    have h70 : 0 ≤ mixM one 6 % ((70 : Nat) : Int) ∧ mixM one 6 % ((70 : Nat) : Int) < 70 := ⟨Int.emod_nonneg _ (by decide), Int.emod_lt_of_pos _ (by decide)⟩
    obtain ⟨ix, hix⟩ := Int.eq_ofNat_of_zero_le h70.1
    have hix70 : ix < 70 := by omega
    rw [hix]
    have hrr : ix < (rsAll (S g) (S t) (S u) (S m)).length := by rw [rsAll_len]; exact hix70
    obtain ⟨tt, q1, q2⟩ := tall.2 ix _ (List.getElem?_eq_getElem hrr)
    obtain ⟨ra, e, er1, er2, er3, er4⟩ := bad_all (known (ps := ps) wg wt wu wm bm n1 n2 n3) lm _ (List.getElem_mem hrr)
    generalize (rsAll (S g) (S t) (S u) (S m))[ix] = rr at q2 er1 er4
    obtain ⟨rs, rm⟩ := rr
    replace er1 : rs = S ra := er1
    replace er4 : rm = e.no := er4
    subst er1 er4
    have gd2 := good2 (t := t) hps wg wt
    refine ⟨_, atI_nat q1, tt, rfl, _, SqT.of q2, rfl, _, _, rfl, _, _, rfl, rfl, ?_⟩
    refine ⟨x, d, st2 g t ps, ra, e, rfl, hDg, gd2, hTg, er2, er3, fun Hi pi Xi hi => ?_⟩
    refine ⟨by decide, by decide, fun D hDn => ?_⟩
    refine lc_pureW (xs := rngL 5) walk_rngL (rngL_len _) (fMark e) (by rw [sizeLine_eq]; decide) (fun _ => trivial) (fun i y acc Qy Qn hy hyy hn => ?_) ?_
    · have hi5 : i < 5 := by
        have := (List.getElem?_eq_some_iff.mp hy).1
        rw [rngL_len] at this
        exact this
      rw [rngL_get hi5] at hy
      obtain rfl := Option.some.inj hy
      refine ⟨rfl, ?_⟩
      simp only [tSeq, tIfS, tOr, tAnd, tNot, tTest, tB, tOp, tCB, tCons, tNil, tVar, tC, tRet, tRetN, tNext, tDrop, tAsg, gName, gNil, gCons, gTup, gUnl, gSub, tAug, tAugS, ipI, tCall, tMeth, tMake, tCmp, tAndV, tOrV, tNotV, tIf, tChain, tTup, tLst, tSl, tPart, tNoPart, tBM, tM0, tM1, tUn, rU, tFld, tCallS, tCKw, rIn, tMethF, Lf.tMethS, tDNotIn, tDGet, tDPop1, sDPut, sFld, tDNewK, rEq, rNe, rI, rI0, rIxL, rIxT, rIxS, rSub, rSlL, C8.rSlX, rNewStrs, tMake0, cxK, cxNK, tLc_list, tLc_rng1, tFor_list, tFor_str, tFor_rng1, tYes, wipe, L2.start, List.map_cons, List.map_nil, List.length_cons, List.length_nil, List.replicate, List.cons_append, List.nil_append, List.append_nil, Nat.reduceAdd, Nat.reduceSub, List.getElem?_cons_zero, List.getElem?_cons_succ, List.set_cons_zero, List.set_cons_succ, Option.some.injEq, exists_eq_left', exists_eq_left, exists_eq', and_true, true_and, exists_eq_right, exists_const, V.int.injEq, V.str.injEq, V.bl.injEq, V.ref.injEq, List.cons.injEq, scal_ii, scal_ss, scal_bb, decide_eq_true_eq, Bool.not_eq_true', decide_eq_false_iff_not, if_true, if_false, Bool.false_eq_true, exists_and_left, S_len, sz_le]
      exact hyy _ rfl
    · refine ⟨sz_le (by decide), fun pz hpz => ?_⟩
      have XD := Lf.extN_upd (o := .lst ((rngL 5).filterMap (fMark e))) hDn
      refine cat_step upd_same hpz (Nat.le_of_ble_eq_true rfl) fun r1 G1 e1 h1 => ?_
      rw [marks] at h1
      have XX : XT K Hg G1 := Xi.trans (.of (XD.trans e1))
      refine ⟨bsD e, bsD e, bsR_dp ((XD.trans e1).l hi), bsR_dp h1, bsD_shaped e, bsD_shaped e, _, rfl, iteX (by rw [bsD_eqv]; decide) ?_⟩
      have hD2 := hDg.ext XX
      obtain ⟨dx2, kv2, g2, -, -⟩ := id hD2
      refine ⟨_, _, g2, rfl, say_ok (row := wNames) say_n2 hD2 gd2 (XX.tab hTg) (by decide) fun H2 X2 D2 T2 => ⟨scal_ss _ _, iteX (fun z => z rfl) ?_⟩⟩
      obtain ⟨dx2, kv2, g2, -, -⟩ := id D2
      refine ⟨_, _, g2, rfl, sz_le (by show 5 + g.length ≤ _; omega), say_ok (say_sg hps wg) D2 gd2 T2 (len_row (by omega) (by decide)) fun H3 X3 D3 T3 => ⟨scal_ss _ _, iteX (fun z => z rfl) ?_⟩⟩
      obtain ⟨dx2, kv2, g2, -, -⟩ := id D3
      refine ⟨_, _, g2, rfl, sz_le (by show 5 + t.length ≤ _; omega), say_ok (say_st wt n1) D3 gd2 T3 (len_row (by omega) (by decide)) fun H4 X4 D4 T4 => ⟨scal_ss _ _, iteX (fun z => z rfl) ?_⟩⟩
      exact ⟨D4, T4, ((X2.trans X3).trans X4).l (hD2.ne (XX.l h9g)) (XX.l h9g)⟩
  · obtain ⟨hD9, hT9, h9, u9, u10, u11, u12, u13, rfl⟩ := z
    simp only [tSeq, tIfS, tOr, tAnd, tNot, tTest, tB, tOp, tCB, tCons, tNil, tVar, tC, tRet, tRetN, tNext, tDrop, tAsg, gName, gNil, gCons, gTup, gUnl, gSub, tAug, tAugS, ipI, tCall, tMeth, tMake, tCmp, tAndV, tOrV, tNotV, tIf, tChain, tTup, tLst, tSl, tPart, tNoPart, tBM, tM0, tM1, tUn, rU, tFld, tCallS, tCKw, rIn, tMethF, Lf.tMethS, tDNotIn, tDGet, tDPop1, sDPut, sFld, tDNewK, rEq, rNe, rI, rI0, rIxL, rIxT, rIxS, rSub, rSlL, C8.rSlX, rNewStrs, tMake0, cxK, cxNK, tLc_list, tLc_rng1, tFor_list, tFor_str, tFor_rng1, tYes, wipe, L2.start, List.map_cons, List.map_nil, List.length_cons, List.length_nil, List.replicate, List.cons_append, List.nil_append, List.append_nil, Nat.reduceAdd, Nat.reduceSub, List.getElem?_cons_zero, List.getElem?_cons_succ, List.set_cons_zero, List.set_cons_succ, Option.some.injEq, exists_eq_left', exists_eq_left, exists_eq', and_true, true_and, exists_eq_right, exists_const, V.int.injEq, V.str.injEq, V.bl.injEq, V.ref.injEq, List.cons.injEq, scal_ii, scal_ss, scal_bb, decide_eq_true_eq, Bool.not_eq_true', decide_eq_false_iff_not, if_true, if_false, Bool.false_eq_true, exists_and_left, S_len, sz_le]
    simp only [tx_show, tx_floor, tx_drop]
    simp (disch := omega) only [lenA, S_len, ll0, ll1, ll2, ll3, ll4, ll5, ll6, ll7, ll8, ll9, ll10, ll11, ll12, ll13, ll14, ll15, ll16, ll17, ll18, ll19, ll20, ll21, ll22, ll23, ll24, ll25, ll26, ll27, ll28, ll29, ll30, ll31, ll32, ll33, ll34, ll35, ll36, ll37, ll38, ll39, ll40, ll41, ll42, ll43, ll44, ll45, ll46, ll47, ll48, ll49, ll50, ll51, ll52, ll53, szT, true_and]
    obtain ⟨dx2, kv2, g2, -, -⟩ := id hD9
    have gd2 := good2 (t := t) hps wg wt
    have gd3 := good3 (u := u) hps wg wt wu
    have lsu : (wShow ++ ([32] ++ u)).length ≤ 1000 := len_row (by omega) (by decide)
    refine ⟨_, _, g2, rfl, say_ok (say_fu hps wu n2 n3) hD9 gd2 hT9 (by simp only [List.length_append, List.length_cons, List.length_nil, wFloor]; omega) fun H2 X2 D2 T2 => ⟨scal_ss _ _, iteX (fun z => z rfl) ?_⟩⟩
    obtain ⟨dx2, kv2, g2, -, -⟩ := id D2
    refine ⟨_, _, g2, rfl, say_ok (say_su hps wu n2 n3) D2 gd3 T2 lsu fun H3 X3 D3 T3 => ⟨scal_ss _ _, iteX (fun z => z rfl) ?_⟩⟩
    obtain ⟨dx2, kv2, g2, -, -⟩ := id D3
    refine ⟨_, _, g2, rfl, say_ok (row := wNames) say_n3 D3 gd3 T3 (by decide) fun H4 X4 D4 T4 => ?_⟩
    intro p5 hp5
    refine ⟨p5, [S g, S t, S u], rfl, SqL.of upd_same, by show 3 < 64; decide, fun ys p6 hperm hsrt hp6 => ?_⟩
    have ey := srt_uniq (l := [g, t, u]) hperm hsrt
    subst ey
    have y5 := (Lf.extN_upd (o := .lst [V.str (S g), V.str (S t), V.str (S u)]) hp5).trans (Lf.extN_upd (o := .lst (((srt [g, t, u]).map S).map V.str)) hp6)
    refine ⟨_, rfl, _, .inl (SqL.of upd_same), names_small (l := [g, t, u]) (by simp [wg, wt, wu]) (by show 3 ≤ 3; decide), ?_⟩
    rw [join_nm]
    refine ⟨scal_ss _ _, iteX (fun z => z rfl) ?_⟩
    have D5 := D4.ext (.of y5)
    have T5 := T4.ext y5.same
    obtain ⟨dx2, kv2, g2, -, -⟩ := id D5
    refine ⟨_, _, g2, rfl, say_ok (say_du wu n2 n3) D5 gd3 T5 (len_row (by omega) (by decide)) fun H6 X6 D6 T6 => ⟨scal_ss _ _, iteX (fun z => z rfl) ?_⟩⟩
    refine ⟨x, d, st2 g t ps, _, .name, rfl, D6, gd2, T6, lsu, say_xu wu n2 n3, fun H7 p7 X7 h7 => ?_⟩
    refine ⟨by decide, by decide, fun D hDn => ?_⟩
    refine lc_mapW (xs := rngL 6) walk_rngL (rngL_len _) (fun i y _ => y = V.bl (inV (.int (i : Nat)) [.int 1, .int 5])) (by rw [sizeLine_eq]; decide) (fun _ _ _ => trivial) hDn (fun i y H H' st h => h) (fun _ => True) (fun _ => trivial) (fun _ _ _ _ => trivial) (fun i y H Qy hy e1 _ hacc hyy => ?_) (fun H acc e1 _ hacc hln hR => ?_)
    · have hi6 : i < 6 := by
        have := (List.getElem?_eq_some_iff.mp hy).1
        rw [rngL_len] at this
        exact this
      rw [rngL_get hi6] at hy
      obtain rfl := Option.some.inj hy
      refine ⟨rfl, ?_⟩
      simp only [tSeq, tIfS, tOr, tAnd, tNot, tTest, tB, tOp, tCB, tCons, tNil, tVar, tC, tRet, tRetN, tNext, tDrop, tAsg, gName, gNil, gCons, gTup, gUnl, gSub, tAug, tAugS, ipI, tCall, tMeth, tMake, tCmp, tAndV, tOrV, tNotV, tIf, tChain, tTup, tLst, tSl, tPart, tNoPart, tBM, tM0, tM1, tUn, rU, tFld, tCallS, tCKw, rIn, tMethF, Lf.tMethS, tDNotIn, tDGet, tDPop1, sDPut, sFld, tDNewK, rEq, rNe, rI, rI0, rIxL, rIxT, rIxS, rSub, rSlL, C8.rSlX, rNewStrs, tMake0, cxK, cxNK, tLc_list, tLc_rng1, tFor_list, tFor_str, tFor_rng1, tYes, wipe, L2.start, List.map_cons, List.map_nil, List.length_cons, List.length_nil, List.replicate, List.cons_append, List.nil_append, List.append_nil, Nat.reduceAdd, Nat.reduceSub, List.getElem?_cons_zero, List.getElem?_cons_succ, List.set_cons_zero, List.set_cons_succ, Option.some.injEq, exists_eq_left', exists_eq_left, exists_eq', and_true, true_and, exists_eq_right, exists_const, V.int.injEq, V.str.injEq, V.bl.injEq, V.ref.injEq, List.cons.injEq, scal_ii, scal_ss, scal_bb, decide_eq_true_eq, Bool.not_eq_true', decide_eq_false_iff_not, if_true, if_false, Bool.false_eq_true, exists_and_left, S_len, sz_le]
      exact ⟨sz_le (by decide), fun p hp => ⟨[.int 1, .int 5], .inr (SqT.of upd_same), rfl, rfl, hyy _ _ (Lf.extN_upd hp) trivial rfl⟩⟩
    · have ea := six hln fun i y hy => hR i y hy
      rw [ea] at hacc
      have D7 := D6.ext (X7.trans (.of e1))
      have T7 := (X7.trans (.of e1)).tab T6
      refine ⟨bsD .name, bsD .name, bsR_dp (e1.l h7), bsR_dp hacc, bsD_shaped _, bsD_shaped _, _, rfl, iteW (bsD_eqv _) ?_⟩
      obtain ⟨dx2, kv2, g2, -, -⟩ := id D7
      refine ⟨_, _, g2, rfl, say_ok (row := wNames) say_n2 D7 gd2 T7 (by decide) fun H8 X8 D8 T8 => ⟨scal_ss _ _, ?_⟩⟩
      rw [show decide (V.str (S (nmT [g, t])) = V.str (S (nmT [g, t]))) = true from decide_eq_true rfl]
      exact hQ H8
end
end Lf
set_option Elab.async false
set_option linter.all false
set_option maxRecDepth 100000
set_option maxHeartbeats 0
namespace Lf
open PySem PySem.Spec PyProof.Rows L2 LamX LfR
theorem facts {w : World} {h : Heap} {mg : Str → Option Value} {f : Addr} (Y : hookY.says w h) (G : h.Ns mainGlobals mg) (hf : mg ("law" : Str) = some (.ref f)) :
    ∃ K : PySem.W.Frag, K.In h ∧ LawAtS PySem.Challenge.rw_leastfloor_k85_rows_refused w K (L2.CX (PySem.Challenge.rw_leastfloor_k85_rows_refused).prog w) 9 63 "_law_script" mg f h := by
  obtain ⟨K, X, S⟩ := Y
  have T : Txt w K mg := ⟨⟨h, X, G, S⟩⟩
  have e := hf.symm.trans (T.g "law")
  cases e
  obtain ⟨fd, F⟩ := T.d_law
  have b := FunD.bindsA (ps := ["_law_script"]) F fun _ _ _ _ _ _ us hl => match us, hl with | [_], _ => rfl
  have mj : (("joined", none) : He.Defn) ∈ tf := List.mem_cons_self ..
  have mt : (("tree_turns", none) : He.Defn) ∈ tf := List.mem_cons_of_mem _ (List.mem_cons_self ..)
  refine ⟨K, X, fd, tf.map (He.cT K), spLaw K, fun p hp => ?_, fun p hp => ?_, fun p hp => ?_, fun s u => b s [u] rfl, fun H a ns hl hb hT hS => ?_, fun base _ _ hB => ?_⟩
  · obtain ⟨q, hq, rfl⟩ := List.mem_map.mp hp
    exact S.empty q hq
  · obtain ⟨q, hq, rfl⟩ := List.mem_map.mp hp
    exact S.out q hq
  · obtain ⟨q, hq, rfl⟩ := List.mem_map.mp hp
    exact PySem.W.codeHd_of_K X (S.hd q hq)
  · refine ⟨a, ns, rfl, hS, hl, hb, fun r hr => ?_, fun _ => rfl⟩
    unfold TT at hr
    simp only [List.mem_cons, List.not_mem_nil, or_false] at hr
    rcases hr with rfl | rfl
    · exact LamX.TabS.nil (hT _ (List.mem_map.mpr ⟨_, mj, rfl⟩))
    · exact LamX.TabS.nil (hT _ (List.mem_map.mpr ⟨_, mt, rfl⟩))
  · exact ok_law T ⟨hB _ (List.mem_map.mpr ⟨_, mj, rfl⟩), hB _ (List.mem_map.mpr ⟨_, mt, rfl⟩)⟩ F
end Lf
open PySem PySem.W PySem.Calls PyProof.Rows
theorem PySem.Challenge.cw_leastfloor_k85_rows_refused_holds : PySem.Challenge.rw_leastfloor_k85_rows_refused.Holds := by
  w_on; o_law
  refine HandSHeadRun.head_any (r := OpenLaw.row PySem.Challenge.rw_leastfloor_k85_rows_refused) (q := view Lf.R.prog [113]) (H := Lf.hookY) (ob := Lf.ob) (M := 8200) (loose := Lf.loose) (d := HandSHeadRun.topDef Lf.R.prog 113) (kwd := []) Lf.ob_eq
    (by kernel_rfl) (fun s => by kernel_rfl) Lf.run (by kernel_rfl) (by kernel_rfl) (by kernel_rfl) (by rfl) (by first | assumption | decide +kernel) (by decide +kernel) ⟨rfl, rfl, rfl, rfl, rfl, by decide +kernel⟩ ?hw ?hc
  case hw => w_witness2
  case hc =>
    refine LamX.walk_ofTsE (l := PySem.Challenge.rw_leastfloor_k85_rows_refused) (n := 63) (k := 9) (x := "_law_script") (CX := fun w => L2.CX (PySem.Challenge.rw_leastfloor_k85_rows_refused).prog w) rfl (by decide) (by kernel_rfl) ⟨rfl, by decide, by decide⟩ ?F ?hCX
    case F =>
      intro w mg fa h Y G hmg0
      have e : (HandSHeadRun.topDef Lf.R.prog 113).name = ("law" : PySem.Str) := by kernel_rfl
      rw [e] at hmg0
      exact Lf.facts Y G hmg0
    case hCX =>
      intro w H s e s' z
      obtain ⟨a, B, H', cls, d, _, _, _, _, _, _, _, hE⟩ := z
      exact hE
