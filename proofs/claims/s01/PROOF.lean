import PyProof.Rows.All
import Wide.All
import OpenK.AllK
import Wide.FinOn
import PyProof.EqAt
import PyProof.EqKinds
import PyProof.TupleCall
import HandS.Base
import HandS.Call
import HandS.List
import HandS.Comp
import HandS.Exc
import HandS.ExcCtx
import KE.GoesComp
import KE.GoesRaise
import KE.KAsSuite
import HandS.Iter
import HandS.Walk
import HandS.Zip
import KE.GoesMore
import KE.GoesEnum
import HandS.TryMany
import HandS.ExcInit
import HandS.ExcInitHot
import HandS.ExcField
import HandS.HotCalls
import HandS.SuiteRaise
import HandS.Deep
import KE.KAssignIn
import PyProof.NeData
import PyProof.EqLayable
import Open.SpecLaws
import KE.OsGo
import HandS.ForSpec
import PySem.Challenge.RW_holehouse_s01_answers
set_option Elab.async false
set_option linter.all false
set_option maxRecDepth 100000
set_option maxHeartbeats 4000000
/-! rules of my own: a comprehension whose element may raise -/
namespace L2Y
open PySem PySem.Spec PyProof.Rows L2
section
variable {X : Cx} {pins : List (Addr × Obj)} {σ : L2.St} {H : Hp} {sI s s' : Shared} {B : Heap} {E : XK}
/-- a call's exception, in flight -/
theorem fly_of_call (I : Inv X pins σ H s) {u : Value} (c : L2N.CX X.prog X.w X.stack H s E u s') :
    ∃ (a : Addr) (B : Heap) (sI : Shared) (H' : Hp) (cls : Value) (d : Option Addr), u = .ref a ∧ Inv X pins σ H' sI ∧ (∀ b o, sI.heap.get? b = some o → b ∉ frs X.stack → B.get? b = some o) ∧ sI.heap.UpToSlots s'.heap ∧
      HandSPX.FlyingZ B X.stack a (L2N.Zn cls d) s'.heap ∧ H' a = none ∧ s'.os = sI.os ∧ AllBare s'.gens ∧ sI.gens = s'.gens ∧ E cls d H' := by
  obtain ⟨a, B, H', cls, d, rfl, fl, hok, ub, na, os, ag, hE⟩ := c
  obtain ⟨G, g1, g2⟩ := restrict s'.heap fun b => (B.get? b).isSome || decide (b ∈ frs X.stack)
  have st : B.StaysIn s'.heap := fl.1
  have gB : ∀ b o, B.get? b = some o → G.get? b = some o := fun b o e => by
    rw [g1 b (by simp [e])]
    exact st b o e
  have gF : ∀ b, b ∈ frs X.stack → G.get? b = s'.heap.get? b := fun b hb => g1 b (by simp [hb])
  have og : ∀ b o, G.get? b = some o → s'.heap.get? b = some o ∧ ((B.get? b).isSome = true ∨ b ∈ frs X.stack) := fun b o e => by
    cases q : ((B.get? b).isSome || decide (b ∈ frs X.stack)) with
    | false => rw [g2 b q] at e; cases e
    | true =>
      rw [g1 b q] at e
      exact ⟨e, by simpa [Bool.or_eq_true] using q⟩
  refine ⟨a, B, { s with heap := G, gens := s'.gens, drawn := s'.drawn, toks := s'.toks }, H', cls, d, rfl, ?_, fun b o e hb => ?_, Heap.UpToSlots.of_keeps fun b o e => (og b o e).1, fl, na, os, ag, rfl, hE⟩
  · refine I.call (ch := []) ⟨fun b o e n hb _ => gB b o (ub.keep b o e n hb), fun b o e n hb _ => ?_, fun b o e n _ => ub.free b o e n, fun b o e _ => ?_, ub.tups, ub.frzs, ub.tbls⟩ (hok.kept gB) ag (fun _ z => nomatch z)
    · obtain ⟨sl, q⟩ := ub.slot b o e hb
      exact ⟨sl, by rw [gF b hb]; exact q⟩
    · by_cases hb : b ∈ frs X.stack
      · obtain ⟨sl, q⟩ := ub.slot b o e hb
        exact ⟨_, by rw [gF b hb]; exact q⟩
      · obtain ⟨o', q⟩ := ub.there b o e hb
        exact ⟨o', gB b o' q⟩
  · obtain ⟨e', h⟩ := og b o e
    rcases h with h | h
    · obtain ⟨o', q⟩ := Option.isSome_iff_exists.mp h
      have z := st b o' q
      rw [e'] at z; cases z
      exact q
    · exact absurd h hb
end
/-- what a call in a comprehension's block lets out -/
abbrev xeB (X : Cx) (E : XK) : Value → Shared → Prop := fun u s' => ∃ (pins : List (Addr × Obj)) (σ : L2.St) (H : Hp) (s : Shared), Inv X pins σ H s ∧ L2N.CX X.prog X.w X.stack H s E u s'
/-- the context of a block whose element may raise -/
abbrev blkX (X : Cx) (s : Shared) (H : Hp) (scope : Scope) (cenv : Env) (fp : List Addr) (E : XK) : Cx := (X.blk s H scope cenv fp).wish (xeB (X.blk s H scope cenv fp) E)
theorem passB {X : Cx} {s : Shared} {H : Hp} {scope : Scope} {cenv : Env} {fp : List Addr} {E : XK} : Passes (L2N.CX X.prog X.w) (blkX X s H scope cenv fp E) E :=
  fun pins σ H s e s' I c => ⟨pins, σ, H, s, I.unwish, c⟩
section
variable {X : Cx}
theorem lc_coreX {pins : List (Addr × Obj)} {s : Shared} {σ : L2.St} {H : Hp} {Q : VK} {elt tg iter : Expr} {ifs : List Expr} {scope : Scope} {own : List (Str × Nat)} {pos pos' : Pos} {wi : TI} {g : TG} {tt : TT} {te : TE} {use : Option (Value → Sem Unit)} {Qf : Value → Shared → Prop} {W : WX} {E : XK}
    (hst : X.stack = X.env :: X.outer) (hfr : X.env.frame = some X.env.locals) (tk : L2N.Takes X W) (hW : ∀ cls d H, E cls d H → W cls d σ H)
    (hc : X.calm = true) (hN : X.N.Nodup) (I : Inv X pins σ H s) (hi : PI X tg iter wi) (ok : BlkOk X.N X.env.scope scope own)
    (hg : ∀ (s : Shared) (H : Hp) (C : Addr) (cl : List (Str × Addr)) (fp : List Addr), PG (X.blk s H scope (compEnvC scope cl C X.env) fp) tg g) (ht : ∀ (s : Shared) (H : Hp) (C : Addr) (cl : List (Str × Addr)) (fp : List Addr), PTs (X.blk s H scope (compEnvC scope cl C X.env) fp) ifs tt)
    (he : ∀ (s : Shared) (H : Hp) (C : Addr) (cl : List (Str × Addr)) (fp : List Addr), PE (blkX X s H scope (compEnvC scope cl C X.env) fp E) elt te) (hs : ∀ x, foldedSetIterable iter X.env x = pure x)
    (h : tLc wi g tt te (own.map (·.2)) σ H Q)
    (hRR : ∀ D C s' m H' cenv, Inv X pins σ H' s' → Q (.ref D) H' → s'.heap.Ns C m → FpOk X pins H' C → cenv.locals = C → compEnds (model X.prog X.w) X.A X.xe use Qf (.ref D) cenv (.ok .next) s') :
    wpAny (model X.prog X.w) X.A (comprehension (.ListComp elt [⟨tg, iter, ifs, 0⟩] scope pos) scope X.env pos' (newList []) false (eval iter X.env) use) Qf X.xe s := by
  have hfree : ∀ y ∈ scope.names, y.2 = .free → ∃ c, X.env.cells.lookup y.1 = some c := fun y hy e => by
    rcases ok.free y hy e with k | k
    · exact I.ok.has _ (.inl k)
    · exact I.ok.has _ (.inr k)
  refine comprehension_at (use := use) rfl hs (closure_ok hfree) ok.kind (fun y hy e => by rw [ok.uniq y hy, e])
    (thn (hi.run pins s σ H _ I h) fun xv s1 hx => thn hx fun itv s2 h2 => ?_)
  obtain ⟨it, fp, tn, J, H2, e, I2, T, st2, f2, q⟩ := h2
  subst e
  refine wpAny_newObj_type (newEnv_comp ?_) (by show 0 ≤ sizeLine; decide)
  generalize hD : s2.heap.objs.size = D
  have hDn : H2 D = none := I2.hok.fresh (Nat.le_of_eq hD)
  obtain ⟨W0, ⟨m0, w0⟩, turn⟩ := q D hDn
  -- the new list
  generalize hs3 : ({ s2 with heap := s2.heap.push { cls := .type "list", data := .seq ([] : List Value).toArray } } : Shared) = s3
  have I3 : Inv X pins σ (upd H2 D (.lst [])) s3 := by
    rw [← hs3]
    refine I2.laid (t' := s2.toks) (fun b o e => Heap.get?_push_of_some _ e) (Nat.le_of_eq hD) ⟨Nat.zero_le _, [], 0, .nil, ?_⟩
    rw [← hD]
    exact Heap.get?_push_size _ rfl
  have h3 : s3.heap = s2.heap.push { cls := .type "list", data := .seq ([] : List Value).toArray } := by rw [← hs3]
  have sz : ∀ b ∈ fp, b < s2.heap.objs.size := fun b hb => by
    obtain ⟨o, e, _⟩ := T.obj _ _ st2 b hb
    exact Heap.lt_size e
  have f3 : ∀ b ∈ fp, FpOk X pins (upd H2 D (.lst [])) b ∧ b < s3.heap.objs.size := fun b hb => by
    have hlt := sz b hb
    refine ⟨⟨?_, (f2 b hb).2⟩, by rw [h3, Heap.size_push]; exact Nat.lt_succ_of_lt hlt⟩
    rw [upd_ne (by rw [← hD]; exact Nat.ne_of_lt hlt)]
    exact (f2 b hb).1
  have st3 : tn 0 s3.heap := T.keep _ _ _ st2 fun b _ o e => by rw [h3]; exact Heap.get?_push_of_some _ e
  have I4 := block_start I3 ok hN f3
  have pg := hg s3 (upd H2 D (.lst [])) s3.heap.objs.size (cellsFrom (s3.heap.objs.size + 1) scope.names (cloFrom X.env.cells scope.names [])) fp
  have pt := ht s3 (upd H2 D (.lst [])) s3.heap.objs.size (cellsFrom (s3.heap.objs.size + 1) scope.names (cloFrom X.env.cells scope.names [])) fp
  have pe := he s3 (upd H2 D (.lst [])) s3.heap.objs.size (cellsFrom (s3.heap.objs.size + 1) scope.names (cloFrom X.env.cells scope.names [])) fp
  show codeAny _ _ (.compStart (.ListComp elt [⟨tg, iter, ifs, 0⟩] scope pos) 0 (.ref it) (.ref D) (compEnvC scope (cellsFrom (s3.heap.objs.size + 1) scope.names (cloFrom X.env.cells scope.names [])) s3.heap.objs.size X.env)) (compEnds (model X.prog X.w) X.A X.xe use Qf (.ref D) (compEnvC scope (cellsFrom (s3.heap.objs.size + 1) scope.names (cloFrom X.env.cells scope.names [])) s3.heap.objs.size X.env)) { s3 with heap := pushCells (s3.heap.push { cls := .type "dict", data := .dict #[] }) scope.names }
  have nfp : ∀ b ∈ fp, (upd H2 D (.lst [])) b = none := fun b hb => (f3 b hb).1.1
  generalize hce : compEnvC scope (cellsFrom (s3.heap.objs.size + 1) scope.names (cloFrom X.env.cells scope.names [])) s3.heap.objs.size X.env = ce at I4 pg pt pe ⊢
  have cL : ce.locals = s3.heap.objs.size := by subst hce; rfl
  have cF : ce.frame = X.env.frame := by subst hce; rfl
  generalize hH3 : upd H2 D (.lst []) = H3 at I3 I4 pg pt pe w0 nfp f3
  generalize hs4 : ({ s3 with heap := pushCells (s3.heap.push { cls := .type "dict", data := .dict #[] }) scope.names } : Shared) = s4 at I4 ⊢
  have st4 : tn 0 s4.heap := T.keep _ _ _ st3 fun b _ o e => by rw [← hs4]; exact pushCells_keeps _ _ _ _ (Heap.get?_push_of_some _ e)
  have stat : ∀ {σ' : L2.St} {H' : Hp} {s' : Shared}, Inv (X.blk s3 H3 scope ce fp) [] σ' H' s' → (∀ b ∈ fp, H' b = none) → ∀ b ∈ fp, FpOk (X.blk s3 H3 scope ce fp) [] H' b := fun {σ' H' s'} I' hn b hb =>
    ⟨hn b hb, (I'.ok.exf b hb).1, I'.ok.exfs b hb, .inl hb, fun x c e => (I'.ok.exf b hb).2 x c e, fun p hp => absurd (show p ∈ ([] : List (Addr × Obj)) ++ [] from hp) (by simp)⟩
  have hAf : X.A.frames = some (X.env :: X.outer) := by rw [I.ok.frames, hst]
  -- an exception of the element's call
  have fails : ∀ {u : Value} {s' : Shared}, xeB (X.blk s3 H3 scope ce fp) E u s' → notedBy (model X.prog X.w) X.A ce (fun e s' => compEnds (model X.prog X.w) X.A X.xe use Qf (.ref D) ce (.error e) s') u s' := by
    intro u s' x
    obtain ⟨pinsB, σB, HB, sB, IB, cx⟩ := x
    obtain ⟨a, B, sI, H', cls, d, rfl, IS, nb, up, fl, na, os, ag, ga, hE⟩ := fly_of_call IB cx
    have fl' : HandSPX.FlyingZ B (X.env :: X.outer) a (L2N.Zn cls d) s'.heap := by rw [← hst]; exact fl
    show wpAny _ _ (noteFrame (.ref a) ce) _ _ s'
    rw [noteFrame_env _ cF]
    refine PXN.looks_onZ L2N.Zn.steady hAf hfr fl' fun h1 hH up1 => ?_
    show compEnds _ _ _ _ _ _ _ (.error (.ref a)) _
    have goal : CompFails (model X.prog X.w) X.A X.xe ce (.ref a) { s' with heap := h1 } := by
      obtain ⟨m, hn, _⟩ := IS.loc
      have hn : sI.heap.Ns ce.locals m := hn
      have hn1 : h1.Ns ce.locals m := hn.upToSlots fun b o e q => (up.trans up1) b o e q
      refine ⟨m, hn1, fun h2 m2 hn2 sb2 => ?_⟩
      have hn1' := hn1
      obtain ⟨oC, esC, epC, hoC, hdC, _⟩ := hn1'
      -- all without the block's dict
      obtain ⟨G, gG1, gG2⟩ := restrict sI.heap fun b => decide (b ≠ ce.locals)
      obtain ⟨B', gB1, gB2⟩ := restrict B fun b => decide (b ≠ ce.locals)
      have Gk : ∀ b, b ≠ ce.locals → G.get? b = sI.heap.get? b := fun b hb => gG1 b (decide_eq_true hb)
      have Gn : G.get? ce.locals = none := gG2 _ (by simp)
      have Bk : ∀ b, b ≠ ce.locals → B'.get? b = B.get? b := fun b hb => gB1 b (decide_eq_true hb)
      have Bn : B'.get? ce.locals = none := gB2 _ (by simp)
      have Go : ∀ b o, G.get? b = some o → b ≠ ce.locals ∧ sI.heap.get? b = some o := fun b o e => by
        by_cases hb : b = ce.locals
        · rw [hb, Gn] at e; cases e
        · exact ⟨hb, (Gk b hb).symm.trans e⟩
      have Bo : ∀ b o, B'.get? b = some o → b ≠ ce.locals ∧ B.get? b = some o := fun b o e => by
        by_cases hb : b = ce.locals
        · rw [hb, Bn] at e; cases e
        · exact ⟨hb, (Bk b hb).symm.trans e⟩
      have BnB : ∀ b, B.get? b = none → B'.get? b = none := fun b e => by
        cases q : B'.get? b with
        | none => rfl
        | some o => rw [(Bo b o q).2] at e; cases e
      have old : ∀ b o, s3.heap.get? b = some o → b ≠ ce.locals := fun b o e => by
        rw [cL]; exact Nat.ne_of_lt (Heap.lt_size e)
      have fC : H' ce.locals = none := IS.free
      have U0 : Un (frs X.stack) fp H3 H' s3.heap sI.heap := IS.base
      have I7 : Inv X pins σ H' { sI with heap := G } := by
        refine I3.call' (s' := { sI with heap := G }) (ch := fp) IS.os ⟨fun b o e n hb hx => (Gk b (old b o e)).trans (U0.keep b o e n hb hx), fun b o e n hb hx => ?_, U0.free, fun b o e hx => ?_, U0.tups, U0.frzs, U0.tbls⟩ ?_ IS.bare
          fun b hb => ⟨(f3 b hb).1.2.2.2.1, (f3 b hb).1.2.1, (f3 b hb).1.2.2.2.2.1, (f3 b hb).1.2.2.2.2.2⟩
        · obtain ⟨sl, q⟩ := U0.slot b o e n hb hx
          exact ⟨sl, (Gk b (old b o e)).trans q⟩
        · obtain ⟨o', q⟩ := U0.there b o e hx
          exact ⟨o', (Gk b (old b o e)).trans q⟩
        · intro b o q
          refine (IS.hok b o q).stay (fun c v hc r => (Gk c ?_).trans r) (fun _ r => r) fun _ _ r => r
          intro z
          rcases hc with hc | hc
          · rw [← hc, z, fC] at q; cases q
          · rw [z, fC] at hc; cases hc
      obtain ⟨k1, k2, k3, oe, vs, Tb, oT, ts, he1, hz1, hd1, hv1, hnT, hTe, hT, hdT, h3'⟩ := hH
      have aC : a ≠ ce.locals := fun z => by
        rw [z, hoC] at he1; cases he1; rw [hdC] at hd1; cases hd1
      have tC : Tb ≠ ce.locals := fun z => by
        rw [z, hoC] at hT; cases hT; rw [hdC] at hdT; cases hdT
      have ff2 : h2.FunFrames B' (X.env :: X.outer) := funFrames_none (Heap.FunFrames.sameBut sb2 hn2 k3) fun L hL => BnB L (k3.mem hL).1
      have tr2 : HandSPX.TracedZ h2 B' a (L2N.Zn cls d) (rawInt X.env.locals) := ⟨oe, vs, Tb, oT, ts, (sb2.2 a aC).trans he1, hz1, hd1, hv1, BnB _ hnT, hTe, (sb2.2 Tb tC).trans hT, hdT, h3'⟩
      have hH2 : HandSPX.HeldZ B' (X.env :: X.outer) a (L2N.Zn cls d) X.env.locals h2 := ⟨fun b o e => (sb2.2 b (Bo b o e).1).trans (k1 b o (Bo b o e).2), BnB a k2, ff2, tr2⟩
      unfold PySem.passOn
      refine wpAny_bind (wpAny_field ((sb2.2 a aC).trans he1) hd1 hv1 ?_)
      rw [if_neg (show ¬ ((Value.ref Tb == Value.none) = true) from by simp)]
      rw [cF, hfr]
      have fin : wpAny (model X.prog X.w) X.A (setFlight (.ref a) (some X.env.locals)) (fun _ s4 => wpAny (model X.prog X.w) X.A (throw (.ref a) : Sem Value) (fun _ _ => False) X.xe s4) X.xe { s' with heap := h2 } := by
        refine HandSPX.setFlight_onZ (s := { s' with heap := h2 }) hH2 fun h4 hh4 up4 => wpAny_throw (tk _ _ ?_)
        refine ⟨a, B', { sI with heap := G }, pins, σ, H', cls, d, rfl, I7, fun b o e hb => ?_, fun b o e hnf => ?_, .inr (.inr (by rw [hst]; exact hh4)), na, os, ag, hW _ _ _ hE⟩
        · obtain ⟨hbC, e'⟩ := Go b o e
          exact (Bk b hbC).trans (nb b o e' hb)
        · obtain ⟨hbC, e'⟩ := Go b o e
          obtain ⟨sl, e2⟩ := (up.trans up1) b o e' hnf
          obtain ⟨sl', e3⟩ := up4 b _ ((sb2.2 b hbC).trans e2) hnf
          exact ⟨sl', e3⟩
      first
        | exact wpAny_bind (wpAny_pure (wpAny_bind fin))
        | exact wpAny_bind fin
    cases use <;> exact goal
  have loop : codeAny (model X.prog X.w) X.A (.compLoop (.ListComp elt [⟨tg, iter, ifs, 0⟩] scope pos) 0 (.ref it) (.ref D) ce) (compEnds (model X.prog X.w) X.A X.xe use Qf (.ref D) ce) s4 := by
    refine compLoop_any (fun n s' => ∃ i H', Inv (X.blk s3 H3 scope ce fp) [] (wipe σ (own.map (·.2))) H' s' ∧ tn i s'.heap ∧ (∀ b ∈ fp, H' b = none) ∧ W0 i n H') ?_ m0 ⟨0, H3, I4, st4, nfp, w0⟩
    rintro n s5 ⟨i, H5, I5, st5, n5, w5⟩
    rcases turn i n H5 w5 with ⟨stop, qq⟩ | ⟨go, Nx, hNx, step⟩
    · have td := T.done (X.blk s3 H3 scope ce fp) rfl rfl rfl hc i [] s5 _ H5 (fun _ _ => False) I5 (stat I5 n5) st5 stop
      refine thnF td fun r s6 ⟨hr, I6⟩ => ?_
      subst hr
      -- back in the def's context
      have I7 : Inv X pins σ H5 s6 := I3.call' (ch := fp) I6.os I6.base I6.hok I6.bare fun b hb => ⟨(f3 b hb).1.2.2.2.1, (f3 b hb).1.2.1, (f3 b hb).1.2.2.2.2.1, (f3 b hb).1.2.2.2.2.2⟩
      have nC : H5 s3.heap.objs.size = none := by
        have z : H5 ce.locals = none := I6.free
        rw [cL] at z
        exact z
      obtain ⟨m, hn, _⟩ := I6.loc
      have hn : s6.heap.Ns ce.locals m := hn
      rw [cL] at hn
      exact hRR D s3.heap.objs.size s6 m H5 ce I7 qq hn (I3.fpOk (Nat.le_refl _) nC) cL
    · have ti := T.item (X.blk s3 H3 scope ce fp) rfl rfl rfl hc i [] s5 _ H5 (fun _ _ => False) I5 (stat I5 n5) st5 go
      refine thnF ti fun r s6 ⟨u, hr, h6⟩ => ?_
      subst hr
      refine thnF h6 fun _ s7 ⟨x, H7, I7, r7, y7, st7, n7⟩ => ?_
      have I7' := I7.pinned (stat I7 n7) (T.obj _ _ st7)
      refine thnF (pg.run _ s7 _ H7 x u _ I7' r7 (step x H7 y7)) fun _ s8 ⟨σ8, H8, I8, hw8, q8⟩ => ?_
      refine thnF (pt.run _ s8 σ8 H8 _ I8 q8) fun b s9 ⟨H9, I9, q9⟩ => ?_
      -- the turn's end
      have fin : ∀ {s' : Shared} {H' : Hp}, Inv (X.blk s3 H3 scope ce fp) ([] ++ pinsAt fp s7.heap) σ8 H' s' → Nx H' → ∃ m, m < n ∧ ∃ i H', Inv (X.blk s3 H3 scope ce fp) [] (wipe σ (own.map (·.2))) H' s' ∧ tn i s'.heap ∧ (∀ b ∈ fp, H' b = none) ∧ W0 i m H' := fun {s' H'} I' nx => by
        obtain ⟨m', hm, w'⟩ := hNx H' nx
        have pin' : ∀ b ∈ fp, ∀ o, s7.heap.get? b = some o → s'.heap.get? b = some o ∧ H' b = none := fun b hb o e =>
          let z := I'.pin (b, o) (List.mem_append_right _ (List.mem_append_right _ (mem_pinsAt hb e)))
          ⟨z.1, z.2.1⟩
        have hl : (wipe σ (own.map (·.2))).length = σ8.length := by rw [← hw8, wipe_length]
        refine ⟨m', hm, i + 1, H', (I'.unpinned (pins := [])).weak hl (fun j v e => ?_), T.keep _ _ _ st7 fun b hb o e => (pin' b hb o e).1, fun b hb => ?_, w'⟩
        · rw [← hw8] at e
          exact (wipe_some e).1
        · obtain ⟨o, e, _⟩ := T.obj _ _ st7 b hb
          exact (pin' b hb o e).2
      cases b with
      | false =>
        simp only [Bool.false_eq_true, if_false] at q9 ⊢
        exact fin I9 q9
      | true =>
        simp only [if_true] at q9 ⊢
        refine wpAny_mono (pe.run _ s9 σ8 H9 _ (I9.wish _) q9) (fun z s10 ⟨yv, H10, I10', r10, acc, hD10, hz10, nx⟩ => ?_) fun u s' x => fails x
        have I10 := I10'.unwish
        exact app_ok (X := X.blk s3 H3 scope ce fp) I10 hD10 hz10 r10 fun s11 I11 => fin I11 nx
  exact codeAny_compStart_list loop (T.self X.A 0 _ _ _ st4 loop)
/-- the reading: as tLc, the element's by the slots -/
abbrev tLcX (wi : TI) (g : TG) (tt : TT) (te : L2.St → TE) (vs : List Nat) : TE := fun σ H Q => tLc wi g tt (te σ) vs σ H Q
/-- as a value -/
theorem pe_lcX {elt tg iter : Expr} {ifs : List Expr} {scope : Scope} {own : List (Str × Nat)} {pos : Pos} {wi : TI} {g : TG} {tt : TT} {te : L2.St → TE} {W : WX} {E : L2.St → XK}
    (hst : X.stack = X.env :: X.outer) (hfr : X.env.frame = some X.env.locals) (tk : L2N.Takes X W) (hW : ∀ σ cls d H, E σ cls d H → W cls d σ H) (hc : X.calm = true) (hN : X.N.Nodup) (hi : PI X tg iter wi) (ok : BlkOk X.N X.env.scope scope own)
    (hg : ∀ (s : Shared) (H : Hp) (C : Addr) (cl : List (Str × Addr)) (fp : List Addr), PG (X.blk s H scope (compEnvC scope cl C X.env) fp) tg g) (ht : ∀ (s : Shared) (H : Hp) (C : Addr) (cl : List (Str × Addr)) (fp : List Addr), PTs (X.blk s H scope (compEnvC scope cl C X.env) fp) ifs tt)
    (he : ∀ (σ : L2.St) (s : Shared) (H : Hp) (C : Addr) (cl : List (Str × Addr)) (fp : List Addr), PE (blkX X s H scope (compEnvC scope cl C X.env) fp (E σ)) elt (te σ)) (hs : ∀ x, foldedSetIterable iter X.env x = pure x := by intro _; rfl) :
    PE X (.ListComp elt [⟨tg, iter, ifs, 0⟩] scope pos) (tLcX wi g tt te (own.map (·.2))) := by
  refine ⟨fun pins s σ H Q I h => ?_⟩
  rw [eval_ListComp]
  refine lc_coreX (E := E σ) hst hfr tk (fun cls d H => hW σ cls d H) hc hN I hi ok hg ht (he σ) hs h fun D C s' m H' cenv I' q hn f hcl => ⟨m, by rw [hcl]; exact hn, fun h'' sb => ?_⟩
  rw [hcl] at sb
  obtain ⟨f0, f1, f2, f3, f4, f5⟩ := f
  exact ⟨.ref D, H', I'.turned (t' := s'.toks) (fun b o hb e => (sb.2 b hb).trans e) f0 f1 f3 f4 f5, rfl, q⟩
/-- name = [..] on one line, the name a local -/
theorem ps_setLcX {i : Nat} {y : Str} {py : Pos} {elt tg iter : Expr} {ifs : List Expr} {scope : Scope} {own : List (Str × Nat)} {pos spos : Pos} {wi : TI} {g : TG} {tt : TT} {te : L2.St → TE} {W : WX} {E : L2.St → XK}
    (hst : X.stack = X.env :: X.outer) (hfr : X.env.frame = some X.env.locals) (tk : L2N.Takes X W) (hW : ∀ σ cls d H, E σ cls d H → W cls d σ H) (hc : X.calm = true) (hN : X.N.Nodup) (hy : X.N[i]? = some y) (hyl : X.env.scope.names.lookup y = some .local)
    (hsw : swapsWith (.ListComp elt [⟨tg, iter, ifs, 0⟩] scope pos) (some (.Name y py)) spos.line X.env = pure true) (hi : PI X tg iter wi) (ok : BlkOk X.N X.env.scope scope own)
    (hg : ∀ (s : Shared) (H : Hp) (C : Addr) (cl : List (Str × Addr)) (fp : List Addr), PG (X.blk s H scope (compEnvC scope cl C X.env) fp) tg g) (ht : ∀ (s : Shared) (H : Hp) (C : Addr) (cl : List (Str × Addr)) (fp : List Addr), PTs (X.blk s H scope (compEnvC scope cl C X.env) fp) ifs tt)
    (he : ∀ (σ : L2.St) (s : Shared) (H : Hp) (C : Addr) (cl : List (Str × Addr)) (fp : List Addr), PE (blkX X s H scope (compEnvC scope cl C X.env) fp (E σ)) elt (te σ)) (hs : ∀ x, foldedSetIterable iter X.env x = pure x := by intro _; rfl) :
    PS X (.Assign [.Name y py] (.ListComp elt [⟨tg, iter, ifs, 0⟩] scope pos) spos) (tAsg (tLcX wi g tt te (own.map (·.2))) (gName i)) := by
  refine ⟨fun pins s σ H D I h => ?_⟩
  rw [exec_Assign_Name_used _ _ _ _ hsw]
  refine wpAny_bind (wpAny_standAt (wpAny_bind ?_))
  show wpAny _ X.A (do let _ ← comprehension (.ListComp elt [⟨tg, iter, ifs, 0⟩] scope pos) scope X.env (firstIterPos [⟨tg, iter, ifs, 0⟩] pos) (newList []) false (eval iter X.env) (some (assign (.Name y py) X.env))) _ _ s
  have h : tLc wi g tt (te σ) (own.map (·.2)) σ H (fun x H1 => gName i x σ H1 D.nx) := h
  refine wpAny_bind (thn (lc_coreX (E := E σ) (Qf := fun _ s' => SP X pins D .next s') hst hfr tk (fun cls d H => hW σ cls d H) hc hN I hi ok hg ht (he σ) hs h fun L C s' m H' cenv I' q hn f hcl => ?_) fun _ s' hq => wpAny_pure (wpAny_pure hq))
  show wpAny _ _ (assign (.Name y py) X.env (.ref L)) _ _ _
  refine wpAny_assign_Name (store_ok2 (v := V.ref L) I' hN hy (.inl hyl) rfl (fun s2 I2 ⟨a, sb, ha⟩ => ?_) (.inr hyl))
  obtain ⟨f0, f1, f2, f3, f4, f5⟩ := f
  have haC : C ≠ a := by
    rcases ha with z | z
    · rw [z]; exact f1
    · exact fun e => f4 y a z e.symm
  refine ⟨m, by rw [hcl]; exact hn.sameBut sb haC, fun h3 sb3 => ?_⟩
  rw [hcl] at sb3
  exact ⟨_, H', I2.turned (t' := s2.toks) (fun b o hb e => (sb3.2 b hb).trans e) f0 f1 f3 f4 f5, q⟩
end
end L2Y
namespace L2Y
open PySem PySem.Spec PyProof.Rows L2 RZ
/-! ### enumerate(tuple) -/
theorem meets_enumerate_newT (l : Addr) (items : Array Value) :
    Meets (Builtin.«enumerate.__new__» ⟨[.type "enumerate", .ref l], []⟩) (fun _ R s => s.heap.IsTuple l items ∧
      R (.ok (.ret (.ref (s.heap.push { cls := .type "tuple_iterator", data := .fields #[.ref l, .int 0 0] }).objs.size)))
        { s with heap := (s.heap.push { cls := .type "tuple_iterator", data := .fields #[.ref l, .int 0 0] }).push { cls := .type "enumerate", data := .fields #[.none, .bool false, .ref s.heap.objs.size, rawInt 0, .none, .none] } }) :=
  .of_wp fun prog w A R s h => by
    obtain ⟨hp, g, d, tk, os⟩ := s; obtain ⟨hl, h⟩ := h
    have hsub := sub_enumerate
    have hL : Heap.IsTuple (Shared.heap ⟨hp, g, d, tk, os⟩) l items := hl
    have q1 : ∀ {A' : Around} {E : Value → Shared → Prop} {Q : Value → Shared → Prop}, Q (.ref hp.objs.size) ⟨hp.push { cls := .type "tuple_iterator", data := .fields #[.ref l, .int 0 0] }, g, d, tk, os⟩ → wpAny (model prog w) A' (pyIter (.ref l)) Q E ⟨hp, g, d, tk, os⟩ :=
      fun q => wpAny_pyIter_tuple hL q
    wp_walk using q1
    refine wpAny_stack_any fun st => wpAny_pure ?_
    split
    · rename_i c _ _ _ _ _
      cases (c == Value.type "enumerate")
      · wp_walk using q1
        exact ⟨_, rfl, h⟩
      · wp_walk using q1
        exact ⟨_, rfl, h⟩
    · wp_walk using q1
      exact ⟨_, rfl, h⟩
theorem call_enumerate_tuple {prog : Program} {w : World} {A : Around} {E : Value → Shared → Prop} {s : Shared} {l : Addr} {items : Array Value} {Q : Value → Shared → Prop} (hL : s.heap.IsTuple l items)
    (h : ∀ h', IsEnum h' (s.heap.objs.size + 1) s.heap.objs.size 0 .none → h'.IsTupleIter s.heap.objs.size l 0 → h'.objs.size = s.heap.objs.size + 2 →
      (∀ b o, s.heap.get? b = some o → h'.get? b = some o) → Q (.ref (s.heap.objs.size + 1)) { s with heap := h' }) :
    wpAny (model prog w) A (call (.type "enumerate") [.ref l]) Q E s := by
  refine callType_new F.called_enumerate (by decide) (F.typeCall_enumerate_1 _) (F.newCall_enumerate_1 _) (fun obj => F.args_object_init_2 obj _) F.entry_enumerate_new
    (meets_enumerate_newT l items) ⟨hL, ?_⟩
  have hz : (s.heap.push { cls := .type "tuple_iterator", data := .fields #[.ref l, .int 0 0] }).objs.size = s.heap.objs.size + 1 := Heap.size_push ..
  show _ ∧ _
  rw [hz]
  have he : IsEnum ((s.heap.push { cls := .type "tuple_iterator", data := .fields #[.ref l, .int 0 0] }).push
      { cls := .type "enumerate", data := .fields #[.none, .bool false, .ref s.heap.objs.size, rawInt 0, .none, .none] }) (s.heap.objs.size + 1) s.heap.objs.size 0 .none := by
    have := Heap.get?_push_size (s.heap.push { cls := .type "tuple_iterator", data := .fields #[.ref l, .int 0 0] })
      (o := { cls := .type "enumerate", data := .fields #[.none, .bool false, .ref s.heap.objs.size, rawInt 0, .none, .none] }) rfl
    rw [hz] at this; exact this
  refine ⟨⟨_, he, rfl⟩, h _ he ⟨_, Heap.get?_push_of_some _ (Heap.get?_push_size _ rfl), rfl, rfl⟩ (by rw [Heap.size_push, hz]) fun b o x => Heap.get?_push_of_some _ (Heap.get?_push_of_some _ x)⟩
/-- the tuple at a, each item in a new pair -/
def IteT (K : PySem.W.Frag) (a : Addr) : It :=
  ⟨fun i H => ∃ (xs : List V) (x : V), SqT K H a xs ∧ xs[i]? = some x, fun i H v H' => ∃ T x, v = .ref T ∧ H T = none ∧ H' = upd H T (.tup [.int (i : Nat), x]) ∧ ∀ xs, SqT K H a xs → xs[i]? = some x, fun i H => ∃ xs : List V, SqT K H a xs ∧ xs.length ≤ i⟩
theorem turn_enumT {P : Program} {w : World} {K : PySem.W.Frag} {elts : List Expr} {kk : Nat} {tpos : Pos} (a e it : Addr) (hai : a ≠ it) (hea : e ≠ a) :
    Turn P w K (.Tuple elts kk tpos) (IteT K a) [e, it] e (fun i h => (∃ old, IsEnum h e it ((i : Nat) : Int) old) ∧ h.IsTupleIter it a i ∧ e ≠ it) where
  mem := by simp
  obj := fun i h st b hb => by
    obtain ⟨⟨old, he⟩, ⟨o, ho, hc, hd⟩, _⟩ := st
    have e' : b = e ∨ b = it := by simpa using hb
    rcases e' with z | z
    · rw [z]; exact ⟨_, he, fun v q => nomatch q⟩
    · rw [z]; exact ⟨o, ho, fun v q => by rw [hd] at q; cases q⟩
  keep := fun i h h' st k => let ⟨⟨old, he⟩, hi, hne⟩ := st; ⟨⟨old, k e (by simp) _ he⟩, hi.at fun o q => k it (by simp) o q, hne⟩
  item := by
    intro X hP hw hK hc i pins s σ H E I hf st hg
    subst hP hw hK
    obtain ⟨⟨old, he⟩, hit, hne⟩ := st
    obtain ⟨xs, x, hq, hx⟩ := hg
    obtain ⟨its, rv, p, hz⟩ := I.tuple hq
    have p' : s.heap.IsTuple a its.toArray := p
    have hil : it < s.heap.objs.size := by obtain ⟨_, q, _⟩ := hit; exact Heap.lt_size q
    have hel : e < s.heap.objs.size := Heap.lt_size he
    obtain ⟨u, hu, ru⟩ := rv.get hx
    have hlt : i < its.toArray.size := by
      have := (List.getElem?_eq_some_iff.mp hu).1
      simpa using this
    have hh : X.A.in1.handled = none := I.ok.hd hc
    refine wpAny_pyNext_enum_itemD (Draws.tuple (A := X.A.in1) hh it a hai its.toArray) he ⟨hit, p'⟩ hlt hne (by simp [hne, hea]) fun x' h' tk hP ho hs' hT hsz hk => ?_
    have ex : x' = u := by
      have hP' : its.toArray[i]? = some x' := hP
      simp only [List.getElem?_toArray] at hP'
      rw [hu] at hP'
      exact (Option.some.inj hP').symm
    subst ex
    refine ⟨_, rfl, wpAny_letOwnedTupleGo_enum (s := { s with heap := h', toks := tk + 1 }) ho fun h'' he' sb => ?_⟩
    have hT2 : h''.get? s.heap.objs.size = some { cls := .type "tuple", data := .seq #[.int i tk, x'] } := (sb.2 _ (Nat.ne_of_gt hel)).trans hT
    have new : ObjOk X.prog X.w (upd H s.heap.objs.size (.tup [.int (i : Nat), x])) h'' s.heap.objs.size (.tup [.int (i : Nat), x]) :=
      ⟨by show 2 ≤ sizeLine; decide, [.int i tk, x'], .cons ⟨_, rfl⟩ (.cons ru .nil), ⟨_, hT2, rfl, _, rfl⟩⟩
    have I1 : Inv X pins σ (upd H s.heap.objs.size (.tup [.int (i : Nat), x])) { s with heap := h'', toks := tk + 1 } :=
      I.turnedNew (ch := [e, it]) (fun b ob hb q => (sb.2 b (fun z => hb (by simp [z]))).trans (hk b ob (fun z => hb (by simp [z])) (fun z => hb (by simp [z])) q)) hf (Nat.le_refl _) new
    refine ⟨.ref s.heap.objs.size, _, I1, rfl, ⟨_, x, rfl, I.hok.fresh (Nat.le_refl _), rfl, fun ys hy => by rw [I.tuple_inj hy hq]; exact hx⟩, ⟨⟨x', ?_⟩, hs'.1.at fun o q => (sb.2 it (Ne.symm hne)).trans q, hne⟩, fun b hb => ?_⟩
    · have e1 : ((i + 1 : Nat) : Int) = (i : Int) + 1 := by omega
      rw [e1]; exact he'
    · have hb' : b < s.heap.objs.size := by
        have e' : b = e ∨ b = it := by simpa using hb
        rcases e' with z | z
        · rw [z]; exact hel
        · rw [z]; exact hil
      rw [upd_ne (Nat.ne_of_lt hb')]
      exact (hf b hb).1
  done := by
    intro X hP hw hK hc i pins s σ H E I hf st hg
    subst hP hw hK
    obtain ⟨⟨old, he⟩, hit, hne⟩ := st
    obtain ⟨xs, hq, hx⟩ := hg
    obtain ⟨its, rv, p, hz⟩ := I.tuple hq
    have p' : s.heap.IsTuple a its.toArray := p
    obtain ⟨f0, f1, f2, f3, f4, f5⟩ := hf it (by simp)
    have hl := rv.length
    have hh : X.A.in1.handled = none := I.ok.hd hc
    have hend : its.toArray[i]? = none := by simp; omega
    have hT : s.TypeIs (.ref e) "enumerate" := ⟨_, he, rfl⟩
    unfold pyNext
    refine wpAny_bind (wpAny_attempt (wpAny_callSpecial?_slot (name := Str.ofString "__next__") hT F.slot_enumerate_next
      (wpAny_call_entry F.slot_enumerate_next hT F.entry_enumerate_next ?_ (F.args_enumerate_next_1 _))))
    show wpAny _ _ (field (.ref e) 2 >>= _) _ _ _
    refine wpAny_bind (wpAny_field he rfl (x := .ref it) rfl ?_)
    refine wpAny_bind (wpAny_nextOf_tuple_end hh hit p' hend fun h' x he' hx' => ?_)
    obtain ⟨o, ho, hc'⟩ := hx'
    refine wpAny_bind (wpAny_isInstance (T := "StopIteration") (b := true) ⟨o, ho, hc'⟩ isSubtype_stop ?_)
    exact wpAny_pure ⟨rfl, I.turned (t' := s.toks) (fun b o hb q => he' b o hb q) f0 f1 f3 f4 f5⟩
  self := fun A i s Q E st h => let ⟨⟨_, he⟩, _⟩ := st; wpAny_pyIter_enum he h
def iEnumT (K : PySem.W.Frag) (ta : TA) : TI := fun σ H R => ta σ H fun vs H1 => ∃ a xs, vs = [.ref a] ∧ SqT K H1 a xs ∧ R (IteT K a) H1
theorem pi_enumT {X : Cx} {e : Expr} {ta : TA} {p pos tpos : Pos} {elts : List Expr} {kk : Nat} (hg : Gl X "enumerate") (hm : X.mg "enumerate" = none) (ha : PA X [e] ta) (hs : starEach [e] X.env = [(false, eval e X.env)] := by rfl) :
    PI X (.Tuple elts kk tpos) (.Call (.Name "enumerate" p) [e] [] pos) (iEnumT X.K ta) := by
  refine ⟨fun pins s σ H R I h => ?_⟩
  refine Call_ (ld_blt I hg hm boot_enumerate (PyProof.Rows.callWith_type1 (thn (ha.run pos pins s σ H _ I h) fun us s1 ⟨vs, H1, I1, r1, q1⟩ => ?_) hs rfl))
  obtain ⟨a, xs, ex, hq, q⟩ := q1
  subst ex
  cases r1 with
  | cons r rr =>
    cases rr
    cases r
    obtain ⟨its, rv, p', hz⟩ := I1.tuple hq
    have pT : s1.heap.IsTuple a its.toArray := p'
    have hal : a < s1.heap.objs.size := by obtain ⟨_, e1, _⟩ := p'; exact Heap.lt_size e1
    refine call_enumerate_tuple pT fun h' he hit hsz hk => wpAny_pyIter_enum he ?_
    have I2 : Inv X pins σ H1 { s1 with heap := h' } := I1.kept (t' := s1.toks) hk
    refine ⟨s1.heap.objs.size + 1, [s1.heap.objs.size + 1, s1.heap.objs.size], _, _, H1, rfl, I2, turn_enumT a (s1.heap.objs.size + 1) s1.heap.objs.size (Nat.ne_of_lt hal) (Nat.ne_of_gt (Nat.lt_succ_of_lt hal)), ⟨⟨.none, he⟩, hit, Nat.succ_ne_self _⟩, fun b hb => ?_, q⟩
    have e' : b = s1.heap.objs.size + 1 ∨ b = s1.heap.objs.size := by simpa using hb
    have hle : s1.heap.objs.size ≤ b := by
      rcases e' with z | z
      · rw [z]; exact Nat.le_add_right _ _
      · rw [z]; exact Nat.le_refl _
    exact I1.fpOk hle (I1.hok.fresh hle)
section
variable {K : PySem.W.Frag} {a b : Addr} {xs ys : List V}
theorem walk_enumT : Walk (IteT K a) xs.length (fun H => SqT K H a xs) (YPair (fun i => some (.int (i : Nat))) (fun i => xs[i]?)) := by
  refine ⟨fun i _ hi q => ⟨xs, xs[i], q, by simp [hi]⟩, fun _ q => ⟨xs, q, Nat.le_refl _⟩, fun i H v H' _ q y => ?_⟩
  obtain ⟨T, x, h1, h2, h3, h4⟩ := y
  exact ⟨T, .int (i : Nat), x, h1, h2, h3, rfl, h4 xs q⟩
theorem walk_zipT {n : Nat} (hn : n = min xs.length ys.length) : Walk (ItzT K a b) n (fun H => SqT K H a xs ∧ SqT K H b ys) (YPair (fun i => xs[i]?) (fun i => ys[i]?)) := by
  subst hn
  refine ⟨fun i _ hi q => ?_, fun _ q => ⟨xs, ys, q.1, q.2, by omega⟩, fun i H v H' _ q y => ?_⟩
  · have h1 : i < xs.length := by omega
    have h2 : i < ys.length := by omega
    exact ⟨xs, ys, xs[i], ys[i], q.1, q.2, by simp [h1], by simp [h2]⟩
  · obtain ⟨T, x, z, h1, h2, h3, h4, h5⟩ := y
    exact ⟨T, x, z, h1, h2, h3, h4 xs q.1, h5 ys q.2⟩
end
end L2Y
namespace L2Y
open PySem PySem.Spec PyProof.Rows L2
section
variable {X : Cx}
/-! ### equality -/
/-- a list against an empty one -/
def rEqNil (K : PySem.W.Frag) (neg : Bool) : R2 := fun x y H Q => ∃ a b xs, x = .ref a ∧ y = .ref b ∧ SqL K H a xs ∧ SqL K H b [] ∧ Q (.bl (if neg then !xs.isEmpty else xs.isEmpty)) H
theorem op_eqNil (hu : X.A.units < cLine) : OpR X (compareOp .Eq) (rEqNil X.K false) := by
  intro pins s σ H x y v u Q I rx ry h
  obtain ⟨a, b, xs, rfl, rfl, ha, hb, q⟩ := h
  cases rx
  cases ry
  obtain ⟨its, r1, p1, _⟩ := I.list ha
  obtain ⟨ws, r2, p2, _⟩ := I.list hb
  cases r2
  cases xs with
  | nil =>
    cases r1
    exact SeqAt.eq_listAt (e := fun _ => true) p1.isList p2.isList rfl hu (fun j h1 _ => absurd h1 (Nat.not_lt_zero j)) ⟨.bl true, H, I, rfl, q⟩
  | cons z zs =>
    cases r1
    exact SeqAt.eq_list_lengthsAt p1.isList p2.isList (by simp) hu ⟨.bl false, H, I, rfl, q⟩
theorem op_neNil (hu : X.A.units < cLine) : OpR X (compareOp .NotEq) (rEqNil X.K true) := by
  intro pins s σ H x y v u Q I rx ry h
  obtain ⟨a, b, xs, rfl, rfl, ha, hb, q⟩ := h
  cases rx
  cases ry
  obtain ⟨its, r1, p1, _⟩ := I.list ha
  obtain ⟨ws, r2, p2, _⟩ := I.list hb
  cases r2
  cases xs with
  | nil =>
    cases r1
    exact SeqAt.RcNeAt.lists (e := fun _ => true) p1.isList p2.isList rfl hu (fun j h1 _ => absurd h1 (Nat.not_lt_zero j)) X.prog X.w X.xe _ ⟨.bl false, H, I, rfl, q⟩
  | cons z zs =>
    cases r1
    exact SeqAt.RcNeAt.lists_lengths p1.isList p2.isList (by simp) hu X.prog X.w X.xe _ ⟨.bl true, H, I, rfl, q⟩
/-- data of a depth below 200 -/
def rEqW (K : PySem.W.Frag) (neg : Bool) : R2 := fun x y H Q => ∃ d e, Dp K H x d ∧ Dp K H y e ∧ d.canLay0 = true ∧ e.canLay0 = true ∧ d.depth ≤ 199 ∧ Q (.bl (if neg then !PyData.eqv d e else PyData.eqv d e)) H
theorem op_eqW (hu : X.A.units + 200 < cLine) : OpR X (compareOp .Eq) (rEqW X.K false) := by
  intro pins s σ H x y v u Q I rx ry h
  obtain ⟨d, e, hd, he, sd, se, dd, q⟩ := h
  obtain ⟨as, r1⟩ := Dp.reads I d x v hd rx
  obtain ⟨bs, r2⟩ := Dp.reads I e y u he ry
  exact SeqAt.compareEq_reads r1 r2 sd se (by have := Nat.min_le_left d.depth e.depth; omega) ⟨.bl _, H, I, rfl, q⟩
theorem op_neW (hu : X.A.units + 200 < cLine) : OpR X (compareOp .NotEq) (rEqW X.K true) := by
  intro pins s σ H x y v u Q I rx ry h
  obtain ⟨d, e, hd, he, sd, se, dd, q⟩ := h
  obtain ⟨as, r1⟩ := Dp.reads I d x v hd rx
  obtain ⟨bs, r2⟩ := Dp.reads I e y u he ry
  exact SeqAt.compareNe_reads r1 r2 sd se (by have := Nat.min_le_left d.depth e.depth; omega) ⟨.bl _, H, I, rfl, q⟩
theorem u200 {k : Nat} {A : Around} (r : Room k A) : A.units + 200 < cLine := by have := r.un; omega
theorem u0 {k : Nat} {A : Around} (r : Room k A) : A.units < cLine := by have := r.un; omega
theorem u65 {k : Nat} {A : Around} (r : Room k A) : A.units + 65 < cLine := by have := r.un; omega

/-! ### o.f as a target among others -/
def gFld (K : PySem.W.Frag) (ta : TE) (f : Str) : TG := fun v σ H Q => ta σ H fun x H2 => ∃ a C dx fs, x = .ref a ∧ H2 a = some (.ins C dx fs) ∧ Cls K C ∧ NoAttr K C f ∧ fs.length < 1000 ∧ Q σ (upd H2 a (.ins C dx (putF f v fs)))
theorem pg_fld {o : Expr} {f : Str} {pos : Pos} {ta : TE} (ha : PE X o ta) : PG X (.Attribute o f pos) (gFld X.K ta f) := by
  refine ⟨fun pins s σ H v u Q I r h => ?_⟩
  refine PySem.W.kas_attr (thn (ha.run pins s σ H _ I h) fun ov s2 ⟨x, H2, I2, rx, a, C, dx, fs, ex, ea, c, n, l, q2⟩ => ?_)
  subst ex
  obtain rfl : ov = Value.ref a := rx
  exact setattr_ok I2 ea c n l r fun s3 I3 => ⟨σ, _, I3, q2⟩

/-! ### raise X() -/
theorem pmk_own0 {C : Addr} {bmB : List Value} {B newId initId : String} {x : Str} {p pos : Pos} (F : ExcBaseFacts B newId initId bmB) (q : PySem.W.excIn X.K C bmB newId = true) (gC : X.mg x = some (.ref C)) (kC : PySem.W.keepIn X.K (.ref C) = true) (r : Raises X (.ref C)) (hg : Gl X x)
    (hdb : (x == ("__debug__" : Str)) = false := by decide) : L2N.PMk X (.Call (.Name x p) [] [] pos) (fun _ H Q => Q (.ref C) none H) := by
  intro pins s σ H Q I h
  refine wpAny_Call_Name_kw (ld_glob I hg gC ?_ hdb)
  refine PySem.W.callWith_K0 I.kIn kC ?_
  obtain ⟨bm, N, nm, qn, bs, hdct, sn, sub, ab, col, dd, k0, k1, k2, k3, k5, mN, hC, hN, hni, T⟩ := exc_obj I.kIn q
  refine wpAny_call_exc_subT F T hC hN hni (fun h' e hm => ?_) (by show 0 ≤ sizeLine; decide)
  exact L2N.mk_of I hm r h (I.hok.gone hm.new)
end

/-! ### a def that raises where nothing is handled -/
section
variable {P : Program} {w : World} {K : PySem.W.Frag} {mg : Str → Option Value} {base : Heap}
theorem okN {x qual : Str} {st : Stmt} {f : Addr} {fd : FuncData} {N ps : List Str} {k : Nat} {sp : Sp} (F : Fun K x qual st f fd) (S : FnScope N ps (defScope st)) (len : ∀ vs H Q E, sp vs H Q E → vs.length = ps.length)
    (hbody : ∀ (cdv : Value) (A : Around) (outer : List Env) (s : Shared) (H : Hp) (vs : List V) (Q : VK) (E : XK), Room k (A.deeper (envOfC qual (defScope st) s.heap.objs.size f cdv)) → sp vs H Q E →
      ∃ t, PSs (cxOf (L2N.CX P w) P w K mg base N qual (defScope st) f cdv A outer s H E) (defBody st) t ∧ t { nx := fun _ H' => Q .non H', rt := Q } (start N vs) H) : FnOk P w K mg base (L2N.CX P w) (k + 1) f fd ps sp := by
  obtain ⟨oc, od, kV, doc, pm, an, cdv, ct, osl, rfl, lk, hcd⟩ := F.ex
  exact fn_of lk hcd S len fun A outer s H vs Q E hr hsp => hbody cdv A outer s H vs Q E hr hsp
/-- .. that is called while an exception is handled, and raises nothing -/
theorem okH {x qual : Str} {st : Stmt} {f : Addr} {fd : FuncData} {N ps : List Str} {k : Nat} {sp : Sp} (F : Fun K x qual st f fd) (S : FnScope N ps (defScope st)) (len : ∀ vs H Q E, sp vs H Q E → vs.length = ps.length)
    (hbody : ∀ (cdv : Value) (A : Around) (outer : List Env) (s : Shared) (H : Hp) (vs : List V) (Q : VK) (E : XK) (p : Addr × Obj), L2H.Hot1 A p → L2H.RoomH k (A.deeper (envOfC qual (defScope st) s.heap.objs.size f cdv)) → sp vs H Q E →
      ∃ t, PSs (L2H.cxH CX0 P w K mg base N qual (defScope st) f cdv A outer s H E p).nox (defBody st) t ∧ t { nx := fun _ H' => Q .non H', rt := Q } (start N vs) H) : L2H.FnH P w K mg base CX0 (k + 1) f fd ps sp := by
  obtain ⟨oc, od, kV, doc, pm, an, cdv, ct, osl, rfl, lk, hcd⟩ := F.ex
  refine L2H.fn_ofH lk hcd S len fun A outer s H vs Q E p hot hr hsp => ?_
  obtain ⟨t, h, q⟩ := hbody cdv A outer s H vs Q E p hot hr hsp
  exact ⟨t, h.nox, q⟩
end
/-- a call of such a def lets out what this def lets out -/
theorem passN {X : Cx} {E : XK} (tk : L2N.Takes X (fun cls d _ H => E cls d H)) : Passes (L2N.CX X.prog X.w) X E := L2N.passes_call tk fun _ _ _ _ h => h
theorem passX {X : Cx} {E : XK} (tk : L2.Takes X (fun cls d _ H => E cls d H)) : Passes (L2.CX X.prog X.w) X E := L2.passes_call tk fun _ _ _ _ h => h

/-! ### several clauses whose suites raise out of the try -/
inductive HdsX (X : Cx) (Wout : WX) : List ExceptHandler → List (Value × (Addr → Value → Option Addr → TS)) → Prop
  | nil : HdsX X Wout [] []
  | cons {x : Str} {c : Value} {ts : Addr → Value → Option Addr → TS} {b₀ : Stmt} {suite : List Stmt} {np pos' : Pos} {hds : List ExceptHandler} {l : List (Value × (Addr → Value → Option Addr → TS))} (hc : Names X x c)
      (hsu : ∀ (a : Addr) (oe : Obj) (cls : Value) (d : Option Addr) (pn : List (Addr × Obj)), L2N.Zn cls d oe → (∃ vs, oe.data = .fields vs) → L2.Takes (L2H.suiteX X a ((a, oe) :: pn)) Wout → L2H.HotC (L2H.suiteX X a ((a, oe) :: pn)) →
        PSs (L2H.suiteX X a ((a, oe) :: pn)) (b₀ :: suite) (ts a cls d)) (r : HdsX X Wout hds l) :
      HdsX X Wout (.ExceptHandler (some (.Name x np)) none (b₀ :: suite) pos' :: hds) ((c, ts) :: l)
section
variable {X : Cx} {body : List Stmt} {h₀ : ExceptHandler} {hds : List ExceptHandler} {l : List (Value × (Addr → Value → Option Addr → TS))} {pos : Pos} {tb : WX → TS} {Wout : WX}
theorem ps_try_manyX (hs : X.stack = X.env :: X.outer) (hf : X.env.frame = some X.env.locals) (hpa : ∀ hd : Option Value, PassesOwnAt (model X.prog X.w) (X.A.mark hd) X.A X.env X.xe) (tk : L2.Takes X Wout)
    (hb : ∀ (W : WX) (pn : List (Addr × Obj)) (xe : Value → Shared → Prop), L2N.Takes (X.tr pn xe) W → PassesOwn (model X.prog X.w) X.A X.env xe → PSs (X.tr pn xe) body (tb W))
    (hh : HdsX X Wout (h₀ :: hds) l) : PS X (.Try body (h₀ :: hds) [] [] pos) (fun D σ H => tb (wMany X.K Wout D l) D σ H) := by
  refine ⟨fun pins s σ H D I h => ?_⟩
  have ok := I.ok
  have hfr : X.A.frames = some (X.env :: X.outer) := by rw [ok.frames, hs]
  refine wpAny_Try_except ?_
  refine wpAny_mono ((hb (wMany X.K Wout D l) (X.pn ++ pins) (fun e s₁ => wpAny (model X.prog X.w) X.A (noteFrame e X.env) (fun _ s₂ => wpAny (model X.prog X.w) X.A (setFlight e none) (fun _ s₃ =>
    wpAny (model X.prog X.w) X.A (handleBy e X.env (h₀ :: hds)) (SP X pins D) X.xe s₃) X.xe s₂) X.xe s₁) (fun u s' xx => ?_) PassesOwn.looking).run [] s σ H D (I.toTry _) h) (fun f s1 hsp => ?_) (fun e s1 he => he)
  · obtain ⟨a, B, sI, pins', σ', H', cls, d, rfl, J', nb, up, sky, na, os, ag, w⟩ := xx
    have J : Inv X pins σ' H' sI := J'.ofTry ok
    have sky' : Sky B (X.env :: X.outer) a (L2N.Zn cls d) X.env.locals s'.heap := by rw [← hs]; exact sky
    show wpAny (model X.prog X.w) X.A (noteFrame (.ref a) X.env) _ _ _
    refine L2N.Sky.land L2N.Zn.steady hfr hf sky' fun h3 fl3 up3 => ?_
    have J3 : Inv X pins σ' H' { s' with heap := h3 } := J.landed nb fl3.1 (up.trans up3) os ag
    obtain ⟨oe3, vs3, he3, hz3, hd3⟩ := fl3.there
    have nfr : a ∉ frs (X.env :: X.outer) := fun hm => by
      obtain ⟨_, o', e', hnf⟩ := fl3.2.2.1.mem hm
      rw [he3] at e'; cases e'
      exact hnf _ hd3
    have nL : a ≠ X.env.locals := fun z => nfr (List.mem_filterMap.mpr ⟨X.env, List.mem_cons_self, by rw [hf, z]⟩)
    have nF : a ∉ X.fs := fun hm => by
      obtain ⟨e, he, q⟩ := List.mem_filterMap.mp hm
      exact nfr (List.mem_filterMap.mpr ⟨e, List.mem_cons_of_mem _ he, q⟩)
    have S3 := J3.suite he3 hd3 na nL nF
    have go : ∀ {hds' : List ExceptHandler} {l' : List (Value × (Addr → Value → Option Addr → TS))}, HdsX X Wout hds' l' → wMany X.K Wout D l' cls d σ' H' →
        wpAny (model X.prog X.w) X.A (handleBy (.ref a) X.env hds') (SP X pins D) X.xe { s' with heap := h3 } := by
      intro hds' l' hk
      induction hk with
      | nil =>
        intro w
        refine wpAny_handleBy_nil ?_
        have fz : HandSPX.FlyingZ B (X.env :: X.outer) a (Zc cls d) h3 := L2H.flyingZ_imp (fun o z => z.zc) fl3
        obtain ⟨k1, k2, k3, oe, vs, T, oT, ts', he, hz, hd, h1, hr⟩ := id fz
        unfold PySem.passOn
        refine wpAny_bind (wpAny_field he hd h1 ?_)
        rw [if_neg (show ¬ ((Value.ref T == Value.none) = true) from by simp)]
        have fin : wpAny (model X.prog X.w) X.A (setFlight (.ref a) X.env.frame) (fun _ s4 => wpAny (model X.prog X.w) X.A (throw (.ref a) : Sem Flow) (SP X pins D) X.xe s4) X.xe { s' with heap := h3 } := by
          rw [hf]
          refine HandSPX.setFlight_upZ fz fun h4 hh4 up4 => wpAny_throw (tk _ _ ?_)
          exact ⟨a, B, sI, pins, σ', H', cls, d, rfl, J, nb, (up.trans up3).trans up4, .inr (.inr (by rw [hs]; exact hh4)), na, os, ag, w⟩
        first
          | exact wpAny_bind (wpAny_pure (wpAny_bind fin))
          | exact wpAny_bind fin
      | @cons x c ts b₀ suite np pos' hds2 l2 hc hsu r ih =>
        intro w
        obtain ⟨b, hb1, hyes, hno⟩ := w
        refine wpAny_handleBy_cons (codeAny_handlers_test ?_) (by intro q; cases q)
        have LT : PySem.W.Looks (model X.prog X.w) h3 (typeOf (.ref a)) cls := fun A Q E s k q => wpAny_typeOf_ref (k _ _ he3) (by rw [hz3.1]; exact q)
        have LM := PySem.W.exm_one (M := model X.prog X.w) (J3.kIn) LT hb1
        have test : ∀ {Q : Value → Shared → Prop} {E : Value → Shared → Prop}, Q c { s' with heap := h3 } → wpAny (model X.prog X.w) (X.A.mark (some (.ref a))) (eval (.Name x np) X.env) Q E { s' with heap := h3 } := fun {Q E} q => by
          obtain ⟨hg, hdbg, hm | ⟨hm, hv, hnn⟩⟩ := hc
          · exact ld_glob (X := X.suite a ((a, oe3) :: (X.pn ++ pins))) S3 hg hm q hdbg
          · exact ld_blt (X := X.suite a ((a, oe3) :: (X.pn ++ pins))) S3 hg hm hv q hnn hdbg
        refine test (LM.here ?_)
        cases b with
        | true =>
          refine codeAny_handlers_suite ?_
          refine HandSPX.lands_againZ fl3 fun h4 fl4 up4 => ?_
          have J4 : Inv X pins σ' H' { s' with heap := h4 } := J.landed nb fl4.1 ((up.trans up3).trans up4) os ag
          obtain ⟨oe4, vs4, he4, hz4, hd4⟩ := fl4.there
          have S4 := J4.suite he4 hd4 na nL nF
          have tkS : L2.Takes (L2H.suiteX X a ((a, oe4) :: (X.pn ++ pins))) Wout := fun u2 s2 x2 => by
            obtain ⟨a2, B2, sI2, pn2, σ2, H2, cls2, d2, e2, I2, nb2, up2, sky2, na2, os2, ag2, w2⟩ := x2
            exact tk u2 s2 ⟨a2, B2, sI2, pins, σ2, H2, cls2, d2, e2, L2H.unsuiteX I2 ok, nb2, up2, sky2, na2, os2, ag2, w2⟩
          have hot : L2H.HotC (L2H.suiteX X a ((a, oe4) :: (X.pn ++ pins))) := ⟨(a, oe4), ⟨rfl, vs4, hd4, hz4.2.2 vs4 hd4⟩, List.mem_cons_self⟩
          refine wpAny_mono ((hsu a oe4 cls d (X.pn ++ pins) hz4 ⟨_, hd4⟩ tkS hot).run [] _ _ H' _ (L2H.suiteX_of S4) (hyes rfl a na)) (fun f s6 hsp => ?_) (fun e6 s6 z => hpa (some (.ref a)) e6 s6 z)
          cases f with
          | next => obtain ⟨σ6, H6, S6, q6⟩ := hsp; exact ⟨_, _, L2H.unsuiteX S6 ok, q6⟩
          | brk => obtain ⟨σ6, H6, S6, q6⟩ := hsp; exact ⟨_, _, L2H.unsuiteX S6 ok, q6⟩
          | cont => obtain ⟨σ6, H6, S6, q6⟩ := hsp; exact ⟨_, _, L2H.unsuiteX S6 ok, q6⟩
          | ret u => obtain ⟨v6, σ6, H6, S6, r6, q6⟩ := hsp; exact ⟨_, _, _, L2H.unsuiteX S6 ok, r6, q6⟩
        | false => exact ih (hno rfl)
    exact go hh w
  · cases f with
    | next => obtain ⟨σ', H', J', q⟩ := hsp; exact wpAny_execs_nil ⟨σ', H', J'.ofTry ok, q⟩
    | brk => obtain ⟨σ', H', J', q⟩ := hsp; exact ⟨σ', H', J'.ofTry ok, q⟩
    | cont => obtain ⟨σ', H', J', q⟩ := hsp; exact ⟨σ', H', J'.ofTry ok, q⟩
    | ret u => obtain ⟨v, σ', H', J', r, q⟩ := hsp; exact ⟨v, σ', H', J'.ofTry ok, r, q⟩
end
end L2Y
namespace HH
open Pa01
/-! ### terms by kind, number, parts -/
def kd : Term → Nat
  | .place _ => 0
  | .sign _ _ => 1
  | .bind _ => 2
  | .hole _ _ => 3
  | .gone => 4
def nm : Term → Nat
  | .place i => i
  | .sign f _ => f
  | .bind _ => 0
  | .hole h _ => h
  | .gone => 0
def pts : Term → List Term
  | .place _ => []
  | .sign _ ps => ps
  | .bind t => [t]
  | .hole _ ps => ps
  | .gone => []
/-- one more binder under a binder -/
def un (t : Term) : Nat := if kd t = 2 then 1 else 0

/-! ### alike is equal -/
mutual
theorem same_eq : ∀ a b : Term, same a b = true → a = b
  | .place i, b, h => by cases b <;> simp_all [same]
  | .sign f ps, b, h => by
    cases b with
    | sign g qs =>
      simp only [same, Bool.and_eq_true, beq_iff_eq] at h
      rw [h.1, sames_eq ps qs h.2]
    | _ => simp [same] at h
  | .bind t, b, h => by
    cases b with
    | bind u =>
      simp only [same] at h
      rw [same_eq t u h]
    | _ => simp [same] at h
  | .hole f ps, b, h => by
    cases b with
    | hole g qs =>
      simp only [same, Bool.and_eq_true, beq_iff_eq] at h
      rw [h.1, sames_eq ps qs h.2]
    | _ => simp [same] at h
  | .gone, b, h => by cases b <;> simp_all [same]
theorem sames_eq : ∀ a b : List Term, sames a b = true → a = b
  | [], [], _ => rfl
  | [], _ :: _, h => by simp [sames] at h
  | _ :: _, [], h => by simp [sames] at h
  | a :: l, b :: m, h => by
    simp only [sames, Bool.and_eq_true] at h
    rw [same_eq a b h.1, sames_eq l m h.2]
end
mutual
theorem same_refl : ∀ a : Term, same a a = true
  | .place i => by simp [same]
  | .sign f ps => by simp [same, sames_refl ps]
  | .bind t => by simp [same, same_refl t]
  | .hole f ps => by simp [same, sames_refl ps]
  | .gone => by simp [same]
theorem sames_refl : ∀ a : List Term, sames a a = true
  | [] => by simp [sames]
  | a :: l => by simp [sames, same_refl a, sames_refl l]
end
theorem same_iff {a b : Term} : same a b = true ↔ a = b := ⟨same_eq a b, fun h => h ▸ same_refl a⟩

/-! ### sizes -/
theorem sizes_sum : ∀ l : List Term, sizes l = (l.map size).sum
  | [] => rfl
  | t :: l => by simp [sizes, sizes_sum l]
theorem size_eq (t : Term) : size t = 1 + sizes (pts t) := by cases t <;> simp [size, pts, sizes]
theorem deep_eq (t : Term) : deep t = 1 + deeps (pts t) := by cases t <;> simp [deep, pts, deeps]
theorem size_pos (t : Term) : 0 < size t := by rw [size_eq]; omega
theorem deep_pos (t : Term) : 0 < deep t := by rw [deep_eq]; omega
theorem deeps_le {l : List Term} {t : Term} (h : t ∈ l) : deep t ≤ deeps l := by
  induction l with
  | nil => cases h
  | cons a l ih =>
    simp only [deeps]
    rcases List.mem_cons.mp h with rfl | h
    · exact Nat.le_max_left _ _
    · exact Nat.le_trans (ih h) (Nat.le_max_right _ _)
theorem sizes_le {l : List Term} {t : Term} (h : t ∈ l) : size t ≤ sizes l := by
  induction l with
  | nil => cases h
  | cons a l ih =>
    simp only [sizes]
    rcases List.mem_cons.mp h with rfl | h
    · omega
    · have := ih h; omega
theorem sizes_len : ∀ l : List Term, l.length ≤ sizes l
  | [] => Nat.le_refl _
  | t :: l => by
    have := sizes_len l
    have := size_pos t
    simp only [sizes, List.length_cons]
    omega
theorem sizes_append : ∀ a b : List Term, sizes (a ++ b) = sizes a + sizes b
  | [], b => by simp [sizes]
  | t :: l, b => by simp [sizes, sizes_append l b, Nat.add_assoc]
mutual
theorem size_up (d : Nat) : ∀ (c : Nat) (t : Term), size (up d c t) = size t
  | c, .place i => by simp [up, size]
  | c, .sign f ps => by simp [up, size, sizes_ups d c ps]
  | c, .bind t => by simp [up, size, size_up d (c + 1) t]
  | c, .hole f ps => by simp [up, size, sizes_ups d c ps]
  | c, .gone => by simp [up, size]
theorem sizes_ups (d : Nat) : ∀ (c : Nat) (l : List Term), sizes (ups d c l) = sizes l
  | c, [] => by simp [ups, sizes]
  | c, t :: l => by simp [ups, sizes, size_up d c t, sizes_ups d c l]
end
theorem foldl_add (l : List Nat) : ∀ a : Nat, l.foldl (fun a b => a + b) a = a + l.sum := by
  induction l with
  | nil => intro a; simp
  | cons x l ih => intro a; rw [List.foldl_cons, ih, List.sum_cons]; omega
mutual
theorem weighIn_put (r : List Term) : ∀ (d : Nat) (t : Term), weighIn (r.map size) d t = size (put r d t)
  | d, .place i => by
    simp only [weighIn, put]
    by_cases h : i < d
    · simp [h, size]
    · rw [if_neg h, if_neg h]
      cases e : r[i - d]? with
      | none => simp [List.getD, e, size]
      | some t => simp [List.getD, e, size_up]
  | d, .sign f ps => by simp [weighIn, put, size, weighIns_puts r d ps]
  | d, .bind t => by simp [weighIn, put, size, weighIn_put r (d + 1) t]
  | d, .hole f ps => by simp [weighIn, put, size, weighIns_puts r d ps]
  | d, .gone => by simp [weighIn, put, size]
theorem weighIns_puts (r : List Term) : ∀ (d : Nat) (l : List Term), weighIns (r.map size) d l = sizes (puts r d l)
  | d, [] => by simp [weighIns, puts, sizes]
  | d, t :: l => by simp [weighIns, puts, sizes, weighIn_put r d t, weighIns_puts r d l]
end
theorem weighSeen_mask (seen : List Nat) : ∀ (l : List Term) (k : Nat), weighSeen seen k (l.map size) = sizes (mask seen k l)
  | [], k => by simp [weighSeen, mask, sizes]
  | t :: l, k => by
    simp only [List.map_cons, weighSeen, mask, sizes, weighSeen_mask seen l (k + 1)]
    by_cases h : seen.contains k = true
    · rw [if_pos h, if_pos h]
    · rw [if_neg h, if_neg h]; rfl
mutual
theorem weigh_full (hs : List Hole) : ∀ t : Term, weigh hs t = size (full hs t)
  | .place i => by simp [weigh, full, size]
  | .sign f ps => by simp [weigh, full, size, foldl_add, weighs_fulls hs ps, sizes_sum]
  | .bind t => by simp [weigh, full, size, weigh_full hs t]
  | .hole h ps => by
    simp only [weigh, full]
    cases e : hs[h]? with
    | none => simp [size, foldl_add, weighs_fulls hs ps, sizes_sum]
    | some x =>
      cases eb : x.body with
      | none => simp [eb, size, weighs_fulls hs ps, weighSeen_mask]
      | some b => simp [eb, weighs_fulls hs ps, weighIn_put]
  | .gone => by simp [weigh, full, size]
theorem weighs_fulls (hs : List Hole) : ∀ l : List Term, weighs hs l = (fulls hs l).map size
  | [] => by simp [weighs, fulls]
  | t :: l => by simp [weighs, fulls, weigh_full hs t, weighs_fulls hs l]
end
theorem fulls_map (hs : List Hole) : ∀ l : List Term, fulls hs l = l.map (full hs)
  | [] => rfl
  | t :: l => by simp [fulls, fulls_map hs l]
theorem ups_map (d c : Nat) : ∀ l : List Term, ups d c l = l.map (up d c)
  | [] => rfl
  | t :: l => by simp [ups, ups_map d c l]
theorem puts_map (r : List Term) (d : Nat) : ∀ l : List Term, puts r d l = l.map (put r d)
  | [] => rfl
  | t :: l => by simp [puts, puts_map r d l]
theorem turns_map (r : List Term) (d : Nat) : ∀ l : List Term, turns r d l = l.map (turn r d)
  | [] => rfl
  | t :: l => by simp [turns, turns_map r d l]

/-! ### what writing costs -/
mutual
/-- what is left of n when t is written, so deep -/
def pay : Nat → Term → Nat → Option Nat
  | d, .place _, n => if n = 0 ∨ 60 < d then none else some (n - 1)
  | d, .sign _ ps, n => if n = 0 ∨ 60 < d then none else pays (d + 1) ps (n - 1)
  | d, .bind t, n => if n = 0 ∨ 60 < d then none else pay (d + 1) t (n - 1)
  | d, .hole _ ps, n => if n = 0 ∨ 60 < d then none else pays (d + 1) ps (n - 1)
  | d, .gone, n => if n = 0 ∨ 60 < d then none else some (n - 1)
def pays : Nat → List Term → Nat → Option Nat
  | _, [], n => some n
  | d, t :: l, n => (pay d t n).bind (pays d l)
end
theorem pays_one (d : Nat) (t : Term) (n : Nat) : pays d [t] n = pay d t n := by
  simp only [pays]
  cases pay d t n <;> rfl
theorem pay_eq (d : Nat) (t : Term) (n : Nat) : pay d t n = if n = 0 ∨ 60 < d then none else pays (d + 1) (pts t) (n - 1) := by
  cases t <;> simp only [pay, pts, pays_one, pays]
theorem pay_aux {n d S D : Nat} {o : Option Nat} (ho : d ≤ 60 → 0 < n → o = if S ≤ n - 1 ∧ d + 1 + D ≤ 61 then some (n - 1 - S) else none) :
    (if n = 0 ∨ 60 < d then none else o) = if 1 + S ≤ n ∧ d + (1 + D) ≤ 61 then some (n - (1 + S)) else none := by
  by_cases h : n = 0 ∨ 60 < d
  · rw [if_pos h, if_neg (by omega)]
  · rw [if_neg h, ho (by omega) (by omega)]
    by_cases h2 : S ≤ n - 1 ∧ d + 1 + D ≤ 61
    · rw [if_pos h2, if_pos (by omega)]; congr 1; omega
    · rw [if_neg h2, if_neg (by omega)]
theorem pays_aux {n d s S a D : Nat} {f : Nat → Option Nat} (ho : f (n - s) = if S ≤ n - s ∧ d + D ≤ 61 then some (n - s - S) else none) :
    (if s ≤ n ∧ d + a ≤ 61 then some (n - s) else none).bind f = if s + S ≤ n ∧ d + max a D ≤ 61 then some (n - (s + S)) else none := by
  by_cases h : s ≤ n ∧ d + a ≤ 61
  · rw [if_pos h, Option.bind_some, ho]
    by_cases h2 : S ≤ n - s ∧ d + D ≤ 61
    · rw [if_pos h2, if_pos (by omega)]; congr 1; omega
    · rw [if_neg h2, if_neg (by omega)]
  · rw [if_neg h, if_neg (by omega)]; rfl
mutual
theorem pay_is : ∀ (d : Nat) (t : Term) (n : Nat), pay d t n = if size t ≤ n ∧ d + deep t ≤ 61 then some (n - size t) else none
  | d, .place i, n => pay_aux (S := 0) (D := 0) fun h1 h2 => by rw [if_pos (by omega)]; rfl
  | d, .sign f ps, n => pay_aux fun h1 _ => pays_is (d + 1) ps (n - 1) (by omega)
  | d, .bind t, n => pay_aux fun h1 _ => pay_is (d + 1) t (n - 1)
  | d, .hole f ps, n => pay_aux fun h1 _ => pays_is (d + 1) ps (n - 1) (by omega)
  | d, .gone, n => pay_aux (S := 0) (D := 0) fun h1 h2 => by rw [if_pos (by omega)]; rfl
theorem pays_is : ∀ (d : Nat) (l : List Term) (n : Nat), d ≤ 61 → pays d l n = if sizes l ≤ n ∧ d + deeps l ≤ 61 then some (n - sizes l) else none
  | d, [], n, hd => by
    show some n = if 0 ≤ n ∧ d + 0 ≤ 61 then some (n - 0) else none
    rw [if_pos (by omega)]; rfl
  | d, t :: l, n, hd => by
    show (pay d t n).bind (pays d l) = _
    rw [pay_is d t n]
    exact pays_aux (pays_is d l (n - size t) hd)
end
theorem pays_append (d : Nat) : ∀ (l m : List Term) (n : Nat), pays d (l ++ m) n = (pays d l n).bind (pays d m)
  | [], m, n => rfl
  | t :: l, m, n => by
    simp only [List.cons_append, pays]
    cases pay d t n with
    | none => rfl
    | some k => simp only [Option.bind_some]; exact pays_append d l m k
theorem total_sum (l : List Nat) : total l = l.sum := by
  unfold total
  rw [foldl_add]
  omega
theorem deeps_any : ∀ l : List Term, (l.any fun t => decide (60 < deep t)) = true ↔ 60 < deeps l
  | [] => by simp [deeps]
  | t :: l => by
    have := deeps_any l
    simp only [List.any_cons, Bool.or_eq_true, decide_eq_true_eq, this, deeps]
    omega
/-- all that is written, by its cost -/
theorem out_pays (hs : List Hole) (l : List Term) : out hs l = if (pays 1 (l.map (full hs)) 2000).isSome then some (l.map (full hs)) else none := by
  have e1 : total (l.map (weigh hs)) = sizes (l.map (full hs)) := by
    rw [total_sum, sizes_sum, List.map_map]
    congr 1
    exact List.map_congr_left fun t _ => weigh_full hs t
  unfold out
  rw [e1]
  have e2 := deeps_any (l.map (full hs))
  have e3 := pays_is 1 (l.map (full hs)) 2000 (by omega)
  by_cases h1 : SIZE < sizes (l.map (full hs))
  · have h1' : 2000 < sizes (l.map (full hs)) := h1
    rw [if_neg (fun z => absurd z.1 (by omega))] at e3
    rw [if_pos h1, e3]; rfl
  · have h1' : ¬ 2000 < sizes (l.map (full hs)) := h1
    rw [if_neg h1]
    by_cases h2 : ((l.map (full hs)).any fun t => decide (DEEP < deep t)) = true
    · have h2' := e2.mp h2
      rw [if_neg (fun z => absurd z.2 (by omega))] at e3
      rw [if_pos h2, e3]; rfl
    · have h2' : ¬ 60 < deeps (l.map (full hs)) := fun z => h2 (e2.mpr z)
      rw [if_pos ⟨by omega, by omega⟩] at e3
      rw [if_neg h2, e3]; rfl
end HH
namespace HH
open Pa01
/-! ### terms that fit: in n places, each hole with as many parts as it has places -/
mutual
def Fit (ms : List Nat) : Nat → Term → Prop
  | n, .place i => i < n
  | n, .sign _ ps => Fits ms n ps
  | n, .bind t => Fit ms (n + 1) t
  | n, .hole h ps => ms[h]? = some ps.length ∧ Fits ms n ps
  | _, .gone => True
def Fits (ms : List Nat) : Nat → List Term → Prop
  | _, [] => True
  | n, t :: l => Fit ms n t ∧ Fits ms n l
end
theorem fits_iff {ms : List Nat} {n : Nat} : ∀ {l : List Term}, Fits ms n l ↔ ∀ t ∈ l, Fit ms n t
  | [] => by simp [Fits]
  | a :: l => by simp [Fits, fits_iff (l := l)]
mutual
theorem fit_up {ms : List Nat} (d : Nat) : ∀ (c n : Nat) (t : Term), Fit ms (c + n) t → Fit ms (c + n + d) (up d c t)
  | c, n, .place i, h => by
    have h' : i < c + n := h
    show (if i < c then i else i + d) < c + n + d
    split <;> omega
  | c, n, .sign f ps, h => fits_ups d c n ps h
  | c, n, .bind t, h => by
    have h' : Fit ms (c + 1 + n) t := by
      have e : c + 1 + n = c + n + 1 := by omega
      rw [e]; exact h
    have := fit_up d (c + 1) n t h'
    have e : c + 1 + n + d = c + n + d + 1 := by omega
    rw [e] at this
    exact this
  | c, n, .hole f ps, h => ⟨by rw [ups_map, List.length_map]; exact h.1, fits_ups d c n ps h.2⟩
  | c, n, .gone, h => trivial
theorem fits_ups {ms : List Nat} (d : Nat) : ∀ (c n : Nat) (l : List Term), Fits ms (c + n) l → Fits ms (c + n + d) (ups d c l)
  | c, n, [], h => trivial
  | c, n, t :: l, h => ⟨fit_up d c n t h.1, fits_ups d c n l h.2⟩
end
mutual
theorem fit_put {ms : List Nat} {r : List Term} {n : Nat} (hr : ∀ t ∈ r, Fit ms n t) : ∀ (d : Nat) (t : Term), Fit ms (r.length + d) t → Fit ms (n + d) (put r d t)
  | d, .place i, h => by
    have h' : i < r.length + d := h
    simp only [put]
    by_cases hi : i < d
    · rw [if_pos hi]; show i < n + d; omega
    · rw [if_neg hi]
      have hl : i - d < r.length := by omega
      rw [List.getElem?_eq_getElem hl]
      have q := fit_up d 0 n r[i - d] (by rw [Nat.zero_add]; exact hr _ (List.getElem_mem hl))
      rw [Nat.zero_add] at q
      exact q
  | d, .sign f ps, h => fits_puts hr d ps h
  | d, .bind t, h => fit_put hr (d + 1) t h
  | d, .hole f ps, h => ⟨by rw [puts_map, List.length_map]; exact h.1, fits_puts hr d ps h.2⟩
  | d, .gone, h => trivial
theorem fits_puts {ms : List Nat} {r : List Term} {n : Nat} (hr : ∀ t ∈ r, Fit ms n t) : ∀ (d : Nat) (l : List Term), Fits ms (r.length + d) l → Fits ms (n + d) (puts r d l)
  | d, [], h => trivial
  | d, t :: l, h => ⟨fit_put hr d t h.1, fits_puts hr d l h.2⟩
end
theorem mask_length (seen : List Nat) : ∀ (l : List Term) (k : Nat), (mask seen k l).length = l.length
  | [], _ => rfl
  | t :: l, k => by simp [mask, mask_length seen l (k + 1)]
theorem mem_mask {seen : List Nat} : ∀ {l : List Term} {k : Nat} {t : Term}, t ∈ mask seen k l → t ∈ l ∨ t = .gone
  | [], k, t, h => by cases h
  | a :: l, k, t, h => by
    simp only [mask, List.mem_cons] at h
    rcases h with h | h
    · by_cases hc : seen.contains k = true
      · rw [if_pos hc] at h; exact .inl (h ▸ List.mem_cons_self)
      · rw [if_neg hc] at h; exact .inr h
    · rcases mem_mask h with h | h
      · exact .inl (List.mem_cons_of_mem _ h)
      · exact .inr h
/-- bodies fit -/
def Bodies (hs : List Hole) : Prop := ∀ x ∈ hs, ∀ b, x.body = some b → Fit (hs.map Hole.many) x.many b
abbrev mans (hs : List Hole) : List Nat := hs.map Hole.many
theorem mans_at {hs : List Hole} {h m : Nat} (e : (mans hs)[h]? = some m) : ∃ x, hs[h]? = some x ∧ x.many = m := by
  rw [List.getElem?_map] at e
  cases q : hs[h]? with
  | none => rw [q] at e; cases e
  | some x => rw [q] at e; exact ⟨x, rfl, Option.some.inj e⟩
theorem fulls_length (hs : List Hole) (l : List Term) : (fulls hs l).length = l.length := by rw [fulls_map, List.length_map]
mutual
theorem fit_full {hs : List Hole} (hb : Bodies hs) : ∀ (n : Nat) (t : Term), Fit (mans hs) n t → Fit (mans hs) n (full hs t)
  | n, .place i, h => h
  | n, .sign f ps, h => fits_fulls hb n ps h
  | n, .bind t, h => fit_full hb (n + 1) t h
  | n, .hole k ps, h => by
    obtain ⟨h1, h2⟩ := h
    obtain ⟨x, e, em⟩ := mans_at h1
    have ih := fits_fulls hb n ps h2
    simp only [full, e]
    cases eb : x.body with
    | none =>
      refine ⟨by rw [mask_length, fulls_length]; exact h1, fits_iff.mpr fun t ht => ?_⟩
      rcases mem_mask ht with ht | ht
      · exact fits_iff.mp ih t ht
      · rw [ht]; trivial
    | some b =>
      have q := hb x (List.mem_of_getElem? e) b eb
      refine fit_put (n := n) (fits_iff.mp ih) 0 b ?_
      rw [fulls_length, Nat.add_zero, ← em]
      exact q
  | n, .gone, h => trivial
theorem fits_fulls {hs : List Hole} (hb : Bodies hs) : ∀ (n : Nat) (l : List Term), Fits (mans hs) n l → Fits (mans hs) n (fulls hs l)
  | n, [], h => trivial
  | n, t :: l, h => ⟨fit_full hb n t h.1, fits_fulls hb n l h.2⟩
end

/-! ### terms that are written out -/
mutual
/-- all its holes are open, all parts that these don't see are gone -/
def Cl (hs : List Hole) : Term → Prop
  | .place _ => True
  | .sign _ ps => Cls hs ps
  | .bind t => Cl hs t
  | .hole h ps => (∃ x, hs[h]? = some x ∧ x.body = none ∧ mask x.seen 0 ps = ps) ∧ Cls hs ps
  | .gone => True
def Cls (hs : List Hole) : List Term → Prop
  | [] => True
  | t :: l => Cl hs t ∧ Cls hs l
end
theorem cls_iff {hs : List Hole} : ∀ {l : List Term}, Cls hs l ↔ ∀ t ∈ l, Cl hs t
  | [] => by simp [Cls]
  | a :: l => by simp [Cls, cls_iff (l := l)]
mutual
theorem full_cl {hs : List Hole} : ∀ t : Term, Cl hs t → full hs t = t
  | .place i, _ => rfl
  | .sign f ps, h => by simp only [full]; rw [fulls_cls ps h]
  | .bind t, h => by simp only [full]; rw [full_cl t h]
  | .hole k ps, h => by
    obtain ⟨⟨x, e, eb, em⟩, h2⟩ := h
    simp only [full, e, eb]
    rw [fulls_cls ps h2, em]
  | .gone, _ => rfl
theorem fulls_cls {hs : List Hole} : ∀ l : List Term, Cls hs l → fulls hs l = l
  | [], _ => rfl
  | t :: l, h => by simp only [fulls]; rw [full_cl t h.1, fulls_cls l h.2]
end
theorem mask_map {seen : List Nat} {f : Term → Term} (hf : f .gone = .gone) : ∀ (l : List Term) (k : Nat), mask seen k (l.map f) = (mask seen k l).map f
  | [], _ => rfl
  | t :: l, k => by
    simp only [List.map_cons, mask, mask_map hf l (k + 1)]
    by_cases h : seen.contains k = true
    · rw [if_pos h, if_pos h]
    · rw [if_neg h, if_neg h, hf]
theorem mask_mask (seen : List Nat) : ∀ (l : List Term) (k : Nat), mask seen k (mask seen k l) = mask seen k l
  | [], _ => rfl
  | t :: l, k => by
    simp only [mask, mask_mask seen l (k + 1)]
    by_cases h : seen.contains k = true
    · rw [if_pos h, if_pos h]
    · rw [if_neg h, if_neg h]
mutual
theorem cl_up {hs : List Hole} (d : Nat) : ∀ (c : Nat) (t : Term), Cl hs t → Cl hs (up d c t)
  | c, .place i, _ => trivial
  | c, .sign f ps, h => cls_ups d c ps h
  | c, .bind t, h => cl_up d (c + 1) t h
  | c, .hole k ps, h => by
    obtain ⟨⟨x, e, eb, em⟩, h2⟩ := h
    refine ⟨⟨x, e, eb, ?_⟩, cls_ups d c ps h2⟩
    rw [ups_map, mask_map (by simp [up]), em]
  | c, .gone, _ => trivial
theorem cls_ups {hs : List Hole} (d : Nat) : ∀ (c : Nat) (l : List Term), Cls hs l → Cls hs (ups d c l)
  | c, [], _ => trivial
  | c, t :: l, h => ⟨cl_up d c t h.1, cls_ups d c l h.2⟩
end
mutual
theorem cl_put {hs : List Hole} {r : List Term} (hr : ∀ t ∈ r, Cl hs t) : ∀ (d : Nat) (t : Term), Cl hs t → Cl hs (put r d t)
  | d, .place i, _ => by
    simp only [put]
    by_cases hi : i < d
    · rw [if_pos hi]; trivial
    · rw [if_neg hi]
      cases e : r[i - d]? with
      | none => trivial
      | some t => exact cl_up d 0 t (hr t (List.mem_of_getElem? e))
  | d, .sign f ps, h => cls_puts hr d ps h
  | d, .bind t, h => cl_put hr (d + 1) t h
  | d, .hole k ps, h => by
    obtain ⟨⟨x, e, eb, em⟩, h2⟩ := h
    refine ⟨⟨x, e, eb, ?_⟩, cls_puts hr d ps h2⟩
    rw [puts_map, mask_map (by simp [put]), em]
  | d, .gone, _ => trivial
theorem cls_puts {hs : List Hole} {r : List Term} (hr : ∀ t ∈ r, Cl hs t) : ∀ (d : Nat) (l : List Term), Cls hs l → Cls hs (puts r d l)
  | d, [], _ => trivial
  | d, t :: l, h => ⟨cl_put hr d t h.1, cls_puts hr d l h.2⟩
end
mutual
/-- each filled hole in it is filled with what is written out -/
def Ok2 (hs : List Hole) : Term → Prop
  | .place _ => True
  | .sign _ ps => Ok2s hs ps
  | .bind t => Ok2 hs t
  | .hole h ps => (∀ x b, hs[h]? = some x → x.body = some b → Cl hs b) ∧ Ok2s hs ps
  | .gone => True
def Ok2s (hs : List Hole) : List Term → Prop
  | [] => True
  | t :: l => Ok2 hs t ∧ Ok2s hs l
end
theorem ok2s_iff {hs : List Hole} : ∀ {l : List Term}, Ok2s hs l ↔ ∀ t ∈ l, Ok2 hs t
  | [] => by simp [Ok2s]
  | a :: l => by simp [Ok2s, ok2s_iff (l := l)]
mutual
/-- where all bodies are written out, all is well -/
theorem ok2_all {hs : List Hole} (hc : ∀ x ∈ hs, ∀ b, x.body = some b → Cl hs b) : ∀ t : Term, Ok2 hs t
  | .place _ => trivial
  | .sign _ ps => ok2s_all hc ps
  | .bind t => ok2_all hc t
  | .hole h ps => ⟨fun x b e eb => hc x (List.mem_of_getElem? e) b eb, ok2s_all hc ps⟩
  | .gone => trivial
theorem ok2s_all {hs : List Hole} (hc : ∀ x ∈ hs, ∀ b, x.body = some b → Cl hs b) : ∀ l : List Term, Ok2s hs l
  | [] => trivial
  | t :: l => ⟨ok2_all hc t, ok2s_all hc l⟩
end
mutual
theorem cl_full {hs : List Hole} : ∀ (n : Nat) (t : Term), Fit (mans hs) n t → Ok2 hs t → Cl hs (full hs t)
  | n, .place i, _, _ => trivial
  | n, .sign f ps, h, k => cls_fulls n ps h k
  | n, .bind t, h, k => cl_full (n + 1) t h k
  | n, .hole j ps, h, k => by
    obtain ⟨h1, h2⟩ := h
    obtain ⟨k1, k2⟩ := k
    obtain ⟨x, e, em⟩ := mans_at h1
    have ih := cls_fulls n ps h2 k2
    simp only [full, e]
    cases eb : x.body with
    | none =>
      refine ⟨⟨x, e, eb, mask_mask _ _ _⟩, cls_iff.mpr fun t ht => ?_⟩
      rcases mem_mask ht with ht | ht
      · exact cls_iff.mp ih t ht
      · rw [ht]; trivial
    | some b => exact cl_put (cls_iff.mp ih) 0 b (k1 x b e eb)
  | n, .gone, _, _ => trivial
theorem cls_fulls {hs : List Hole} : ∀ (n : Nat) (l : List Term), Fits (mans hs) n l → Ok2s hs l → Cls hs (fulls hs l)
  | n, [], _, _ => trivial
  | n, t :: l, h, k => ⟨cl_full n t h.1 k.1, cls_fulls n l h.2 k.2⟩
end
/-- holes alike in what is open and what is seen -/
def Alike (hs hs' : List Hole) : Prop := ∀ (h : Nat) (x : Hole), hs[h]? = some x → x.body = none → ∃ y, hs'[h]? = some y ∧ y.body = none ∧ y.seen = x.seen
mutual
theorem cl_alike {hs hs' : List Hole} (a : Alike hs hs') : ∀ t : Term, Cl hs t → Cl hs' t
  | .place _, _ => trivial
  | .sign _ ps, h => cls_alike a ps h
  | .bind t, h => cl_alike a t h
  | .hole k ps, h => by
    obtain ⟨⟨x, e, eb, em⟩, h2⟩ := h
    obtain ⟨y, e', eb', es⟩ := a k x e eb
    exact ⟨⟨y, e', eb', by rw [es]; exact em⟩, cls_alike a ps h2⟩
  | .gone, _ => trivial
theorem cls_alike {hs hs' : List Hole} (a : Alike hs hs') : ∀ l : List Term, Cls hs l → Cls hs' l
  | [], _ => trivial
  | t :: l, h => ⟨cl_alike a t h.1, cls_alike a l h.2⟩
end
end HH
namespace HH
open Pa01
/-! ### places raised, terms put in -/
mutual
theorem up_zero : ∀ (c : Nat) (t : Term), up 0 c t = t
  | c, .place i => by simp [up]
  | c, .sign f ps => by simp only [up]; rw [ups_zero c ps]
  | c, .bind t => by simp only [up]; rw [up_zero (c + 1) t]
  | c, .hole f ps => by simp only [up]; rw [ups_zero c ps]
  | c, .gone => by simp [up]
theorem ups_zero : ∀ (c : Nat) (l : List Term), ups 0 c l = l
  | c, [] => rfl
  | c, t :: l => by simp only [ups]; rw [up_zero c t, ups_zero c l]
end
mutual
theorem up_up (d c : Nat) : ∀ (e : Nat) (t : Term), up d (c + e) (up c e t) = up (d + c) e t
  | e, .place i => by
    simp only [up]
    congr 1
    by_cases h : i < e
    · rw [if_pos h, if_pos h, if_pos (by omega)]
    · rw [if_neg h, if_neg h, if_neg (by omega)]; omega
  | e, .sign f ps => by simp only [up]; rw [ups_ups d c e ps]
  | e, .bind t => by
    simp only [up]
    rw [Nat.add_assoc, up_up d c (e + 1) t]
  | e, .hole f ps => by simp only [up]; rw [ups_ups d c e ps]
  | e, .gone => by simp [up]
theorem ups_ups (d c : Nat) : ∀ (e : Nat) (l : List Term), ups d (c + e) (ups c e l) = ups (d + c) e l
  | e, [] => rfl
  | e, t :: l => by simp only [ups]; rw [up_up d c e t, ups_ups d c e l]
end
mutual
theorem up_up2 (d c : Nat) : ∀ (e : Nat) (t : Term), up d e (up c e t) = up (d + c) e t
  | e, .place i => by
    simp only [up]
    congr 1
    by_cases h : i < e
    · rw [if_pos h, if_pos h, if_pos h]
    · rw [if_neg h, if_neg h, if_neg (by omega)]; omega
  | e, .sign f ps => by simp only [up]; rw [ups_ups2 d c e ps]
  | e, .bind t => by simp only [up]; rw [up_up2 d c (e + 1) t]
  | e, .hole f ps => by simp only [up]; rw [ups_ups2 d c e ps]
  | e, .gone => by simp [up]
theorem ups_ups2 (d c : Nat) : ∀ (e : Nat) (l : List Term), ups d e (ups c e l) = ups (d + c) e l
  | e, [] => rfl
  | e, t :: l => by simp only [ups]; rw [up_up2 d c e t, ups_ups2 d c e l]
end
theorem put_at {r : List Term} {d i : Nat} {t : Term} (h : ¬ i < d) (e : r[i - d]? = some t) : put r d (.place i) = up d 0 t := by
  simp only [put]
  rw [if_neg h, e]
theorem put_out {r : List Term} {d i : Nat} (h : ¬ i < d) (e : r[i - d]? = none) : put r d (.place i) = .place i := by
  simp only [put]
  rw [if_neg h, e]
theorem put_in {r : List Term} {d i : Nat} (h : i < d) : put r d (.place i) = .place i := by
  simp only [put]
  rw [if_pos h]
mutual
theorem put_over (V : List Term) (d : Nat) : ∀ (c : Nat) (t : Term), put V (d + c) (up d c t) = up d c (put V c t)
  | c, .place i => by
    by_cases h : i < c
    · have e : up d c (.place i) = .place i := by simp only [up]; rw [if_pos h]
      rw [e, put_in (by omega), put_in h, e]
    · have e : up d c (.place i) = .place (i + d) := by simp only [up]; rw [if_neg h]
      rw [e]
      have ei : i + d - (d + c) = i - c := by omega
      cases q : V[i - c]? with
      | none => rw [put_out (by omega) (by rw [ei]; exact q), put_out h q, e]
      | some t =>
        rw [put_at (by omega) (by rw [ei]; exact q), put_at h q]
        have := up_up d c 0 t
        rw [Nat.add_zero] at this
        exact this.symm
  | c, .sign f ps => by simp only [up, put]; rw [puts_over V d c ps]
  | c, .bind t => by simp only [up, put]; rw [Nat.add_assoc, put_over V d (c + 1) t]
  | c, .hole f ps => by simp only [up, put]; rw [puts_over V d c ps]
  | c, .gone => by simp [up, put]
theorem puts_over (V : List Term) (d : Nat) : ∀ (c : Nat) (l : List Term), puts V (d + c) (ups d c l) = ups d c (puts V c l)
  | c, [] => rfl
  | c, t :: l => by simp only [ups, puts]; rw [put_over V d c t, puts_over V d c l]
end
mutual
/-- one putting in behind another -/
theorem put_put {ms : List Nat} (V r : List Term) : ∀ (d : Nat) (t : Term), Fit ms (r.length + d) t → put V d (put r d t) = put (r.map (put V 0)) d t
  | d, .place i, h => by
    have h' : i < r.length + d := h
    by_cases hi : i < d
    · rw [put_in hi, put_in hi, put_in hi]
    · have hl : i - d < r.length := by omega
      rw [put_at hi (List.getElem?_eq_getElem hl), put_at hi (t := put V 0 r[i - d]) (by rw [List.getElem?_map, List.getElem?_eq_getElem hl]; rfl)]
      have := put_over V d 0 r[i - d]
      rw [Nat.add_zero] at this
      exact this
  | d, .sign f ps, h => by simp only [put]; rw [puts_puts V r d ps h]
  | d, .bind t, h => by simp only [put]; rw [put_put V r (d + 1) t h]
  | d, .hole f ps, h => by simp only [put]; rw [puts_puts V r d ps h.2]
  | d, .gone, h => by simp [put]
theorem puts_puts {ms : List Nat} (V r : List Term) : ∀ (d : Nat) (l : List Term), Fits ms (r.length + d) l → puts V d (puts r d l) = puts (r.map (put V 0)) d l
  | d, [], h => rfl
  | d, t :: l, h => by simp only [puts]; rw [put_put V r d t h.1, puts_puts V r d l h.2]
end
mutual
/-- under a binder: its place comes first -/
theorem put_bind (V : List Term) : ∀ (d : Nat) (t : Term), put (.place 0 :: V.map (up 1 0)) d t = put V (d + 1) t
  | d, .place i => by
    by_cases h : i < d
    · rw [put_in h, put_in (by omega)]
    · by_cases h1 : i = d
      · subst h1
        rw [put_at (t := .place 0) h (by rw [Nat.sub_self]; rfl), put_in (by omega)]
        show Term.place (if 0 < 0 then 0 else 0 + i) = _
        rw [if_neg (by omega), Nat.zero_add]
      · have ei : i - d = i - (d + 1) + 1 := by omega
        cases q : V[i - (d + 1)]? with
        | none => rw [put_out h (by rw [ei, List.getElem?_cons_succ, List.getElem?_map, q]; rfl), put_out (by omega) q]
        | some t =>
          rw [put_at h (t := up 1 0 t) (by rw [ei, List.getElem?_cons_succ, List.getElem?_map, q]; rfl), put_at (by omega) q, up_up2]
  | d, .sign f ps => by simp only [put]; rw [puts_bind V d ps]
  | d, .bind t => by simp only [put]; rw [put_bind V (d + 1) t]
  | d, .hole f ps => by simp only [put]; rw [puts_bind V d ps]
  | d, .gone => by simp [put]
theorem puts_bind (V : List Term) : ∀ (d : Nat) (l : List Term), puts (.place 0 :: V.map (up 1 0)) d l = puts V (d + 1) l
  | d, [] => rfl
  | d, t :: l => by simp only [puts]; rw [put_bind V d t, puts_bind V d l]
end
mutual
theorem put_ups {ms : List Nat} (r : List Term) (d : Nat) : ∀ (e : Nat) (t : Term), Fit ms (r.length + e) t → put (r.map (up d 0)) e t = up d e (put r e t)
  | e, .place i, h => by
    have h' : i < r.length + e := h
    by_cases hi : i < e
    · rw [put_in hi, put_in hi]
      simp only [up]; rw [if_pos hi]
    · have hl : i - e < r.length := by omega
      rw [put_at hi (t := up d 0 r[i - e]) (by rw [List.getElem?_map, List.getElem?_eq_getElem hl]; rfl), put_at hi (List.getElem?_eq_getElem hl)]
      have a := up_up d e 0 r[i - e]
      have b := up_up2 e d 0 r[i - e]
      rw [Nat.add_zero] at a
      rw [a, b, Nat.add_comm]
  | e, .sign f ps, h => by simp only [put, up]; rw [puts_ups r d e ps h]
  | e, .bind t, h => by simp only [put, up]; rw [put_ups r d (e + 1) t h]
  | e, .hole f ps, h => by simp only [put, up]; rw [puts_ups r d e ps h.2]
  | e, .gone, h => by simp [put, up]
theorem puts_ups {ms : List Nat} (r : List Term) (d : Nat) : ∀ (e : Nat) (l : List Term), Fits ms (r.length + e) l → puts (r.map (up d 0)) e l = ups d e (puts r e l)
  | e, [], h => rfl
  | e, t :: l, h => by simp only [puts, ups]; rw [put_ups r d e t h.1, puts_ups r d e l h.2]
end
mutual
/-- places put in for themselves -/
theorem put_self (n : Nat) : ∀ (d : Nat) (t : Term), put ((List.range n).map Term.place) d t = t
  | d, .place i => by
    by_cases h : i < d
    · rw [put_in h]
    · by_cases hl : i - d < n
      · rw [put_at h (t := .place (i - d)) (by simp [hl])]
        show Term.place (if i - d < 0 then i - d else i - d + d) = _
        rw [if_neg (by omega)]; congr 1; omega
      · rw [put_out h (by simp; omega)]
  | d, .sign f ps => by simp only [put]; rw [puts_self n d ps]
  | d, .bind t => by simp only [put]; rw [put_self n (d + 1) t]
  | d, .hole f ps => by simp only [put]; rw [puts_self n d ps]
  | d, .gone => by simp [put]
theorem puts_self (n : Nat) : ∀ (d : Nat) (l : List Term), puts ((List.range n).map Term.place) d l = l
  | d, [] => rfl
  | d, t :: l => by simp only [puts]; rw [put_self n d t, puts_self n d l]
end

/-! ### what a term's places stand for -/
inductive Val where
  | bnd (k : Nat)
  | arn (k : Nat)
  | hld (t : Term) (vs : List Val)
mutual
/-- under b binders that are written -/
def den (hs : List Hole) (b : Nat) : Val → Term
  | .bnd k => .place (b - 1 - k)
  | .arn k => .place (b + k)
  | .hld t vs => put (dens hs b vs) 0 (full hs t)
def dens (hs : List Hole) (b : Nat) : List Val → List Term
  | [] => []
  | v :: l => den hs b v :: dens hs b l
end
theorem dens_map (hs : List Hole) (b : Nat) : ∀ l : List Val, dens hs b l = l.map (den hs b)
  | [] => rfl
  | v :: l => by simp [dens, dens_map hs b l]
theorem dens_length (hs : List Hole) (b : Nat) (l : List Val) : (dens hs b l).length = l.length := by rw [dens_map, List.length_map]
/-- a term with what its places stand for, written out -/
def dn (hs : List Hole) (b : Nat) (t : Term) (vs : List Val) : Term := put (dens hs b vs) 0 (full hs t)
mutual
def VOk (hs : List Hole) (b : Nat) : Val → Prop
  | .bnd k => k < b
  | .arn _ => True
  | .hld t vs => Fit (mans hs) vs.length t ∧ Ok2 hs t ∧ VOks hs b vs
def VOks (hs : List Hole) (b : Nat) : List Val → Prop
  | [] => True
  | v :: l => VOk hs b v ∧ VOks hs b l
end
theorem voks_iff {hs : List Hole} {b : Nat} : ∀ {l : List Val}, VOks hs b l ↔ ∀ v ∈ l, VOk hs b v
  | [] => by simp [VOks]
  | a :: l => by simp [VOks, voks_iff (l := l)]
mutual
theorem vok_succ {hs : List Hole} {b : Nat} : ∀ v : Val, VOk hs b v → VOk hs (b + 1) v
  | .bnd k, h => Nat.lt_succ_of_lt h
  | .arn _, _ => trivial
  | .hld t vs, h => ⟨h.1, h.2.1, voks_succ vs h.2.2⟩
theorem voks_succ {hs : List Hole} {b : Nat} : ∀ l : List Val, VOks hs b l → VOks hs (b + 1) l
  | [], _ => trivial
  | v :: l, h => ⟨vok_succ v h.1, voks_succ l h.2⟩
end
mutual
theorem den_succ {hs : List Hole} (hb : Bodies hs) {b : Nat} : ∀ v : Val, VOk hs b v → den hs (b + 1) v = up 1 0 (den hs b v)
  | .bnd k, h => by
    have h' : k < b := h
    show Term.place (b + 1 - 1 - k) = Term.place (if b - 1 - k < 0 then b - 1 - k else b - 1 - k + 1)
    rw [if_neg (by omega)]; congr 1; omega
  | .arn k, _ => by
    show Term.place (b + 1 + k) = Term.place (if b + k < 0 then b + k else b + k + 1)
    rw [if_neg (by omega)]; congr 1; omega
  | .hld t vs, h => by
    show put (dens hs (b + 1) vs) 0 (full hs t) = up 1 0 (put (dens hs b vs) 0 (full hs t))
    rw [dens_succ hb vs h.2.2]
    exact put_ups _ 1 0 _ (by rw [dens_length, Nat.add_zero]; exact fit_full hb _ t h.1)
theorem dens_succ {hs : List Hole} (hb : Bodies hs) {b : Nat} : ∀ l : List Val, VOks hs b l → dens hs (b + 1) l = (dens hs b l).map (up 1 0)
  | [], _ => rfl
  | v :: l, h => by simp only [dens, List.map_cons]; rw [den_succ hb v h.1, dens_succ hb l h.2]
end
/-- under a binder -/
theorem dn_bind {hs : List Hole} (hb : Bodies hs) {b : Nat} {t : Term} {vs : List Val} (h : VOks hs b vs) : dn hs b (.bind t) vs = .bind (dn hs (b + 1) t (.bnd b :: vs)) := by
  unfold dn
  simp only [full, put, dens]
  rw [dens_succ hb vs h]
  have e : den hs (b + 1) (.bnd b) = .place 0 := by
    show Term.place (b + 1 - 1 - b) = _
    congr 1; omega
  rw [e, put_bind]
theorem dn_sign {hs : List Hole} {b f : Nat} {ps : List Term} {vs : List Val} : dn hs b (.sign f ps) vs = .sign f (ps.map fun p => dn hs b p vs) := by
  unfold dn
  simp only [full, put, puts_map, fulls_map, List.map_map]
  rfl
theorem dn_gone {hs : List Hole} {b : Nat} {vs : List Val} : dn hs b .gone vs = .gone := rfl
theorem dn_place {hs : List Hole} {b i : Nat} {vs : List Val} {v : Val} (h : vs[i]? = some v) : dn hs b (.place i) vs = den hs b v := by
  unfold dn
  simp only [full]
  rw [put_at (d := 0) (by omega) (t := den hs b v) (by rw [Nat.sub_zero, dens_map, List.getElem?_map, h]; rfl), up_zero]
/-- the parts of an open hole -/
theorem dn_hole {hs : List Hole} {b h : Nat} {ps : List Term} {vs : List Val} {x : Hole} (e : hs[h]? = some x) (eb : x.body = none) : dn hs b (.hole h ps) vs = .hole h (mask x.seen 0 (ps.map fun p => dn hs b p vs)) := by
  unfold dn
  simp only [full, e, eb, put, puts_map]
  rw [← mask_map (f := put (dens hs b vs) 0) (by simp [put]), fulls_map, List.map_map]
  rfl
/-- what a filled hole's place stands for -/
def held (vs : List Val) : Term → Val
  | .place i => vs.getD i (.arn 0)
  | t => .hld t vs
theorem den_held {hs : List Hole} {b : Nat} {vs : List Val} {p : Term} (h : Fit (mans hs) vs.length p) : den hs b (held vs p) = dn hs b p vs := by
  cases p with
  | place i =>
    have h' : i < vs.length := h
    have e : vs[i]? = some vs[i] := List.getElem?_eq_getElem h'
    rw [dn_place e]
    show den hs b (vs.getD i (.arn 0)) = _
    rw [List.getD, e]; rfl
  | _ => rfl
mutual
theorem ok2_cl {hs : List Hole} : ∀ t : Term, Cl hs t → Ok2 hs t
  | .place _, _ => trivial
  | .sign _ ps, h => ok2s_cl ps h
  | .bind t, h => ok2_cl t h
  | .hole k ps, h => by
    obtain ⟨⟨x, e, eb, _⟩, h2⟩ := h
    refine ⟨fun y b e' eb' => ?_, ok2s_cl ps h2⟩
    rw [e] at e'; cases e'
    rw [eb] at eb'; cases eb'
  | .gone, _ => trivial
theorem ok2s_cl {hs : List Hole} : ∀ l : List Term, Cls hs l → Ok2s hs l
  | [], _ => trivial
  | t :: l, h => ⟨ok2_cl t h.1, ok2s_cl l h.2⟩
end
/-- a state of head_of: a term with what its places stand for -/
structure SOk (hs : List Hole) (b : Nat) (t : Term) (vs : List Val) : Prop where
  fit : Fit (mans hs) vs.length t
  ok2 : Ok2 hs t
  vals : VOks hs b vs
theorem sok_held {hs : List Hole} {b i : Nat} {vs ws : List Val} {t : Term} (s : SOk hs b (.place i) vs) (e : vs[i]? = some (.hld t ws)) : SOk hs b t ws ∧ dn hs b (.place i) vs = dn hs b t ws := by
  have q := voks_iff.mp s.vals _ (List.mem_of_getElem? e)
  exact ⟨⟨q.1, q.2.1, q.2.2⟩, dn_place e⟩
theorem sok_fill {hs : List Hole} (hb : Bodies hs) {b h : Nat} {ps : List Term} {vs : List Val} {x : Hole} {t : Term} (s : SOk hs b (.hole h ps) vs) (e : hs[h]? = some x) (eb : x.body = some t) :
    SOk hs b t (ps.map (held vs)) ∧ dn hs b (.hole h ps) vs = dn hs b t (ps.map (held vs)) := by
  obtain ⟨⟨f1, f2⟩, ⟨k1, k2⟩, v⟩ := s
  have cl := k1 x t e eb
  obtain ⟨y, e', em⟩ := mans_at f1
  rw [e] at e'; cases e'
  have ft := hb x (List.mem_of_getElem? e) t eb
  have hl : (ps.map (held vs)).length = x.many := by rw [List.length_map]; exact em.symm
  refine ⟨⟨by rw [hl]; exact ft, ok2_cl t cl, voks_iff.mpr fun w hw => ?_⟩, ?_⟩
  · obtain ⟨p, hp, rfl⟩ := List.mem_map.mp hw
    have fp := fits_iff.mp f2 p hp
    have kp := ok2s_iff.mp k2 p hp
    cases p with
    | place i =>
      have h' : i < vs.length := fp
      have q : vs[i]? = some vs[i] := List.getElem?_eq_getElem h'
      show VOk hs b (vs.getD i (.arn 0))
      rw [List.getD, q]
      exact voks_iff.mp v _ (List.getElem_mem h')
    | sign f qs => exact ⟨fp, kp, v⟩
    | bind u => exact ⟨fp, kp, v⟩
    | hole k qs => exact ⟨fp, kp, v⟩
    | gone => exact ⟨fp, kp, v⟩
  · unfold dn
    simp only [full, e, eb]
    rw [full_cl t cl, put_put (ms := mans hs) _ _ 0 t (by rw [fulls_length, Nat.add_zero, ← List.length_map (f := held vs), hl]; exact ft)]
    congr 1
    rw [fulls_map, List.map_map, dens_map hs b (ps.map (held vs)), List.map_map]
    exact List.map_congr_left fun p hp => (den_held (fits_iff.mp f2 p hp)).symm

/-! ### head_of comes to an end -/
/-- a filled hole -/
def filledAt (hs : List Hole) (h : Nat) : Bool := match hs[h]? with
  | some x => x.body.isSome
  | none => false
mutual
def muT (hs : List Hole) (g : List Nat) : Term → Nat
  | .place i => g.getD i 0
  | .hole h ps => if filledAt hs h = true then 2 + muTs hs g ps else 0
  | _ => 0
def muTs (hs : List Hole) (g : List Nat) : List Term → Nat
  | [] => 0
  | t :: l => max (muT hs g t) (muTs hs g l)
end
mutual
def muV (hs : List Hole) : Val → Nat
  | .bnd _ => 0
  | .arn _ => 0
  | .hld t vs => 1 + muT hs (muVs hs vs) t
def muVs (hs : List Hole) : List Val → List Nat
  | [] => []
  | v :: l => muV hs v :: muVs hs l
end
theorem muVs_map (hs : List Hole) : ∀ l : List Val, muVs hs l = l.map (muV hs)
  | [] => rfl
  | v :: l => by simp [muVs, muVs_map hs l]
theorem muTs_le {hs : List Hole} {g : List Nat} {p : Term} : ∀ {l : List Term}, p ∈ l → muT hs g p ≤ muTs hs g l
  | a :: l, h => by
    simp only [muTs]
    rcases List.mem_cons.mp h with rfl | h
    · exact Nat.le_max_left _ _
    · exact Nat.le_trans (muTs_le h) (Nat.le_max_right _ _)
def mu (hs : List Hole) (t : Term) (vs : List Val) : Nat := muT hs (muVs hs vs) t
theorem mu_held {hs : List Hole} {i : Nat} {vs ws : List Val} {t : Term} (e : vs[i]? = some (.hld t ws)) : mu hs t ws < mu hs (.place i) vs := by
  unfold mu
  show _ < (muVs hs vs).getD i 0
  rw [muVs_map hs vs, List.getD, List.getElem?_map, e]
  show _ < 1 + muT hs (muVs hs ws) t
  omega
theorem mu_fill {hs : List Hole} {h : Nat} {ps : List Term} {vs : List Val} {x : Hole} {t : Term} (e : hs[h]? = some x) (eb : x.body = some t) (cl : Cl hs t) : mu hs t (ps.map (held vs)) < mu hs (.hole h ps) vs := by
  have ef : filledAt hs h = true := by unfold filledAt; rw [e]; simp [eb]
  have em : mu hs (.hole h ps) vs = 2 + muTs hs (muVs hs vs) ps := by
    unfold mu
    simp only [muT]
    rw [if_pos ef]
  rw [em]
  cases t with
  | place j =>
    show (muVs hs (ps.map (held vs))).getD j 0 < _
    rw [muVs_map, List.map_map, List.getD, List.getElem?_map]
    cases q : ps[j]? with
    | none => show 0 < _; omega
    | some p =>
      have hp : p ∈ ps := List.mem_of_getElem? q
      have le := muTs_le (hs := hs) (g := muVs hs vs) hp
      show muV hs (held vs p) < _
      cases p with
      | place i =>
        have q2 : muT hs (muVs hs vs) (.place i) = (muVs hs vs).getD i 0 := rfl
        rw [q2, muVs_map, List.getD, List.getElem?_map] at le
        show muV hs (vs.getD i (.arn 0)) < _
        rw [List.getD]
        cases q3 : vs[i]? with
        | none => show 0 < _; omega
        | some v =>
          rw [q3] at le
          show muV hs v < _
          have le' : muV hs v ≤ muTs hs (vs.map (muV hs)) ps := le
          rw [← muVs_map] at le'
          omega
      | sign f qs => show 1 + muT hs (muVs hs vs) (.sign f qs) < _; omega
      | bind u => show 1 + muT hs (muVs hs vs) (.bind u) < _; omega
      | hole k qs => show 1 + muT hs (muVs hs vs) (.hole k qs) < _; omega
      | gone => show 1 + muT hs (muVs hs vs) .gone < _; omega
  | hole k qs =>
    obtain ⟨⟨y, e', eb', _⟩, _⟩ := cl
    have nf : ¬ filledAt hs k = true := by unfold filledAt; rw [e']; simp [eb']
    show (if filledAt hs k = true then _ else 0) < _
    rw [if_neg nf]; omega
  | sign f qs => show 0 < _; omega
  | bind u => show 0 < _; omega
  | gone => show 0 < _; omega
/-- at the start: places around -/
theorem dn_around {hs : List Hole} {n : Nat} {t : Term} : dn hs 0 t ((List.range n).map Val.arn) = full hs t := by
  unfold dn
  have e : dens hs 0 ((List.range n).map Val.arn) = (List.range n).map Term.place := by
    rw [dens_map, List.map_map]
    exact List.map_congr_left fun k _ => by
      show Term.place (0 + k) = _
      rw [Nat.zero_add]
  rw [e, put_self]
theorem voks_around {hs : List Hole} {n : Nat} : VOks hs 0 ((List.range n).map Val.arn) := voks_iff.mpr fun v hv => by
  obtain ⟨k, _, rfl⟩ := List.mem_map.mp hv
  trivial
end HH
namespace HH
open PySem PySem.Spec PyProof.Rows L2 L2Y
open Pa01 (Term Hole Eqn)
/-! ### the text -/
def top (i : Nat) : Stmt := PySem.Challenge.pw_holehouse_s01_answers.main.body.getD i (.Pass ⟨0, 0, 0, 0⟩)
/-- a def of the top as it stands -/
def Dn (K : PySem.W.Frag) (mg : Str → Option Value) (x : Str) (st : Stmt) (ps : List Str) : Prop := ∃ f fd, Fun K x x st f fd ∧ mg x = some (.ref f) ∧ Binds K fd ps []
/-- a def that keeps its promise, by its name -/
def Cal (P : Program) (w : World) (K : PySem.W.Frag) (mg : Str → Option Value) (base : Heap) (CX : CXT) (k : Nat) (x : Str) (ps : List Str) (sp : Sp) : Prop :=
  ∃ f fd, FnOk P w K mg base CX k f fd ps sp ∧ mg x = some (.ref f) ∧ PySem.W.keepIn K (.ref f) = true ∧ Binds K fd ps []
section
variable {P : Program} {w : World} {K : PySem.W.Frag} {mg : Str → Option Value} {base : Heap} {CX : CXT} {k : Nat} {x : Str} {st : Stmt} {ps N : List Str} {sp : Sp}
theorem Cal.mono {j : Nat} (c : Cal P w K mg base CX j x ps sp) (h : j ≤ k) : Cal P w K mg base CX k x ps sp := by
  obtain ⟨f, fd, F, m, kp, b⟩ := c
  exact ⟨f, fd, F.mono h, m, kp, b⟩
theorem Cal.imp {sp' : Sp} (c : Cal P w K mg base CX k x ps sp) (h : ∀ vs H Q E, sp' vs H Q E → sp vs H Q E) : Cal P w K mg base CX k x ps sp' := by
  obtain ⟨f, fd, F, m, kp, b⟩ := c
  exact ⟨f, fd, F.imp h, m, kp, b⟩
/-- nothing can be asked -/
theorem Cal.no (D : Dn K mg x st ps) (h : ∀ vs H Q E, ¬ sp vs H Q E) : Cal P w K mg base CX k x ps sp := by
  obtain ⟨f, fd, F, m, b⟩ := D
  exact ⟨f, fd, ⟨fun vs H Q E z => absurd z (h vs H Q E), fun A outer s H args us vs Q E _ _ _ _ z => absurd z (h vs H Q E)⟩, m, F.kp, b⟩
theorem Dn.ok0 (D : Dn K mg x st ps) (S : FnScope N ps (defScope st)) (len : ∀ vs H Q E, sp vs H Q E → vs.length = ps.length)
    (hbody : ∀ (f : Addr) (cdv : Value) (A : Around) (outer : List Env) (s : Shared) (H : Hp) (vs : List V) (Q : VK) (E : XK), Room k (A.deeper (envOfC x (defScope st) s.heap.objs.size f cdv)) → sp vs H Q E →
      ∃ t, PSs (cxOf CX0 P w K mg base N x (defScope st) f cdv A outer s H E).nox (defBody st) t ∧ t { nx := fun _ H' => Q .non H', rt := Q } (start N vs) H) : Cal P w K mg base CX0 (k + 1) x ps sp := by
  obtain ⟨f, fd, F, m, b⟩ := D
  exact ⟨f, fd, F.ok S len fun cdv A outer s H vs Q E hr h => hbody f cdv A outer s H vs Q E hr h, m, F.kp, b⟩
theorem Dn.okN (D : Dn K mg x st ps) (S : FnScope N ps (defScope st)) (len : ∀ vs H Q E, sp vs H Q E → vs.length = ps.length)
    (hbody : ∀ (f : Addr) (cdv : Value) (A : Around) (outer : List Env) (s : Shared) (H : Hp) (vs : List V) (Q : VK) (E : XK), Room k (A.deeper (envOfC x (defScope st) s.heap.objs.size f cdv)) → sp vs H Q E →
      ∃ t, PSs (cxOf (L2N.CX P w) P w K mg base N x (defScope st) f cdv A outer s H E) (defBody st) t ∧ t { nx := fun _ H' => Q .non H', rt := Q } (start N vs) H) : Cal P w K mg base (L2N.CX P w) (k + 1) x ps sp := by
  obtain ⟨f, fd, F, m, b⟩ := D
  exact ⟨f, fd, L2Y.okN F S len fun cdv A outer s H vs Q E hr h => hbody f cdv A outer s H vs Q E hr h, m, F.kp, b⟩
theorem Dn.okX (D : Dn K mg x st ps) (S : FnScope N ps (defScope st)) (len : ∀ vs H Q E, sp vs H Q E → vs.length = ps.length)
    (hbody : ∀ (f : Addr) (cdv : Value) (A : Around) (outer : List Env) (s : Shared) (H : Hp) (vs : List V) (Q : VK) (E : XK), Room k (A.deeper (envOfC x (defScope st) s.heap.objs.size f cdv)) → sp vs H Q E →
      ∃ t, PSs (cxOf (L2.CX P w) P w K mg base N x (defScope st) f cdv A outer s H E) (defBody st) t ∧ t { nx := fun _ H' => Q .non H', rt := Q } (start N vs) H) : Cal P w K mg base (L2.CX P w) (k + 1) x ps sp := by
  obtain ⟨f, fd, F, m, b⟩ := D
  exact ⟨f, fd, F.okX S len fun cdv A outer s H vs Q E hr h => hbody f cdv A outer s H vs Q E hr h, m, F.kp, b⟩
end
/-- a call's reading -/
def tCl (sp : Sp) (E : XK) (t : TA) : TE := fun σ H Q => t σ H fun vs H1 => sp vs H1 Q E
section
variable {X : Cx} {CX : CXT} {k : Nat} {x : Str} {ps : List Str} {sp : Sp} {E : XK} {p pos : Pos} {e : Expr} {es : List Expr} {t : TA}
theorem pe_callC (c : Cal X.prog X.w X.K X.mg X.base CX k x ps sp) (hr : Room k X.A) (hg : Gl X x) (hx : Passes CX X E) (ha : PA X (e :: es) t) (hdb : (x == ("__debug__" : Str)) = false := by decide)
    (he : starEach (e :: es) X.env = (false, eval e X.env) :: starEach es X.env := by rfl) (hpl : (backTo pos (starEach es X.env)).any (·.1) = false := by rfl) :
    PE X (.Call (.Name x p) (e :: es) [] pos) (tCl sp E t) := by
  obtain ⟨f, fd, F, m, kp, b⟩ := c
  refine ⟨fun pins s σ H Q I h => (pe_call F hr hg m kp b .nil hx ha hdb he hpl).run pins s σ H Q I ?_⟩
  show t σ H fun vs H1 => sp (vs ++ []) H1 Q E
  simp only [List.append_nil]
  exact h
/-- .. within a try -/
theorem pe_callSC {E : L2.St → XK} (c : Cal X.prog X.w X.K X.mg X.base CX k x ps sp) (hr : Room k X.A) (hg : Gl X x) (hx : ∀ σ, PassesAt CX X σ (E σ)) (ha : PA X (e :: es) t) (hdb : (x == ("__debug__" : Str)) = false := by decide)
    (he : starEach (e :: es) X.env = (false, eval e X.env) :: starEach es X.env := by rfl) (hpl : (backTo pos (starEach es X.env)).any (·.1) = false := by rfl) :
    PE X (.Call (.Name x p) (e :: es) [] pos) (tCallS sp E t) := by
  obtain ⟨f, fd, F, m, kp, b⟩ := c
  exact pe_callS F hr hg m kp b hx ha hdb he hpl
/-- a module's whole number -/
theorem pe_k {i : Int} (h : ∃ tk, X.mg x = some (.int i tk)) (hg : Gl X x := by rfl) (hd : (x == ("__debug__" : Str)) = false := by decide) : PE X (.Name x p) (tC (.int i)) := by
  obtain ⟨tk, h⟩ := h
  exact pe_glob hg h ⟨_, rfl⟩ hd
/-- a class that is made by its own __init__ -/
def Mak (P : Program) (w : World) (K : PySem.W.Frag) (mg : Str → Option Value) (base : Heap) (k : Nat) (x : Str) (C : Addr) (ps : List Str) (sp : Sp) : Prop :=
  ∃ f fd, Mk K C f ∧ FnOk P w K mg base CX0 k f fd ps sp ∧ mg x = some (.ref C) ∧ Binds K fd ps []
def tMkC (C : Addr) (sp : Sp) (t : TA) : TE := fun σ H Q => t σ H fun vs H1 => ∀ x dx, H1 x = none → H1 dx = none → dx ≠ x →
  sp (.ref x :: vs) (upd (upd H1 dx (.own x)) x (.ins C dx [])) (fun v H2 => v = .non ∧ Q (.ref x) H2) E0
theorem pe_makeC {C : Addr} (c : Mak X.prog X.w X.K X.mg X.base k x C ps sp) (hr : Room (k + 1) X.A) (hg : Gl X x) (ha : PA X (e :: es) t) (hdb : (x == ("__debug__" : Str)) = false := by decide)
    (he : starEach (e :: es) X.env = (false, eval e X.env) :: starEach es X.env := by rfl) (hpl : (backTo pos (starEach es X.env)).any (·.1) = false := by rfl) :
    PE X (.Call (.Name x p) (e :: es) [] pos) (tMkC C sp t) := by
  obtain ⟨f, fd, M, F, m, b⟩ := c
  refine ⟨fun pins s σ H Q I h => (pe_make M F hr hg m b .nil pass0 ha hdb he hpl).run pins s σ H Q I ?_⟩
  show t σ H fun vs H1 => ∀ x dx, H1 x = none → H1 dx = none → dx ≠ x → sp (.ref x :: (vs ++ [])) (upd (upd H1 dx (.own x)) x (.ins C dx [])) (fun v H2 => v = .non ∧ Q (.ref x) H2) E0
  simp only [List.append_nil]
  exact h
theorem pe_makeC0 {C : Addr} (c : Mak X.prog X.w X.K X.mg X.base k x C ps sp) (hr : Room (k + 1) X.A) (hg : Gl X x) (hdb : (x == ("__debug__" : Str)) = false := by decide) :
    PE X (.Call (.Name x p) [] [] pos) (tMkC C sp tNil) := by
  obtain ⟨f, fd, M, F, m, b⟩ := c
  exact ⟨fun pins s σ H Q I h => (pe_make0 M F hr hg m b .nil pass0 hdb).run pins s σ H Q I h⟩
end
/-! ### rules with the written part by name: within a comprehension's block -/
theorem ix_tupK {X : Cx} (K : PySem.W.Frag) (h : X.K = K := by rfl) : IxR X (rIxT K) := h ▸ ix_tup
theorem ix_listK {X : Cx} (K : PySem.W.Frag) (h : X.K = K := by rfl) : IxR X (rIxL K) := h ▸ ix_list
theorem op_notIn_seqK {X : Cx} (K : PySem.W.Frag) (h : X.K = K := by rfl) : OpR X (compareOp .NotIn) (rIn K true) := h ▸ op_notIn_seq
theorem pe_fldK {X : Cx} (K : PySem.W.Frag) {e : Expr} {f : Str} {pos : Pos} {ta : TE} (he : PE X e ta) (hb : attributeBase e f X.env (eval e X.env) = eval e X.env) (h : X.K = K := by rfl) : PE X (.Attribute e f pos) (tFld K ta f) := h ▸ pe_fld he hb
/-! ### heaps -/
/-- all but x as it was -/
def Kp (x : Addr) (H H' : Hp) : Prop := ∀ b o, H b = some o → b ≠ x → H' b = some o
theorem Kp.refl {x : Addr} {H : Hp} : Kp x H H := fun _ _ h _ => h
theorem Kp.trans {x : Addr} {H H1 H2 : Hp} (a : Kp x H H1) (b : Kp x H1 H2) : Kp x H H2 := fun c o h n => b c o (a c o h n) n
theorem _root_.L2.Same.kp {x : Addr} {H H' : Hp} (a : Same H H') : Kp x H H' := fun b o h _ => a b o h
theorem kp_upd {x : Addr} {H : Hp} {o : HO} : Kp x H (upd H x o) := fun b u h n => by rw [upd_ne n]; exact h
theorem same_new {H : Hp} {p : Addr} (h : H p = none) (o : HO) : Same H (upd H p o) := fun b u q => by rw [upd_ne (ne_of_none q h)]; exact q
/-- what stands anew in H1 stands apart from all of H -/
theorem Kp.back {x : Addr} {H H1 : Hp} (hx : H x = none) (k : Kp x H H1) : Same H H1 := fun b o h => k b o h fun z => by rw [z, hx] at h; cases h
def Tps (H H' : Hp) : Prop := ∀ b xs, H b = some (.tup xs) → H' b = some (.tup xs)
theorem _root_.L2.Same.tps {H H' : Hp} (s : Same H H') : Tps H H' := fun b xs h => s b _ h
theorem Kp.tps {x C dx : Addr} {fs : List (Str × V)} {H H' : Hp} (k : Kp x H H') (h : H x = some (.ins C dx fs)) : Tps H H' := fun b xs e => k b _ e (ne_of e h (by intro z; cases z))
mutual
/-- v is the term t -/
inductive TermAt (H : Hp) : V → Term → Prop
  | mk {a p : Addr} {t : Term} {vs : List V} : H a = some (.tup [.int (kd t : Nat), .int (nm t : Nat), .ref p]) → H p = some (.tup vs) → TermsAt H vs (pts t) → TermAt H (.ref a) t
inductive TermsAt (H : Hp) : List V → List Term → Prop
  | nil : TermsAt H [] []
  | cons {v : V} {vs : List V} {t : Term} {ts : List Term} : TermAt H v t → TermsAt H vs ts → TermsAt H (v :: vs) (t :: ts)
end
mutual
theorem TermAt.tps {H H' : Hp} (k : Tps H H') : ∀ {v : V} {t : Term}, TermAt H v t → TermAt H' v t
  | _, _, .mk h1 h2 h3 => .mk (k _ _ h1) (k _ _ h2) (h3.tps k)
theorem TermsAt.tps {H H' : Hp} (k : Tps H H') : ∀ {vs : List V} {ts : List Term}, TermsAt H vs ts → TermsAt H' vs ts
  | _, _, .nil => .nil
  | _, _, .cons h1 h2 => .cons (h1.tps k) (h2.tps k)
end
theorem TermAt.open {H : Hp} {v : V} {t : Term} (h : TermAt H v t) : ∃ a p vs, v = .ref a ∧ H a = some (.tup [.int (kd t : Nat), .int (nm t : Nat), .ref p]) ∧ H p = some (.tup vs) ∧ TermsAt H vs (pts t) := by
  cases h with
  | mk h1 h2 h3 => exact ⟨_, _, _, rfl, h1, h2, h3⟩
theorem TermsAt.length {H : Hp} : ∀ {vs : List V} {ts : List Term}, TermsAt H vs ts → vs.length = ts.length
  | _, _, .nil => rfl
  | _, _, .cons _ h => by simp [h.length]
theorem TermsAt.get {H : Hp} : ∀ {vs : List V} {ts : List Term} {i : Nat} {v : V}, TermsAt H vs ts → vs[i]? = some v → ∃ t, ts[i]? = some t ∧ TermAt H v t
  | _, _, _, _, .nil, e => by simp at e
  | _, _, 0, _, .cons h _, e => by simp at e; subst e; exact ⟨_, rfl, h⟩
  | _, _, i + 1, v, .cons _ h, e => by
    obtain ⟨t, h1, h2⟩ := h.get (i := i) (v := v) (by simpa using e)
    exact ⟨t, by simpa using h1, h2⟩
theorem TermsAt.at {H : Hp} : ∀ {vs : List V} {ts : List Term} {i : Nat} {t : Term}, TermsAt H vs ts → ts[i]? = some t → ∃ v, vs[i]? = some v ∧ TermAt H v t
  | _, _, _, _, .nil, e => by simp at e
  | _, _, 0, _, .cons h _, e => by simp at e; subst e; exact ⟨_, rfl, h⟩
  | _, _, i + 1, t, .cons _ h, e => by
    obtain ⟨v, h1, h2⟩ := h.at (i := i) (t := t) (by simpa using e)
    exact ⟨v, by simpa using h1, h2⟩
theorem TermsAt.append {H : Hp} : ∀ {vs us : List V} {ts rs : List Term}, TermsAt H vs ts → TermsAt H us rs → TermsAt H (vs ++ us) (ts ++ rs)
  | _, _, _, _, .nil, g => g
  | _, _, _, _, .cons h r, g => .cons h (r.append g)
/-! ### terms as data -/
mutual
def toD : Term → PyData
  | .place i => .tuple [.int 0, .int i, .tuple []]
  | .sign f ps => .tuple [.int 1, .int f, .tuple (toDs ps)]
  | .bind t => .tuple [.int 2, .int 0, .tuple [toD t]]
  | .hole h ps => .tuple [.int 3, .int h, .tuple (toDs ps)]
  | .gone => .tuple [.int 4, .int 0, .tuple []]
def toDs : List Term → List PyData
  | [] => []
  | t :: l => toD t :: toDs l
end
theorem toD_eq (t : Term) : toD t = .tuple [.int (kd t : Nat), .int (nm t : Nat), .tuple (toDs (pts t))] := by cases t <;> simp [toD, kd, nm, pts, toDs]
mutual
theorem TermAt.dp {K : PySem.W.Frag} {H : Hp} : ∀ {v : V} {t : Term}, TermAt H v t → Dp K H v (toD t)
  | _, t, .mk h1 h2 h3 => by
    rw [toD_eq]
    exact .tup (SqT.of h1) (.cons (.int _) (.cons (.int _) (.cons (.tup (SqT.of h2) (h3.dp)) .nil)))
theorem TermsAt.dp {K : PySem.W.Frag} {H : Hp} : ∀ {vs : List V} {ts : List Term}, TermsAt H vs ts → DpAll K H vs (toDs ts)
  | _, _, .nil => .nil
  | _, _, .cons h1 h2 => .cons (h1.dp) (h2.dp)
end
mutual
theorem toD_lay : ∀ t : Term, (toD t).canLay0 = true
  | .place i => by simp [toD, PyData.canLay0, PyData.canLayAll0]
  | .sign f ps => by simp [toD, PyData.canLay0, PyData.canLayAll0, toDs_lay ps]
  | .bind t => by simp [toD, PyData.canLay0, PyData.canLayAll0, toD_lay t]
  | .hole h ps => by simp [toD, PyData.canLay0, PyData.canLayAll0, toDs_lay ps]
  | .gone => by simp [toD, PyData.canLay0, PyData.canLayAll0]
theorem toDs_lay : ∀ l : List Term, PyData.canLayAll0 (toDs l) = true
  | [] => by simp [toDs, PyData.canLayAll0]
  | t :: l => by simp [toDs, PyData.canLayAll0, toD_lay t, toDs_lay l]
end
mutual
theorem toD_depth : ∀ t : Term, (toD t).depth ≤ 2 * Pa01.deep t
  | .place i => by simp [toD, PyData.depth, PyData.depthAll, Pa01.deep]
  | .sign f ps => by
    have := toDs_depth ps
    simp only [toD, PyData.depth, PyData.depthAll, Pa01.deep]
    omega
  | .bind t => by
    have := toD_depth t
    simp only [toD, PyData.depth, PyData.depthAll, Pa01.deep]
    omega
  | .hole h ps => by
    have := toDs_depth ps
    simp only [toD, PyData.depth, PyData.depthAll, Pa01.deep]
    omega
  | .gone => by simp [toD, PyData.depth, PyData.depthAll, Pa01.deep]
theorem toDs_depth : ∀ l : List Term, PyData.depthAll (toDs l) ≤ 2 * Pa01.deeps l
  | [] => by simp [toDs, PyData.depthAll, Pa01.deeps]
  | t :: l => by
    have := toD_depth t
    have := toDs_depth l
    simp only [toDs, PyData.depthAll, Pa01.deeps]
    omega
end
theorem nat_beq (i j : Nat) : ((i : Int) == (j : Int)) = (i == j) := by
  by_cases h : i = j
  · subst h; simp
  · rw [beq_eq_false_iff_ne.mpr h]
    exact beq_eq_false_iff_ne.mpr (by omega)
mutual
theorem toD_eqv : ∀ a b : Term, PyData.eqv (toD a) (toD b) = Pa01.same a b
  | .place i, b => by cases b <;> simp [toD, PyData.eqv, PyData.eqvAll, Pa01.same, nat_beq]
  | .sign f ps, b => by
    cases b with
    | sign g qs => simp [toD, PyData.eqv, PyData.eqvAll, Pa01.same, nat_beq, toDs_eqv ps qs]
    | _ => simp [toD, PyData.eqv, PyData.eqvAll, Pa01.same]
  | .bind t, b => by
    cases b with
    | bind u => simp [toD, PyData.eqv, PyData.eqvAll, Pa01.same, toD_eqv t u]
    | _ => simp [toD, PyData.eqv, PyData.eqvAll, Pa01.same]
  | .hole f ps, b => by
    cases b with
    | hole g qs => simp [toD, PyData.eqv, PyData.eqvAll, Pa01.same, nat_beq, toDs_eqv ps qs]
    | _ => simp [toD, PyData.eqv, PyData.eqvAll, Pa01.same]
  | .gone, b => by cases b <;> simp [toD, PyData.eqv, PyData.eqvAll, Pa01.same]
theorem toDs_eqv : ∀ a b : List Term, PyData.eqvAll (toDs a) (toDs b) = Pa01.sames a b
  | [], [] => by simp [toDs, PyData.eqvAll, Pa01.sames]
  | [], _ :: _ => by simp [toDs, PyData.eqvAll, Pa01.sames]
  | _ :: _, [] => by simp [toDs, PyData.eqvAll, Pa01.sames]
  | a :: l, b :: m => by simp [toDs, PyData.eqvAll, Pa01.sames, toD_eqv a b, toDs_eqv l m]
end
end HH
namespace HH
open PySem PySem.Spec PyProof.Rows L2 L2Y
open Pa01 (Term Hole Eqn)
/-! ### what the top has written -/
/-- the addresses of the classes -/
structure Ad where
  nr : Addr
  tl : Addr
  ch : Addr
  rf : Addr
  rd : Addr
  bg : Addr
  wk : Addr
  dk : Addr
/-- an own error without __init__ -/
structure ExC (K : PySem.W.Frag) (mg : Str → Option Value) (x : Str) (C : Addr) : Prop where
  g : mg x = some (.ref C)
  x : PySem.W.excIn K C [.type "ValueError", .type "Exception", .type "BaseException", .type "object"] "ValueError.__new__" = true
  k : PySem.W.keepIn K (.ref C) = true
  b : PySem.W.subIn K (.ref C) (.type "BaseException") = some true
  t : PySem.W.typeIn K (.ref C) = some (.type "type")
  e : PySem.W.exmOne K (.ref C) (.ref C) = some true
/-- an own class with its __init__ -/
structure InC (K : PySem.W.Frag) (mg : Str → Option Value) (x qual : Str) (st : Stmt) (C : Addr) (ps fs : List Str) : Prop where
  c : L2.Cls K C
  g : mg x = some (.ref C)
  n : ∀ f ∈ fs, NoAttr K C f
  i : ∃ f fd, Mk K C f ∧ Fun K "__init__" qual st f fd ∧ Binds K fd ps []
/-- Refused -/
structure RfC (K : PySem.W.Frag) (mg : Str → Option Value) (st : Stmt) (C : Addr) : Prop where
  g : mg "Refused" = some (.ref C)
  o : OexC K C
  x : XfC K C
  n : PySem.W.findIn K (.ref C) "told" = some none
  e : PySem.W.exmOne K (.ref C) (.ref C) = some true
  i : ∃ f fd, PySem.W.findIn K (.ref C) "__init__" = some (some (.ref f)) ∧ PySem.W.typeIn K (.ref f) = some (.type "function") ∧ Fun K "__init__" "Refused.__init__" st f fd ∧ Binds K fd ["self", "told"] []
/-- a module's tuple of whole numbers -/
def KTup (K : PySem.W.Frag) (mg : Str → Option Value) (x : Str) (ns : List Int) : Prop := ∃ a, mg x = some (.ref a) ∧ ∀ H : Hp, SqT K H a (ns.map V.int)
abbrev s_Reader_init : Stmt := inClass (top 10) 0
abbrev s_check : Stmt := top 11
abbrev s_read_number : Stmt := top 12
abbrev s_read_parts : Stmt := top 13
abbrev s_read_sign : Stmt := top 14
abbrev s_is_gone_next : Stmt := top 15
abbrev s_read_hole : Stmt := top 16
abbrev s_read_term : Stmt := top 17
abbrev s_read_terms : Stmt := top 18
abbrev s_read_fillings : Stmt := top 19
abbrev s_row_of : Stmt := top 20
abbrev s_size_of : Stmt := top 21
abbrev s_are_apart : Stmt := top 22
abbrev s_is_plain : Stmt := top 23
abbrev s_Budget_init : Stmt := inClass (top 31) 0
abbrev s_spend : Stmt := top 32
abbrev s_places_around : Stmt := top 33
abbrev s_held : Stmt := top 34
abbrev s_head_of : Stmt := top 35
abbrev s_place_written : Stmt := top 36
abbrev s_parts_written : Stmt := top 37
abbrev s_term_written : Stmt := top 38
abbrev s_written : Stmt := top 39
abbrev s_equation_written : Stmt := top 40
abbrev s_holes_written : Stmt := top 41
abbrev s_Work_init : Stmt := inClass (top 45) 0
abbrev s_write_all : Stmt := top 46
abbrev s_changed : Stmt := top 47
abbrev s_put_by : Stmt := top 48
abbrev s_unsee : Stmt := top 49
abbrev s_is_strange : Stmt := top 50
abbrev s_has_strange : Stmt := top 51
abbrev s_has_hole : Stmt := top 52
abbrev s_blind_spots : Stmt := top 53
abbrev s_in_own_places : Stmt := top 54
abbrev s_own_places : Stmt := top 55
abbrev s_same_hole : Stmt := top 56
abbrev s_to_fill : Stmt := top 57
abbrev s_with_hole : Stmt := top 58
abbrev s_without_hole : Stmt := top 59
abbrev s_take_up : Stmt := top 60
abbrev s_taken_up : Stmt := top 61
abbrev s_Refused_init : Stmt := inClass (top 73) 0
abbrev s_Desk_init : Stmt := inClass (top 74) 0
abbrev s_refuse_where : Stmt := top 75
abbrev s_begin : Stmt := top 76
abbrev s_make_hole : Stmt := top 77
abbrev s_terms_of : Stmt := top 78
abbrev s_equate : Stmt := top 79
abbrev s_written_or_refused : Stmt := top 80
abbrev s_full : Stmt := top 81
abbrev s_compared : Stmt := top 82
abbrev s_look : Stmt := top 83
abbrev s_wait : Stmt := top 84
abbrev s_mark : Stmt := top 85
abbrev s_back : Stmt := top 86
abbrev s_names_unseen : Stmt := top 87
abbrev s_fillings_of : Stmt := top 88
abbrev s_fill : Stmt := top 89
abbrev s_told_of_terms : Stmt := top 93
abbrev s_told : Stmt := top 94
abbrev s_told_or_refused : Stmt := top 95
abbrev s_answers : Stmt := top 96
structure Txt (K : PySem.W.Frag) (mg : Str → Option Value) (a : Ad) : Prop where
  k_PLACE : ∃ tk, mg "PLACE" = some (.int 0 tk)
  k_SIGN : ∃ tk, mg "SIGN" = some (.int 1 tk)
  k_BINDER : ∃ tk, mg "BINDER" = some (.int 2 tk)
  k_HOLE : ∃ tk, mg "HOLE" = some (.int 3 tk)
  k_GONE : ∃ tk, mg "GONE" = some (.int 4 tk)
  k_MOST_PARTS : ∃ tk, mg "MOST_PARTS" = some (.int 8 tk)
  k_DEEPEST_ROW : ∃ tk, mg "DEEPEST_ROW" = some (.int 30 tk)
  k_MOST_PLACES : ∃ tk, mg "MOST_PLACES" = some (.int 12 tk)
  k_MOST_SIZE : ∃ tk, mg "MOST_SIZE" = some (.int 2000 tk)
  k_DEEPEST : ∃ tk, mg "DEEPEST" = some (.int 60 tk)
  k_BOUND : ∃ tk, mg "BOUND" = some (.int 0 tk)
  k_AROUND : ∃ tk, mg "AROUND" = some (.int 1 tk)
  k_HELD : ∃ tk, mg "HELD" = some (.int 2 tk)
  k_MOST_TAKEN : ∃ tk, mg "MOST_TAKEN" = some (.int 2000 tk)
  k_NOT_RIGHT : ∃ tk, mg "NOT_RIGHT" = some (.int (-1) tk)
  k_NONE_SUCH : ∃ tk, mg "NONE_SUCH" = some (.int (-2) tk)
  k_NO_MARK : ∃ tk, mg "NO_MARK" = some (.int (-4) tk)
  k_FULL : ∃ tk, mg "FULL" = some (.int (-5) tk)
  k_UNSEEN : ∃ tk, mg "UNSEEN" = some (.int (-6) tk)
  k_NOT_HOLDING : ∃ tk, mg "NOT_HOLDING" = some (.int (-7) tk)
  k_TOO_LARGE : ∃ tk, mg "TOO_LARGE" = some (.int (-8) tk)
  k_MOST_OWN : ∃ tk, mg "MOST_OWN" = some (.int 6 tk)
  k_MOST_HOLES : ∃ tk, mg "MOST_HOLES" = some (.int 24 tk)
  k_MOST_MARKS : ∃ tk, mg "MOST_MARKS" = some (.int 16 tk)
  b_len : mg "len" = none
  b_sum : mg "sum" = none
  b_int : mg "int" = none
  b_tuple : mg "tuple" = none
  b_list : mg "list" = none
  b_range : mg "range" = none
  b_zip : mg "zip" = none
  b_enumerate : mg "enumerate" = none
  d_check : Dn K mg "check" s_check ["truth"]
  d_read_number : Dn K mg "read_number" s_read_number ["reader"]
  d_read_parts : Dn K mg "read_parts" s_read_parts ["reader", "places", "depth", "many"]
  d_read_sign : Dn K mg "read_sign" s_read_sign ["reader", "places", "depth"]
  d_is_gone_next : Dn K mg "is_gone_next" s_is_gone_next ["reader", "hole", "k"]
  d_read_hole : Dn K mg "read_hole" s_read_hole ["reader", "places", "depth"]
  d_read_term : Dn K mg "read_term" s_read_term ["reader", "places", "depth"]
  d_read_terms : Dn K mg "read_terms" s_read_terms ["numbers", "holes", "places", "many"]
  d_read_fillings : Dn K mg "read_fillings" s_read_fillings ["numbers", "all_places"]
  d_row_of : Dn K mg "row_of" s_row_of ["term"]
  d_size_of : Dn K mg "size_of" s_size_of ["term"]
  d_are_apart : Dn K mg "are_apart" s_are_apart ["one", "other"]
  d_is_plain : Dn K mg "is_plain" s_is_plain ["term"]
  d_spend : Dn K mg "spend" s_spend ["budget", "depth"]
  d_places_around : Dn K mg "places_around" s_places_around ["many"]
  d_held : Dn K mg "held" s_held ["part", "values"]
  d_head_of : Dn K mg "head_of" s_head_of ["holes", "term", "values"]
  d_place_written : Dn K mg "place_written" s_place_written ["value", "binders"]
  d_parts_written : Dn K mg "parts_written" s_parts_written ["holes", "budget", "term", "values", "binders", "depth"]
  d_term_written : Dn K mg "term_written" s_term_written ["holes", "budget", "term", "values", "binders", "depth"]
  d_written : Dn K mg "written" s_written ["holes", "budget", "term", "places"]
  d_equation_written : Dn K mg "equation_written" s_equation_written ["holes", "budget", "equation"]
  d_holes_written : Dn K mg "holes_written" s_holes_written ["holes", "budget"]
  d_write_all : Dn K mg "write_all" s_write_all ["work"]
  d_changed : Dn K mg "changed" s_changed ["work", "left"]
  d_put_by : Dn K mg "put_by" s_put_by ["work", "equation", "rest"]
  d_unsee : Dn K mg "unsee" s_unsee ["work", "number", "gone"]
  d_is_strange : Dn K mg "is_strange" s_is_strange ["place", "own", "depth"]
  d_has_strange : Dn K mg "has_strange" s_has_strange ["term", "own", "depth", "deep"]
  d_has_hole : Dn K mg "has_hole" s_has_hole ["term", "own", "deep"]
  d_blind_spots : Dn K mg "blind_spots" s_blind_spots ["term", "own", "depth"]
  d_in_own_places : Dn K mg "in_own_places" s_in_own_places ["term", "own", "depth"]
  d_own_places : Dn K mg "own_places" s_own_places ["hole"]
  d_same_hole : Dn K mg "same_hole" s_same_hole ["work", "equation", "rest"]
  d_to_fill : Dn K mg "to_fill" s_to_fill ["work", "equation", "rest", "hole", "term"]
  d_with_hole : Dn K mg "with_hole" s_with_hole ["work", "equation", "rest"]
  d_without_hole : Dn K mg "without_hole" s_without_hole ["work", "equation", "rest"]
  d_take_up : Dn K mg "take_up" s_take_up ["work"]
  d_taken_up : Dn K mg "taken_up" s_taken_up ["holes", "waits", "equation"]
  d_refuse_where : Dn K mg "refuse_where" s_refuse_where ["truth", "code"]
  d_begin : Dn K mg "begin" s_begin ["desk"]
  d_make_hole : Dn K mg "make_hole" s_make_hole ["desk", "places"]
  d_terms_of : Dn K mg "terms_of" s_terms_of ["desk", "numbers", "places", "many"]
  d_equate : Dn K mg "equate" s_equate ["desk", "places", "numbers"]
  d_written_or_refused : Dn K mg "written_or_refused" s_written_or_refused ["holes", "places", "terms"]
  d_full : Dn K mg "full" s_full ["desk", "places", "numbers"]
  d_compared : Dn K mg "compared" s_compared ["desk", "places", "numbers"]
  d_look : Dn K mg "look" s_look ["desk", "number"]
  d_wait : Dn K mg "wait" s_wait ["desk", "number"]
  d_mark : Dn K mg "mark" s_mark ["desk"]
  d_back : Dn K mg "back" s_back ["desk"]
  d_names_unseen : Dn K mg "names_unseen" s_names_unseen ["term", "sees", "depth"]
  d_fillings_of : Dn K mg "fillings_of" s_fillings_of ["desk", "numbers"]
  d_fill : Dn K mg "fill" s_fill ["desk", "numbers"]
  d_told_of_terms : Dn K mg "told_of_terms" s_told_of_terms ["desk", "which", "some", "row"]
  d_told : Dn K mg "told" s_told ["desk", "which", "some", "row"]
  d_told_or_refused : Dn K mg "told_or_refused" s_told_or_refused ["desk", "which", "some", "row"]
  d_answers : Dn K mg "answers" s_answers ["calls"]
  nr : ExC K mg "NotRight" a.nr
  tl : ExC K mg "TooLarge" a.tl
  ch : ExC K mg "CannotHold" a.ch
  chtl : PySem.W.exmOne K (.ref a.ch) (.ref a.tl) = some false
  rf : RfC K mg s_Refused_init a.rf
  rd : InC K mg "Reader" "Reader.__init__" s_Reader_init a.rd ["self", "numbers", "holes", "may_have_holes"] ["numbers", "at", "holes", "may_have_holes"]
  bg : InC K mg "Budget" "Budget.__init__" s_Budget_init a.bg ["self"] ["left"]
  wk : InC K mg "Work" "Work.__init__" s_Work_init a.wk ["self", "holes", "waits", "left"] ["holes", "waits", "left"]
  dk : InC K mg "Desk" "Desk.__init__" s_Desk_init a.dk ["self"] ["holes", "waits", "marks"]
  numbers_of : KTup K mg "NUMBERS_OF" [0, 1, 1, 1, 1, 1, 1, 0, 0, 0]
  rows_of : KTup K mg "ROWS_OF" [0, 0, 1, 1, 1, 0, 0, 0, 0, 1]
/-- a value that is one of the top's tuples -/
theorem pe_kt {X : Cx} {x : Str} {ns : List Int} {p : Pos} (h : KTup X.K X.mg x ns) (hg : Gl X x := by rfl) (hd : (x == ("__debug__" : Str)) = false := by decide) :
    ∃ a, (∀ H : Hp, SqT X.K H a (ns.map V.int)) ∧ PE X (.Name x p) (tC (.ref a)) := by
  obtain ⟨a, h1, h2⟩ := h
  exact ⟨a, h2, pe_glob hg h1 rfl hd⟩
end HH
namespace HH
open PySem PySem.Spec PyProof.Rows L2 L2Y
open Pa01 (Term Hole Eqn)
/-! ### words for readings -/
theorem if_t {c : Bool} {A B : Prop} (hc : c = true) (h : A) : if c = true then A else B := by rw [if_pos hc]; exact h
theorem if_f {c : Bool} {A B : Prop} (hc : c = false) (h : B) : if c = true then A else B := by rw [hc, if_neg Bool.false_ne_true]; exact h
theorem in34 (k : Nat) : inV (.int (k : Nat)) [.int 3, .int 4] = decide (k = 3 ∨ k = 4) := by
  show (((3 : Int) == (k : Int)) || (((4 : Int) == (k : Int)) || false)) = _
  rw [Bool.or_false]
  by_cases h3 : k = 3
  · subst h3; rfl
  · by_cases h4 : k = 4
    · subst h4; rfl
    · rw [decide_eq_false (by omega), Bool.or_eq_false_iff]
      exact ⟨beq_eq_false_iff_ne.mpr (by omega), beq_eq_false_iff_ne.mpr (by omega)⟩
theorem two_le : 2 ≤ sizeLine := by decide
theorem sq3 {x y z : V} : ¬ (HT.sIx [x, y, z].length 0 none = 0 ∧ HT.sIx [x, y, z].length [x, y, z].length (some 2) = [x, y, z].length) := by
  intro h
  have : HT.sIx 3 3 (some 2) = 3 := h.2
  revert this
  decide
theorem cut2 (x y z : V) : cutV [x, y, z] none (some 2) = [x, y] := rfl
/-- two pairs of whole numbers as data -/
theorem dp2 {K : PySem.W.Frag} {H : Hp} {p : Addr} {i j : Int} (h : H p = some (.tup [.int i, .int j])) : Dp K H (.ref p) (.tuple [.int i, .int j]) := .tup (SqT.of h) (.cons (.int _) (.cons (.int _) .nil))
theorem eqv2 (i j k l : Nat) : PyData.eqv (.tuple [.int (i : Nat), .int (j : Nat)]) (.tuple [.int (k : Nat), .int (l : Nat)]) = decide (i = k ∧ j = l) := by
  simp only [PyData.eqv, PyData.eqvAll, nat_beq, Bool.and_true]
  by_cases h : i = k
  · subst h
    by_cases h2 : j = l
    · subst h2; simp
    · simp [h2]
  · simp [h]
theorem dec_nat (i j : Nat) : decide (V.int (i : Nat) = V.int (j : Nat)) = decide (i = j) := by
  by_cases h : i = j
  · subst h; simp
  · rw [decide_eq_false h]
    exact decide_eq_false fun z => h (by injection z with z; omega)
section
variable {P : Program} {w : World} {K : PySem.W.Frag} {mg : Str → Option Value} {base : Heap} {a : Ad}
/-! ### are_apart -/
def spApart (n : Nat) : Sp := fun vs H Q _ => ∃ (v u : V) (s t : Term), vs = [v, u] ∧ TermAt H v s ∧ TermAt H u t ∧ Pa01.deep s ≤ n ∧ ∀ H', Same H H' → Q (.bl (Pa01.apart s t)) H'
theorem sc_are_apart : FnScope ["one", "other", "part", "twin"] ["one", "other"] (defScope s_are_apart) := ⟨rfl, rfl, rfl, by decide +kernel, rfl, by decide +kernel, by decide +kernel⟩
theorem apart_eq (s t : Term) : Pa01.apart s t = if kd s = 3 ∨ kd s = 4 ∨ kd t = 3 ∨ kd t = 4 then false else if kd s ≠ kd t ∨ nm s ≠ nm t ∨ (pts s).length ≠ (pts t).length then true else Pa01.aparts (pts s) (pts t) := by
  cases s <;> cases t <;> simp [Pa01.apart, kd, nm, pts, Pa01.aparts, bne, Bool.or_eq_true]
  · exact Bool.beq_eq_decide_eq _ _
  · simp only [Bool.beq_eq_decide_eq, Bool.or_assoc]
theorem aparts_any : ∀ l m : List Term, Pa01.aparts l m = (l.zip m).any fun x => Pa01.apart x.1 x.2
  | [], m => by cases m <;> rfl
  | _ :: _, [] => rfl
  | a :: l, b :: m => by simp only [Pa01.aparts, List.zip_cons_cons, List.any_cons]; rw [aparts_any l m]
theorem any_take_more {α : Type} {f : α → Bool} {l : List α} {i : Nat} {x : α} (h : l[i]? = some x) : (l.take (i + 1)).any f = ((l.take i).any f || f x) := by
  rw [List.take_succ, h]
  simp
theorem ok_are_apart0 (T : Txt K mg a) {n : Nat} (c_are_apart : Cal P w K mg base CX0 n "are_apart" ["one", "other"] (spApart n)) : Cal P w K mg base CX0 (n + 1) "are_apart" ["one", "other"] (spApart (n + 1)) := by
  refine T.d_are_apart.ok0 sc_are_apart (fun vs H Q E h => ?_) (fun f cdv A outer s H vs Q E hr h => ?_)
  · obtain ⟨v, u, s, t, rfl, _⟩ := h
    rfl
  obtain ⟨v, u, s, t, rfl, hs, ht, hd, q⟩ := h
  obtain ⟨a1, p1, vs1, rfl, h1, k1, l1⟩ := hs.open
  obtain ⟨a2, p2, vs2, rfl, h2, k2, l2⟩ := ht.open
  have e0 := apart_eq s t
  refine ⟨_, (pss_cons (ps_if (PW.pt (pw_or (pt_cmpR op_in_seq (pe_ix ix_tup (pv 0) pe_int (fun _ _ => rfl)) (pe_tup (pa_cons (pe_k T.k_HOLE) (pa_cons (pe_k T.k_GONE) pa_nil))) (by rfl)) (pw_or1 (pt_cmpR op_in_seq (pe_ix ix_tup (pv 1) pe_int (fun _ _ => rfl)) (pe_tup (pa_cons (pe_k T.k_HOLE) (pa_cons (pe_k T.k_GONE) pa_nil))) (by rfl))))) (pss_one (ps_ret pe_bl)) pss_nil)
      (pss_cons (ps_if (PW.pt (pw_or (pt_cmpR (op_neW (u200 hr)) (pe_slice sl_tup (pv 0) po_none (po_some pe_int)) (pe_slice sl_tup (pv 1) po_none (po_some pe_int)) (nomark _)) (pw_or1 (pt_cmpR op_ne (pe_callB call_len_seq rfl T.b_len (by decide +kernel) (pa_cons (pe_ix ix_tup (pv 0) pe_int (fun _ _ => rfl)) pa_nil)) (pe_callB call_len_seq rfl T.b_len (by decide +kernel) (pa_cons (pe_ix ix_tup (pv 1) pe_int (fun _ _ => rfl)) pa_nil)) (nomark _))))) (pss_one (ps_ret pe_bl)) pss_nil)
      (pss_cons (ps_for PassesOwn.never rfl (RZ.pi_zipA rfl T.b_zip (pa_cons (pe_ix ix_tup (pv 0) pe_int (fun _ _ => rfl)) (pa_cons (pe_ix ix_tup (pv 1) pe_int (fun _ _ => rfl)) pa_nil))) (pg_tup rfl (pgs_cons (pg_name (i := 2) sc_are_apart.nd rfl (Or.inl rfl)) (pgs_cons (pg_name (i := 3) sc_are_apart.nd rfl (Or.inl rfl)) pgs_nil))) (pss_one (ps_if (pt_val (pe_callC c_are_apart (hr.mono (by omega)) rfl pass0 (pa_cons (pv 2) (pa_cons (pv 3) pa_nil)))) (pss_one (ps_ret pe_bl)) pss_nil)))
      (pss_one (ps_ret pe_bl))))), ?_⟩
  refine ⟨_, rfl, _, _, _, _, rfl, rfl, SqT.of h1, rfl, two_le, fun q1 n1 => ?_⟩
  refine ⟨q1, _, rfl, .inr (SqT.of upd_same), rfl, rfl, _, rfl, ?_⟩
  have s1 := same_new n1 (.tup [.int 3, .int 4])
  refine ite2 (fun c => ?_) (fun c => ?_)
  · have c' : decide (kd s = 3 ∨ kd s = 4) = true := (in34 (kd s)).symm.trans c
    rw [if_pos (by rcases of_decide_eq_true c' with z | z <;> simp [z])] at e0
    exact if_t rfl (by have := q _ s1; rw [e0] at this; exact this)
  have c' : ¬ (kd s = 3 ∨ kd s = 4) := of_decide_eq_false ((in34 (kd s)).symm.trans (Bool.eq_false_iff.mpr c))
  refine ⟨_, rfl, _, _, _, _, rfl, rfl, SqT.of (s1 _ _ h2), rfl, two_le, fun q2 n2 => ?_⟩
  refine ⟨q2, _, rfl, .inr (SqT.of upd_same), rfl, rfl, _, rfl, ?_⟩
  have s2 := s1.trans (same_new n2 (.tup [.int 3, .int 4]))
  refine ite2 (fun d => ?_) (fun d => ?_)
  · have d' : decide (kd t = 3 ∨ kd t = 4) = true := (in34 (kd t)).symm.trans d
    rw [if_pos (by rcases of_decide_eq_true d' with z | z <;> simp [z])] at e0
    have := q _ s2
    rw [e0] at this
    exact this
  have d' : ¬ (kd t = 3 ∨ kd t = 4) := of_decide_eq_false ((in34 (kd t)).symm.trans (Bool.eq_false_iff.mpr d))
  rw [if_neg (by rintro (z | z | z | z) <;> simp_all)] at e0
  -- one[:2] != other[:2]
  refine ⟨_, rfl, _, rfl, _, _, rfl, SqT.of (s2 _ _ h1), sq3, fun q3 n3 => ?_⟩
  have s3 := s2.trans (same_new n3 (.tup [.int (kd s : Nat), .int (nm s : Nat)]))
  refine ⟨_, rfl, _, rfl, _, _, rfl, SqT.of (s3 _ _ h2), sq3, fun q4 n4 => ?_⟩
  have s4 := s3.trans (same_new n4 (.tup [.int (kd t : Nat), .int (nm t : Nat)]))
  refine ⟨_, _, dp2 (same_new n4 _ _ _ upd_same), dp2 upd_same, rfl, rfl, (by show 1 ≤ 199; decide), _, rfl, ?_⟩
  refine ite2 (fun c2 => ?_) (fun c2 => ?_)
  · have c2' : (!decide (kd s = kd t ∧ nm s = nm t)) = true := by rw [← eqv2]; exact c2
    rw [if_pos (by simp at c2'; omega)] at e0
    have := q _ s4
    rw [e0] at this
    exact this
  have c2' : kd s = kd t ∧ nm s = nm t := by
    have z : (!decide (kd s = kd t ∧ nm s = nm t)) = false := by rw [← eqv2]; exact Bool.eq_false_iff.mpr c2
    simpa using z
  refine ⟨_, rfl, _, _, _, _, rfl, rfl, SqT.of (s4 _ _ h1), rfl, p1, _, rfl, .inr (SqT.of (s4 _ _ k1)), _, rfl, _, _, _, _, rfl, rfl, SqT.of (s4 _ _ h2), rfl, p2, _, rfl, .inr (SqT.of (s4 _ _ k2)), rfl, _, rfl, ?_⟩
  rw [dec_nat, l1.length, l2.length]
  refine ite2 (fun c3 => ?_) (fun c3 => ?_)
  · rw [if_pos (by simp at c3; omega)] at e0
    have := q _ s4
    rw [e0] at this
    exact this
  have c3' : (pts s).length = (pts t).length := by simpa using c3
  rw [if_neg (by omega), aparts_any] at e0
  -- for part, twin in zip(one[2], other[2])
  refine ⟨_, rfl, _, _, _, _, rfl, rfl, SqT.of (s4 _ _ h1), rfl, _, rfl, _, _, _, _, rfl, rfl, SqT.of (s4 _ _ h2), rfl, p1, p2, vs1, vs2, rfl, .inr ⟨SqT.of (s4 _ _ k1), SqT.of (s4 _ _ k2), ?_⟩⟩
  refine RZ.for_zipT (by rw [l1.length, l2.length]; exact c3') (fun i σ H' => Same H H' ∧ (∃ x y, σ = [some (.ref a1), some (.ref a2), x, y]) ∧ (((pts s).zip (pts t)).take i).any (fun x => Pa01.apart x.1 x.2) = false)
    ⟨s4, ⟨_, _, rfl⟩, rfl⟩ (fun i σ H' h => ⟨SqT.of (h.1 _ _ k1), SqT.of (h.1 _ _ k2)⟩) ?_ ?_
  · rintro i x y Tt σ H' hx hy ⟨sH, ⟨x0, y0, rfl⟩, hn⟩ nT
    obtain ⟨t1, ht1, at1⟩ := l1.get hx
    obtain ⟨t2, ht2, at2⟩ := l2.get hy
    have sT := same_new nT (.tup [x, y])
    have hz : ((pts s).zip (pts t))[i]? = some (t1, t2) := by rw [List.getElem?_zip_eq_some]; exact ⟨ht1, ht2⟩
    refine ⟨Tt, _, rfl, SqT.of upd_same, rfl, _, _, rfl, _, _, rfl, rfl, ?_⟩
    refine ⟨_, rfl, _, rfl, x, y, t1, t2, rfl, at1.tps (sH.trans sT).tps, at2.tps (sH.trans sT).tps, ?_, fun H2 sH2 => ⟨_, rfl, ?_⟩⟩
    · have := deeps_le (List.mem_of_getElem? ht1)
      have := deep_eq s
      omega
    · have sAll := (sH.trans sT).trans sH2
      refine ite2 (fun c4 => ?_) (fun c4 => ?_)
      · have e1 : ((pts s).zip (pts t)).any (fun x => Pa01.apart x.1 x.2) = true := List.any_eq_true.mpr ⟨_, List.mem_of_getElem? hz, c4⟩
        have := q _ sAll
        rw [e0, e1] at this
        exact this
      · refine ⟨sAll, ⟨_, _, rfl⟩, ?_⟩
        rw [any_take_more hz, hn]
        exact Bool.eq_false_iff.mpr c4
  · rintro σ H' ⟨sH, ⟨x0, y0, rfl⟩, hn⟩
    rw [List.take_of_length_le (by rw [List.length_zip, l1.length]; omega)] at hn
    have := q _ sH
    rw [e0, hn] at this
    exact this
theorem ok_are_apart (T : Txt K mg a) : ∀ n : Nat, Cal P w K mg base CX0 n "are_apart" ["one", "other"] (spApart n)
  | 0 => Cal.no T.d_are_apart fun vs H Q E h => by
    obtain ⟨v, u, s, t, _, _, _, hd, _⟩ := h
    have := deep_pos s
    omega
  | n + 1 => ok_are_apart0 T (ok_are_apart T n)
end
end HH
namespace HH
open Pa01
/-! ### the specification's functions by kind, number, parts -/
theorem told_eq (t : Term) : told t = if kd t = 4 then [4] else if kd t = 0 then [0, nm t] else (if kd t = 2 then [2] else [kd t, nm t, (pts t).length]) ++ tolds (pts t) := by
  cases t <;> simp [told, kd, nm, pts, tolds]
theorem tolds_flat : ∀ l : List Term, tolds l = l.flatMap told
  | [] => rfl
  | t :: l => by simp only [tolds, List.flatMap_cons]; rw [tolds_flat l]
mutual
theorem told_len : ∀ t : Term, (told t).length ≤ 3 * size t
  | .place i => by simp [told, size]
  | .sign f ps => by have := tolds_len ps; simp [told, size]; omega
  | .bind t => by have := told_len t; simp [told, size]; omega
  | .hole f ps => by have := tolds_len ps; simp [told, size]; omega
  | .gone => by simp [told, size]
theorem tolds_len : ∀ l : List Term, (tolds l).length ≤ 3 * sizes l
  | [] => by simp [tolds, sizes]
  | t :: l => by have := told_len t; have := tolds_len l; simp [tolds, sizes]; omega
end
theorem badIn_eq (ok : Nat → Bool) (d : Nat) (t : Term) : badIn ok d t = if kd t = 0 then decide (d ≤ nm t) && !ok (nm t - d) else badIns ok (d + un t) (pts t) := by
  cases t <;> first | rfl | simp [badIn, kd, nm, pts, un, badIns]
theorem badOut_eq (ok : Nat → Bool) (d : Nat) (t : Term) : badOut ok d t = if kd t = 0 then decide (d ≤ nm t) && !ok (nm t - d) else if kd t = 3 then false else badOuts ok (d + un t) (pts t) := by
  cases t <;> first | rfl | simp [badOut, kd, nm, pts, un, badOuts]
theorem badIns_any (ok : Nat → Bool) (d : Nat) : ∀ l : List Term, badIns ok d l = l.any (badIn ok d)
  | [] => rfl
  | t :: l => by simp only [badIns, List.any_cons]; rw [badIns_any ok d l]
theorem badOuts_any (ok : Nat → Bool) (d : Nat) : ∀ l : List Term, badOuts ok d l = l.any (badOut ok d)
  | [] => rfl
  | t :: l => by simp only [badOuts, List.any_cons]; rw [badOuts_any ok d l]
/-- within holes' parts too, if so asked -/
def bad (ok : Nat → Bool) (deep : Bool) (d : Nat) (t : Term) : Bool := if deep = true then badIn ok d t else badOut ok d t
theorem bad_eq (ok : Nat → Bool) (deep : Bool) (d : Nat) (t : Term) : bad ok deep d t = if kd t = 0 then decide (d ≤ nm t) && !ok (nm t - d) else if kd t = 3 ∧ deep = false then false else (pts t).any (bad ok deep (d + un t)) := by
  cases deep with
  | true =>
    show badIn ok d t = _
    rw [badIn_eq, badIns_any]
    simp only [Bool.true_eq_false, and_false, if_false]
    rfl
  | false =>
    show badOut ok d t = _
    rw [badOut_eq, badOuts_any]
    simp only [and_true]
    rfl
theorem withins_any (h : Nat) : ∀ l : List Term, withins h l = l.any (within h)
  | [] => rfl
  | t :: l => by simp only [withins, List.any_cons]; rw [withins_any h l]
theorem outsides_any (h : Nat) : ∀ l : List Term, outsides h l = l.any (outside h)
  | [] => rfl
  | t :: l => by simp only [outsides, List.any_cons]; rw [outsides_any h l]
def has (h : Nat) (deep : Bool) (t : Term) : Bool := if deep = true then within h t else outside h t
theorem has_eq (h : Nat) (deep : Bool) (t : Term) : has h deep t = if kd t = 3 ∧ nm t = h then true else if kd t = 3 ∧ deep = false then false else (pts t).any (has h deep) := by
  cases deep with
  | true =>
    show within h t = _
    have e : has h true = within h := by funext t; rfl
    rw [e]
    cases t <;> simp [within, kd, nm, pts, withins_any]
    rename_i k ps
    by_cases hk : k = h
    · simp [hk]
    · simp [hk]
  | false =>
    show outside h t = _
    have e : has h false = outside h := by funext t; rfl
    rw [e]
    cases t <;> simp [outside, kd, nm, pts, outsides_any]
    exact Bool.beq_eq_decide_eq _ _
theorem cutss_flat (ok : Nat → Bool) (d : Nat) : ∀ l : List Term, cutss ok d l = l.flatMap (cuts ok d)
  | [] => rfl
  | t :: l => by simp only [cutss, List.flatMap_cons]; rw [cutss_flat ok d l]
theorem cutsOf_flat (ok : Nat → Bool) (d h : Nat) : ∀ (l : List Term) (k : Nat), cutsOf ok d h k l = (l.zipIdx k).flatMap fun x => if badOut ok d x.1 = true then [(h, x.2)] else []
  | [], k => rfl
  | t :: l, k => by simp only [cutsOf, List.zipIdx_cons, List.flatMap_cons]; rw [cutsOf_flat ok d h l (k + 1)]
/-- what one part gives -/
def cut1 (ok : Nat → Bool) (d : Nat) (t : Term) (x : Term × Nat) : List (Nat × Nat) := if kd t ≠ 3 then cuts ok (d + un t) x.1 else if badOut ok d x.1 = true then [(nm t, x.2)] else []
theorem cuts_eq (ok : Nat → Bool) (d : Nat) (t : Term) : cuts ok d t = (pts t).zipIdx.flatMap (cut1 ok d t) := by
  cases t with
  | hole h ps =>
    show cutsOf ok d h 0 ps = _
    rw [cutsOf_flat]
    rfl
  | sign f ps =>
    show cutss ok d ps = _
    rw [cutss_flat]
    have e : ∀ (l : List Term) (k : Nat), l.flatMap (cuts ok d) = (l.zipIdx k).flatMap (cut1 ok d (.sign f ps)) := by
      intro l
      induction l with
      | nil => intro k; rfl
      | cons a l ih => intro k; rw [List.flatMap_cons, List.zipIdx_cons, List.flatMap_cons, ih (k + 1)]; rfl
    exact e ps 0
  | bind t =>
    show cuts ok (d + 1) t = [((t, 0) : Term × Nat)].flatMap (cut1 ok d (.bind t))
    rw [List.flatMap_cons, List.flatMap_nil, List.append_nil]
    rfl
  | place i => rfl
  | gone => rfl
theorem cuts_small {ok : Nat → Bool} : ∀ (t : Term) (d : Nat), (cuts ok d t).length ≤ size t := by
  intro t d
  have key : ∀ n, ∀ (t : Term) (d : Nat), size t ≤ n → (cuts ok d t).length ≤ size t := by
    intro n
    induction n with
    | zero => intro t d h; have := size_pos t; omega
    | succ n ih =>
      intro t d h
      rw [cuts_eq, size_eq t]
      have e : ∀ (l : List Term) (k : Nat), (∀ x ∈ l, size x ≤ n) → ((l.zipIdx k).flatMap (cut1 ok d t)).length ≤ sizes l := by
        intro l
        induction l with
        | nil => intro k _; simp [sizes]
        | cons a l ihl =>
          intro k hl
          rw [List.zipIdx_cons, List.flatMap_cons, List.length_append]
          have h1 := ihl (k + 1) fun x hx => hl x (List.mem_cons_of_mem _ hx)
          have h2 : (cut1 ok d t (a, k)).length ≤ size a := by
            unfold cut1
            split
            · exact ih a _ (hl a List.mem_cons_self)
            · have := size_pos a
              split <;> simp <;> omega
          simp only [sizes]
          omega
      have := e (pts t) 0 fun x hx => by
        have := sizes_le hx
        have := size_eq t
        omega
      omega
  exact key _ t d (Nat.le_refl _)
theorem turn_eq (r : List Term) (d : Nat) (t : Term) : (kd t = 0 ∧ d ≤ nm t → turn r d t = .place (spotOf r (nm t - d) + d)) ∧ (¬ (kd t = 0 ∧ d ≤ nm t) → kd (turn r d t) = kd t ∧ nm (turn r d t) = nm t ∧ pts (turn r d t) = (pts t).map (turn r (d + un t))) := by
  cases t with
  | place i =>
    refine ⟨fun h => ?_, fun h => ?_⟩
    · have h' : d ≤ i := h.2
      simp only [turn, nm]
      rw [if_neg (by omega)]
    · have h' : i < d := by
        have : ¬ (0 = 0 ∧ d ≤ i) := h
        omega
      simp only [turn]
      rw [if_pos h']
      exact ⟨rfl, rfl, rfl⟩
  | sign f ps => exact ⟨fun h => absurd h.1 (by simp [kd]), fun _ => ⟨rfl, rfl, by simp [turn, pts, turns_map, un, kd]⟩⟩
  | bind t => exact ⟨fun h => absurd h.1 (by simp [kd]), fun _ => ⟨rfl, rfl, by simp [turn, pts, un, kd]⟩⟩
  | hole f ps => exact ⟨fun h => absurd h.1 (by simp [kd]), fun _ => ⟨rfl, rfl, by simp [turn, pts, turns_map, un, kd]⟩⟩
  | gone => exact ⟨fun h => absurd h.1 (by simp [kd]), fun _ => ⟨rfl, rfl, rfl⟩⟩
mutual
theorem deep_turn (r : List Term) : ∀ (d : Nat) (t : Term), deep (turn r d t) = deep t
  | d, .place i => by simp only [turn]; split <;> rfl
  | d, .sign f ps => by simp [turn, deep, deeps_turns r d ps]
  | d, .bind t => by simp [turn, deep, deep_turn r (d + 1) t]
  | d, .hole f ps => by simp [turn, deep, deeps_turns r d ps]
  | d, .gone => by simp [turn, deep]
theorem deeps_turns (r : List Term) : ∀ (d : Nat) (l : List Term), deeps (turns r d l) = deeps l
  | d, [] => rfl
  | d, t :: l => by simp [turns, deeps, deep_turn r d t, deeps_turns r d l]
end

/-! ### plain -/
/-- the places that a plain hole's parts are, -1 for a part that is gone -/
def ownL (ps : List Term) : List Int := ps.map fun p => if kd p = 4 then -1 else (nm p : Int)
theorem different_iff : ∀ l : List Nat, different l = true ↔ l.Nodup
  | [] => by simp [different]
  | a :: l => by simp [different, different_iff l]
/-- what isn't gone -/
def left4 (ps : List Term) : List Term := ps.filter fun p => decide (kd p ≠ 4)
theorem place_of {p : Term} (h : kd p = 0) : p = .place (nm p) := by cases p <;> simp_all [kd, nm]
theorem gone_of {p : Term} (h : kd p = 4) : p = .gone := by cases p <;> simp_all [kd]
theorem hole_of {p : Term} (h : kd p = 3) : p = .hole (nm p) (pts p) := by cases p <;> simp_all [kd, nm, pts]
theorem sign_of {p : Term} (h : kd p = 1) : p = .sign (nm p) (pts p) := by cases p <;> simp_all [kd, nm, pts]
theorem plain_left (ps : List Term) : plain ps = true ↔ (∀ p ∈ left4 ps, kd p = 0) ∧ (left4 ps).Nodup := by
  have h1 : (ps.all fun t => match t with | .place _ => true | .gone => true | _ => false) = true ↔ ∀ p ∈ left4 ps, kd p = 0 := by
    rw [List.all_eq_true]
    constructor
    · intro h p hp
      obtain ⟨h1, h2⟩ := List.mem_filter.mp hp
      have := h p h1
      cases p <;> simp_all [kd]
    · intro h p hp
      cases p with
      | place i => rfl
      | gone => rfl
      | sign f qs => exact absurd (h _ (List.mem_filter.mpr ⟨hp, rfl⟩)) (by simp [kd])
      | bind u => exact absurd (h _ (List.mem_filter.mpr ⟨hp, rfl⟩)) (by simp [kd])
      | hole f qs => exact absurd (h _ (List.mem_filter.mpr ⟨hp, rfl⟩)) (by simp [kd])
  have h2 : (∀ p ∈ left4 ps, kd p = 0) → left4 ps = (spots ps).map Term.place := by
    intro h
    clear h1
    induction ps with
    | nil => rfl
    | cons p ps ih =>
      have ih' := ih fun q hq => h q (by
        unfold left4 at hq ⊢
        rw [List.filter_cons]
        split
        · exact List.mem_cons_of_mem _ hq
        · exact hq)
      cases p with
      | place i =>
        show Term.place i :: left4 ps = (i :: spots ps).map Term.place
        rw [ih']; rfl
      | gone =>
        show left4 ps = (spots ps).map Term.place
        exact ih'
      | sign f qs => exact absurd (h (.sign f qs) (List.mem_filter.mpr ⟨List.mem_cons_self, rfl⟩)) (by simp [kd])
      | bind u => exact absurd (h (.bind u) (List.mem_filter.mpr ⟨List.mem_cons_self, rfl⟩)) (by simp [kd])
      | hole f qs => exact absurd (h (.hole f qs) (List.mem_filter.mpr ⟨List.mem_cons_self, rfl⟩)) (by simp [kd])
  unfold plain
  rw [Bool.and_eq_true]
  refine (and_congr h1 (different_iff _)).trans ?_
  constructor
  · rintro ⟨a, b⟩
    refine ⟨a, ?_⟩
    rw [h2 a]
    exact List.pairwise_map.mpr (List.Pairwise.imp (fun h z => h (by injection z)) b)
  · rintro ⟨a, b⟩
    refine ⟨a, ?_⟩
    rw [h2 a] at b
    exact List.Pairwise.imp (fun h z => h (congrArg _ z)) (List.pairwise_map.mp b)
/-- one by one, from the left -/
theorem nodup_take {α : Type} {l : List α} : l.Nodup ↔ ∀ (k : Nat) (x : α), l[k]? = some x → x ∉ l.take k := by
  constructor
  · intro h k x e hm
    obtain ⟨j, hj, e2⟩ := List.getElem_of_mem hm
    rw [List.length_take] at hj
    rw [List.getElem_take] at e2
    obtain ⟨hk, e1⟩ := List.getElem?_eq_some_iff.mp e
    have := (List.getElem_inj h).mp (e2.trans e1.symm)
    omega
  · intro h
    unfold List.Nodup
    rw [List.pairwise_iff_getElem]
    intro i j hi hj hij e
    refine h j l[j] (List.getElem?_eq_getElem hj) ?_
    rw [← e]
    rw [List.mem_iff_getElem?]
    exact ⟨i, by rw [List.getElem?_take, if_pos hij]; exact List.getElem?_eq_getElem hi⟩
/-- a plain hole's own places hold i just if it is one of the spots -/
theorem own_spots {ps : List Term} (hp : plain ps = true) (i : Nat) : (ownL ps).contains (i : Int) = (spots ps).contains i := by
  have h1 := ((plain_left ps).mp hp).1
  clear hp
  induction ps with
  | nil => rfl
  | cons p ps ih =>
    have ih' := ih fun q hq => h1 q (by
      unfold left4 at hq ⊢
      rw [List.filter_cons]
      split
      · exact List.mem_cons_of_mem _ hq
      · exact hq)
    cases p with
    | place j =>
      show (((i : Int) == (j : Int)) || (ownL ps).contains (i : Int)) = ((i == j) || (spots ps).contains i)
      rw [ih']
      congr 1
      by_cases h : i = j
      · subst h; simp
      · rw [beq_eq_false_iff_ne.mpr h]
        exact beq_eq_false_iff_ne.mpr (by omega)
    | gone =>
      show (((i : Int) == -1) || (ownL ps).contains (i : Int)) = (spots ps).contains i
      rw [ih', beq_eq_false_iff_ne.mpr (by omega), Bool.false_or]
    | sign f qs => exact absurd (h1 (.sign f qs) (List.mem_filter.mpr ⟨List.mem_cons_self, rfl⟩)) (by simp [kd])
    | bind u => exact absurd (h1 (.bind u) (List.mem_filter.mpr ⟨List.mem_cons_self, rfl⟩)) (by simp [kd])
    | hole f qs => exact absurd (h1 (.hole f qs) (List.mem_filter.mpr ⟨List.mem_cons_self, rfl⟩)) (by simp [kd])
/-- .. and its first place there is the spot's -/
theorem own_spotOf {ps : List Term} (hp : plain ps = true) {i : Nat} (hi : (spots ps).contains i = true) :
    (ownL ps)[spotOf ps i]? = some (i : Int) ∧ ∀ m z, m < spotOf ps i → (ownL ps)[m]? = some z → z ≠ (i : Int) := by
  have h1 := ((plain_left ps).mp hp).1
  have hi' : (ownL ps).contains (i : Int) = true := by rw [own_spots hp]; exact hi
  clear hp hi
  induction ps with
  | nil => cases hi'
  | cons p ps ih =>
    have ih' := ih fun q hq => h1 q (by
      unfold left4 at hq ⊢
      rw [List.filter_cons]
      split
      · exact List.mem_cons_of_mem _ hq
      · exact hq)
    have step : ∀ (z : Int), ownL (p :: ps) = z :: ownL ps → z ≠ (i : Int) → spotOf (p :: ps) i = spotOf ps i + 1 →
        (ownL (p :: ps))[spotOf (p :: ps) i]? = some (i : Int) ∧ ∀ m z, m < spotOf (p :: ps) i → (ownL (p :: ps))[m]? = some z → z ≠ (i : Int) := by
      intro z e1 hz e2
      have hc : (ownL ps).contains (i : Int) = true := by
        rw [e1] at hi'
        rw [List.contains_cons, beq_eq_false_iff_ne.mpr (Ne.symm hz), Bool.false_or] at hi'
        exact hi'
      obtain ⟨a, b⟩ := ih' hc
      rw [e1, e2]
      refine ⟨a, fun m y hm hy => ?_⟩
      cases m with
      | zero => cases hy; exact hz
      | succ m => exact b m y (by omega) hy
    cases p with
    | place j =>
      by_cases h : i = j
      · subst h
        have e2 : spotOf (.place i :: ps) i = 0 := by unfold spotOf; rw [List.findIdx_cons]; simp
        rw [e2]
        exact ⟨rfl, fun m z hm => absurd hm (Nat.not_lt_zero m)⟩
      · refine step (j : Int) rfl (by omega) ?_
        unfold spotOf
        rw [List.findIdx_cons]
        have : (i == j) = false := beq_eq_false_iff_ne.mpr h
        simp [this]
    | gone =>
      refine step (-1) rfl (by omega) ?_
      unfold spotOf
      rw [List.findIdx_cons]
      simp
    | sign f qs => exact absurd (h1 (.sign f qs) (List.mem_filter.mpr ⟨List.mem_cons_self, rfl⟩)) (by simp [kd])
    | bind u => exact absurd (h1 (.bind u) (List.mem_filter.mpr ⟨List.mem_cons_self, rfl⟩)) (by simp [kd])
    | hole f qs => exact absurd (h1 (.hole f qs) (List.mem_filter.mpr ⟨List.mem_cons_self, rfl⟩)) (by simp [kd])
end HH
namespace HH
open PySem PySem.Spec PyProof.Rows L2 L2Y
open Pa01 (Term Hole Eqn)
/-! ### words -/
abbrev vn (n : Nat) : V := V.int (n : Nat)
abbrev vns (l : List Nat) : List V := l.map fun n => V.int (n : Nat)
theorem litT {i : Nat} {j : Int} (c : decide (V.int (i : Nat) = V.int j) = true) : (i : Int) = j := by
  have := of_decide_eq_true c
  injection this
theorem litF {i : Nat} {j : Int} (c : ¬ decide (V.int (i : Nat) = V.int j) = true) : ¬ (i : Int) = j := fun z => c (by rw [z]; simp)
theorem nitT {i : Nat} {j : Int} (c : (!decide (V.int (i : Nat) = V.int j)) = true) : ¬ (i : Int) = j := fun z => by rw [z] at c; simp at c
theorem nitF {i : Nat} {j : Int} (c : ¬ (!decide (V.int (i : Nat) = V.int j)) = true) : (i : Int) = j := by
  simp at c
  exact c
theorem same_upd {H H2 : Hp} {D : Addr} {o : HO} (n : H D = none) (s : Same H H2) : Same H (upd H2 D o) := fun b u h => by
  rw [upd_ne (ne_of_none h n)]
  exact s b u h
theorem lt_line {n : Nat} (h : n ≤ 1000000) : n < sizeLine := by rw [sizeLine_eq]; omega
theorem le_line {n : Nat} (h : n ≤ 1000000) : n ≤ sizeLine := Nat.le_of_lt (lt_line h)
theorem l1le (x : V) : [x].length ≤ sizeLine := le_line (by simp)
theorem l2le (x y : V) : [x, y].length ≤ sizeLine := le_line (by simp)
theorem l3le (x y z : V) : [x, y, z].length ≤ sizeLine := le_line (by simp)
theorem take_more {α : Type} {l : List α} {i : Nat} {x : α} (h : l[i]? = some x) : l.take (i + 1) = l.take i ++ [x] := by rw [List.take_succ, h]; rfl
theorem TermsAt.take {H : Hp} : ∀ {vs : List V} {ts : List Term} (n : Nat), TermsAt H vs ts → TermsAt H (vs.take n) (ts.take n)
  | _, _, 0, _ => .nil
  | _, _, _ + 1, .nil => .nil
  | _, _, n + 1, .cons h r => .cons h (r.take n)
theorem TermsAt.one {H : Hp} {v : V} {t : Term} (h : TermAt H v t) : TermsAt H [v] [t] := .cons h .nil
theorem pts_small {t u : Term} {n m : Nat} (h : u ∈ pts t) (hd : Pa01.deep t ≤ n + 1) (hz : Pa01.size t ≤ m) : Pa01.deep u ≤ n ∧ Pa01.size u ≤ m := by
  have := deeps_le h
  have := deep_eq t
  have := sizes_le h
  have := size_eq t
  omega
theorem pts_len {t : Term} {m : Nat} (hz : Pa01.size t ≤ m) : (pts t).length ≤ m := by
  have := sizes_len (pts t)
  have := size_eq t
  omega
section
variable {P : Program} {w : World} {K : PySem.W.Frag} {mg : Str → Option Value} {base : Heap} {a : Ad}
/-! ### size_of -/
def spSize (n : Nat) : Sp := fun vs H Q _ => ∃ (v : V) (t : Term), vs = [v] ∧ TermAt H v t ∧ Pa01.deep t ≤ n ∧ Pa01.size t ≤ 5000 ∧ ∀ H', Same H H' → Q (vn (Pa01.size t)) H'
theorem sc_size_of : FnScope ["term", "part"] ["term"] (defScope s_size_of) := ⟨rfl, rfl, rfl, by decide +kernel, rfl, by decide +kernel, by decide +kernel⟩
theorem sum_sizes (l : List Term) : (l.map fun u => (Pa01.size u : Int)).sum = ((Pa01.sizes l : Nat) : Int) := by
  induction l with
  | nil => rfl
  | cons t l ih => rw [List.map_cons, List.sum_cons, ih, Pa01.sizes]; omega
theorem ok_size_of0 (T : Txt K mg a) {n : Nat} (c_size_of : Cal P w K mg base CX0 n "size_of" ["term"] (spSize n)) : Cal P w K mg base CX0 (n + 1) "size_of" ["term"] (spSize (n + 1)) := by
  refine T.d_size_of.ok0 sc_size_of (fun vs H Q E h => ?_) (fun f cdv A outer s H vs Q E hr h => ?_)
  · obtain ⟨v, t, rfl, _⟩ := h
    rfl
  obtain ⟨v, t, rfl, ht, hd, hz, q⟩ := h
  obtain ⟨a1, p1, vs1, rfl, h1, k1, l1⟩ := ht.open
  refine ⟨_, (pss_one (ps_ret (pe_op op_add pe_int (pe_callB (cr_sum rfl) rfl T.b_sum (by decide +kernel) (pa_cons (pe_lc (own := [("part", 1)])  rfl sc_size_of.nd (pi_tup (pe_ix ix_tup (pv 0) pe_int (fun _ _ => rfl))) (blkOk_by (own := [("part", 1)]) (N := ["term", "part"]) (sc := defScope s_size_of) (by decide +kernel)) (fun _ _ _ _ _ => (pg_name (i := 1) sc_size_of.nd rfl (Or.inl rfl))) (fun _ _ _ _ _ => pts_nil) (fun _ _ _ _ _ => (pe_callC c_size_of (hr.mono (by omega)) rfl pass0 (pa_cons (pv 1) pa_nil)))) pa_nil))))), ?_⟩
  refine ⟨_, rfl, _, _, _, _, rfl, rfl, SqT.of h1, rfl, p1, rfl, ⟨_, SqT.of k1⟩, fun D nD => ?_⟩
  refine lc_tup (K := K) (a := p1) (xs := vs1) (fun i H' => Same H H' ∧ H' D = some (.lst (((pts t).take i).map fun u => vn (Pa01.size u)))) ⟨same_new nD _, upd_same⟩ (fun i H' _ h => SqT.of (h.1 _ _ k1)) ?_ ?_
  · rintro i x H' hx ⟨sH, hD⟩
    obtain ⟨t1, e1, at1⟩ := l1.get hx
    obtain ⟨b1, b2⟩ := pts_small (List.mem_of_getElem? e1) hd hz
    refine ⟨rfl, _, rfl, x, t1, rfl, at1.tps sH.tps, b1, b2, fun H2 s2 => ⟨_, s2 _ _ hD, ?_, same_upd nD (sH.trans s2), ?_⟩⟩
    · rw [List.length_map, List.length_take]
      exact lt_line (by have := pts_len hz; omega)
    · rw [upd_same, take_more e1, List.map_append]
      rfl
  · rintro H' ⟨sH, hD⟩
    rw [l1.length, List.take_length] at hD
    refine ⟨D, (pts t).map fun u => (Pa01.size u : Int), rfl, SqL.of (by rw [hD, List.map_map]; rfl), _, _, rfl, rfl, ?_⟩
    rw [sum_sizes]
    have := q H' sH
    rw [size_eq] at this
    have e : ((1 : Int) + ((Pa01.sizes (pts t) : Nat) : Int)) = ((1 + Pa01.sizes (pts t) : Nat) : Int) := by omega
    show Q (V.int ((1 : Int) + ((Pa01.sizes (pts t) : Nat) : Int))) H'
    rw [e]
    exact this
theorem ok_size_of (T : Txt K mg a) : ∀ n : Nat, Cal P w K mg base CX0 n "size_of" ["term"] (spSize n)
  | 0 => Cal.no T.d_size_of fun vs H Q E h => by
    obtain ⟨v, t, _, _, hd, _⟩ := h
    have := deep_pos t
    omega
  | n + 1 => ok_size_of0 T (ok_size_of T n)
/-! ### row_of -/
def spRow (n : Nat) : Sp := fun vs H Q _ => ∃ (v : V) (t : Term), vs = [v] ∧ TermAt H v t ∧ Pa01.deep t ≤ n ∧ Pa01.size t ≤ 5000 ∧ ∀ H' r, Same H H' → H' r = some (.lst (vns (Pa01.told t))) → Q (.ref r) H'
theorem sc_row_of : FnScope ["term", "kind", "number", "parts", "found", "part"] ["term"] (defScope s_row_of) := ⟨rfl, rfl, rfl, by decide +kernel, rfl, by decide +kernel, by decide +kernel⟩
theorem ok_row_of0 (T : Txt K mg a) {n : Nat} (c_row_of : Cal P w K mg base CX0 n "row_of" ["term"] (spRow n)) : Cal P w K mg base CX0 (n + 1) "row_of" ["term"] (spRow (n + 1)) := by
  refine T.d_row_of.ok0 sc_row_of (fun vs H Q E h => ?_) (fun f cdv A outer s H vs Q E hr h => ?_)
  · obtain ⟨v, t, rfl, _⟩ := h
    rfl
  obtain ⟨v, t, rfl, ht, hd, hz, q⟩ := h
  obtain ⟨a1, p1, vs1, rfl, h1, k1, l1⟩ := ht.open
  have e0 := told_eq t
  refine ⟨_, (pss_cons (ps_asg (pv 0) (pg_tup rfl (pgs_cons (pg_name (i := 1) sc_row_of.nd rfl (Or.inl rfl)) (pgs_cons (pg_name (i := 2) sc_row_of.nd rfl (Or.inl rfl)) (pgs_cons (pg_name (i := 3) sc_row_of.nd rfl (Or.inl rfl)) pgs_nil)))))
      (pss_cons (ps_if (pt_cmpR op_eq (pv 1) (pe_k T.k_GONE) (nomark _)) (pss_one (ps_ret (pe_lst (pa_cons (pe_k T.k_GONE) pa_nil)))) pss_nil)
      (pss_cons (ps_if (pt_cmpR op_eq (pv 1) (pe_k T.k_PLACE) (nomark _)) (pss_one (ps_ret (pe_lst (pa_cons (pe_k T.k_PLACE) (pa_cons (pv 2) pa_nil))))) pss_nil)
      (pss_cons (ps_set (i := 4) sc_row_of.nd rfl (Or.inl rfl) (pe_lst (pa_cons (pv 1) pa_nil)))
      (pss_cons (ps_if (pt_cmpR op_ne (pv 1) (pe_k T.k_BINDER) (nomark _)) (pss_one (ps_set (i := 4) sc_row_of.nd rfl (Or.inl rfl) (pe_lst (pa_cons (pv 1) (pa_cons (pv 2) (pa_cons (pe_callB call_len_seq rfl T.b_len (by decide +kernel) (pa_cons (pv 3) pa_nil)) pa_nil)))))) pss_nil)
      (pss_cons (ps_for PassesOwn.never rfl (pi_tup (pv 3)) (pg_name (i := 5) sc_row_of.nd rfl (Or.inl rfl)) (pss_one (ps_set (i := 4) sc_row_of.nd rfl (Or.inl rfl) (pe_op op_cat (pv 4) (pe_callC c_row_of (hr.mono (by omega)) rfl pass0 (pa_cons (pv 5) pa_nil))))))
      (pss_one (ps_ret (pv 4))))))))), ?_⟩
  refine ⟨_, rfl, a1, _, rfl, SqT.of h1, rfl, _, _, rfl, _, _, rfl, _, _, rfl, rfl, ?_⟩
  refine ⟨_, rfl, rfl, _, rfl, ite2 (fun c => ?_) (fun c => ?_)⟩
  · have c' := litT c
    rw [if_pos (by omega)] at e0
    refine ⟨l1le _, fun r nr => q _ r (same_new nr _) ?_⟩
    rw [upd_same, e0]
    rfl
  have c' := litF c
  rw [if_neg (by omega)] at e0
  refine ⟨_, rfl, rfl, _, rfl, ite2 (fun d => ?_) (fun d => ?_)⟩
  · have d' := litT d
    rw [if_pos (by omega)] at e0
    refine ⟨_, rfl, l2le _ _, fun r nr => q _ r (same_new nr _) ?_⟩
    rw [upd_same, e0]
    rfl
  have d' := litF d
  rw [if_neg (by omega)] at e0
  refine ⟨_, rfl, l1le _, fun r0 n0 => ?_⟩
  have s0 := same_new n0 (.lst [vn (kd t)])
  -- the loop, from a list that begins the row
  have loop : ∀ (r : Addr) (H0 : Hp) (pre : List Nat) (D : Ends), Same H H0 → H0 r = some (.lst (vns pre)) → pre.length ≤ 3 → (∀ H' r' x, Same H H' → H' r' = some (.lst (vns (pre ++ Pa01.tolds (pts t)))) → D.nx [some (.ref a1), some (vn (kd t)), some (vn (nm t)), some (.ref p1), some (.ref r'), x] H') →
      tFor (iTup K (tVar 3)) (gName 5) (tAsg (tOp rCat (tVar 4) (tCl (spRow n) E0 (tCons (tVar 5) tNil))) (gName 4)) D [some (.ref a1), some (vn (kd t)), some (vn (nm t)), some (.ref p1), some (.ref r), none] H0 := by
    intro r H0 pre D sH0 hr0 hpre hD
    refine ⟨_, rfl, p1, rfl, ⟨_, SqT.of (sH0 _ _ k1)⟩, for_tup (K := K) (a := p1) (xs := vs1) (fun i σ H' => ∃ r' x, σ = [some (.ref a1), some (vn (kd t)), some (vn (nm t)), some (.ref p1), some (.ref r'), x] ∧ Same H H' ∧ H' r' = some (.lst (vns (pre ++ Pa01.tolds ((pts t).take i)))))
      ⟨r, none, rfl, sH0, ?_⟩ (fun i σ H' _ ⟨_, _, _, s, _⟩ => SqT.of (s _ _ k1)) ?_ ?_⟩
    · rw [hr0]
      show some (HO.lst (vns pre)) = some (HO.lst (vns (pre ++ [])))
      rw [List.append_nil]
    · rintro i x σ H' hx ⟨r', x0, rfl, sH, hr'⟩
      obtain ⟨t1, e1, at1⟩ := l1.get hx
      obtain ⟨b1, b2⟩ := pts_small (List.mem_of_getElem? e1) hd hz
      refine ⟨_, rfl, _, rfl, x, t1, rfl, at1.tps sH.tps, b1, b2, fun H2 r2 s2 h2 => ⟨r', r2, _, _, rfl, rfl, s2 _ _ hr', h2, ?_, fun p np => ?_⟩⟩
      · have a1 := tolds_len ((pts t).take i)
        have a2 := told_len t1
        have a3 : Pa01.sizes ((pts t).take i) ≤ Pa01.sizes (pts t) := by
          have := sizes_append ((pts t).take i) ((pts t).drop i)
          rw [List.take_append_drop] at this
          omega
        have := size_eq t
        rw [List.length_map, List.length_map, List.length_append]
        exact le_line (by omega)
      · refine ⟨p, some x, rfl, same_upd ((sH.trans s2).free np) (sH.trans s2), ?_⟩
        rw [upd_same, take_more e1, tolds_flat, tolds_flat, List.flatMap_append, ← List.append_assoc]
        show some (HO.lst (vns (pre ++ List.flatMap Pa01.told ((pts t).take i)) ++ vns (Pa01.told t1))) = _
        rw [← List.map_append]
        congr 4
        simp
    · rintro σ H' ⟨r', x, rfl, sH, hr'⟩
      rw [l1.length, List.take_length] at hr'
      exact hD H' r' x sH hr'
  refine ⟨_, rfl, rfl, _, rfl, ite2 (fun c2 => ?_) (fun c2 => ?_)⟩
  · have c2' := nitT c2
    rw [if_neg (by omega)] at e0
    refine ⟨_, rfl, _, rfl, _, rfl, p1, _, rfl, .inr (SqT.of (s0 _ _ k1)), l3le _ _ _, fun r1 n1 => ?_⟩
    refine loop r1 _ [kd t, nm t, (pts t).length] _ (s0.trans (same_new n1 _)) ?_ (by simp) ?_
    · rw [upd_same, l1.length]
      rfl
    · exact fun H' r' x sH hr' => ⟨_, rfl, q H' r' sH (by rw [e0]; exact hr')⟩
  · have c2' := nitF c2
    rw [if_pos (by omega)] at e0
    refine loop r0 _ [2] _ s0 ?_ (by simp) ?_
    · rw [upd_same, show kd t = 2 by omega]
      rfl
    · exact fun H' r' x sH hr' => ⟨_, rfl, q H' r' sH (by rw [e0]; exact hr')⟩
theorem ok_row_of (T : Txt K mg a) : ∀ n : Nat, Cal P w K mg base CX0 n "row_of" ["term"] (spRow n)
  | 0 => Cal.no T.d_row_of fun vs H Q E h => by
    obtain ⟨v, t, _, _, hd, _⟩ := h
    have := deep_pos t
    omega
  | n + 1 => ok_row_of0 T (ok_row_of T n)
end
end HH
namespace HH
open PySem PySem.Spec PyProof.Rows L2 L2Y
open Pa01 (Term Hole Eqn)
/-! ### words -/
theorem inV_ints (i : Int) (own : List Int) : inV (.int i) (own.map V.int) = own.contains i := by
  induction own with
  | nil => rfl
  | cons j l ih =>
    show ((j == i) || inV (.int i) (l.map V.int)) = _
    rw [ih, List.contains_cons]
    congr 1
    exact Bool.beq_comm
theorem flat_ints (own : List Int) : (own.map V.int).all flatV = true := by
  rw [List.all_eq_true]
  intro x hx
  obtain ⟨i, _, rfl⟩ := List.mem_map.mp hx
  rfl
theorem un_int (d : Nat) (t : Term) : ((d : Int) + (if decide (V.int (kd t : Nat) = V.int 2) = true then 1 else 0)) = ((d + un t : Nat) : Int) := by
  unfold un
  by_cases h : kd t = 2
  · rw [if_pos h, h]
    simp
  · have e : decide (V.int (kd t : Nat) = V.int 2) = false := decide_eq_false fun z => h (by injection z with z; omega)
    rw [if_neg h, e]
    simp
theorem fit_pts {ms : List Nat} {n : Nat} {t : Term} (h : Fit ms n t) : ∀ p ∈ pts t, Fit ms (n + un t) p := by
  cases t with
  | place i => intro p hp; cases hp
  | gone => intro p hp; cases hp
  | sign f ps => exact fits_iff.mp h
  | hole f ps => exact fits_iff.mp h.2
  | bind t => intro p hp; rw [List.mem_singleton.mp hp]; exact h
/-- refs of pairs -/
def PairsAt (H : Hp) : List V → List (Nat × Nat) → Prop
  | [], [] => True
  | v :: vs, x :: l => (∃ b, v = .ref b ∧ H b = some (.tup [vn x.1, vn x.2])) ∧ PairsAt H vs l
  | _, _ => False
theorem PairsAt.tps {H H' : Hp} (k : Tps H H') : ∀ {vs : List V} {l : List (Nat × Nat)}, PairsAt H vs l → PairsAt H' vs l
  | [], [], _ => trivial
  | v :: vs, x :: l, h => by
    obtain ⟨⟨b, e, hb⟩, r⟩ := h
    exact ⟨⟨b, e, k _ _ hb⟩, r.tps k⟩
  | [], _ :: _, h => h.elim
  | _ :: _, [], h => h.elim
theorem PairsAt.append {H : Hp} : ∀ {vs us : List V} {l m : List (Nat × Nat)}, PairsAt H vs l → PairsAt H us m → PairsAt H (vs ++ us) (l ++ m)
  | [], _, [], _, _, g => g
  | v :: vs, _, x :: l, _, h, g => ⟨h.1, h.2.append g⟩
  | [], _, _ :: _, _, h, _ => h.elim
  | _ :: _, _, [], _, h, _ => h.elim
theorem PairsAt.length {H : Hp} : ∀ {vs : List V} {l : List (Nat × Nat)}, PairsAt H vs l → vs.length = l.length
  | [], [], _ => rfl
  | v :: vs, x :: l, h => by simp [h.2.length]
  | [], _ :: _, h => h.elim
  | _ :: _, [], h => h.elim
theorem PairsAt.get {H : Hp} : ∀ {vs : List V} {l : List (Nat × Nat)} {i : Nat} {v : V}, PairsAt H vs l → vs[i]? = some v → ∃ x b, l[i]? = some x ∧ v = .ref b ∧ H b = some (.tup [vn x.1, vn x.2])
  | [], [], _, _, _, e => by simp at e
  | v :: vs, x :: l, 0, u, h, e => by
    obtain ⟨⟨b, e1, hb⟩, _⟩ := h
    simp at e
    subst e
    exact ⟨x, b, rfl, e1, hb⟩
  | v :: vs, x :: l, i + 1, u, h, e => by
    obtain ⟨y, b, h1, h2, h3⟩ := h.2.get (i := i) (v := u) (by simpa using e)
    exact ⟨y, b, by simpa using h1, h2, h3⟩
  | [], _ :: _, _, _, h, _ => h.elim
  | _ :: _, [], _, _, h, _ => h.elim
section
variable {P : Program} {w : World} {K : PySem.W.Frag} {mg : Str → Option Value} {base : Heap} {a : Ad}
/-! ### is_strange -/
def okO (own : List Int) : Nat → Bool := fun i => own.contains (i : Int)
def spIs (K : PySem.W.Frag) : Sp := fun vs H Q _ => ∃ (p d : Nat) (o : Addr) (own : List Int), vs = [vn p, .ref o, vn d] ∧ SqL K H o (own.map V.int) ∧ Q (.bl (decide (d ≤ p) && !okO own (p - d))) H
theorem sc_is_strange : FnScope ["place", "own", "depth"] ["place", "own", "depth"] (defScope s_is_strange) := ⟨rfl, rfl, rfl, by decide +kernel, rfl, by decide +kernel, by decide +kernel⟩
theorem ok_is_strange (T : Txt K mg a) : Cal P w K mg base CX0 1 "is_strange" ["place", "own", "depth"] (spIs K) := by
  refine T.d_is_strange.ok0 sc_is_strange (fun vs H Q E h => ?_) (fun f cdv A outer s H vs Q E hr h => ?_)
  · obtain ⟨p, d, o, own, rfl, _⟩ := h
    rfl
  obtain ⟨p, d, o, own, rfl, hS, q⟩ := h
  refine ⟨_, (pss_one (ps_ret (pe_and (pe_cmpR op_ge (pv 0) (pv 2) (nomark _)) (pe_one (pe_cmpR op_notIn_seq (pe_op op_sub (pv 0) (pv 2)) (pv 1) (by rfl)))))), ?_⟩
  refine ⟨_, rfl, _, rfl, _, _, rfl, rfl, _, rfl, ite2 (fun c => ?_) (fun c => ?_)⟩
  · have c' : d ≤ p := by have := of_decide_eq_true c; omega
    refine ⟨_, rfl, _, rfl, _, _, rfl, rfl, _, rfl, o, _, rfl, .inl hS, rfl, flat_ints own, ?_⟩
    rw [decide_eq_true c', Bool.true_and] at q
    show Q (.bl (!inV (.int ((p : Int) - (d : Int))) (own.map V.int))) H
    rw [show ((p : Int) - (d : Int)) = ((p - d : Nat) : Int) by omega, inV_ints]
    exact q
  · have c' : ¬ d ≤ p := fun z => c (decide_eq_true (by omega))
    rw [decide_eq_false c', Bool.false_and] at q
    exact q
/-! ### has_strange -/
def spStr (K : PySem.W.Frag) (n : Nat) : Sp := fun vs H Q _ => ∃ (v : V) (t : Term) (o : Addr) (own : List Int) (d : Nat) (dp : Bool), vs = [v, .ref o, vn d, .bl dp] ∧ TermAt H v t ∧ SqL K H o (own.map V.int) ∧ Pa01.deep t ≤ n ∧ Q (.bl (bad (okO own) dp d t)) H
theorem sc_has_strange : FnScope ["term", "own", "depth", "deep", "kind", "number", "parts", "part"] ["term", "own", "depth", "deep"] (defScope s_has_strange) := ⟨rfl, rfl, rfl, by decide +kernel, rfl, by decide +kernel, by decide +kernel⟩
theorem ok_has_strange0 (T : Txt K mg a) {n : Nat} (c_is_strange : Cal P w K mg base CX0 1 "is_strange" ["place", "own", "depth"] (spIs K)) (c_has_strange : Cal P w K mg base CX0 (n + 1) "has_strange" ["term", "own", "depth", "deep"] (spStr K n)) :
    Cal P w K mg base CX0 (n + 2) "has_strange" ["term", "own", "depth", "deep"] (spStr K (n + 1)) := by
  refine T.d_has_strange.ok0 sc_has_strange (fun vs H Q E h => ?_) (fun f cdv A outer s H vs Q E hr h => ?_)
  · obtain ⟨v, t, o, own, d, dp, rfl, _⟩ := h
    rfl
  obtain ⟨v, t, o, own, d, dp, rfl, ht, hS, hd, q⟩ := h
  obtain ⟨a1, p1, vs1, rfl, h1, k1, l1⟩ := ht.open
  have e0 := bad_eq (okO own) dp d t
  refine ⟨_, (pss_cons (ps_asg (pv 0) (pg_tup rfl (pgs_cons (pg_name (i := 4) sc_has_strange.nd rfl (Or.inl rfl)) (pgs_cons (pg_name (i := 5) sc_has_strange.nd rfl (Or.inl rfl)) (pgs_cons (pg_name (i := 6) sc_has_strange.nd rfl (Or.inl rfl)) pgs_nil)))))
      (pss_cons (ps_if (pt_cmpR op_eq (pv 4) (pe_k T.k_PLACE) (nomark _)) (pss_one (ps_ret (pe_callC c_is_strange (hr.mono (by omega)) rfl pass0 (pa_cons (pv 5) (pa_cons (pv 1) (pa_cons (pv 2) pa_nil)))))) pss_nil)
      (pss_cons (ps_if (PW.pt (pw_and (pt_cmpR op_eq (pv 4) (pe_k T.k_HOLE) (nomark _)) (pw_and1 (pt_not (pt_val (pv 3)))))) (pss_one (ps_ret pe_bl)) pss_nil)
      (pss_cons (ps_for PassesOwn.never rfl (pi_tup (pv 6)) (pg_name (i := 7) sc_has_strange.nd rfl (Or.inl rfl)) (pss_one (ps_if (pt_val (pe_callC c_has_strange (hr.mono (by omega)) rfl pass0 (pa_cons (pv 7) (pa_cons (pv 1) (pa_cons (pe_op op_add (pv 2) (pe_callTy call_int1 rfl T.b_int (by decide +kernel) (pa_cons (pe_cmpR op_eq (pv 4) (pe_k T.k_BINDER) (nomark _)) pa_nil))) (pa_cons (pv 3) pa_nil)))))) (pss_one (ps_ret pe_bl)) pss_nil)))
      (pss_one (ps_ret pe_bl)))))), ?_⟩
  refine ⟨_, rfl, a1, _, rfl, SqT.of h1, rfl, _, _, rfl, _, _, rfl, _, _, rfl, rfl, ?_⟩
  refine ⟨_, rfl, rfl, _, rfl, ite2 (fun c => ?_) (fun c => ?_)⟩
  · have c' := litT c
    rw [if_pos (by omega)] at e0
    exact ⟨_, rfl, _, rfl, _, rfl, nm t, d, o, own, rfl, hS, by rw [← e0]; exact q⟩
  have c' := litF c
  rw [if_neg (by omega)] at e0
  have loop : ¬ (kd t = 3 ∧ dp = false) → tSeq (tFor (iTup K (tVar 6)) (gName 7) (tIfS (tB (tCl (spStr K n) E0 (tCons (tVar 7) (tCons (tVar 1) (tCons (tOp (rI0 fun i j => .int (i + j)) (tVar 2) (tCB (fun xs H Q => (∃ i, xs = [.int i] ∧ Q (.int i) H) ∨ ∃ k, xs = [.bl k] ∧ Q (.int (if k then 1 else 0)) H) (tCons (tOp rEq (tVar 4) (tC (.int 2))) tNil))) (tCons (tVar 3) tNil)))))) (tRet (tC (.bl true))) tNext)) (tRet (tC (.bl false)))
      { nx := fun _ H' => Q .non H', rt := Q } [some (.ref a1), some (.ref o), some (vn d), some (.bl dp), some (vn (kd t)), some (vn (nm t)), some (.ref p1), none] H := by
    intro hn
    rw [if_neg hn] at e0
    refine ⟨_, rfl, p1, rfl, ⟨_, SqT.of k1⟩, for_tup (K := K) (a := p1) (xs := vs1) (fun i σ H' => H' = H ∧ (∃ x, σ = [some (.ref a1), some (.ref o), some (vn d), some (.bl dp), some (vn (kd t)), some (vn (nm t)), some (.ref p1), x]) ∧ ((pts t).take i).any (bad (okO own) dp (d + un t)) = false)
      ⟨rfl, ⟨none, rfl⟩, rfl⟩ (fun i σ H' _ ⟨e, _, _⟩ => by rw [e]; exact SqT.of k1) ?_ ?_⟩
    · rintro i x σ H' hx ⟨rfl, ⟨x0, rfl⟩, hn'⟩
      obtain ⟨t1, e1, at1⟩ := l1.get hx
      have b1 : Pa01.deep t1 ≤ n := by
        have := deeps_le (List.mem_of_getElem? e1)
        have := deep_eq t
        omega
      refine ⟨_, rfl, _, rfl, _, rfl, _, rfl, rfl, .inr ⟨_, rfl, _, _, rfl, rfl, _, rfl, x, t1, o, own, d + un t, dp, ?_, at1, hS, b1, _, rfl, ite2 (fun c2 => ?_) (fun c2 => ?_)⟩⟩
      · exact congrArg (fun z => [x, V.ref o, V.int z, V.bl dp]) (un_int d t)
      · have e2 : (pts t).any (bad (okO own) dp (d + un t)) = true := List.any_eq_true.mpr ⟨_, List.mem_of_getElem? e1, c2⟩
        rw [e0, e2] at q
        exact q
      · refine ⟨rfl, ⟨_, rfl⟩, ?_⟩
        rw [any_take_more e1, hn']
        exact Bool.eq_false_iff.mpr c2
    · rintro σ H' ⟨rfl, ⟨x0, rfl⟩, hn'⟩
      rw [l1.length, List.take_length] at hn'
      rw [e0, hn'] at q
      exact q
  refine ⟨_, rfl, rfl, _, rfl, ite2 (fun c2 => ?_) (fun c2 => ?_)⟩
  · have c2' := litT c2
    refine ⟨_, rfl, dp, rfl, ?_⟩
    cases dp with
    | true => exact loop (by simp)
    | false =>
      rw [if_pos ⟨by omega, rfl⟩] at e0
      rw [e0] at q
      exact q
  · have c2' := litF c2
    exact loop (by omega)
theorem ok_has_strange (T : Txt K mg a) : ∀ n : Nat, Cal P w K mg base CX0 (n + 1) "has_strange" ["term", "own", "depth", "deep"] (spStr K n)
  | 0 => Cal.no T.d_has_strange fun vs H Q E h => by
    obtain ⟨v, t, o, own, d, dp, _, _, _, hd, _⟩ := h
    have := deep_pos t
    omega
  | n + 1 => ok_has_strange0 T (ok_is_strange T) (ok_has_strange T n)
/-! ### has_hole -/
def spHas (n : Nat) : Sp := fun vs H Q _ => ∃ (v : V) (t : Term) (g : Nat) (dp : Bool), vs = [v, vn g, .bl dp] ∧ TermAt H v t ∧ Pa01.deep t ≤ n ∧ Q (.bl (has g dp t)) H
theorem sc_has_hole : FnScope ["term", "own", "deep", "kind", "number", "parts", "part"] ["term", "own", "deep"] (defScope s_has_hole) := ⟨rfl, rfl, rfl, by decide +kernel, rfl, by decide +kernel, by decide +kernel⟩
theorem ok_has_hole0 (T : Txt K mg a) {n : Nat} (c_has_hole : Cal P w K mg base CX0 n "has_hole" ["term", "own", "deep"] (spHas n)) :
    Cal P w K mg base CX0 (n + 1) "has_hole" ["term", "own", "deep"] (spHas (n + 1)) := by
  refine T.d_has_hole.ok0 sc_has_hole (fun vs H Q E h => ?_) (fun f cdv A outer s H vs Q E hr h => ?_)
  · obtain ⟨v, t, g, dp, rfl, _⟩ := h
    rfl
  obtain ⟨v, t, g, dp, rfl, ht, hd, q⟩ := h
  obtain ⟨a1, p1, vs1, rfl, h1, k1, l1⟩ := ht.open
  have e0 := has_eq g dp t
  refine ⟨_, (pss_cons (ps_asg (pv 0) (pg_tup rfl (pgs_cons (pg_name (i := 3) sc_has_hole.nd rfl (Or.inl rfl)) (pgs_cons (pg_name (i := 4) sc_has_hole.nd rfl (Or.inl rfl)) (pgs_cons (pg_name (i := 5) sc_has_hole.nd rfl (Or.inl rfl)) pgs_nil)))))
      (pss_cons (ps_if (PW.pt (pw_and (pt_cmpR op_eq (pv 3) (pe_k T.k_HOLE) (nomark _)) (pw_and1 (pt_cmpR op_eq (pv 4) (pv 1) (nomark _))))) (pss_one (ps_ret pe_bl)) pss_nil)
      (pss_cons (ps_if (PW.pt (pw_and (pt_cmpR op_eq (pv 3) (pe_k T.k_HOLE) (nomark _)) (pw_and1 (pt_not (pt_val (pv 2)))))) (pss_one (ps_ret pe_bl)) pss_nil)
      (pss_cons (ps_for PassesOwn.never rfl (pi_tup (pv 5)) (pg_name (i := 6) sc_has_hole.nd rfl (Or.inl rfl)) (pss_one (ps_if (pt_val (pe_callC c_has_hole (hr.mono (by omega)) rfl pass0 (pa_cons (pv 6) (pa_cons (pv 1) (pa_cons (pv 2) pa_nil))))) (pss_one (ps_ret pe_bl)) pss_nil)))
      (pss_one (ps_ret pe_bl)))))), ?_⟩
  refine ⟨_, rfl, a1, _, rfl, SqT.of h1, rfl, _, _, rfl, _, _, rfl, _, _, rfl, rfl, ?_⟩
  have loop : ¬ (kd t = 3 ∧ nm t = g) → ¬ (kd t = 3 ∧ dp = false) → tSeq (tFor (iTup K (tVar 5)) (gName 6) (tIfS (tB (tCl (spHas n) E0 (tCons (tVar 6) (tCons (tVar 1) (tCons (tVar 2) tNil))))) (tRet (tC (.bl true))) tNext)) (tRet (tC (.bl false)))
      { nx := fun _ H' => Q .non H', rt := Q } [some (.ref a1), some (vn g), some (.bl dp), some (vn (kd t)), some (vn (nm t)), some (.ref p1), none] H := by
    intro hn1 hn2
    rw [if_neg hn1, if_neg hn2] at e0
    refine ⟨_, rfl, p1, rfl, ⟨_, SqT.of k1⟩, for_tup (K := K) (a := p1) (xs := vs1) (fun i σ H' => H' = H ∧ (∃ x, σ = [some (.ref a1), some (vn g), some (.bl dp), some (vn (kd t)), some (vn (nm t)), some (.ref p1), x]) ∧ ((pts t).take i).any (has g dp) = false)
      ⟨rfl, ⟨none, rfl⟩, rfl⟩ (fun i σ H' _ ⟨e, _, _⟩ => by rw [e]; exact SqT.of k1) ?_ ?_⟩
    · rintro i x σ H' hx ⟨rfl, ⟨x0, rfl⟩, hn'⟩
      obtain ⟨t1, e1, at1⟩ := l1.get hx
      have b1 : Pa01.deep t1 ≤ n := by
        have := deeps_le (List.mem_of_getElem? e1)
        have := deep_eq t
        omega
      refine ⟨_, rfl, _, rfl, _, rfl, x, t1, g, dp, rfl, at1, b1, _, rfl, ite2 (fun c2 => ?_) (fun c2 => ?_)⟩
      · have e2 : (pts t).any (has g dp) = true := List.any_eq_true.mpr ⟨_, List.mem_of_getElem? e1, c2⟩
        rw [e0, e2] at q
        exact q
      · refine ⟨rfl, ⟨_, rfl⟩, ?_⟩
        rw [any_take_more e1, hn']
        exact Bool.eq_false_iff.mpr c2
    · rintro σ H' ⟨rfl, ⟨x0, rfl⟩, hn'⟩
      rw [l1.length, List.take_length] at hn'
      rw [e0, hn'] at q
      exact q
  have second : ¬ (kd t = 3 ∧ nm t = g) → tSeq (tIfS (tAnd (tTest (tOp rEq (tVar 3) (tC (.int 3)))) (tNot (tB (tVar 2)))) (tRet (tC (.bl false))) tNext) (tSeq (tFor (iTup K (tVar 5)) (gName 6) (tIfS (tB (tCl (spHas n) E0 (tCons (tVar 6) (tCons (tVar 1) (tCons (tVar 2) tNil))))) (tRet (tC (.bl true))) tNext)) (tRet (tC (.bl false))))
      { nx := fun _ H' => Q .non H', rt := Q } [some (.ref a1), some (vn g), some (.bl dp), some (vn (kd t)), some (vn (nm t)), some (.ref p1), none] H := by
    intro hn1
    refine ⟨_, rfl, rfl, _, rfl, ite2 (fun c2 => ?_) (fun c2 => ?_)⟩
    · have c2' := litT c2
      refine ⟨_, rfl, dp, rfl, ?_⟩
      cases dp with
      | true => exact loop hn1 (by simp)
      | false =>
        rw [if_neg hn1, if_pos ⟨by omega, rfl⟩] at e0
        rw [e0] at q
        exact q
    · have c2' := litF c2
      exact loop hn1 (by omega)
  refine ⟨_, rfl, rfl, _, rfl, ite2 (fun c => ?_) (fun c => ?_)⟩
  · have c' := litT c
    refine ⟨_, rfl, _, rfl, rfl, _, rfl, ite2 (fun d => ?_) (fun d => ?_)⟩
    · have d' := litT d
      rw [if_pos ⟨by omega, by omega⟩] at e0
      rw [e0] at q
      exact q
    · have d' := litF d
      exact second (by omega)
  · have c' := litF c
    exact second (by omega)
theorem ok_has_hole (T : Txt K mg a) : ∀ n : Nat, Cal P w K mg base CX0 n "has_hole" ["term", "own", "deep"] (spHas n)
  | 0 => Cal.no T.d_has_hole fun vs H Q E h => by
    obtain ⟨v, t, g, dp, _, _, hd, _⟩ := h
    have := deep_pos t
    omega
  | n + 1 => ok_has_hole0 T (ok_has_hole T n)
end
end HH
namespace HH
open PySem PySem.Spec PyProof.Rows L2 L2Y
open Pa01 (Term Hole Eqn)
abbrev vp (x : List V) : HO := HO.tup x
theorem zipIdx_more {l : List Term} {i : Nat} {x : Term} (h : l[i]? = some x) : l.zipIdx.take (i + 1) = l.zipIdx.take i ++ [(x, i)] := by
  refine take_more ?_
  rw [List.getElem?_zipIdx, h]
  simp
theorem bs_at {bs : List Bool} {i : Nat} (h : i < bs.length) : atI (bs.map V.bl) (i : Int) = some (.bl (bs.getD i false)) := atI_nat (by
  rw [List.getElem?_map, List.getElem?_eq_getElem h, List.getD, List.getElem?_eq_getElem h]
  rfl)
section
variable {P : Program} {w : World} {K : PySem.W.Frag} {mg : Str → Option Value} {base : Heap} {a : Ad}
/-! ### blind_spots -/
def spBlind (K : PySem.W.Frag) (n : Nat) : Sp := fun vs H Q _ => ∃ (v : V) (t : Term) (o : Addr) (own : List Int) (d : Nat), vs = [v, .ref o, vn d] ∧ TermAt H v t ∧ H o = some (.lst (own.map V.int)) ∧ Pa01.deep t ≤ n ∧ Pa01.size t ≤ 5000 ∧
  ∀ H' r zs, Same H H' → H' r = some (.lst zs) → PairsAt H' zs (Pa01.cuts (okO own) d t) → Q (.ref r) H'
theorem sc_blind_spots : FnScope ["term", "own", "depth", "kind", "number", "parts", "found", "k", "part"] ["term", "own", "depth"] (defScope s_blind_spots) := ⟨rfl, rfl, rfl, by decide +kernel, rfl, by decide +kernel, by decide +kernel⟩
theorem ok_blind_spots0 (T : Txt K mg a) {n : Nat} (c_has_strange : Cal P w K mg base CX0 (n + 1) "has_strange" ["term", "own", "depth", "deep"] (spStr K n)) (c_blind_spots : Cal P w K mg base CX0 (n + 2) "blind_spots" ["term", "own", "depth"] (spBlind K n)) :
    Cal P w K mg base CX0 (n + 3) "blind_spots" ["term", "own", "depth"] (spBlind K (n + 1)) := by
  refine T.d_blind_spots.ok0 sc_blind_spots (fun vs H Q E h => ?_) (fun f cdv A outer s H vs Q E hr h => ?_)
  · obtain ⟨v, t, o, own, d, rfl, _⟩ := h
    rfl
  obtain ⟨v, t, o, own, d, rfl, ht, hS, hd, hz, q⟩ := h
  obtain ⟨a1, p1, vs1, rfl, h1, k1, l1⟩ := ht.open
  refine ⟨_, (pss_cons (ps_asg (pv 0) (pg_tup rfl (pgs_cons (pg_name (i := 3) sc_blind_spots.nd rfl (Or.inl rfl)) (pgs_cons (pg_name (i := 4) sc_blind_spots.nd rfl (Or.inl rfl)) (pgs_cons (pg_name (i := 5) sc_blind_spots.nd rfl (Or.inl rfl)) pgs_nil)))))
      (pss_cons (ps_set (i := 6) sc_blind_spots.nd rfl (Or.inl rfl) (pe_lst pa_nil))
      (pss_cons (ps_for PassesOwn.never rfl (pi_enumT rfl T.b_enumerate (pa_cons (pv 5) pa_nil)) (pg_tup rfl (pgs_cons (pg_name (i := 7) sc_blind_spots.nd rfl (Or.inl rfl)) (pgs_cons (pg_name (i := 8) sc_blind_spots.nd rfl (Or.inl rfl)) pgs_nil))) (pss_one (ps_if (pt_cmpR op_ne (pv 3) (pe_k T.k_HOLE) (nomark _)) (pss_one (ps_expr (pe_bm PySem.F.plainAttrs_list PySem.F.slot_list_extend PySem.F.type_list_extend mt_extend (pv 6) (pa_cons (pe_callC c_blind_spots (hr.mono (by omega)) rfl pass0 (pa_cons (pv 8) (pa_cons (pv 1) (pa_cons (pe_op op_add (pv 2) (pe_callTy call_int1 rfl T.b_int (by decide +kernel) (pa_cons (pe_cmpR op_eq (pv 3) (pe_k T.k_BINDER) (nomark _)) pa_nil))) pa_nil)))) pa_nil)))) (pss_one (ps_if (pt_val (pe_callC c_has_strange (hr.mono (by omega)) rfl pass0 (pa_cons (pv 8) (pa_cons (pv 1) (pa_cons (pv 2) (pa_cons pe_bl pa_nil)))))) (pss_one (ps_expr (pe_bm PySem.F.plainAttrs_list PySem.F.slot_list_append PySem.F.type_list_append mt_append (pv 6) (pa_cons (pe_tup (pa_cons (pv 4) (pa_cons (pv 7) pa_nil))) pa_nil)))) pss_nil)))))
      (pss_one (ps_ret (pv 6)))))), ?_⟩
  refine ⟨_, rfl, a1, _, rfl, SqT.of h1, rfl, _, _, rfl, _, _, rfl, _, _, rfl, rfl, ?_⟩
  refine ⟨le_line (by simp), fun D nD => ?_⟩
  have small : ∀ i, ((((pts t).zipIdx.take i).flatMap (cut1 (okO own) d t))).length ≤ 5000 := by
    intro i
    have e : (pts t).zipIdx.flatMap (cut1 (okO own) d t) = ((pts t).zipIdx.take i).flatMap (cut1 (okO own) d t) ++ ((pts t).zipIdx.drop i).flatMap (cut1 (okO own) d t) := by
      rw [← List.flatMap_append, List.take_append_drop]
    have b := cuts_small (ok := okO own) t d
    rw [cuts_eq, e, List.length_append] at b
    omega
  refine ⟨_, rfl, p1, vs1, rfl, SqT.of (same_new nD _ _ _ k1), for_it (walk_enumT (xs := vs1)) (fun i σ H' => (∃ x y, σ = [some (.ref a1), some (.ref o), some (vn d), some (vn (kd t)), some (vn (nm t)), some (.ref p1), some (.ref D), x, y]) ∧ Same H H' ∧
      ∃ zs, H' D = some (.lst zs) ∧ PairsAt H' zs (((pts t).zipIdx.take i).flatMap (cut1 (okO own) d t)))
    ⟨⟨_, _, rfl⟩, same_new nD _, [], upd_same, trivial⟩ (fun i σ H' _ h => SqT.of (h.2.1 _ _ k1)) ?_ ?_⟩
  · rintro i x σ H1 H2 hi ⟨⟨x0, y0, rfl⟩, sH, zs, hD, hp⟩ ⟨Tt, u1, u2, rfl, nT, rfl, e1, hx⟩
    cases e1
    obtain ⟨t1, et, at1⟩ := l1.get hx
    obtain ⟨b1, b2⟩ := pts_small (List.mem_of_getElem? et) hd hz
    have sT := same_new nT (.tup [vn i, u2])
    have sA := sH.trans sT
    have hlen := hp.length
    have hsm := small i
    have nDH : H D = none := nD
    refine ⟨Tt, _, rfl, SqT.of upd_same, rfl, _, _, rfl, _, _, rfl, rfl, ?_⟩
    refine ⟨_, rfl, rfl, _, rfl, ite2 (fun c => ?_) (fun c => ?_)⟩
    · have c' := nitT c
      have ec : cut1 (okO own) d t (t1, i) = Pa01.cuts (okO own) (d + un t) t1 := if_pos (by omega)
      refine ⟨_, rfl, .inl ⟨rfl, _, SqL.of (sT _ _ hD)⟩, _, rfl, _, rfl, _, rfl, _, rfl, rfl, .inr ⟨_, rfl, _, _, rfl, rfl, u2, t1, o, own, d + un t, ?_, at1.tps sA.tps, sA _ _ hS, b1, b2, fun H3 r ws s3 hr3 hp3 => ?_⟩⟩
      · exact congrArg (fun z => [u2, V.ref o, V.int z]) (un_int d t)
      have hD3 := s3 _ _ (sT _ _ hD)
      refine ⟨D, r, zs, ws, rfl, rfl, hD3, hr3, ?_, ?_⟩
      · have b := cuts_small (ok := okO own) t1 (d + un t)
        rw [hlen, hp3.length]
        exact le_line (by omega)
      · refine ⟨⟨_, _, rfl⟩, same_upd nD (sA.trans s3), zs ++ ws, upd_same, ?_⟩
        rw [zipIdx_more et, List.flatMap_append, List.flatMap_cons, List.flatMap_nil, List.append_nil, ec]
        have tp : Tps H3 (upd H3 D (.lst (zs ++ ws))) := fun b xs e => by rw [upd_ne (ne_of e hD3 (by intro z; cases z))]; exact e
        exact ((hp.tps (sT.trans s3).tps).append hp3).tps tp
    · have c' := nitF c
      refine ⟨_, rfl, _, rfl, _, rfl, u2, t1, o, own, d, false, rfl, at1.tps sA.tps, SqL.of (sA _ _ hS), b1, _, rfl, ite2 (fun c2 => ?_) (fun c2 => ?_)⟩
      · have ec : cut1 (okO own) d t (t1, i) = [(nm t, i)] := by
          unfold cut1
          rw [if_neg (by omega)]
          exact if_pos c2
        refine ⟨_, rfl, .inl ⟨rfl, _, SqL.of (sT _ _ hD)⟩, _, rfl, _, rfl, l2le _ _, fun pr npr => ⟨D, zs, _, rfl, rfl, same_new npr _ _ _ (sT _ _ hD), lt_line (by omega), ?_⟩⟩
        have s3 := same_new npr (.tup [vn (nm t), vn i])
        have hD3 := s3 _ _ (sT _ _ hD)
        refine ⟨⟨_, _, rfl⟩, same_upd nD (sA.trans s3), zs ++ [.ref pr], upd_same, ?_⟩
        rw [zipIdx_more et, List.flatMap_append, List.flatMap_cons, List.flatMap_nil, List.append_nil, ec]
        have tp : Tps (upd (upd H1 Tt (.tup [vn i, u2])) pr (.tup [vn (nm t), vn i])) (upd (upd (upd H1 Tt (.tup [vn i, u2])) pr (.tup [vn (nm t), vn i])) D (.lst (zs ++ [.ref pr]))) := fun b xs e => by rw [upd_ne (ne_of e hD3 (by intro z; cases z))]; exact e
        refine ((hp.tps (sT.trans s3).tps).append ?_).tps tp
        exact ⟨⟨pr, rfl, upd_same⟩, trivial⟩
      · have ec : cut1 (okO own) d t (t1, i) = [] := by
          unfold cut1
          rw [if_neg (by omega)]
          exact if_neg c2
        refine ⟨⟨_, _, rfl⟩, sA, zs, sT _ _ hD, ?_⟩
        rw [zipIdx_more et, List.flatMap_append, List.flatMap_cons, List.flatMap_nil, List.append_nil, ec, List.append_nil]
        exact hp.tps sT.tps
  · rintro σ H' ⟨⟨x0, y0, rfl⟩, sH, zs, hD, hp⟩
    rw [List.take_of_length_le (by rw [List.length_zipIdx, l1.length]; exact Nat.le_refl _), ← cuts_eq] at hp
    exact ⟨_, rfl, q H' D zs sH hD hp⟩
theorem ok_blind_spots (T : Txt K mg a) : ∀ n : Nat, Cal P w K mg base CX0 (n + 2) "blind_spots" ["term", "own", "depth"] (spBlind K n)
  | 0 => Cal.no T.d_blind_spots fun vs H Q E h => by
    obtain ⟨v, t, o, own, d, _, _, _, hd, _⟩ := h
    have := deep_pos t
    omega
  | n + 1 => ok_blind_spots0 T (ok_has_strange T n) (ok_blind_spots T n)
/-! ### own_places -/
def spOwn : Sp := fun vs H Q _ => ∃ (v : V) (t : Term), vs = [v] ∧ TermAt H v t ∧ (pts t).length ≤ 5000 ∧ ∀ H' r, Same H H' → H' r = some (.lst ((ownL (pts t)).map V.int)) → Q (.ref r) H'
theorem sc_own_places : FnScope ["hole", "found", "part"] ["hole"] (defScope s_own_places) := ⟨rfl, rfl, rfl, by decide +kernel, rfl, by decide +kernel, by decide +kernel⟩
theorem ok_own_places (T : Txt K mg a) : Cal P w K mg base CX0 1 "own_places" ["hole"] spOwn := by
  refine T.d_own_places.ok0 sc_own_places (fun vs H Q E h => ?_) (fun f cdv A outer s H vs Q E hr h => ?_)
  · obtain ⟨v, t, rfl, _⟩ := h
    rfl
  obtain ⟨v, t, rfl, ht, hz, q⟩ := h
  obtain ⟨a1, p1, vs1, rfl, h1, k1, l1⟩ := ht.open
  refine ⟨_, (pss_cons (ps_set (i := 1) sc_own_places.nd rfl (Or.inl rfl) (pe_lst pa_nil))
      (pss_cons (ps_for PassesOwn.never rfl (pi_tup (pe_ix ix_tup (pv 0) pe_int (fun _ _ => rfl))) (pg_name (i := 2) sc_own_places.nd rfl (Or.inl rfl)) (pss_one (ps_if (pt_cmpR op_eq (pe_ix ix_tup (pv 2) pe_int (fun _ _ => rfl)) (pe_k T.k_GONE) (nomark _)) (pss_one (ps_expr (pe_bm PySem.F.plainAttrs_list PySem.F.slot_list_append PySem.F.type_list_append mt_append (pv 1) (pa_cons (pe_un un_neg pe_int) pa_nil)))) (pss_one (ps_expr (pe_bm PySem.F.plainAttrs_list PySem.F.slot_list_append PySem.F.type_list_append mt_append (pv 1) (pa_cons (pe_ix ix_tup (pv 2) pe_int (fun _ _ => rfl)) pa_nil)))))))
      (pss_one (ps_ret (pv 1))))), ?_⟩
  refine ⟨le_line (by simp), fun D nD => ?_⟩
  have s0 := same_new nD (.lst [])
  refine ⟨_, rfl, _, _, _, _, rfl, rfl, SqT.of (s0 _ _ h1), rfl, p1, rfl, ⟨_, SqT.of (s0 _ _ k1)⟩, for_tup (K := K) (a := p1) (xs := vs1) (fun i σ H' => (∃ x, σ = [some (.ref a1), some (.ref D), x]) ∧ Same H H' ∧ H' D = some (.lst ((ownL ((pts t).take i)).map V.int)))
    ⟨⟨_, rfl⟩, s0, upd_same⟩ (fun i σ H' _ h => SqT.of (h.2.1 _ _ k1)) ?_ ?_⟩
  · rintro i x σ H' hx ⟨⟨x0, rfl⟩, sH, hD⟩
    obtain ⟨t1, e1, at1⟩ := l1.get hx
    obtain ⟨a2, p2, vs2, rfl, h2, k2, l2⟩ := (at1.tps sH.tps).open
    have hlt : ((ownL ((pts t).take i)).map V.int).length < sizeLine := by
      unfold ownL
      rw [List.length_map, List.length_map, List.length_take]
      exact lt_line (by omega)
    have more : ∀ z : Int, (if kd t1 = 4 then -1 else (nm t1 : Int)) = z → upd H' D (.lst ((ownL ((pts t).take i)).map V.int ++ [.int z])) D = some (.lst ((ownL ((pts t).take (i + 1))).map V.int)) := by
      intro z e
      rw [upd_same, take_more e1]
      unfold ownL
      rw [List.map_append, List.map_append, List.map_cons, List.map_nil, e]
      rfl
    refine ⟨_, rfl, _, _, _, _, rfl, rfl, SqT.of h2, rfl, rfl, _, rfl, ite2 (fun c => ?_) (fun c => ?_)⟩
    · have c' := litT c
      refine ⟨_, rfl, .inl ⟨rfl, _, SqL.of hD⟩, _, rfl, D, _, _, rfl, rfl, hD, hlt, ⟨_, rfl⟩, same_upd nD sH, ?_⟩
      exact more (-1) (if_pos (by omega))
    · have c' := litF c
      refine ⟨_, rfl, .inl ⟨rfl, _, SqL.of hD⟩, _, rfl, _, _, _, _, rfl, rfl, SqT.of h2, rfl, D, _, _, rfl, rfl, hD, hlt, ⟨_, rfl⟩, same_upd nD sH, ?_⟩
      exact more _ (if_neg (by omega))
  · rintro σ H' ⟨⟨x0, rfl⟩, sH, hD⟩
    rw [l1.length, List.take_length] at hD
    exact ⟨_, rfl, q H' D sH hD⟩
/-! ### names_unseen -/
def spUns (n : Nat) : Sp := fun vs H Q _ => ∃ (v : V) (t : Term) (b : Addr) (bs : List Bool) (d : Nat) (ms : List Nat), vs = [v, .ref b, vn d] ∧ TermAt H v t ∧ H b = some (.tup (bs.map V.bl)) ∧ Fit ms (bs.length + d) t ∧ Pa01.deep t ≤ n ∧ Q (.bl (Pa01.badIn (fun i => bs.getD i false) d t)) H
theorem sc_names_unseen : FnScope ["term", "sees", "depth", "kind", "number", "parts", "part"] ["term", "sees", "depth"] (defScope s_names_unseen) := ⟨rfl, rfl, rfl, by decide +kernel, rfl, by decide +kernel, by decide +kernel⟩
theorem ok_names_unseen0 (T : Txt K mg a) {n : Nat} (c_names_unseen : Cal P w K mg base CX0 n "names_unseen" ["term", "sees", "depth"] (spUns n)) :
    Cal P w K mg base CX0 (n + 1) "names_unseen" ["term", "sees", "depth"] (spUns (n + 1)) := by
  refine T.d_names_unseen.ok0 sc_names_unseen (fun vs H Q E h => ?_) (fun f cdv A outer s H vs Q E hr h => ?_)
  · obtain ⟨v, t, b, bs, d, ms, rfl, _⟩ := h
    rfl
  obtain ⟨v, t, b, bs, d, ms, rfl, ht, hS, hf, hd, q⟩ := h
  obtain ⟨a1, p1, vs1, rfl, h1, k1, l1⟩ := ht.open
  have e0 := badIn_eq (fun i => bs.getD i false) d t
  refine ⟨_, (pss_cons (ps_asg (pv 0) (pg_tup rfl (pgs_cons (pg_name (i := 3) sc_names_unseen.nd rfl (Or.inl rfl)) (pgs_cons (pg_name (i := 4) sc_names_unseen.nd rfl (Or.inl rfl)) (pgs_cons (pg_name (i := 5) sc_names_unseen.nd rfl (Or.inl rfl)) pgs_nil)))))
      (pss_cons (ps_if (pt_cmpR op_eq (pv 3) (pe_k T.k_PLACE) (nomark _)) (pss_one (ps_ret (pe_and (pe_cmpR op_ge (pv 4) (pv 2) (nomark _)) (pe_one (pe_not (pe_ix ix_tup (pv 1) (pe_op op_sub (pv 4) (pv 2)) (fun _ _ => rfl))))))) pss_nil)
      (pss_cons (ps_for PassesOwn.never rfl (pi_tup (pv 5)) (pg_name (i := 6) sc_names_unseen.nd rfl (Or.inl rfl)) (pss_one (ps_if (pt_val (pe_callC c_names_unseen (hr.mono (by omega)) rfl pass0 (pa_cons (pv 6) (pa_cons (pv 1) (pa_cons (pe_op op_add (pv 2) (pe_callTy call_int1 rfl T.b_int (by decide +kernel) (pa_cons (pe_cmpR op_eq (pv 3) (pe_k T.k_BINDER) (nomark _)) pa_nil))) pa_nil))))) (pss_one (ps_ret pe_bl)) pss_nil)))
      (pss_one (ps_ret pe_bl))))), ?_⟩
  refine ⟨_, rfl, a1, _, rfl, SqT.of h1, rfl, _, _, rfl, _, _, rfl, _, _, rfl, rfl, ?_⟩
  refine ⟨_, rfl, rfl, _, rfl, ite2 (fun c => ?_) (fun c => ?_)⟩
  · have c' := litT c
    have hk : kd t = 0 := by omega
    rw [if_pos hk] at e0
    have hlt : nm t < bs.length + d := by
      rw [place_of hk] at hf
      exact hf
    refine ⟨_, rfl, _, rfl, _, _, rfl, rfl, _, rfl, ite2 (fun c2 => ?_) (fun c2 => ?_)⟩
    · have c2' : d ≤ nm t := by have := of_decide_eq_true c2; omega
      rw [decide_eq_true c2', Bool.true_and] at e0
      refine ⟨_, rfl, _, rfl, _, rfl, _, _, rfl, rfl, b, _, _, .bl (bs.getD (nm t - d) false), rfl, rfl, SqT.of hS, ?_, _, rfl, ?_⟩
      · rw [show ((nm t : Int) - (d : Int)) = ((nm t - d : Nat) : Int) by omega]
        exact bs_at (by omega)
      · rw [e0] at q
        exact q
    · have c2' : ¬ d ≤ nm t := fun z => c2 (decide_eq_true (by omega))
      rw [decide_eq_false c2', Bool.false_and] at e0
      rw [e0] at q
      exact q
  have c' := litF c
  rw [if_neg (by omega), badIns_any] at e0
  have hfp := fit_pts hf
  refine ⟨_, rfl, p1, rfl, ⟨_, SqT.of k1⟩, for_tup (K := K) (a := p1) (xs := vs1) (fun i σ H' => H' = H ∧ (∃ x, σ = [some (.ref a1), some (.ref b), some (vn d), some (vn (kd t)), some (vn (nm t)), some (.ref p1), x]) ∧ ((pts t).take i).any (Pa01.badIn (fun i => bs.getD i false) (d + un t)) = false)
    ⟨rfl, ⟨none, rfl⟩, rfl⟩ (fun i σ H' _ ⟨e, _, _⟩ => by rw [e]; exact SqT.of k1) ?_ ?_⟩
  · rintro i x σ H' hx ⟨rfl, ⟨x0, rfl⟩, hn'⟩
    obtain ⟨t1, e1, at1⟩ := l1.get hx
    have b1 : Pa01.deep t1 ≤ n := by
      have := deeps_le (List.mem_of_getElem? e1)
      have := deep_eq t
      omega
    refine ⟨_, rfl, _, rfl, _, rfl, _, rfl, rfl, .inr ⟨_, rfl, _, _, rfl, rfl, x, t1, b, bs, d + un t, ms, ?_, at1, hS, ?_, b1, _, rfl, ite2 (fun c2 => ?_) (fun c2 => ?_)⟩⟩
    · exact congrArg (fun z => [x, V.ref b, V.int z]) (un_int d t)
    · rw [← Nat.add_assoc]
      exact hfp t1 (List.mem_of_getElem? e1)
    · have e2 : (pts t).any (Pa01.badIn (fun i => bs.getD i false) (d + un t)) = true := List.any_eq_true.mpr ⟨_, List.mem_of_getElem? e1, c2⟩
      rw [e0, e2] at q
      exact q
    · refine ⟨rfl, ⟨_, rfl⟩, ?_⟩
      rw [any_take_more e1, hn']
      exact Bool.eq_false_iff.mpr c2
  · rintro σ H' ⟨rfl, ⟨x0, rfl⟩, hn'⟩
    rw [l1.length, List.take_length] at hn'
    rw [e0, hn'] at q
    exact q
theorem ok_names_unseen (T : Txt K mg a) : ∀ n : Nat, Cal P w K mg base CX0 n "names_unseen" ["term", "sees", "depth"] (spUns n)
  | 0 => Cal.no T.d_names_unseen fun vs H Q E h => by
    obtain ⟨v, t, b, bs, d, ms, _, _, _, _, hd, _⟩ := h
    have := deep_pos t
    omega
  | n + 1 => ok_names_unseen0 T (ok_names_unseen T n)
end
end HH
namespace HH
open PySem PySem.Spec PyProof.Rows L2 L2Y
open Pa01 (Term Hole Eqn)
theorem tps_lst {H : Hp} {D : Addr} {zs ws : List V} (h : H D = some (.lst zs)) : Tps H (upd H D (.lst ws)) := fun b xs e => by rw [upd_ne (ne_of e h (by intro z; cases z))]; exact e
theorem cut_take (zs : List V) (k : Nat) : cutV zs none (some (k : Int)) = zs.take k := by
  unfold cutV
  rw [HT.sIx_none, HT.sIx_nat, List.drop_zero, Nat.sub_zero]
  rcases Nat.le_total k zs.length with h | h
  · rw [Nat.min_eq_left h]
  · rw [Nat.min_eq_right h, List.take_of_length_le h, List.take_length]
theorem any_toDs (p : Term) : ∀ l : List Term, ((toDs l).any fun z => PyData.eqv z (toD p)) = true ↔ p ∈ l
  | [] => by simp [toDs]
  | a :: l => by
    simp only [toDs, List.any_cons, Bool.or_eq_true, any_toDs p l, toD_eqv, List.mem_cons]
    rw [same_iff]
    exact or_congr_left eq_comm
theorem deeps_places {l : List Term} (h : ∀ p ∈ l, kd p = 0) : Pa01.deeps l ≤ 1 := by
  induction l with
  | nil => simp [Pa01.deeps]
  | cons a l ih =>
    have h1 := ih fun p hp => h p (List.mem_cons_of_mem _ hp)
    have h2 : Pa01.deep a = 1 := by rw [place_of (h a List.mem_cons_self)]; rfl
    simp only [Pa01.deeps]
    omega
theorem shaped_places {l : List Term} (h : ∀ p ∈ l, kd p = 0) : SeqAt.shaped (.list (toDs l)) = true := by
  have h1 := deeps_places h
  have h2 := toDs_depth l
  show (PyData.canLay0 (.list (toDs l)) && decide (PyData.depth (.list (toDs l)) ≤ 64)) = true
  rw [Bool.and_eq_true]
  refine ⟨by simp only [PyData.canLay0]; exact toDs_lay l, decide_eq_true ?_⟩
  simp only [PyData.depth]
  omega
theorem shaped_place {p : Term} (h : kd p = 0) : SeqAt.shaped (toD p) = true := by
  have h2 := toD_depth p
  have h3 : Pa01.deep p = 1 := by rw [place_of h]; rfl
  show ((toD p).canLay0 && decide ((toD p).depth ≤ 64)) = true
  rw [Bool.and_eq_true]
  exact ⟨toD_lay p, decide_eq_true (by omega)⟩
theorem left4_more {l : List Term} {i : Nat} {x : Term} (h : l[i]? = some x) : left4 (l.take (i + 1)) = left4 (l.take i) ++ (if kd x = 4 then [] else [x]) := by
  unfold left4
  rw [take_more h, List.filter_append]
  congr 1
  by_cases h4 : kd x = 4
  · simp [h4]
  · simp [h4]
section
variable {P : Program} {w : World} {K : PySem.W.Frag} {mg : Str → Option Value} {base : Heap} {a : Ad}
/-! ### in_own_places -/
def spTurn (n : Nat) : Sp := fun vs H Q _ => ∃ (v : V) (t : Term) (o : Addr) (ps : List Term) (d : Nat), vs = [v, .ref o, vn d] ∧ TermAt H v t ∧ H o = some (.lst ((ownL ps).map V.int)) ∧ Pa01.plain ps = true ∧ Pa01.badIn (fun i => (Pa01.spots ps).contains i) d t = false ∧
  Pa01.deep t ≤ n ∧ Pa01.size t ≤ 5000 ∧ ∀ H' v', Same H H' → TermAt H' v' (Pa01.turn ps d t) → Q v' H'
theorem sc_in_own_places : FnScope ["term", "own", "depth", "kind", "number", "parts", "part"] ["term", "own", "depth"] (defScope s_in_own_places) := ⟨rfl, rfl, rfl, by decide +kernel, rfl, by decide +kernel, by decide +kernel⟩
theorem ok_in_own_places0 (T : Txt K mg a) {n : Nat} (c_in_own_places : Cal P w K mg base CX0 n "in_own_places" ["term", "own", "depth"] (spTurn n)) :
    Cal P w K mg base CX0 (n + 1) "in_own_places" ["term", "own", "depth"] (spTurn (n + 1)) := by
  refine T.d_in_own_places.ok0 sc_in_own_places (fun vs H Q E h => ?_) (fun f cdv A outer s H vs Q E hr h => ?_)
  · obtain ⟨v, t, o, ps, d, rfl, _⟩ := h
    rfl
  obtain ⟨v, t, o, ps, d, rfl, ht, hS, hpl, hbad, hd, hz, q⟩ := h
  obtain ⟨a1, p1, vs1, rfl, h1, k1, l1⟩ := ht.open
  obtain ⟨e1, e2⟩ := turn_eq ps d t
  rw [badIn_eq] at hbad
  refine ⟨_, (pss_cons (ps_asg (pv 0) (pg_tup rfl (pgs_cons (pg_name (i := 3) sc_in_own_places.nd rfl (Or.inr rfl)) (pgs_cons (pg_name (i := 4) sc_in_own_places.nd rfl (Or.inl rfl)) (pgs_cons (pg_name (i := 5) sc_in_own_places.nd rfl (Or.inl rfl)) pgs_nil)))))
      (pss_cons (ps_if (PW.pt (pw_and (pt_cmpR op_eq (pv 3) (pe_k T.k_PLACE) (nomark _)) (pw_and1 (pt_cmpR op_ge (pv 4) (pv 2) (nomark _))))) (pss_one (ps_ret (pe_tup (pa_cons (pe_k T.k_PLACE) (pa_cons (pe_op op_add (pe_bm PySem.F.plainAttrs_list PySem.F.slot_list_index PySem.F.type_list_index mt_index (pv 1) (pa_cons (pe_op op_sub (pv 4) (pv 2)) pa_nil)) (pv 2)) (pa_cons (pe_tup pa_nil) pa_nil)))))) pss_nil)
      (pss_one (ps_ret (pe_tup (pa_cons (pv 3) (pa_cons (pv 4) (pa_cons (pe_callTy call_tuple_of rfl T.b_tuple (by decide +kernel) (pa_cons (pe_lc (own := [("part", 6)])  rfl sc_in_own_places.nd (pi_tup (pv 5)) (blkOk_by (own := [("part", 6)]) (N := ["term", "own", "depth", "kind", "number", "parts", "part"]) (sc := defScope s_in_own_places) (by decide +kernel)) (fun _ _ _ _ _ => (pg_name (i := 6) sc_in_own_places.nd rfl (Or.inl rfl))) (fun _ _ _ _ _ => pts_nil) (fun _ _ _ _ _ => (pe_callC c_in_own_places (hr.mono (by omega)) rfl pass0 (pa_cons (pv 6) (pa_cons (pv 1) (pa_cons (pe_op op_add (pv 2) (pe_callTy call_int1 rfl T.b_int (by decide +kernel) (pa_cons (pe_cmpR op_eq (pv 3) (pe_k T.k_BINDER) (nomark _)) pa_nil))) pa_nil)))))) pa_nil)) pa_nil)))))))), ?_⟩
  refine ⟨_, rfl, a1, _, rfl, SqT.of h1, rfl, _, _, rfl, _, _, rfl, _, _, rfl, rfl, ?_⟩
  have rest : ¬ (kd t = 0 ∧ d ≤ nm t) → tRet (tTup (tCons (tVar 3) (tCons (tVar 4) (tCons (tCB (fun xs H Q => ∃ p ys, xs = [.ref p] ∧ ((SqL K H p ys ∧ ∀ l, H l = none → Q (.ref l) (upd H l (.tup ys))) ∨ (SqT K H p ys ∧ Q (.ref p) H)))
      (tCons (tLc (iTup K (tVar 5)) (gName 6) tYes (tCl (spTurn n) E0 (tCons (tVar 6) (tCons (tVar 1) (tCons (tOp (rI0 fun i j => .int (i + j)) (tVar 2) (tCB (fun xs H Q => (∃ i, xs = [.int i] ∧ Q (.int i) H) ∨ ∃ k, xs = [.bl k] ∧ Q (.int (if k then 1 else 0)) H) (tCons (tOp rEq (tVar 3) (tC (.int 2))) tNil))) tNil)))) [6]) tNil)) tNil))))
      { nx := fun _ H' => Q .non H', rt := Q } [some (.ref a1), some (.ref o), some (vn d), some (vn (kd t)), some (vn (nm t)), some (.ref p1), none] H := by
    intro hn
    obtain ⟨f1, f2, f3⟩ := e2 hn
    have hbad' : ∀ u ∈ pts t, Pa01.badIn (fun i => (Pa01.spots ps).contains i) (d + un t) u = false := by
      by_cases hk : kd t = 0
      · intro u hu
        rw [place_of hk] at hu
        cases hu
      · rw [if_neg hk, badIns_any] at hbad
        intro u hu
        cases e : Pa01.badIn (fun i => (Pa01.spots ps).contains i) (d + un t) u with
        | false => rfl
        | true =>
          have : (pts t).any (Pa01.badIn (fun i => (Pa01.spots ps).contains i) (d + un t)) = true := List.any_eq_true.mpr ⟨u, hu, e⟩
          rw [this] at hbad
          cases hbad
    refine ⟨_, rfl, _, rfl, _, rfl, p1, rfl, ⟨_, SqT.of k1⟩, fun D nD => ?_⟩
    refine lc_tup (K := K) (a := p1) (xs := vs1) (fun i H' => Same H H' ∧ ∃ zs, H' D = some (.lst zs) ∧ TermsAt H' zs (((pts t).take i).map (Pa01.turn ps (d + un t)))) ⟨same_new nD _, [], upd_same, .nil⟩ (fun i H' _ h => SqT.of (h.1 _ _ k1)) ?_ ?_
    · rintro i x H' hx ⟨sH, zs, hD, hT⟩
      obtain ⟨t1, et, at1⟩ := l1.get hx
      obtain ⟨b1, b2⟩ := pts_small (List.mem_of_getElem? et) hd hz
      refine ⟨rfl, _, rfl, _, rfl, _, rfl, _, rfl, rfl, .inr ⟨_, rfl, _, _, rfl, rfl, x, t1, o, ps, d + un t, ?_, at1.tps sH.tps, sH _ _ hS, hpl, hbad' t1 (List.mem_of_getElem? et), b1, b2, fun H2 v2 s2 a2 => ⟨zs, s2 _ _ hD, ?_, same_upd nD (sH.trans s2), zs ++ [v2], upd_same, ?_⟩⟩⟩
      · exact congrArg (fun z => [x, V.ref o, V.int z]) (un_int d t)
      · have := hT.length
        rw [List.length_map, List.length_take] at this
        exact lt_line (by have := pts_len hz; omega)
      · rw [take_more et, List.map_append]
        exact ((hT.tps s2.tps).append (.one a2)).tps (tps_lst (s2 _ _ hD))
    · rintro H' ⟨sH, zs, hD, hT⟩
      rw [l1.length, List.take_length, ← f3] at hT
      refine ⟨D, zs, rfl, .inl ⟨SqL.of hD, fun l nl => ⟨l3le _ _ _, fun p np => ?_⟩⟩⟩
      have s2 := same_new nl (.tup zs)
      have s3 := s2.trans (same_new np (.tup [vn (kd t), vn (nm t), .ref l]))
      refine q _ _ (sH.trans s3) (.mk (p := l) ?_ (same_new np _ _ _ upd_same) (hT.tps s3.tps))
      rw [upd_same, f1, f2]
  refine ⟨_, rfl, rfl, _, rfl, ite2 (fun c => ?_) (fun c => ?_)⟩
  · have c' := litT c
    have hk : kd t = 0 := by omega
    refine ⟨_, rfl, _, rfl, _, _, rfl, rfl, _, rfl, ite2 (fun c2 => ?_) (fun c2 => ?_)⟩
    · have c2' : d ≤ nm t := by have := of_decide_eq_true c2; omega
      have e := e1 ⟨hk, c2'⟩
      rw [if_pos hk, decide_eq_true c2', Bool.true_and] at hbad
      have hsp : (Pa01.spots ps).contains (nm t - d) = true := by
        cases z : (Pa01.spots ps).contains (nm t - d) with
        | true => rfl
        | false =>
          have : (!(Pa01.spots ps).contains (nm t - d)) = false := hbad
          rw [z] at this
          cases this
      obtain ⟨g1, g2⟩ := own_spotOf hpl hsp
      refine ⟨_, rfl, .inl ⟨rfl, _, SqL.of hS⟩, _, rfl, _, rfl, _, _, rfl, rfl, o, _, _, Pa01.spotOf ps (nm t - d), .int ((nm t - d : Nat) : Int), rfl, rfl, SqL.of hS, rfl, flat_ints _, ?_, ?_, ?_, _, rfl, _, _, rfl, rfl, le_line (by simp), fun p np => ⟨l3le _ _ _, fun p2 np2 => ?_⟩⟩
      · rw [List.getElem?_map, g1]
        rfl
      · show (((nm t - d : Nat) : Int) == ((nm t : Int) - (d : Int))) = true
        rw [show ((nm t : Int) - (d : Int)) = ((nm t - d : Nat) : Int) by omega]
        simp
      · intro m z' hm hz'
        rw [List.getElem?_map] at hz'
        cases ez : (ownL ps)[m]? with
        | none => rw [ez] at hz'; cases hz'
        | some z =>
          rw [ez] at hz'
          cases hz'
          show (z == ((nm t : Int) - (d : Int))) = false
          rw [show ((nm t : Int) - (d : Int)) = ((nm t - d : Nat) : Int) by omega]
          exact beq_eq_false_iff_ne.mpr (g2 m z hm ez)
      · refine q _ _ ((same_new np _).trans (same_new np2 _)) ?_
        rw [e]
        exact .mk (p := p) upd_same (same_new np2 _ _ _ upd_same) .nil
    · have c2' : ¬ d ≤ nm t := fun z => c2 (decide_eq_true (by omega))
      exact rest (by omega)
  · have c' := litF c
    exact rest (by omega)
theorem ok_in_own_places (T : Txt K mg a) : ∀ n : Nat, Cal P w K mg base CX0 n "in_own_places" ["term", "own", "depth"] (spTurn n)
  | 0 => Cal.no T.d_in_own_places fun vs H Q E h => by
    obtain ⟨v, t, o, ps, d, _, _, _, _, _, hd, _⟩ := h
    have := deep_pos t
    omega
  | n + 1 => ok_in_own_places0 T (ok_in_own_places T n)
/-! ### is_plain -/
def isPl (t : Term) : Bool := decide (kd t = 3) && Pa01.plain (pts t)
def spPlain : Sp := fun vs H Q _ => ∃ (v : V) (t : Term), vs = [v] ∧ TermAt H v t ∧ (pts t).length ≤ 5000 ∧ ∀ H', Same H H' → Q (.bl (isPl t)) H'
theorem sc_is_plain : FnScope ["term", "places", "part", "k"] ["term"] (defScope s_is_plain) := ⟨rfl, rfl, rfl, by decide +kernel, rfl, by decide +kernel, by decide +kernel⟩
theorem ok_is_plain (T : Txt K mg a) : Cal P w K mg base CX0 1 "is_plain" ["term"] spPlain := by
  refine T.d_is_plain.ok0 sc_is_plain (fun vs H Q E h => ?_) (fun f cdv A outer s H vs Q E hr h => ?_)
  · obtain ⟨v, t, rfl, _⟩ := h
    rfl
  obtain ⟨v, t, rfl, ht, hz, q⟩ := h
  obtain ⟨a1, p1, vs1, rfl, h1, k1, l1⟩ := ht.open
  have pf : kd t = 3 → ∀ k p, (left4 (pts t))[k]? = some p → ¬ (kd p = 0 ∧ p ∉ (left4 (pts t)).take k) → isPl t = false := by
    intro hk k p e hn
    unfold isPl
    rw [decide_eq_true hk, Bool.true_and]
    cases e2 : Pa01.plain (pts t) with
    | false => rfl
    | true =>
      obtain ⟨g1, g2⟩ := (plain_left _).mp e2
      exact absurd ⟨g1 p (List.mem_of_getElem? e), nodup_take.mp g2 k p e⟩ hn
  refine ⟨_, (pss_cons (ps_if (pt_cmpR op_ne (pe_ix ix_tup (pv 0) pe_int (fun _ _ => rfl)) (pe_k T.k_HOLE) (nomark _)) (pss_one (ps_ret pe_bl)) pss_nil)
      (pss_cons (ps_setLc (i := 1) (own := [("part", 2)])  rfl sc_is_plain.nd rfl rfl (sw_true rfl rfl rfl (by decide +kernel)) (pi_tup (pe_ix ix_tup (pv 0) pe_int (fun _ _ => rfl))) (blkOk_by (own := [("part", 2)]) (N := ["term", "places", "part", "k"]) (sc := defScope s_is_plain) (by decide +kernel)) (fun _ _ _ _ _ => (pg_name (i := 2) sc_is_plain.nd rfl (Or.inl rfl))) (fun _ _ _ _ _ => pts_one (pt_cmpR op_ne (pe_ix (ix_tupK K) (pv 2) pe_int (fun _ _ => rfl)) (pe_k T.k_GONE) (nomark _))) (fun _ _ _ _ _ => (pv 2)))
      (pss_cons (ps_for PassesOwn.never rfl (pi_enum rfl T.b_enumerate (pa_cons (pv 1) pa_nil)) (pg_tup rfl (pgs_cons (pg_name (i := 3) sc_is_plain.nd rfl (Or.inl rfl)) (pgs_cons (pg_name (i := 2) sc_is_plain.nd rfl (Or.inl rfl)) pgs_nil))) (pss_one (ps_if (PW.pt (pw_or (pt_cmpR op_ne (pe_ix ix_tup (pv 2) pe_int (fun _ _ => rfl)) (pe_k T.k_PLACE) (nomark _)) (pw_or1 (pt_cmpR (op_inD (u65 hr)) (pv 2) (pe_slice sl_list (pv 1) po_none (po_some (pv 3))) (by rfl))))) (pss_one (ps_ret pe_bl)) pss_nil)))
      (pss_one (ps_ret pe_bl))))), ?_⟩
  refine ⟨_, rfl, _, _, _, _, rfl, rfl, SqT.of h1, rfl, rfl, _, rfl, ite2 (fun c => ?_) (fun c => ?_)⟩
  · have c' := nitT c
    have e : isPl t = false := by unfold isPl; rw [decide_eq_false (by omega), Bool.false_and]
    have := q H (Same.refl H)
    rw [e] at this
    exact this
  have c' := nitF c
  have hk : kd t = 3 := by omega
  refine ⟨_, rfl, _, _, _, _, rfl, rfl, SqT.of h1, rfl, p1, rfl, ⟨_, SqT.of k1⟩, fun D nD => ?_⟩
  refine lc_tup (K := K) (a := p1) (xs := vs1) (fun i H' => Same H H' ∧ ∃ zs, H' D = some (.lst zs) ∧ TermsAt H' zs (left4 ((pts t).take i))) ⟨same_new nD _, [], upd_same, .nil⟩ (fun i H' _ h => SqT.of (h.1 _ _ k1)) ?_ ?_
  · rintro i x H' hx ⟨sH, zs, hD, hT⟩
    obtain ⟨t1, et, at1⟩ := l1.get hx
    obtain ⟨a2, p2, vs2, rfl, h2, k2, l2⟩ := (at1.tps sH.tps).open
    refine ⟨rfl, _, rfl, _, _, _, _, rfl, rfl, SqT.of h2, rfl, rfl, _, rfl, ite2 (fun d => ?_) (fun d => ?_)⟩
    · have d' := nitT d
      refine ⟨_, rfl, zs, hD, ?_, same_upd nD sH, zs ++ [.ref a2], upd_same, ?_⟩
      · have b1 := hT.length
        have b2 : (left4 ((pts t).take i)).length ≤ ((pts t).take i).length := List.length_filter_le _ _
        rw [List.length_take] at b2
        exact lt_line (by omega)
      · rw [left4_more et, if_neg (by omega)]
        exact (hT.append (.one (at1.tps sH.tps))).tps (tps_lst hD)
    · have d' := nitF d
      refine ⟨sH, zs, hD, ?_⟩
      rw [left4_more et, if_pos (by omega), List.append_nil]
      exact hT
  rintro H1 ⟨sH1, zs, hD, hT⟩
  rw [l1.length, List.take_length] at hT
  refine ⟨_, rfl, D, zs, rfl, SqL.of hD, for_it (walk_enum (xs := zs)) (fun k σ H' => (∃ x y, σ = [some (.ref a1), some (.ref D), x, y]) ∧ Same H1 H' ∧ ∀ j p, j < k → (left4 (pts t))[j]? = some p → kd p = 0 ∧ p ∉ (left4 (pts t)).take j)
    ⟨⟨_, _, rfl⟩, Same.refl _, fun j p hj => absurd hj (Nat.not_lt_zero j)⟩ (fun i σ H' _ h => SqL.of (h.2.1 _ _ hD)) ?_ ?_⟩
  · rintro k x σ H2 H3 hi ⟨⟨x0, y0, rfl⟩, sH, hp⟩ ⟨Tt, u1, u2, rfl, nT, rfl, e1, hx⟩
    cases e1
    obtain ⟨t1, et, at1⟩ := hT.get hx
    have sT := same_new nT (.tup [vn k, u2])
    have sA := sH.trans sT
    obtain ⟨a2, p2, vs2, rfl, h2, k2, l2⟩ := (at1.tps sA.tps).open
    refine ⟨Tt, _, rfl, SqT.of upd_same, rfl, _, _, rfl, _, _, rfl, rfl, ?_⟩
    refine ⟨_, rfl, _, _, _, _, rfl, rfl, SqT.of h2, rfl, rfl, _, rfl, ite2 (fun d => ?_) (fun d => ?_)⟩
    · have d' := nitT d
      have := q _ (sH1.trans sA)
      rw [pf hk k t1 et (by omega)] at this
      exact this
    have d' := nitF d
    have ht0 : kd t1 = 0 := by omega
    refine ⟨_, rfl, _, rfl, _, rfl, _, rfl, D, zs, rfl, SqL.of (sA _ _ hD), fun pr npr => ?_⟩
    have sB := sA.trans (same_new npr (.lst (cutV zs none (some (k : Int)))))
    have pl : ∀ p ∈ (left4 (pts t)).take k, kd p = 0 := by
      intro p hp'
      obtain ⟨j, hj⟩ := List.mem_iff_getElem?.mp hp'
      rw [List.getElem?_take] at hj
      by_cases hjk : j < k
      · rw [if_pos hjk] at hj
        exact (hp j p hjk hj).1
      · rw [if_neg hjk] at hj
        cases hj
    refine ⟨toD t1, toDs ((left4 (pts t)).take k), (at1.tps sB.tps).dp, .lst (SqL.of upd_same) ?_, shaped_place ht0, shaped_places pl, _, rfl, ite2 (fun d2 => ?_) (fun d2 => ?_)⟩
    · have dd := ((hT.tps sB.tps).take k).dp (K := K)
      rw [← cut_take] at dd
      exact dd
    · have := q _ (sH1.trans sB)
      rw [pf hk k t1 et (fun z => z.2 ((any_toDs t1 _).mp d2))] at this
      exact this
    · refine ⟨⟨_, _, rfl⟩, sB, fun j p hj e => ?_⟩
      by_cases hjk : j < k
      · exact hp j p hjk e
      · have : j = k := by omega
        subst this
        rw [et] at e
        cases e
        exact ⟨ht0, fun z => d2 ((any_toDs _ _).mpr z)⟩
  · rintro σ H' ⟨⟨x0, y0, rfl⟩, sH, hp⟩
    have e : isPl t = true := by
      unfold isPl
      rw [decide_eq_true hk, Bool.true_and, plain_left]
      have all : ∀ j p, (left4 (pts t))[j]? = some p → kd p = 0 ∧ p ∉ (left4 (pts t)).take j := fun j p e => hp j p (by
        have := (List.getElem?_eq_some_iff.mp e).1
        rw [hT.length]
        exact this) e
      refine ⟨fun p hp' => ?_, nodup_take.mpr fun j p e => (all j p e).2⟩
      obtain ⟨j, hj⟩ := List.mem_iff_getElem?.mp hp'
      exact (all j p hj).1
    have := q _ (sH1.trans sH)
    rw [e] at this
    exact this
end
end HH
namespace HH
open PySem PySem.Spec PyProof.Rows L2 L2Y
open Pa01 (Term Hole Eqn)
/-! ### values, holes, equations, the budget in the heap -/
/-- tuples and lists as they were -/
structure Sq (H H' : Hp) : Prop where
  t : Tps H H'
  l : ∀ b xs, H b = some (.lst xs) → H' b = some (.lst xs)
theorem _root_.L2.Same.sq {H H' : Hp} (s : Same H H') : Sq H H' := ⟨s.tps, fun b xs h => s b _ h⟩
theorem Kp.sq {x C dx : Addr} {fs : List (Str × V)} {H H' : Hp} (k : Kp x H H') (h : H x = some (.ins C dx fs)) : Sq H H' := ⟨k.tps h, fun b xs e => k b _ e (ne_of e h (by intro z; cases z))⟩
theorem Sq.refl {H : Hp} : Sq H H := ⟨fun _ _ h => h, fun _ _ h => h⟩
theorem Sq.trans {H H1 H2 : Hp} (a : Sq H H1) (b : Sq H1 H2) : Sq H H2 := ⟨fun c xs h => b.t c xs (a.t c xs h), fun c xs h => b.l c xs (a.l c xs h)⟩
section
variable {α β : Type} {R R' : V → α → Prop}
abbrev P2 (R : V → α → Prop) (vs : List V) (xs : List α) : Prop := Paired R vs xs
theorem p2_get : ∀ {vs : List V} {xs : List α} {i : Nat} {v : V}, Paired R vs xs → vs[i]? = some v → ∃ x, xs[i]? = some x ∧ R v x
  | _, _, _, _, .nil, e => by simp at e
  | _, _, 0, _, .cons r _, e => by simp at e; subst e; exact ⟨_, rfl, r⟩
  | _, _, i + 1, v, .cons _ t, e => by
    obtain ⟨u, h1, h2⟩ := p2_get (i := i) (v := v) t (by simpa using e)
    exact ⟨u, by simpa using h1, h2⟩
theorem p2_at : ∀ {vs : List V} {xs : List α} {i : Nat} {x : α}, Paired R vs xs → xs[i]? = some x → ∃ v, vs[i]? = some v ∧ R v x
  | _, _, _, _, .nil, e => by simp at e
  | _, _, 0, _, .cons r _, e => by simp at e; subst e; exact ⟨_, rfl, r⟩
  | _, _, i + 1, v, .cons _ t, e => by
    obtain ⟨u, h1, h2⟩ := p2_at (i := i) (x := v) t (by simpa using e)
    exact ⟨u, by simpa using h1, h2⟩
theorem p2_append : ∀ {vs us : List V} {xs ys : List α}, Paired R vs xs → Paired R us ys → Paired R (vs ++ us) (xs ++ ys)
  | _, _, _, _, .nil, g => g
  | _, _, _, _, .cons r t, g => .cons r (p2_append t g)
theorem p2_take : ∀ {vs : List V} {xs : List α} (n : Nat), Paired R vs xs → Paired R (vs.take n) (xs.take n)
  | _, _, 0, _ => .nil
  | _, _, _ + 1, .nil => .nil
  | _, _, n + 1, .cons r t => .cons r (p2_take n t)
theorem p2_drop : ∀ {vs : List V} {xs : List α} (n : Nat), Paired R vs xs → Paired R (vs.drop n) (xs.drop n)
  | _, _, 0, r => r
  | _, _, _ + 1, .nil => .nil
  | _, _, n + 1, .cons _ t => p2_drop n t
theorem p2_one {v : V} {x : α} (r : R v x) : Paired R [v] [x] := .cons r .nil
theorem p2_imp {vs : List V} {xs : List α} (h : Paired R vs xs) (f : ∀ v x, R v x → R' v x) : Paired R' vs xs := Paired.mapP h f
end
mutual
inductive ValAt (H : Hp) : V → Val → Prop
  | bnd {b : Addr} {k : Nat} : H b = some (.tup [.int 0, vn k, .non]) → ValAt H (.ref b) (.bnd k)
  | arn {b : Addr} {k : Nat} : H b = some (.tup [.int 1, vn k, .non]) → ValAt H (.ref b) (.arn k)
  | hld {b l : Addr} {v : V} {t : Term} {us : List V} {vs : List Val} : H b = some (.tup [.int 2, v, .ref l]) → TermAt H v t → H l = some (.lst us) → ValsAt H us vs → ValAt H (.ref b) (.hld t vs)
inductive ValsAt (H : Hp) : List V → List Val → Prop
  | nil : ValsAt H [] []
  | cons {v : V} {x : Val} {vs : List V} {xs : List Val} : ValAt H v x → ValsAt H vs xs → ValsAt H (v :: vs) (x :: xs)
end
mutual
theorem ValAt.sq {H H' : Hp} (k : Sq H H') : ∀ {v : V} {x : Val}, ValAt H v x → ValAt H' v x
  | _, _, .bnd h => .bnd (k.t _ _ h)
  | _, _, .arn h => .arn (k.t _ _ h)
  | _, _, .hld h1 h2 h3 h4 => .hld (k.t _ _ h1) (h2.tps k.t) (k.l _ _ h3) (h4.sq k)
theorem ValsAt.sq {H H' : Hp} (k : Sq H H') : ∀ {vs : List V} {xs : List Val}, ValsAt H vs xs → ValsAt H' vs xs
  | _, _, .nil => .nil
  | _, _, .cons h1 h2 => .cons (h1.sq k) (h2.sq k)
end
theorem ValsAt.at {H : Hp} : ∀ {vs : List V} {xs : List Val} {i : Nat} {x : Val}, ValsAt H vs xs → xs[i]? = some x → ∃ v, vs[i]? = some v ∧ ValAt H v x
  | _, _, _, _, .nil, e => by simp at e
  | _, _, 0, _, .cons r _, e => by simp at e; subst e; exact ⟨_, rfl, r⟩
  | _, _, i + 1, v, .cons _ t, e => by
    obtain ⟨u, h1, h2⟩ := t.at (i := i) (x := v) (by simpa using e)
    exact ⟨u, by simpa using h1, h2⟩
theorem ValsAt.append {H : Hp} : ∀ {vs us : List V} {xs ys : List Val}, ValsAt H vs xs → ValsAt H us ys → ValsAt H (vs ++ us) (xs ++ ys)
  | _, _, _, _, .nil, g => g
  | _, _, _, _, .cons r t, g => .cons r (t.append g)
theorem ValsAt.length {H : Hp} : ∀ {vs : List V} {xs : List Val}, ValsAt H vs xs → vs.length = xs.length
  | _, _, .nil => rfl
  | _, _, .cons _ h => by simp [h.length]
/-- a list of values -/
def ValsL (H : Hp) (l : Addr) (xs : List Val) : Prop := ∃ us, H l = some (.lst us) ∧ ValsAt H us xs
theorem ValsL.sq {H H' : Hp} {l : Addr} {xs : List Val} (h : ValsL H l xs) (k : Sq H H') : ValsL H' l xs := by
  obtain ⟨us, h1, h2⟩ := h
  exact ⟨us, k.l _ _ h1, h2.sq k⟩
def BodyAt (H : Hp) (v : V) : Option Term → Prop
  | none => v = .non
  | some t => TermAt H v t
theorem BodyAt.tps {H H' : Hp} (k : Tps H H') {v : V} {b : Option Term} (h : BodyAt H v b) : BodyAt H' v b := by
  cases b with
  | none => exact h
  | some t => exact TermAt.tps k h
def seesL (x : Hole) : List Bool := (List.range x.many).map fun k => x.seen.contains k
def HoleAt (H : Hp) (v : V) (x : Hole) : Prop := ∃ b s bv, v = .ref b ∧ H b = some (.tup [vn x.many, .ref s, bv]) ∧ H s = some (.tup ((seesL x).map V.bl)) ∧ BodyAt H bv x.body
theorem HoleAt.tps {H H' : Hp} (k : Tps H H') {v : V} {x : Hole} (h : HoleAt H v x) : HoleAt H' v x := by
  obtain ⟨b, s, bv, e, h1, h2, h3⟩ := h
  exact ⟨b, s, bv, e, k _ _ h1, k _ _ h2, h3.tps k⟩
def HolesL (H : Hp) (l : Addr) (hs : List Hole) : Prop := ∃ vs, H l = some (.lst vs) ∧ Paired (HoleAt H) vs hs
theorem HolesL.sq {H H' : Hp} {l : Addr} {hs : List Hole} (h : HolesL H l hs) (k : Sq H H') : HolesL H' l hs := by
  obtain ⟨vs, h1, h2⟩ := h
  exact ⟨vs, k.l _ _ h1, p2_imp h2 fun v x q => q.tps k.t⟩
def EqnAt (H : Hp) (v : V) (e : Eqn) : Prop := ∃ b v1 v2, v = .ref b ∧ H b = some (.tup [vn e.n, v1, v2]) ∧ TermAt H v1 e.s ∧ TermAt H v2 e.t
theorem EqnAt.tps {H H' : Hp} (k : Tps H H') {v : V} {e : Eqn} (h : EqnAt H v e) : EqnAt H' v e := by
  obtain ⟨b, v1, v2, e, h1, h2, h3⟩ := h
  exact ⟨b, v1, v2, e, k _ _ h1, h2.tps k, h3.tps k⟩
def EqnsL (H : Hp) (l : Addr) (es : List Eqn) : Prop := ∃ vs, H l = some (.lst vs) ∧ Paired (EqnAt H) vs es
theorem EqnsL.sq {H H' : Hp} {l : Addr} {es : List Eqn} (h : EqnsL H l es) (k : Sq H H') : EqnsL H' l es := by
  obtain ⟨vs, h1, h2⟩ := h
  exact ⟨vs, k.l _ _ h1, p2_imp h2 fun v x q => q.tps k.t⟩
theorem len_le {α : Type} {xs : List V} {ys : List α} {n : Nat} (h : xs.length = ys.length) (hn : ys.length ≤ n) (hz : n ≤ 1000000) : xs.length < sizeLine := lt_line (by omega)
/-- the budget -/
def BgAt (C : Addr) (H : Hp) (b dx : Addr) (n : Nat) : Prop := H b = some (.ins C dx [("left", vn n)])
theorem lk_left {v : V} : List.lookup ("left" : Str) [(("left" : Str), v)] = some v := by simp [List.lookup]
theorem put_left {v x : V} : putF ("left" : Str) v [(("left" : Str), x)] = [(("left" : Str), v)] := if_pos rfl
/-- without what stands at D -/
theorem sq_del {H H' : Hp} {D : Addr} (n : H D = none) (s : Same H H') : Sq H (L2.del H' D) := ⟨fun b xs h => by rw [L2.del_ne (ne_of_none h n)]; exact s _ _ h, fun b xs h => by rw [L2.del_ne (ne_of_none h n)]; exact s _ _ h⟩
theorem del_upd {H : Hp} {D : Addr} {o : HO} : Sq (L2.del H D) (upd H D o) := by
  have key : ∀ b o', L2.del H D b = some o' → upd H D o b = some o' := fun b o' h => by
    have hb : b ≠ D := fun z => by rw [z, L2.del_same] at h; cases h
    rw [L2.del_ne hb] at h
    rw [upd_ne hb]
    exact h
  exact ⟨fun b xs h => key _ _ h, fun b xs h => key _ _ h⟩
theorem del_un {H : Hp} {D : Addr} : Sq (L2.del H D) H := by
  have key : ∀ b o', L2.del H D b = some o' → H b = some o' := fun b o' h => by
    have hb : b ≠ D := fun z => by rw [z, L2.del_same] at h; cases h
    rw [L2.del_ne hb] at h
    exact h
  exact ⟨fun b xs h => key _ _ h, fun b xs h => key _ _ h⟩
theorem del_same {H H' : Hp} {D : Addr} (s : Same H H') : Same (L2.del H D) (L2.del H' D) := fun b o h => by
  have hb : b ≠ D := fun z => by rw [z, L2.del_same] at h; cases h
  rw [L2.del_ne hb] at h ⊢
  exact s _ _ h
theorem del_updS {H : Hp} {D : Addr} {o : HO} : L2.del (upd H D o) D = L2.del H D := by
  funext b
  by_cases hb : b = D
  · rw [hb, L2.del_same, L2.del_same]
  · rw [L2.del_ne hb, L2.del_ne hb, upd_ne hb]
section
variable {P : Program} {w : World} {K : PySem.W.Frag} {mg : Str → Option Value} {base : Heap} {a : Ad}
/-! ### Budget, spend -/
def spBgI (a : Ad) : Sp := fun vs H Q _ => ∃ (p dx : Addr), vs = [.ref p] ∧ H p = some (.ins a.bg dx []) ∧ Q .non (upd H p (.ins a.bg dx [("left", vn 2000)]))
theorem sc_Budget_init : FnScope ["self"] ["self"] (defScope s_Budget_init) := ⟨rfl, rfl, rfl, by decide +kernel, rfl, by decide +kernel, by decide +kernel⟩
theorem ok_Budget (T : Txt K mg a) : Mak P w K mg base 1 "Budget" a.bg ["self"] (spBgI a) := by
  obtain ⟨f, fd, M, F, b⟩ := T.bg.i
  refine ⟨f, fd, M, ?_, T.bg.g, b⟩
  refine F.ok sc_Budget_init (fun vs H Q E h => ?_) (fun cdv A outer s H vs Q E hr h => ?_)
  · obtain ⟨p, dx, rfl, _⟩ := h
    rfl
  obtain ⟨p, dx, rfl, hp, q⟩ := h
  refine ⟨_, (pss_one (ps_fld (pv 0) (pe_k T.k_MOST_SIZE) rfl)), ?_⟩
  exact ⟨_, rfl, p, _, dx, [], rfl, hp, T.bg.c, T.bg.n "left" (by simp), (by show 0 < 1000; decide), q⟩
def spSpend (a : Ad) : Sp := fun vs H Q E => ∃ (b dx : Addr) (d n : Nat), vs = [.ref b, vn d] ∧ BgAt a.bg H b dx n ∧ ((n = 0 ∨ 60 < d) → E (.ref a.tl) none H) ∧ (¬ (n = 0 ∨ 60 < d) → Q .non (upd H b (.ins a.bg dx [("left", vn (n - 1))])))
theorem sc_spend : FnScope ["budget", "depth"] ["budget", "depth"] (defScope s_spend) := ⟨rfl, rfl, rfl, by decide +kernel, rfl, by decide +kernel, by decide +kernel⟩
theorem ok_spend (T : Txt K mg a) : Cal P w K mg base (L2N.CX P w) 1 "spend" ["budget", "depth"] (spSpend a) := by
  refine T.d_spend.okN sc_spend (fun vs H Q E h => ?_) (fun f cdv A outer s H vs Q E hr h => ?_)
  · obtain ⟨b, dx, d, n, rfl, _⟩ := h
    rfl
  obtain ⟨b, dx, d, n, rfl, hb, qE, q⟩ := h
  have tkd : L2N.Takes (cxOf (L2N.CX P w) P w K mg base ["budget", "depth"] "spend" (defScope s_spend) f cdv A outer s H E) (fun cls d _ H => E cls d H) := L2N.takes_of rfl rfl rfl rfl
  refine ⟨_, pss_cons (ps_if (PW.pt (pw_or (pt_cmpR op_eq (pe_fld (pv 0) rfl) pe_int (nomark _)) (pw_or1 (pt_cmpR op_gt (pv 1) (pe_k T.k_DEEPEST) (nomark _)))))
      (pss_one (L2N.ps_raise rfl tkd (pmk_own0 PySem.F.excBase_ValueError T.tl.x T.tl.g T.tl.k (raises_own T.tl.b T.tl.t) rfl))) pss_nil) (pss_one (ps_fldaug (pv 0) pe_int in_sub)), ?_⟩
  refine ⟨_, rfl, b, _, dx, _, _, rfl, hb, T.bg.c, T.bg.n "left" (by simp), lk_left, rfl, _, rfl, ite2 (fun c => ?_) (fun c => ?_)⟩
  · have c' := litT c
    exact qE (.inl (by omega))
  have c' := litF c
  refine ⟨_, rfl, _, _, rfl, rfl, _, rfl, ite2 (fun c2 => ?_) (fun c2 => ?_)⟩
  · have c2' := of_decide_eq_true c2
    exact qE (.inr (by omega))
  have c2' : ¬ (60 : Int) < (d : Int) := fun z => c2 (decide_eq_true z)
  refine ⟨_, rfl, b, _, dx, _, _, rfl, hb, T.bg.c, T.bg.n "left" (by simp), lk_left, _, _, rfl, rfl, _, _, hb, (by show 1 < 1000; decide), ?_⟩
  have e : ((n : Int) - 1) = ((n - 1 : Nat) : Int) := by omega
  rw [put_left, e]
  exact q (by omega)
/-! ### places_around, held, place_written -/
def spAround : Sp := fun vs H Q _ => ∃ n : Nat, vs = [vn n] ∧ n ≤ 1000000 ∧ ∀ H' r, Same H H' → ValsL H' r ((List.range n).map Val.arn) → Q (.ref r) H'
theorem sc_places_around : FnScope ["many", "k"] ["many"] (defScope s_places_around) := ⟨rfl, rfl, rfl, by decide +kernel, rfl, by decide +kernel, by decide +kernel⟩
theorem ok_places_around (T : Txt K mg a) : Cal P w K mg base CX0 1 "places_around" ["many"] spAround := by
  refine T.d_places_around.ok0 sc_places_around (fun vs H Q E h => ?_) (fun f cdv A outer s H vs Q E hr h => ?_)
  · obtain ⟨n, rfl, _⟩ := h
    rfl
  obtain ⟨n, rfl, hn, q⟩ := h
  refine ⟨_, (pss_one (ps_ret (pe_lc (own := [("k", 1)])  rfl sc_places_around.nd (pi_range1 rfl T.b_range (pa_cons (pv 0) pa_nil)) (blkOk_by (own := [("k", 1)]) (N := ["many", "k"]) (sc := defScope s_places_around) (by decide +kernel)) (fun _ _ _ _ _ => (pg_name (i := 1) sc_places_around.nd rfl (Or.inl rfl))) (fun _ _ _ _ _ => pts_nil) (fun _ _ _ _ _ => (pe_tup (pa_cons (pe_k T.k_AROUND) (pa_cons (pv 1) (pa_cons pe_non pa_nil)))))))), ?_⟩
  refine ⟨_, rfl, (n : Int), rfl, by omega, by omega, fun D nD => ?_⟩
  refine lc_range (lo := 0) (n := n) (fun i H' => Same H H' ∧ ∃ zs, H' D = some (.lst zs) ∧ ValsAt (L2.del H' D) zs ((List.range i).map Val.arn)) ⟨same_new nD _, [], upd_same, .nil⟩ ?_ ?_
  · rintro i H' hi ⟨sH, zs, hD, hV⟩
    refine ⟨rfl, _, rfl, l3le _ _ _, fun p np => ⟨zs, same_new np _ _ _ hD, ?_, same_upd nD (sH.trans (same_new np _)), zs ++ [.ref p], upd_same, ?_⟩⟩
    · have := hV.length
      rw [List.length_map, List.length_range] at this
      exact lt_line (by omega)
    · rw [List.range_succ, List.map_append, del_updS]
      refine (hV.sq (del_same (same_new np _)).sq).append (.cons (.arn ?_) .nil)
      rw [L2.del_ne (Ne.symm (ne_of_none hD np)), upd_same, Int.zero_add]
  · rintro H' ⟨sH, zs, hD, hV⟩
    exact q H' D sH ⟨zs, hD, hV.sq del_un⟩
/-- held: the place's own value, or a new one -/
def spHeld : Sp := fun vs H Q _ => ∃ (v : V) (t : Term) (l : Addr) (us : List V), vs = [v, .ref l] ∧ TermAt H v t ∧ H l = some (.lst us) ∧
  (kd t = 0 → ∃ u, us[nm t]? = some u ∧ Q u H) ∧ (kd t ≠ 0 → ∀ r, H r = none → Q (.ref r) (upd H r (.tup [.int 2, v, .ref l])))
theorem sc_held : FnScope ["part", "values"] ["part", "values"] (defScope s_held) := ⟨rfl, rfl, rfl, by decide +kernel, rfl, by decide +kernel, by decide +kernel⟩
theorem ok_held (T : Txt K mg a) : Cal P w K mg base CX0 1 "held" ["part", "values"] spHeld := by
  refine T.d_held.ok0 sc_held (fun vs H Q E h => ?_) (fun f cdv A outer s H vs Q E hr h => ?_)
  · obtain ⟨v, t, l, us, rfl, _⟩ := h
    rfl
  obtain ⟨v, t, l, us, rfl, ht, hl, q1, q2⟩ := h
  obtain ⟨a1, p1, vs1, rfl, h1, k1, l1⟩ := ht.open
  refine ⟨_, (pss_cons (ps_if (pt_cmpR op_eq (pe_ix ix_tup (pv 0) pe_int (fun _ _ => rfl)) (pe_k T.k_PLACE) (nomark _)) (pss_one (ps_ret (pe_ix ix_list (pv 1) (pe_ix ix_tup (pv 0) pe_int (fun _ _ => rfl)) (fun _ _ => rfl)))) pss_nil)
      (pss_one (ps_ret (pe_tup (pa_cons (pe_k T.k_HELD) (pa_cons (pv 0) (pa_cons (pv 1) pa_nil))))))), ?_⟩
  refine ⟨_, rfl, _, _, _, _, rfl, rfl, SqT.of h1, rfl, rfl, _, rfl, ite2 (fun c => ?_) (fun c => ?_)⟩
  · have c' := litT c
    obtain ⟨u, hu, q⟩ := q1 (by omega)
    exact ⟨_, rfl, _, rfl, _, _, _, _, rfl, rfl, SqT.of h1, rfl, l, us, _, u, rfl, rfl, SqL.of hl, atI_nat hu, q⟩
  · have c' := litF c
    exact ⟨_, rfl, _, rfl, l3le _ _ _, fun r nr => q2 (by omega) r nr⟩
def spPW : Sp := fun vs H Q _ => ∃ (v : V) (x : Val) (b : Nat) (hs : List Hole), vs = [v, vn b] ∧ ValAt H v x ∧ VOk hs b x ∧ (∀ t ws, x ≠ .hld t ws) ∧ ∀ H' v', Same H H' → TermAt H' v' (den hs b x) → Q v' H'
theorem sc_place_written : FnScope ["value", "binders"] ["value", "binders"] (defScope s_place_written) := ⟨rfl, rfl, rfl, by decide +kernel, rfl, by decide +kernel, by decide +kernel⟩
theorem ok_place_written (T : Txt K mg a) : Cal P w K mg base CX0 1 "place_written" ["value", "binders"] spPW := by
  refine T.d_place_written.ok0 sc_place_written (fun vs H Q E h => ?_) (fun f cdv A outer s H vs Q E hr h => ?_)
  · obtain ⟨v, x, b, hs, rfl, _⟩ := h
    rfl
  obtain ⟨v, x, b, hs, rfl, hv, hk, hn, q⟩ := h
  refine ⟨_, (pss_cons (ps_if (pt_cmpR op_eq (pe_ix ix_tup (pv 0) pe_int (fun _ _ => rfl)) (pe_k T.k_BOUND) (nomark _)) (pss_one (ps_ret (pe_tup (pa_cons (pe_k T.k_PLACE) (pa_cons (pe_op op_sub (pe_op op_sub (pv 1) pe_int) (pe_ix ix_tup (pv 0) pe_int (fun _ _ => rfl))) (pa_cons (pe_tup pa_nil) pa_nil)))))) pss_nil)
      (pss_one (ps_ret (pe_tup (pa_cons (pe_k T.k_PLACE) (pa_cons (pe_op op_add (pv 1) (pe_ix ix_tup (pv 0) pe_int (fun _ _ => rfl))) (pa_cons (pe_tup pa_nil) pa_nil))))))), ?_⟩
  cases hv with
  | @bnd b1 k h1 =>
    refine ⟨_, rfl, _, _, _, _, rfl, rfl, SqT.of h1, rfl, rfl, _, rfl, if_t rfl ?_⟩
    refine ⟨_, rfl, _, _, rfl, rfl, _, rfl, _, _, _, _, rfl, rfl, SqT.of h1, rfl, _, _, rfl, rfl, le_line (by simp), fun p np => ⟨l3le _ _ _, fun p2 np2 => ?_⟩⟩
    refine q _ _ ((same_new np _).trans (same_new np2 _)) (.mk (p := p) ?_ (same_new np2 _ _ _ upd_same) .nil)
    have hk' : k < b := hk
    rw [upd_same]
    show some (HO.tup [V.int 0, V.int ((b : Int) - 1 - (k : Int)), V.ref p]) = some (HO.tup [V.int ((0 : Nat) : Int), V.int ((b - 1 - k : Nat) : Int), V.ref p])
    rw [show ((b : Int) - 1 - (k : Int)) = ((b - 1 - k : Nat) : Int) by omega]
    rfl
  | @arn b1 k h1 =>
    refine ⟨_, rfl, _, _, _, _, rfl, rfl, SqT.of h1, rfl, rfl, _, rfl, if_f (by decide) ?_⟩
    refine ⟨_, rfl, _, rfl, _, _, _, _, rfl, rfl, SqT.of h1, rfl, _, _, rfl, rfl, le_line (by simp), fun p np => ⟨l3le _ _ _, fun p2 np2 => ?_⟩⟩
    refine q _ _ ((same_new np _).trans (same_new np2 _)) (.mk (p := p) ?_ (same_new np2 _ _ _ upd_same) .nil)
    rw [upd_same]
    show some (HO.tup [V.int 0, V.int ((b : Int) + (k : Int)), V.ref p]) = some (HO.tup [V.int ((0 : Nat) : Int), V.int ((b + k : Nat) : Int), V.ref p])
    rw [show ((b : Int) + (k : Int)) = ((b + k : Nat) : Int) by omega]
    rfl
  | hld h1 h2 h3 h4 => exact absurd rfl (hn _ _)
end
end HH
namespace HH
open PySem PySem.Spec PyProof.Rows L2 L2Y
open Pa01 (Term Hole Eqn)
theorem mask_at (seen : List Nat) : ∀ (l : List Term) (k i : Nat) (t : Term), l[i]? = some t → (Pa01.mask seen k l)[i]? = some (if seen.contains (k + i) = true then t else .gone)
  | [], _, _, _, h => by simp at h
  | a :: l, k, 0, t, h => by
    simp at h
    subst h
    simp [Pa01.mask]
  | a :: l, k, i + 1, t, h => by
    have := mask_at seen l (k + 1) i t (by simpa using h)
    simp only [Pa01.mask, List.getElem?_cons_succ]
    rw [this, show k + 1 + i = k + (i + 1) by omega]
/-- what a part of a sign or of an open hole comes to -/
theorem dn_part {hs : List Hole} {b i : Nat} {t p : Term} {vals : List Val} (hp : (pts t)[i]? = some p) (h : kd t = 1 ∨ (kd t = 3 ∧ ∃ x, hs[nm t]? = some x ∧ x.body = none)) :
    kd (dn hs b t vals) = kd t ∧ nm (dn hs b t vals) = nm t ∧ (pts (dn hs b t vals)).length = (pts t).length ∧
    (kd t = 1 → (pts (dn hs b t vals))[i]? = some (dn hs b p vals)) ∧
    (∀ x, kd t = 3 → hs[nm t]? = some x → (pts (dn hs b t vals))[i]? = some (if x.seen.contains i = true then dn hs b p vals else .gone)) := by
  rcases h with h | ⟨h, x, e, eb⟩
  · rw [sign_of h, dn_sign]
    have hp' : (pts t)[i]? = some p := hp
    refine ⟨rfl, rfl, List.length_map _, fun _ => ?_, fun x hx => absurd hx (by simp [kd])⟩
    show ((pts t).map fun p => dn hs b p vals)[i]? = _
    rw [List.getElem?_map, hp']
    rfl
  · rw [hole_of h, dn_hole e eb]
    refine ⟨rfl, rfl, by show (Pa01.mask _ _ _).length = _; rw [mask_length, List.length_map]; rfl, fun hx => absurd hx (by simp [kd]), fun y _ e2 => ?_⟩
    have e2' : hs[nm t]? = some y := e2
    rw [e] at e2'
    cases e2'
    have := mask_at x.seen ((pts t).map fun p => dn hs b p vals) 0 i (dn hs b p vals) (by rw [List.getElem?_map, hp]; rfl)
    rw [Nat.zero_add] at this
    exact this
theorem dn_len {hs : List Hole} {b : Nat} {t : Term} {vals : List Val} (h : kd t = 1 ∨ (kd t = 3 ∧ ∃ x, hs[nm t]? = some x ∧ x.body = none)) :
    kd (dn hs b t vals) = kd t ∧ nm (dn hs b t vals) = nm t ∧ (pts (dn hs b t vals)).length = (pts t).length := by
  rcases h with h | ⟨h, x, e, eb⟩
  · rw [sign_of h, dn_sign]
    exact ⟨rfl, rfl, List.length_map _⟩
  · rw [hole_of h, dn_hole e eb]
    exact ⟨rfl, rfl, by show (Pa01.mask _ _ _).length = _; rw [mask_length, List.length_map]; rfl⟩
theorem sees_at {x : Hole} {k : Nat} (h : k < x.many) : atI ((seesL x).map V.bl) (k : Int) = some (.bl (x.seen.contains k)) := atI_nat (by
  unfold seesL
  rw [List.getElem?_map, List.getElem?_map, List.getElem?_range h]
  rfl)
theorem pays_take {d : Nat} {l : List Term} {i n : Nat} {u : Term} (h : l[i]? = some u) : Option.bind (pays d (l.take i) n) (pay d u) = pays d (l.take (i + 1)) n := by
  rw [take_more h, pays_append]
  congr 1
  funext m
  exact (pays_one d u m).symm
theorem pays_none {d : Nat} {l : List Term} {i n : Nat} (h : pays d (l.take i) n = none) : pays d l n = none := by
  have := pays_append d (l.take i) (l.drop i) n
  rw [List.take_append_drop, h] at this
  exact this
theorem pays_len {d : Nat} : ∀ {l : List Term} {n m : Nat}, pays d l n = some m → l.length ≤ n
  | [], n, m, _ => Nat.zero_le _
  | t :: l, n, m, h => by
    simp only [pays] at h
    cases e : pay d t n with
    | none => rw [e] at h; cases h
    | some k =>
      rw [e] at h
      have h1 := pays_len (l := l) (n := k) (m := m) h
      rw [pay_is] at e
      split at e
      · rename_i hc
        cases e
        have := size_pos t
        rw [List.length_cons]
        omega
      · cases e
/-- no hole has more than six places -/
def Sm (hs : List Hole) : Prop := ∀ x ∈ hs, x.many ≤ 6
mutual
/-- no list of values is longer than B -/
def VL (B : Nat) : Val → Prop
  | .bnd _ => True
  | .arn _ => True
  | .hld _ vs => vs.length ≤ B ∧ VLs B vs
def VLs (B : Nat) : List Val → Prop
  | [] => True
  | v :: l => VL B v ∧ VLs B l
end
theorem vls_iff {B : Nat} : ∀ {l : List Val}, VLs B l ↔ ∀ v ∈ l, VL B v
  | [] => by simp [VLs]
  | a :: l => by simp [VLs, vls_iff (l := l)]
mutual
theorem vl_succ {B : Nat} : ∀ v : Val, VL B v → VL (B + 1) v
  | .bnd _, _ => trivial
  | .arn _, _ => trivial
  | .hld _ vs, h => ⟨Nat.le_succ_of_le h.1, vls_succ vs h.2⟩
theorem vls_succ {B : Nat} : ∀ l : List Val, VLs B l → VLs (B + 1) l
  | [], _ => trivial
  | v :: l, h => ⟨vl_succ v h.1, vls_succ l h.2⟩
end
def LOk (B : Nat) (vs : List Val) : Prop := vs.length ≤ B ∧ VLs B vs
theorem lok_held {B i : Nat} {vs ws : List Val} {t : Term} (h : LOk B vs) (e : vs[i]? = some (.hld t ws)) : LOk B ws := vls_iff.mp h.2 _ (List.mem_of_getElem? e)
theorem lok_fill {B : Nat} {vs : List Val} {ps : List Term} (h : LOk B vs) (hp : ps.length ≤ B) : LOk B (ps.map (held vs)) := by
  refine ⟨by rw [List.length_map]; exact hp, vls_iff.mpr fun v hv => ?_⟩
  obtain ⟨p, _, rfl⟩ := List.mem_map.mp hv
  cases p with
  | place i =>
    show VL B (vs.getD i _)
    rw [List.getD]
    cases e : vs[i]? with
    | none => trivial
    | some v => exact vls_iff.mp h.2 _ (List.mem_of_getElem? e)
  | _ => exact h
theorem lok_around {B n : Nat} (h : n ≤ B) : LOk B ((List.range n).map Val.arn) := by
  refine ⟨by rw [List.length_map, List.length_range]; exact h, vls_iff.mpr fun v hv => ?_⟩
  obtain ⟨k, _, rfl⟩ := List.mem_map.mp hv
  trivial
section
variable {P : Program} {w : World} {K : PySem.W.Frag} {mg : Str → Option Value} {base : Heap} {a : Ad}
/-! ### head_of -/
def spHead : Sp := fun vs H Q _ => ∃ (lh : Addr) (v : V) (lv : Addr) (hs : List Hole) (t : Term) (vals : List Val) (b B : Nat), vs = [.ref lh, v, .ref lv] ∧ HolesL H lh hs ∧ TermAt H v t ∧ ValsL H lv vals ∧ Bodies hs ∧ Sm hs ∧ SOk hs b t vals ∧ 6 ≤ B ∧ LOk B vals ∧
  ∀ H' r v' lv' t' vals', Same H H' → H' r = some (.tup [v', .ref lv']) → TermAt H' v' t' → ValsL H' lv' vals' → SOk hs b t' vals' → LOk B vals' → dn hs b t' vals' = dn hs b t vals →
    (kd t' = 0 → ∀ u ws, vals'[nm t']? ≠ some (.hld u ws)) → (kd t' = 3 → ∀ x, hs[nm t']? = some x → x.body = none) → Q (.ref r) H'
theorem sc_head_of : FnScope ["holes", "term", "values", "now", "known", "value", "part"] ["holes", "term", "values"] (defScope s_head_of) := ⟨rfl, rfl, rfl, by decide +kernel, rfl, by decide +kernel, by decide +kernel⟩
theorem ok_head_of (T : Txt K mg a) : Cal P w K mg base CX0 2 "head_of" ["holes", "term", "values"] spHead := by
  have c_held : Cal P w K mg base CX0 1 "held" ["part", "values"] spHeld := ok_held T
  refine T.d_head_of.ok0 sc_head_of (fun vs H Q E h => ?_) (fun f cdv A outer s H vs Q E hr h => ?_)
  · obtain ⟨lh, v, lv, hs, t, vals, b, B, rfl, _⟩ := h
    rfl
  obtain ⟨lh, v, lv, hs, t, vals, b, B, rfl, hh, ht, hv, hbod, hsm, hsok, hB, hlok, q⟩ := h
  refine ⟨_, (pss_cons (ps_set (i := 3) sc_head_of.nd rfl (Or.inl rfl) (pv 1))
      (pss_cons (ps_set (i := 4) sc_head_of.nd rfl (Or.inr rfl) (pv 2))
      (pss_cons (ps_while PassesOwn.never (PW.pt (pw_or (PW.pt (pw_and (pt_cmpR op_eq (pe_ix ix_tup (pv 3) pe_int (fun _ _ => rfl)) (pe_k T.k_PLACE) (nomark _)) (pw_and1 (pt_cmpR op_eq (pe_ix ix_tup (pe_ix ix_list (pv 4) (pe_ix ix_tup (pv 3) pe_int (fun _ _ => rfl)) (fun _ _ => rfl)) pe_int (fun _ _ => rfl)) (pe_k T.k_HELD) (nomark _))))) (pw_or1 (PW.pt (pw_and (pt_cmpR op_eq (pe_ix ix_tup (pv 3) pe_int (fun _ _ => rfl)) (pe_k T.k_HOLE) (nomark _)) (pw_and1 (pt_cmpR op_notN (pe_ix ix_tup (pe_ix ix_list (pv 0) (pe_ix ix_tup (pv 3) pe_int (fun _ _ => rfl)) (fun _ _ => rfl)) pe_int (fun _ _ => rfl)) pe_non (nomark _)))))))) (pss_one (ps_if (pt_cmpR op_eq (pe_ix ix_tup (pv 3) pe_int (fun _ _ => rfl)) (pe_k T.k_PLACE) (nomark _)) (pss_cons (ps_set (i := 5) sc_head_of.nd rfl (Or.inl rfl) (pe_ix ix_list (pv 4) (pe_ix ix_tup (pv 3) pe_int (fun _ _ => rfl)) (fun _ _ => rfl)))
      (pss_cons (ps_set (i := 3) sc_head_of.nd rfl (Or.inl rfl) (pe_ix ix_tup (pv 5) pe_int (fun _ _ => rfl)))
      (pss_one (ps_set (i := 4) sc_head_of.nd rfl (Or.inr rfl) (pe_ix ix_tup (pv 5) pe_int (fun _ _ => rfl)))))) (pss_cons (ps_set (i := 4) sc_head_of.nd rfl (Or.inr rfl) (pe_lc (own := [("part", 6)])  rfl sc_head_of.nd (pi_tup (pe_ix ix_tup (pv 3) pe_int (fun _ _ => rfl))) (blkOk_by (own := [("part", 6)]) (N := ["holes", "term", "values", "now", "known", "value", "part"]) (sc := defScope s_head_of) (by decide +kernel)) (fun _ _ _ _ _ => (pg_name (i := 6) sc_head_of.nd rfl (Or.inl rfl))) (fun _ _ _ _ _ => pts_nil) (fun _ _ _ _ _ => (pe_callC c_held (hr.mono (by omega)) rfl pass0 (pa_cons (pv 6) (pa_cons (pv 4) pa_nil))))))
      (pss_one (ps_set (i := 3) sc_head_of.nd rfl (Or.inl rfl) (pe_ix ix_tup (pe_ix ix_list (pv 0) (pe_ix ix_tup (pv 3) pe_int (fun _ _ => rfl)) (fun _ _ => rfl)) pe_int (fun _ _ => rfl))))))))
      (pss_one (ps_ret (pe_tup (pa_cons (pv 3) (pa_cons (pv 4) pa_nil)))))))), ?_⟩
  refine ⟨_, rfl, _, rfl, ?_⟩
  refine ⟨fun m σ H' => ∃ v1 lv1 t1 vals1 x, σ = [some (.ref lh), some v, some (.ref lv), some v1, some (.ref lv1), x, none] ∧ Same H H' ∧ TermAt H' v1 t1 ∧ ValsL H' lv1 vals1 ∧ SOk hs b t1 vals1 ∧ LOk B vals1 ∧ dn hs b t1 vals1 = dn hs b t vals ∧ m = mu hs t1 vals1,
    ⟨_, v, lv, t, vals, none, rfl, Same.refl _, ht, hv, hsok, hlok, rfl, rfl⟩, ?_⟩
  rintro m σ H' ⟨v1, lv1, t1, vals1, x, rfl, sH, ht1, ⟨us, hus, hva⟩, hs1, hl1, hdn, rfl⟩
  obtain ⟨a1, p1, vs1, rfl, h1, k1, l1⟩ := ht1.open
  obtain ⟨vsH, hvH, hpH⟩ := hh.sq sH.sq
  -- the loop ends
  have exit_ : (kd t1 = 0 → ∀ u ws, vals1[nm t1]? ≠ some (.hld u ws)) → (kd t1 = 3 → ∀ x, hs[nm t1]? = some x → x.body = none) →
      tRet (tTup (tCons (tVar 3) (tCons (tVar 4) tNil))) { nx := fun _ H' => Q .non H', rt := Q } [some (.ref lh), some v, some (.ref lv), some (.ref a1), some (.ref lv1), x, none] H' := by
    intro e1 e2
    refine ⟨_, rfl, _, rfl, l2le _ _, fun r nr => ?_⟩
    have sn := same_new nr (.tup [V.ref a1, V.ref lv1])
    exact q _ r (.ref a1) lv1 t1 vals1 (sH.trans sn) upd_same (ht1.tps sn.tps) ⟨us, sn _ _ hus, hva.sq sn.sq⟩ hs1 hl1 hdn e1 e2
  refine ⟨_, rfl, _, _, _, _, rfl, rfl, SqT.of h1, rfl, rfl, _, rfl, ite2 (fun c => ?_) (fun c => ?_)⟩
  · have c' := litT c
    have hk : kd t1 = 0 := by omega
    have hlt : nm t1 < vals1.length := by
      have := hs1.fit
      rw [place_of hk] at this
      exact this
    obtain ⟨val, hval⟩ : ∃ val, vals1[nm t1]? = some val := ⟨_, List.getElem?_eq_getElem hlt⟩
    obtain ⟨u, hu, hua⟩ := hva.at hval
    have out : (∀ u ws, val ≠ .hld u ws) → tRet (tTup (tCons (tVar 3) (tCons (tVar 4) tNil))) { nx := fun _ H' => Q .non H', rt := Q } [some (.ref lh), some v, some (.ref lv), some (.ref a1), some (.ref lv1), x, none] H' := fun hn =>
      exit_ (fun _ u ws z => by rw [hval] at z; exact hn u ws (Option.some.inj z)) (fun z => by omega)
    have n3 : decide (V.int (kd t1 : Nat) = V.int 3) = false := decide_eq_false fun z => by injection z with z; omega
    cases hua with
    | @bnd b1 k hb1 =>
      refine ⟨_, rfl, _, rfl, _, _, _, _, rfl, rfl, SqT.of h1, rfl, lv1, us, _, _, rfl, rfl, SqL.of hus, atI_nat hu, b1, _, _, _, rfl, rfl, SqT.of hb1, rfl, rfl, _, rfl, if_f (by decide) ?_⟩
      refine ⟨_, rfl, _, _, _, _, rfl, rfl, SqT.of h1, rfl, rfl, _, rfl, if_f n3 ?_⟩
      exact out fun u ws z => by cases z
    | @arn b1 k hb1 =>
      refine ⟨_, rfl, _, rfl, _, _, _, _, rfl, rfl, SqT.of h1, rfl, lv1, us, _, _, rfl, rfl, SqL.of hus, atI_nat hu, b1, _, _, _, rfl, rfl, SqT.of hb1, rfl, rfl, _, rfl, if_f (by decide) ?_⟩
      refine ⟨_, rfl, _, _, _, _, rfl, rfl, SqT.of h1, rfl, rfl, _, rfl, if_f n3 ?_⟩
      exact out fun u ws z => by cases z
    | @hld b1 l2 v2 t2 us2 ws2 hb1 hb2 hb3 hb4 =>
      refine ⟨_, rfl, _, rfl, _, _, _, _, rfl, rfl, SqT.of h1, rfl, lv1, us, _, _, rfl, rfl, SqL.of hus, atI_nat hu, b1, _, _, _, rfl, rfl, SqT.of hb1, rfl, rfl, _, rfl, if_t (by decide) ?_⟩
      refine ⟨_, fun σ' H'' h => h, ?_⟩
      refine ⟨_, rfl, _, _, _, _, rfl, rfl, SqT.of h1, rfl, rfl, _, rfl, if_t c ?_⟩
      refine ⟨_, rfl, _, rfl, _, _, _, _, rfl, rfl, SqT.of h1, rfl, lv1, us, _, _, rfl, rfl, SqL.of hus, atI_nat hu, ?_⟩
      refine ⟨_, rfl, b1, _, _, _, rfl, rfl, SqT.of hb1, rfl, ?_⟩
      refine ⟨_, rfl, b1, _, _, _, rfl, rfl, SqT.of hb1, rfl, ?_⟩
      have hs1' : SOk hs b (.place (nm t1)) vals1 := by rw [← place_of hk]; exact hs1
      obtain ⟨g1, g2⟩ := sok_held hs1' hval
      rw [← place_of hk] at g2
      have mm := mu_held (hs := hs) hval
      rw [← place_of hk] at mm
      exact ⟨_, mm, v2, l2, t2, ws2, _, rfl, sH, hb2, ⟨us2, hb3, hb4⟩, g1, lok_held hl1 hval, g2.symm.trans hdn, rfl⟩
  have c' := litF c
  refine ⟨_, rfl, _, _, _, _, rfl, rfl, SqT.of h1, rfl, rfl, _, rfl, ite2 (fun c2 => ?_) (fun c2 => ?_)⟩
  · have c2' := litT c2
    have hk : kd t1 = 3 := by omega
    have hf := hs1.fit
    rw [hole_of hk] at hf
    obtain ⟨hf1, hf2⟩ := hf
    obtain ⟨xh, eh, em⟩ := mans_at hf1
    obtain ⟨hv1, ehv, bH, sH2, bv, rfl, hb1, hb2, hb3⟩ := p2_at hpH eh
    have rd : ∀ {Q : VK}, Q bv H' → tOp (rIxT K) (tOp (rIxL K) (tVar 0) (tOp (rIxT K) (tVar 3) (tC (.int 1)))) (tC (.int 2)) [some (.ref lh), some v, some (.ref lv), some (.ref a1), some (.ref lv1), x, none] H' Q := fun {Q} hq =>
      ⟨_, rfl, _, rfl, _, _, _, _, rfl, rfl, SqT.of h1, rfl, lh, vsH, _, _, rfl, rfl, SqL.of hvH, atI_nat ehv, bH, _, _, _, rfl, rfl, SqT.of hb1, rfl, hq⟩
    cases eb : xh.body with
    | none =>
      rw [eb] at hb3
      have hb3' : bv = .non := hb3
      refine rd ⟨rfl, _, rfl, if_f (by rw [hb3']; rfl) ?_⟩
      exact exit_ (fun z => by omega) fun _ y ey => by rw [eh] at ey; cases ey; exact eb
    | some bd =>
      rw [eb] at hb3
      have hb3' : TermAt H' bv bd := hb3
      obtain ⟨ab, pb, vsb, rfl, _⟩ := hb3'.open
      refine rd ⟨rfl, _, rfl, if_t rfl ?_⟩
      refine ⟨_, fun σ' H'' h => h, ?_⟩
      refine ⟨_, rfl, _, _, _, _, rfl, rfl, SqT.of h1, rfl, rfl, _, rfl, if_f (Bool.eq_false_iff.mpr c) ?_⟩
      refine ⟨_, rfl, _, _, _, _, rfl, rfl, SqT.of h1, rfl, p1, rfl, ⟨_, SqT.of k1⟩, fun D nD => ?_⟩
      refine lc_tup (K := K) (a := p1) (xs := vs1) (fun i H'' => Same H' H'' ∧ ∃ zs, H'' D = some (.lst zs) ∧ ValsAt (L2.del H'' D) zs (((pts t1).take i).map (held vals1))) ⟨same_new nD _, [], upd_same, .nil⟩ (fun i H'' _ h => SqT.of (h.1 _ _ k1)) ?_ ?_
      · rintro i y H'' hy ⟨s2, zs, hD, hV⟩
        obtain ⟨t2, et, at2⟩ := l1.get hy
        have hlen : zs.length < sizeLine := by
          have := hV.length
          rw [List.length_map, List.length_take] at this
          have h6 : (pts t1).length ≤ 6 := by rw [← em]; exact hsm xh (List.mem_of_getElem? eh)
          exact lt_line (by omega)
        refine ⟨rfl, _, rfl, _, rfl, y, t2, lv1, us, rfl, at2.tps s2.tps, s2 _ _ hus, fun hk2 => ?_, fun hk2 r nr => ?_⟩
        · have hlt : nm t2 < vals1.length := by
            have := fits_iff.mp hf2 t2 (List.mem_of_getElem? et)
            rw [place_of hk2] at this
            exact this
          obtain ⟨u, hu, hua⟩ := hva.at (List.getElem?_eq_getElem hlt)
          refine ⟨u, hu, zs, hD, hlen, same_upd nD s2, zs ++ [u], upd_same, ?_⟩
          rw [take_more et, List.map_append, del_updS]
          refine hV.append (.cons ?_ .nil)
          have e : held vals1 t2 = vals1[nm t2] := by
            cases t2 with
            | place i =>
              have hlt' : i < vals1.length := hlt
              show vals1.getD i _ = vals1[i]
              rw [List.getD, List.getElem?_eq_getElem hlt']
              rfl
            | _ => exact absurd hk2 (by simp [kd])
          rw [e]
          exact hua.sq (sq_del nD s2)
        · have s3 := same_new nr (.tup [V.int 2, y, V.ref lv1])
          refine ⟨zs, s3 _ _ hD, hlen, same_upd nD (s2.trans s3), zs ++ [.ref r], upd_same, ?_⟩
          rw [take_more et, List.map_append, del_updS]
          refine (hV.sq (del_same s3).sq).append (.cons ?_ .nil)
          have e : held vals1 t2 = .hld t2 vals1 := by cases t2 <;> first | rfl | exact absurd rfl hk2
          rw [e]
          have k := sq_del nD (s2.trans s3)
          refine .hld ?_ (at2.tps k.t) (k.l _ _ hus) (hva.sq k)
          rw [L2.del_ne (Ne.symm (ne_of_none hD nr)), upd_same]
      · rintro H'' ⟨s2, zs, hD, hV⟩
        rw [l1.length, List.take_length] at hV
        refine ⟨_, rfl, _, rfl, _, _, _, _, rfl, rfl, SqT.of (s2 _ _ h1), rfl, lh, vsH, _, _, rfl, rfl, SqL.of (s2 _ _ hvH), atI_nat ehv, bH, _, _, _, rfl, rfl, SqT.of (s2 _ _ hb1), rfl, ?_⟩
        have hs1' : SOk hs b (.hole (nm t1) (pts t1)) vals1 := by rw [← hole_of hk]; exact hs1
        obtain ⟨g1, g2⟩ := sok_fill hbod hs1' eh eb
        rw [← hole_of hk] at g2
        have cl := hs1'.ok2.1 xh bd eh eb
        have mm := mu_fill (ps := pts t1) (vs := vals1) eh eb cl
        rw [← hole_of hk] at mm
        exact ⟨_, mm, _, D, bd, (pts t1).map (held vals1), _, rfl, sH.trans s2, hb3'.tps s2.tps, ⟨zs, hD, hV.sq del_un⟩, g1, lok_fill hl1 (by have : (pts t1).length ≤ 6 := (by rw [← em]; exact hsm xh (List.mem_of_getElem? eh)); omega), g2.symm.trans hdn, rfl⟩
  · have c2' := litF c2
    exact exit_ (fun z => by omega) fun z => by omega
end
end HH
namespace HH
open PySem PySem.Spec PyProof.Rows L2 L2Y
open Pa01 (Term Hole Eqn)
theorem kp_new {x D : Addr} {H H' : Hp} {o : HO} (k : Kp x H H') (n : H D = none) : Kp x H (upd H' D o) := fun b u h hb => by
  rw [upd_ne (ne_of_none h n)]
  exact k b u h hb
theorem kp_free {x D : Addr} {H H' : Hp} {C dx : Addr} {fs : List (Str × V)} (k : Kp x H H') (hx : H' x = some (.ins C dx fs)) (n : H' D = none) : H D = none := by
  cases e : H D with
  | none => rfl
  | some o =>
    by_cases h : D = x
    · rw [h, hx] at n; cases n
    · rw [k D o e h] at n; cases n
theorem bind_of {p : Term} (h : kd p = 2) : ∃ u, p = .bind u := by cases p <;> simp_all [kd]
theorem pay_le {d : Nat} {t : Term} {m m' : Nat} (h : pay d t m = some m') : m' ≤ m := by
  rw [pay_is] at h
  split at h
  · cases h; omega
  · cases h
theorem pays_le {d : Nat} : ∀ {l : List Term} {m m' : Nat}, pays d l m = some m' → m' ≤ m
  | [], m, m', h => by simp only [pays] at h; cases h; exact Nat.le_refl _
  | t :: l, m, m', h => by
    simp only [pays] at h
    cases e : pay d t m with
    | none => rw [e] at h; cases h
    | some k =>
      rw [e] at h
      have := pays_le (l := l) (m := k) (m' := m') h
      have := pay_le e
      omega
section
variable {P : Program} {w : World} {K : PySem.W.Frag} {mg : Str → Option Value} {base : Heap} {a : Ad}
/-! ### term_written, parts_written -/
def spTW (a : Ad) (n : Nat) : Sp := fun vs H Q E => ∃ (lh b dx : Addr) (v : V) (lv : Addr) (hs : List Hole) (t : Term) (vals : List Val) (bd d m B : Nat),
  vs = [.ref lh, .ref b, v, .ref lv, vn bd, vn d] ∧ HolesL H lh hs ∧ BgAt a.bg H b dx m ∧ TermAt H v t ∧ ValsL H lv vals ∧ Bodies hs ∧ Sm hs ∧ SOk hs bd t vals ∧ 6 ≤ B ∧ LOk B vals ∧ B + n ≤ 1000000 ∧ 61 ≤ d + n ∧ m ≤ 2000 ∧
  (pay d (dn hs bd t vals) m = none → ∀ H', Kp b H H' → E (.ref a.tl) none H') ∧
  (∀ m', pay d (dn hs bd t vals) m = some m' → ∀ H' v', Kp b H H' → BgAt a.bg H' b dx m' → TermAt H' v' (dn hs bd t vals) → Q v' H')
def spPar (a : Ad) (n : Nat) : Sp := fun vs H Q E => ∃ (lh b dx : Addr) (v : V) (lv : Addr) (hs : List Hole) (t : Term) (vals : List Val) (bd d m B : Nat),
  vs = [.ref lh, .ref b, v, .ref lv, vn bd, vn d] ∧ HolesL H lh hs ∧ BgAt a.bg H b dx m ∧ TermAt H v t ∧ ValsL H lv vals ∧ Bodies hs ∧ Sm hs ∧ SOk hs bd t vals ∧ 6 ≤ B ∧ LOk B vals ∧ B + n ≤ 1000000 ∧ 61 ≤ d + 1 + n ∧ m ≤ 2000 ∧
  (kd t = 1 ∨ (kd t = 3 ∧ ∃ x, hs[nm t]? = some x ∧ x.body = none)) ∧
  (pays (d + 1) (pts (dn hs bd t vals)) m = none → ∀ H', Kp b H H' → E (.ref a.tl) none H') ∧
  (∀ m', pays (d + 1) (pts (dn hs bd t vals)) m = some m' → ∀ H' r us, Kp b H H' → BgAt a.bg H' b dx m' → H' r = some (.tup us) → TermsAt H' us (pts (dn hs bd t vals)) → Q (.ref r) H')
theorem sc_parts_written : FnScope ["holes", "budget", "term", "values", "binders", "depth", "found", "k", "part"] ["holes", "budget", "term", "values", "binders", "depth"] (defScope s_parts_written) := ⟨rfl, rfl, rfl, by decide +kernel, rfl, by decide +kernel, by decide +kernel⟩
theorem ok_parts_written (T : Txt K mg a) {n : Nat} (c_term_written : Cal P w K mg base (L2N.CX P w) (2 * n + 3) "term_written" ["holes", "budget", "term", "values", "binders", "depth"] (spTW a n)) :
    Cal P w K mg base (L2N.CX P w) (2 * n + 4) "parts_written" ["holes", "budget", "term", "values", "binders", "depth"] (spPar a n) := by
  have c_spend : Cal P w K mg base (L2N.CX P w) 1 "spend" ["budget", "depth"] (spSpend a) := ok_spend T
  refine T.d_parts_written.okN sc_parts_written (fun vs H Q E h => ?_) (fun f cdv A outer s H vs Q E hr h => ?_)
  · obtain ⟨lh, b, dx, v, lv, hs, t, vals, bd, d, m, B, rfl, _⟩ := h
    rfl
  obtain ⟨lh, b, dx, v, lv, hs, t, vals, bd, d, m, B, rfl, hh, hb, ht, hv, hbod, hsm, hsok, hB, hlok, hBn, hdn, hm, hk, qE, q⟩ := h
  have tkd : L2N.Takes (cxOf (L2N.CX P w) P w K mg base ["holes", "budget", "term", "values", "binders", "depth", "found", "k", "part"] "parts_written" (defScope s_parts_written) f cdv A outer s H E) (fun cls d _ H => E cls d H) := L2N.takes_of rfl rfl rfl rfl
  obtain ⟨a1, p1, vs1, rfl, h1, k1, l1⟩ := ht.open
  refine ⟨_, (pss_cons (ps_set (i := 6) sc_parts_written.nd rfl (Or.inl rfl) (pe_lst pa_nil))
      (pss_cons (ps_for (L2.passes_of rfl) rfl (pi_enumT rfl T.b_enumerate (pa_cons (pe_ix ix_tup (pv 2) pe_int (fun _ _ => rfl)) pa_nil)) (pg_tup rfl (pgs_cons (pg_name (i := 7) sc_parts_written.nd rfl (Or.inl rfl)) (pgs_cons (pg_name (i := 8) sc_parts_written.nd rfl (Or.inl rfl)) pgs_nil))) (pss_one (ps_if (PW.pt (pw_and (pt_cmpR op_eq (pe_ix ix_tup (pv 2) pe_int (fun _ _ => rfl)) (pe_k T.k_HOLE) (nomark _)) (pw_and1 (pt_not (pt_val (pe_ix ix_tup (pe_ix ix_tup (pe_ix ix_list (pv 0) (pe_ix ix_tup (pv 2) pe_int (fun _ _ => rfl)) (fun _ _ => rfl)) pe_int (fun _ _ => rfl)) (pv 7) (fun _ _ => rfl))))))) (pss_cons (ps_expr (pe_callC c_spend (hr.mono (by omega)) rfl (passN tkd) (pa_cons (pv 1) (pa_cons (pe_op op_add (pv 5) pe_int) pa_nil))))
      (pss_one (ps_expr (pe_bm PySem.F.plainAttrs_list PySem.F.slot_list_append PySem.F.type_list_append mt_append (pv 6) (pa_cons (pe_tup (pa_cons (pe_k T.k_GONE) (pa_cons pe_int (pa_cons (pe_tup pa_nil) pa_nil)))) pa_nil))))) (pss_one (ps_expr (pe_bm PySem.F.plainAttrs_list PySem.F.slot_list_append PySem.F.type_list_append mt_append (pv 6) (pa_cons (pe_callC c_term_written (hr.mono (by omega)) rfl (passN tkd) (pa_cons (pv 0) (pa_cons (pv 1) (pa_cons (pv 8) (pa_cons (pv 3) (pa_cons (pv 4) (pa_cons (pe_op op_add (pv 5) pe_int) pa_nil))))))) pa_nil)))))))
      (pss_one (ps_ret (pe_callTy call_tuple_of rfl T.b_tuple (by decide +kernel) (pa_cons (pv 6) pa_nil)))))), ?_⟩
  obtain ⟨U1, U2, U3⟩ := dn_len (b := bd) (vals := vals) hk
  refine ⟨le_line (by simp), fun D nD => ?_⟩
  have s0 := same_new nD (.lst [])
  have fitp : ∀ p ∈ pts t, SOk hs bd p vals := by
    intro p hp
    rcases hk with hk | ⟨hk, _⟩
    · have f1 := hsok.fit
      have f2 := hsok.ok2
      rw [sign_of hk] at f1 f2
      exact ⟨fits_iff.mp f1 p hp, ok2s_iff.mp f2 p hp, hsok.vals⟩
    · have f1 := hsok.fit
      have f2 := hsok.ok2
      rw [hole_of hk] at f1 f2
      exact ⟨fits_iff.mp f1.2 p hp, ok2s_iff.mp f2.2 p hp, hsok.vals⟩
  refine ⟨_, rfl, _, _, _, _, rfl, rfl, SqT.of (s0 _ _ h1), rfl, p1, vs1, rfl, SqT.of (s0 _ _ k1), for_it (walk_enumT (xs := vs1)) (fun i σ H' => (∃ x y, σ = [some (.ref lh), some (.ref b), some (.ref a1), some (.ref lv), some (vn bd), some (vn d), some (.ref D), x, y]) ∧
      ∃ m1 zs, pays (d + 1) ((pts (dn hs bd t vals)).take i) m = some m1 ∧ Kp b H H' ∧ BgAt a.bg H' b dx m1 ∧ H' D = some (.lst zs) ∧ TermsAt H' zs ((pts (dn hs bd t vals)).take i))
    ⟨⟨_, _, rfl⟩, m, [], rfl, s0.kp, s0 _ _ hb, upd_same, .nil⟩ (fun i σ H' _ h => ?_) ?_ ?_⟩
  · obtain ⟨_, m1, zs, _, kp, _⟩ := h
    exact SqT.of (kp.tps hb _ _ k1)
  · rintro i x σ H1 H2 hi ⟨⟨x0, y0, rfl⟩, m1, zs, hp, kp, hb1, hD, hT⟩ ⟨Tt, u1, u2, rfl, nT, rfl, e1, hx⟩
    cases e1
    obtain ⟨t1, et, at1⟩ := l1.get hx
    have sT := same_new nT (.tup [vn i, u2])
    have sq1 := (kp.sq hb).trans sT.sq
    have ct := dn_part (b := bd) (vals := vals) et hk
    obtain ⟨_, _, _, ct1, ct3⟩ := ct
    have hlen : zs.length < sizeLine := by
      have := hT.length
      have := pays_len hp
      exact lt_line (by omega)
    have hm1 := pays_le hp
    -- what goes on when u is the next part
    have next : ∀ (u : Term) (H3 : Hp) (v3 : V) (m2 : Nat), (pts (dn hs bd t vals))[i]? = some u → pay (d + 1) u m1 = some m2 → Kp b (upd H1 Tt (.tup [vn i, u2])) H3 → BgAt a.bg H3 b dx m2 → TermAt H3 v3 u →
        ((∃ x y, [some (.ref lh), some (.ref b), some (.ref a1), some (.ref lv), some (vn bd), some (vn d), some (.ref D), some (V.int i), some u2] = [some (.ref lh), some (.ref b), some (.ref a1), some (.ref lv), some (vn bd), some (vn d), some (.ref D), x, y]) ∧
        ∃ m1 zs', pays (d + 1) ((pts (dn hs bd t vals)).take (i + 1)) m = some m1 ∧ Kp b H (upd H3 D (.lst (zs ++ [v3]))) ∧ BgAt a.bg (upd H3 D (.lst (zs ++ [v3]))) b dx m1 ∧ upd H3 D (.lst (zs ++ [v3])) D = some (.lst zs') ∧ TermsAt (upd H3 D (.lst (zs ++ [v3]))) zs' ((pts (dn hs bd t vals)).take (i + 1))) := by
      intro u H3 v3 m2 eu pu k3 b3 t3
      have hDb : D ≠ b := fun z => by rw [z] at nD; rw [hb] at nD; cases nD
      have hD3 : H3 D = some (.lst zs) := k3 _ _ (sT _ _ hD) hDb
      refine ⟨⟨_, _, rfl⟩, m2, zs ++ [v3], ?_, kp_new (kp.trans (sT.kp.trans k3)) nD, ?_, upd_same, ?_⟩
      · rw [← pays_take eu, hp]
        exact pu
      · show upd H3 D _ b = _
        rw [upd_ne (Ne.symm hDb)]
        exact b3
      · rw [take_more eu]
        exact (((hT.tps sT.tps).tps (k3.tps (sT _ _ hb1))).append (.cons t3 .nil)).tps (tps_lst hD3)
    have fail : ∀ (u : Term), (pts (dn hs bd t vals))[i]? = some u → pay (d + 1) u m1 = none → ∀ H', Kp b (upd H1 Tt (.tup [vn i, u2])) H' → E (.ref a.tl) none H' := by
      intro u eu pu H' k
      refine qE (pays_none (i := i + 1) ?_) H' (kp.trans (sT.kp.trans k))
      rw [← pays_take eu, hp]
      exact pu
    have callP : ∀ Q' : VK, (pts (dn hs bd t vals))[i]? = some (dn hs bd t1 vals) → (∀ H3 v3 m2, pay (d + 1) (dn hs bd t1 vals) m1 = some m2 → Kp b (upd H1 Tt (.tup [vn i, u2])) H3 → BgAt a.bg H3 b dx m2 → TermAt H3 v3 (dn hs bd t1 vals) → Q' v3 H3) →
        spTW a n [.ref lh, .ref b, u2, .ref lv, vn bd, vn (d + 1)] (upd H1 Tt (.tup [vn i, u2])) Q' E := fun Q' eu hq =>
      ⟨lh, b, dx, u2, lv, hs, t1, vals, bd, d + 1, m1, B, rfl, hh.sq sq1, sT _ _ hb1, at1.tps sq1.t, hv.sq sq1, hbod, hsm, fitp t1 (List.mem_of_getElem? et), hB, hlok, hBn, hdn, by omega, fun z => fail _ eu z, fun m' z H' v' k1 k2 k3 => hq H' v' m' z k1 k2 k3⟩
    have hDb : D ≠ b := fun z => by rw [z] at nD; rw [hb] at nD; cases nD
    refine ⟨Tt, _, rfl, SqT.of upd_same, rfl, _, _, rfl, _, _, rfl, rfl, ?_⟩
    refine ⟨_, rfl, _, _, _, _, rfl, rfl, SqT.of (sq1.t _ _ h1), rfl, rfl, _, rfl, ite2 (fun c => ?_) (fun c => ?_)⟩
    · have c' := litT c
      have hk3 : kd t = 3 := by omega
      rcases hk with hk | ⟨_, xh, eh, eb⟩
      · omega
      obtain ⟨vsH, hvH, hpH⟩ := hh.sq sq1
      obtain ⟨hv1, ehv, bH, sH2, bv, rfl, hb2, hb3, hb4⟩ := p2_at hpH eh
      have many : (pts t).length = xh.many := by
        have f1 := hsok.fit
        rw [hole_of hk3] at f1
        obtain ⟨y, ey, em⟩ := mans_at f1.1
        rw [eh] at ey
        cases ey
        exact em.symm
      have hi' : i < xh.many := by
        rw [← many]
        exact (List.getElem?_eq_some_iff.mp et).1
      have ct := ct3 xh hk3 eh
      refine ⟨_, rfl, _, rfl, _, _, _, _, rfl, rfl, SqT.of (sq1.t _ _ h1), rfl, lh, vsH, _, _, rfl, rfl, SqL.of hvH, atI_nat ehv, bH, _, _, _, rfl, rfl, SqT.of hb2, rfl, _, rfl, sH2, _, _, _, rfl, rfl, SqT.of hb3, sees_at hi', _, rfl, ?_⟩
      cases es : xh.seen.contains i with
      | false =>
        rw [es, if_neg (by decide)] at ct
        refine if_t rfl ?_
        refine ⟨_, rfl, _, rfl, _, _, rfl, rfl, b, dx, d + 1, m1, rfl, sT _ _ hb1, fun z => ?_, fun z => ?_⟩
        · refine fail _ ct ?_ _ Kp.refl
          rw [pay_eq, if_pos z]
        · have pu : pay (d + 1) .gone m1 = some (m1 - 1) := by rw [pay_eq, if_neg z]; rfl
          have k3 : Kp b (upd H1 Tt (.tup [vn i, u2])) (upd (upd H1 Tt (.tup [vn i, u2])) b (.ins a.bg dx [("left", vn (m1 - 1))])) := kp_upd
          refine ⟨_, rfl, .inl ⟨rfl, _, SqL.of (k3 _ _ (sT _ _ hD) hDb)⟩, le_line (by simp), fun p np => ⟨l3le _ _ _, fun p2 np2 => ?_⟩⟩
          have s4 := (same_new np (.tup [])).trans (same_new np2 (.tup [V.int 4, V.int 0, V.ref p]))
          refine ⟨D, zs, _, rfl, rfl, s4 _ _ (k3 _ _ (sT _ _ hD) hDb), hlen, next .gone _ (.ref p2) _ ct pu (k3.trans s4.kp) (s4 _ _ upd_same) (.mk (p := p) upd_same (same_new np2 _ _ _ upd_same) .nil)⟩
      | true =>
        rw [es, if_pos rfl] at ct
        refine if_f rfl ?_
        exact ⟨_, rfl, .inl ⟨rfl, _, SqL.of (sT _ _ hD)⟩, _, rfl, _, rfl, _, rfl, _, rfl, _, rfl, _, rfl, _, _, rfl, rfl, callP _ ct (fun H3 v3 m2 pu k3 b3 t3 => ⟨D, zs, _, rfl, rfl, k3 _ _ (sT _ _ hD) hDb, hlen, next _ _ _ _ ct pu k3 b3 t3⟩)⟩
    · have c' := litF c
      have hk1 : kd t = 1 := by
        rcases hk with hk | ⟨hk, _⟩
        · exact hk
        · omega
      have ct := ct1 hk1
      exact ⟨_, rfl, .inl ⟨rfl, _, SqL.of (sT _ _ hD)⟩, _, rfl, _, rfl, _, rfl, _, rfl, _, rfl, _, rfl, _, _, rfl, rfl, callP _ ct (fun H3 v3 m2 pu k3 b3 t3 => ⟨D, zs, _, rfl, rfl, k3 _ _ (sT _ _ hD) hDb, hlen, next _ _ _ _ ct pu k3 b3 t3⟩)⟩
  · rintro σ H' ⟨⟨x0, y0, rfl⟩, m1, zs, hp, kp, hb1, hD, hT⟩
    have e : vs1.length = (pts (dn hs bd t vals)).length := by rw [l1.length, U3]
    rw [e, List.take_length] at hp hT
    refine ⟨_, rfl, D, zs, rfl, .inl ⟨SqL.of hD, fun r nr => ?_⟩⟩
    have s3 := same_new nr (.tup zs)
    exact q m1 hp _ r zs (kp.trans s3.kp) (s3 _ _ hb1) upd_same (hT.tps s3.tps)
end
end HH
namespace HH
open PySem PySem.Spec PyProof.Rows L2 L2Y
open Pa01 (Term Hole Eqn)
theorem den_place {hs : List Hole} {b : Nat} {v : Val} (h : ∀ t ws, v ≠ .hld t ws) : pts (den hs b v) = [] := by
  cases v with
  | bnd k => rfl
  | arn k => rfl
  | hld t ws => exact absurd rfl (h t ws)
section
variable {P : Program} {w : World} {K : PySem.W.Frag} {mg : Str → Option Value} {base : Heap} {a : Ad}
theorem sc_term_written : FnScope ["holes", "budget", "term", "values", "binders", "depth", "now", "known", "inner"] ["holes", "budget", "term", "values", "binders", "depth"] (defScope s_term_written) := ⟨rfl, rfl, rfl, by decide +kernel, rfl, by decide +kernel, by decide +kernel⟩
theorem ok_term_writtenZ (T : Txt K mg a) : Cal P w K mg base (L2N.CX P w) 3 "term_written" ["holes", "budget", "term", "values", "binders", "depth"] (spTW a 0) := by
  have c_spend : Cal P w K mg base (L2N.CX P w) 1 "spend" ["budget", "depth"] (spSpend a) := ok_spend T
  have c_head_of : Cal P w K mg base CX0 2 "head_of" ["holes", "term", "values"] spHead := ok_head_of T
  refine T.d_term_written.okN sc_term_written (fun vs H Q E h => ?_) (fun f cdv A outer s H vs Q E hr h => ?_)
  · obtain ⟨lh, b, dx, v, lv, hs, t, vals, bd, d, m, B, rfl, _⟩ := h
    rfl
  obtain ⟨lh, b, dx, v, lv, hs, t, vals, bd, d, m, B, rfl, hh, hb, ht, hv, hbod, hsm, hsok, hB, hlok, hBn, hdn, hm, qE, q⟩ := h
  have tkd : L2N.Takes (cxOf (L2N.CX P w) P w K mg base ["holes", "budget", "term", "values", "binders", "depth", "now", "known", "inner"] "term_written" (defScope s_term_written) f cdv A outer s H E) (fun cls d _ H => E cls d H) := L2N.takes_of rfl rfl rfl rfl
  refine ⟨_, (pss_cons (ps_asg (pe_callC c_head_of (hr.mono (by omega)) rfl pass0 (pa_cons (pv 0) (pa_cons (pv 2) (pa_cons (pv 3) pa_nil)))) (pg_tup rfl (pgs_cons (pg_name (i := 6) sc_term_written.nd rfl (Or.inl rfl)) (pgs_cons (pg_name (i := 7) sc_term_written.nd rfl (Or.inl rfl)) pgs_nil))))
      (pss_cons (ps_expr (pe_callC c_spend (hr.mono (by omega)) rfl (passN tkd) (pa_cons (pv 1) (pa_cons (pv 5) pa_nil)))) pss_never)), ?_⟩
  refine ⟨_, rfl, _, rfl, _, rfl, lh, v, lv, hs, t, vals, bd, B, rfl, hh, ht, hv, hbod, hsm, hsok, hB, hlok, fun H1 r v1 lv1 t1 vals1 s1 hr1 ht1 hv1 hsok1 hlok1 hdn1 hp1 hh1 => ?_⟩
  refine ⟨r, _, rfl, SqT.of hr1, rfl, _, _, rfl, _, _, rfl, rfl, ?_⟩
  refine ⟨_, rfl, _, rfl, b, dx, d, m, rfl, s1 _ _ hb, fun z => ?_, fun z => absurd z (by omega)⟩
  exact qE (by rw [pay_eq, if_pos z]) _ s1.kp
theorem ok_term_written0 (T : Txt K mg a) {n : Nat} (c_parts_written : Cal P w K mg base (L2N.CX P w) (2 * n + 4) "parts_written" ["holes", "budget", "term", "values", "binders", "depth"] (spPar a n)) (c_term_written : Cal P w K mg base (L2N.CX P w) (2 * n + 3) "term_written" ["holes", "budget", "term", "values", "binders", "depth"] (spTW a n)) :
    Cal P w K mg base (L2N.CX P w) (2 * n + 5) "term_written" ["holes", "budget", "term", "values", "binders", "depth"] (spTW a (n + 1)) := by
  have c_spend : Cal P w K mg base (L2N.CX P w) 1 "spend" ["budget", "depth"] (spSpend a) := ok_spend T
  have c_head_of : Cal P w K mg base CX0 2 "head_of" ["holes", "term", "values"] spHead := ok_head_of T
  have c_place_written : Cal P w K mg base CX0 1 "place_written" ["value", "binders"] spPW := ok_place_written T
  refine T.d_term_written.okN sc_term_written (fun vs H Q E h => ?_) (fun f cdv A outer s H vs Q E hr h => ?_)
  · obtain ⟨lh, b, dx, v, lv, hs, t, vals, bd, d, m, B, rfl, _⟩ := h
    rfl
  obtain ⟨lh, b, dx, v, lv, hs, t, vals, bd, d, m, B, rfl, hh, hb, ht, hv, hbod, hsm, hsok, hB, hlok, hBn, hdn, hm, qE, q⟩ := h
  have tkd : L2N.Takes (cxOf (L2N.CX P w) P w K mg base ["holes", "budget", "term", "values", "binders", "depth", "now", "known", "inner"] "term_written" (defScope s_term_written) f cdv A outer s H E) (fun cls d _ H => E cls d H) := L2N.takes_of rfl rfl rfl rfl
  refine ⟨_, (pss_cons (ps_asg (pe_callC c_head_of (hr.mono (by omega)) rfl pass0 (pa_cons (pv 0) (pa_cons (pv 2) (pa_cons (pv 3) pa_nil)))) (pg_tup rfl (pgs_cons (pg_name (i := 6) sc_term_written.nd rfl (Or.inl rfl)) (pgs_cons (pg_name (i := 7) sc_term_written.nd rfl (Or.inl rfl)) pgs_nil))))
      (pss_cons (ps_expr (pe_callC c_spend (hr.mono (by omega)) rfl (passN tkd) (pa_cons (pv 1) (pa_cons (pv 5) pa_nil))))
      (pss_cons (ps_if (pt_cmpR op_eq (pe_ix ix_tup (pv 6) pe_int (fun _ _ => rfl)) (pe_k T.k_PLACE) (nomark _)) (pss_one (ps_ret (pe_callC c_place_written (hr.mono (by omega)) rfl pass0 (pa_cons (pe_ix ix_list (pv 7) (pe_ix ix_tup (pv 6) pe_int (fun _ _ => rfl)) (fun _ _ => rfl)) (pa_cons (pv 4) pa_nil))))) pss_nil)
      (pss_cons (ps_if (pt_cmpR op_eq (pe_ix ix_tup (pv 6) pe_int (fun _ _ => rfl)) (pe_k T.k_GONE) (nomark _)) (pss_one (ps_ret (pv 6))) pss_nil)
      (pss_cons (ps_if (pt_cmpR op_eq (pe_ix ix_tup (pv 6) pe_int (fun _ _ => rfl)) (pe_k T.k_BINDER) (nomark _)) (pss_cons (ps_set (i := 8) sc_term_written.nd rfl (Or.inl rfl) (pe_op op_cat (pe_lst (pa_cons (pe_tup (pa_cons (pe_k T.k_BOUND) (pa_cons (pv 4) (pa_cons pe_non pa_nil)))) pa_nil)) (pv 7)))
      (pss_one (ps_ret (pe_tup (pa_cons (pe_k T.k_BINDER) (pa_cons pe_int (pa_cons (pe_tup (pa_cons (pe_callC c_term_written (hr.mono (by omega)) rfl (passN tkd) (pa_cons (pv 0) (pa_cons (pv 1) (pa_cons (pe_ix ix_tup (pe_ix ix_tup (pv 6) pe_int (fun _ _ => rfl)) pe_int (fun _ _ => rfl)) (pa_cons (pv 8) (pa_cons (pe_op op_add (pv 4) pe_int) (pa_cons (pe_op op_add (pv 5) pe_int) pa_nil))))))) pa_nil)) pa_nil))))))) pss_nil)
      (pss_one (ps_ret (pe_tup (pa_cons (pe_ix ix_tup (pv 6) pe_int (fun _ _ => rfl)) (pa_cons (pe_ix ix_tup (pv 6) pe_int (fun _ _ => rfl)) (pa_cons (pe_callC c_parts_written (hr.mono (by omega)) rfl (passN tkd) (pa_cons (pv 0) (pa_cons (pv 1) (pa_cons (pv 6) (pa_cons (pv 7) (pa_cons (pv 4) (pa_cons (pv 5) pa_nil))))))) pa_nil))))))))))), ?_⟩
  refine ⟨_, rfl, _, rfl, _, rfl, lh, v, lv, hs, t, vals, bd, B, rfl, hh, ht, hv, hbod, hsm, hsok, hB, hlok, fun H1 r v1 lv1 t1 vals1 s1 hr1 ht1 hv1 hsok1 hlok1 hdn1 hp1 hh1 => ?_⟩
  refine ⟨r, _, rfl, SqT.of hr1, rfl, _, _, rfl, _, _, rfl, rfl, ?_⟩
  refine ⟨_, rfl, _, rfl, b, dx, d, m, rfl, s1 _ _ hb, fun z => qE (by rw [pay_eq, if_pos z]) _ s1.kp, fun z => ?_⟩
  rw [pay_eq, if_neg z] at qE
  rw [pay_eq, if_neg z] at q
  rw [← hdn1] at qE q
  -- the heap after spend
  have kb : Kp b H1 (upd H1 b (.ins a.bg dx [("left", vn (m - 1))])) := kp_upd
  have hb2 : BgAt a.bg (upd H1 b (.ins a.bg dx [("left", vn (m - 1))])) b dx (m - 1) := upd_same
  have k2 : Kp b H (upd H1 b (.ins a.bg dx [("left", vn (m - 1))])) := s1.kp.trans kb
  have sqb := kb.sq (s1 _ _ hb)
  have ht2 := ht1.tps sqb.t
  have hv2 := hv1.sq sqb
  have hh2 := (hh.sq s1.sq).sq sqb
  generalize upd H1 b (.ins a.bg dx [("left", vn (m - 1))]) = H2 at *
  obtain ⟨a1, p1, vs1, rfl, h1, k1, l1⟩ := ht2.open
  refine ⟨_, rfl, _, _, _, _, rfl, rfl, SqT.of h1, rfl, rfl, _, rfl, ite2 (fun c => ?_) (fun c => ?_)⟩
  · have c' := litT c
    have hk : kd t1 = 0 := by omega
    have hlt : nm t1 < vals1.length := by
      have := hsok1.fit
      rw [place_of hk] at this
      exact this
    obtain ⟨val, hval⟩ : ∃ val, vals1[nm t1]? = some val := ⟨_, List.getElem?_eq_getElem hlt⟩
    obtain ⟨us, hus, hva⟩ := hv2
    obtain ⟨u, hu, hua⟩ := hva.at hval
    have ed : dn hs bd t1 vals1 = den hs bd val := by
      have := dn_place (hs := hs) (b := bd) hval
      rw [← place_of hk] at this
      exact this
    have nh : ∀ u ws, val ≠ .hld u ws := fun u ws z => hp1 hk u ws (by rw [hval, z])
    rw [ed, den_place nh] at q
    refine ⟨_, rfl, _, rfl, _, _, _, _, rfl, rfl, SqT.of h1, rfl, lv1, us, _, _, rfl, rfl, SqL.of hus, atI_nat hu, _, rfl, u, val, bd, hs, rfl, hua, voks_iff.mp hsok1.vals _ (List.mem_of_getElem? hval), nh, fun H3 v3 s3 t3 => ?_⟩
    exact q (m - 1) rfl H3 v3 (k2.trans s3.kp) (s3 _ _ hb2) t3
  have c' := litF c
  refine ⟨_, rfl, _, _, _, _, rfl, rfl, SqT.of h1, rfl, rfl, _, rfl, ite2 (fun c2 => ?_) (fun c2 => ?_)⟩
  · have c2' := litT c2
    have hk : t1 = .gone := gone_of (by omega)
    subst hk
    exact ⟨_, rfl, q (m - 1) rfl H2 _ k2 hb2 ht2⟩
  have c2' := litF c2
  refine ⟨_, rfl, _, _, _, _, rfl, rfl, SqT.of h1, rfl, rfl, _, rfl, ite2 (fun c3 => ?_) (fun c3 => ?_)⟩
  · have c3' := litT c3
    obtain ⟨u, rfl⟩ := bind_of (p := t1) (by omega)
    have ed := dn_bind hbod (t := u) hsok1.vals
    rw [ed] at q qE
    have e1 : pts (.bind (dn hs (bd + 1) u (.bnd bd :: vals1))) = [dn hs (bd + 1) u (.bnd bd :: vals1)] := rfl
    rw [e1, pays_one] at q qE
    obtain ⟨us, hus, hva⟩ := hv2
    obtain ⟨vu, evu, avu⟩ := l1.at (i := 0) (t := u) rfl
    have hlu := hva.length
    refine ⟨_, rfl, l3le _ _ _, fun p2 np2 => ⟨l1le _, fun p3 np3 => ⟨_, rfl, p3, lv1, _, us, rfl, rfl, upd_same, ?_, ?_, fun p4 np4 => ?_⟩⟩⟩
    · exact ((same_new np2 _).trans (same_new np3 _)) _ _ hus
    · exact le_line (by have := hlok1.1; show 1 + us.length ≤ _; omega)
    have s3 := ((same_new np2 (.tup [V.int 0, vn bd, V.non])).trans (same_new np3 (.lst [V.ref p2]))).trans (same_new np4 (.lst ([V.ref p2] ++ us)))
    refine ⟨_, rfl, _, rfl, _, rfl, _, _, _, _, rfl, rfl, SqT.of (s3 _ _ h1), rfl, p1, _, _, _, rfl, rfl, SqT.of (s3 _ _ k1), atI_nat evu, _, rfl, _, rfl, _, _, rfl, rfl, _, rfl, _, _, rfl, rfl, ?_⟩
    refine ⟨lh, b, dx, vu, p4, hs, u, .bnd bd :: vals1, bd + 1, d + 1, m - 1, B + 1, rfl, hh2.sq s3.sq, s3 _ _ hb2, avu.tps s3.tps, ⟨_, upd_same, ?_⟩, hbod, hsm, ⟨?_, hsok1.ok2, ?_⟩, by omega, ⟨?_, trivial, vls_succ _ hlok1.2⟩, by omega, by omega, by omega, fun zz H4 k4 => ?_, fun m' zz H4 v4 k4 b4 t4 => ?_⟩
    · refine .cons (.bnd ?_) (hva.sq s3.sq)
      exact same_new np4 _ _ _ (same_new np3 _ _ _ upd_same)
    · exact hsok1.fit
    · exact ⟨Nat.lt_succ_self _, voks_succ _ hsok1.vals⟩
    · have := hlok1.1
      rw [List.length_cons]
      omega
    · exact qE zz _ (k2.trans (s3.kp.trans k4))
    · refine ⟨l1le _, fun p5 np5 => ⟨l3le _ _ _, fun p6 np6 => ?_⟩⟩
      have s5 := (same_new np5 (.tup [v4])).trans (same_new np6 (.tup [V.int 2, V.int 0, V.ref p5]))
      refine q m' zz _ _ (k2.trans (s3.kp.trans (k4.trans s5.kp))) (s5 _ _ b4) (.mk (p := p5) upd_same (same_new np6 _ _ _ upd_same) (.cons (t4.tps s5.tps) .nil))
  have c3' := litF c3
  have hk : kd t1 = 1 ∨ (kd t1 = 3 ∧ ∃ x, hs[nm t1]? = some x ∧ x.body = none) := by
    cases t1 with
    | place i => simp [kd] at c'
    | sign g ps => exact .inl rfl
    | bind u => simp [kd] at c3'
    | gone => simp [kd] at c2'
    | hole h ps =>
      obtain ⟨x, ex, _⟩ := mans_at hsok1.fit.1
      exact .inr ⟨rfl, x, ex, hh1 rfl x ex⟩
  obtain ⟨U1, U2, U3⟩ := dn_len (b := bd) (vals := vals1) hk
  refine ⟨_, rfl, _, _, _, _, rfl, rfl, SqT.of h1, rfl, _, rfl, _, _, _, _, rfl, rfl, SqT.of h1, rfl, _, rfl, _, rfl, _, rfl, _, rfl, _, rfl, _, rfl, ?_⟩
  refine ⟨lh, b, dx, .ref a1, lv1, hs, t1, vals1, bd, d, m - 1, B, rfl, hh2, hb2, ht2, hv2, hbod, hsm, hsok1, hB, hlok1, by omega, by omega, by omega, hk, fun zz H4 k4 => qE zz _ (k2.trans k4), fun m' zz H4 r4 us4 k4 b4 hr4 t4 => ?_⟩
  refine ⟨l3le _ _ _, fun p6 np6 => ?_⟩
  have s5 := same_new np6 (.tup [V.int (kd t1 : Nat), V.int (nm t1 : Nat), V.ref r4])
  refine q m' zz _ _ (k2.trans (k4.trans s5.kp)) (s5 _ _ b4) (.mk (p := r4) ?_ (s5 _ _ hr4) (t4.tps s5.tps))
  rw [upd_same, U1, U2]
theorem ok_term_written (T : Txt K mg a) : ∀ n : Nat, Cal P w K mg base (L2N.CX P w) (2 * n + 3) "term_written" ["holes", "budget", "term", "values", "binders", "depth"] (spTW a n)
  | 0 => ok_term_writtenZ T
  | n + 1 => ok_term_written0 T (ok_parts_written T (ok_term_written T n)) (ok_term_written T n)
/-! ### written, equation_written, holes_written -/
def spW (a : Ad) : Sp := fun vs H Q E => ∃ (lh b dx : Addr) (v : V) (hs : List Hole) (t : Term) (n m : Nat),
  vs = [.ref lh, .ref b, v, vn n] ∧ HolesL H lh hs ∧ BgAt a.bg H b dx m ∧ TermAt H v t ∧ Bodies hs ∧ Sm hs ∧ Fit (mans hs) n t ∧ Ok2 hs t ∧ n ≤ 900000 ∧ m ≤ 2000 ∧
  (pay 1 (Pa01.full hs t) m = none → ∀ H', Kp b H H' → E (.ref a.tl) none H') ∧
  (∀ m', pay 1 (Pa01.full hs t) m = some m' → ∀ H' v', Kp b H H' → BgAt a.bg H' b dx m' → TermAt H' v' (Pa01.full hs t) → Q v' H')
theorem sc_written : FnScope ["holes", "budget", "term", "places"] ["holes", "budget", "term", "places"] (defScope s_written) := ⟨rfl, rfl, rfl, by decide +kernel, rfl, by decide +kernel, by decide +kernel⟩
theorem ok_written (T : Txt K mg a) : Cal P w K mg base (L2N.CX P w) 124 "written" ["holes", "budget", "term", "places"] (spW a) := by
  have c_term_written : Cal P w K mg base (L2N.CX P w) 123 "term_written" ["holes", "budget", "term", "values", "binders", "depth"] (spTW a 60) := ok_term_written T 60
  have c_places_around : Cal P w K mg base CX0 1 "places_around" ["many"] spAround := ok_places_around T
  refine T.d_written.okN sc_written (fun vs H Q E h => ?_) (fun f cdv A outer s H vs Q E hr h => ?_)
  · obtain ⟨lh, b, dx, v, hs, t, n, m, rfl, _⟩ := h
    rfl
  obtain ⟨lh, b, dx, v, hs, t, n, m, rfl, hh, hb, ht, hbod, hsm, hfit, hok, hn, hm, qE, q⟩ := h
  have tkd : L2N.Takes (cxOf (L2N.CX P w) P w K mg base ["holes", "budget", "term", "places"] "written" (defScope s_written) f cdv A outer s H E) (fun cls d _ H => E cls d H) := L2N.takes_of rfl rfl rfl rfl
  refine ⟨_, (pss_one (ps_ret (pe_callC c_term_written (hr.mono (by omega)) rfl (passN tkd) (pa_cons (pv 0) (pa_cons (pv 1) (pa_cons (pv 2) (pa_cons (pe_callC c_places_around (hr.mono (by omega)) rfl pass0 (pa_cons (pv 3) pa_nil)) (pa_cons pe_int (pa_cons pe_int pa_nil))))))))), ?_⟩
  refine ⟨_, rfl, _, rfl, _, rfl, _, rfl, n, rfl, by omega, fun H1 r s1 v1 => ?_⟩
  rw [← dn_around (n := n)] at qE q
  refine ⟨lh, b, dx, v, r, hs, t, (List.range n).map Val.arn, 0, 1, m, 6 + n, rfl, hh.sq s1.sq, s1 _ _ hb, ht.tps s1.tps, v1, hbod, hsm, ⟨by rw [List.length_map, List.length_range]; exact hfit, hok, voks_around⟩, by omega, lok_around (by omega), by omega, by omega, hm, fun z H' k => qE z H' (s1.kp.trans k), fun m' z H' v' k b' t' => q m' z H' v' (s1.kp.trans k) b' t'⟩
/-- an equation that may be written -/
structure EqOk (hs : List Hole) (e : Eqn) : Prop where
  n : e.n ≤ 900000
  fs : Fit (mans hs) e.n e.s
  ft : Fit (mans hs) e.n e.t
  os : Ok2 hs e.s
  ot : Ok2 hs e.t
def fullE (hs : List Hole) (e : Eqn) : Eqn := ⟨e.n, Pa01.full hs e.s, Pa01.full hs e.t⟩
def spEW (a : Ad) : Sp := fun vs H Q E => ∃ (lh b dx : Addr) (v : V) (hs : List Hole) (e : Eqn) (m : Nat),
  vs = [.ref lh, .ref b, v] ∧ HolesL H lh hs ∧ BgAt a.bg H b dx m ∧ EqnAt H v e ∧ Bodies hs ∧ Sm hs ∧ EqOk hs e ∧ m ≤ 2000 ∧
  (pays 1 [Pa01.full hs e.s, Pa01.full hs e.t] m = none → ∀ H', Kp b H H' → E (.ref a.tl) none H') ∧
  (∀ m', pays 1 [Pa01.full hs e.s, Pa01.full hs e.t] m = some m' → ∀ H' v', Kp b H H' → BgAt a.bg H' b dx m' → EqnAt H' v' (fullE hs e) → Q v' H')
theorem sc_equation_written : FnScope ["holes", "budget", "equation", "places", "one", "other"] ["holes", "budget", "equation"] (defScope s_equation_written) := ⟨rfl, rfl, rfl, by decide +kernel, rfl, by decide +kernel, by decide +kernel⟩
theorem ok_equation_written (T : Txt K mg a) : Cal P w K mg base (L2N.CX P w) 125 "equation_written" ["holes", "budget", "equation"] (spEW a) := by
  have c_written : Cal P w K mg base (L2N.CX P w) 124 "written" ["holes", "budget", "term", "places"] (spW a) := ok_written T
  refine T.d_equation_written.okN sc_equation_written (fun vs H Q E h => ?_) (fun f cdv A outer s H vs Q E hr h => ?_)
  · obtain ⟨lh, b, dx, v, hs, e, m, rfl, _⟩ := h
    rfl
  obtain ⟨lh, b, dx, v, hs, e, m, rfl, hh, hb, he, hbod, hsm, hok, hm, qE, q⟩ := h
  obtain ⟨ae, v1, v2, rfl, h1, t1, t2⟩ := he
  have tkd : L2N.Takes (cxOf (L2N.CX P w) P w K mg base ["holes", "budget", "equation", "places", "one", "other"] "equation_written" (defScope s_equation_written) f cdv A outer s H E) (fun cls d _ H => E cls d H) := L2N.takes_of rfl rfl rfl rfl
  refine ⟨_, (pss_cons (ps_asg (pv 2) (pg_tup rfl (pgs_cons (pg_name (i := 3) sc_equation_written.nd rfl (Or.inl rfl)) (pgs_cons (pg_name (i := 4) sc_equation_written.nd rfl (Or.inl rfl)) (pgs_cons (pg_name (i := 5) sc_equation_written.nd rfl (Or.inl rfl)) pgs_nil)))))
      (pss_one (ps_ret (pe_tup (pa_cons (pv 3) (pa_cons (pe_callC c_written (hr.mono (by omega)) rfl (passN tkd) (pa_cons (pv 0) (pa_cons (pv 1) (pa_cons (pv 4) (pa_cons (pv 3) pa_nil))))) (pa_cons (pe_callC c_written (hr.mono (by omega)) rfl (passN tkd) (pa_cons (pv 0) (pa_cons (pv 1) (pa_cons (pv 5) (pa_cons (pv 3) pa_nil))))) pa_nil))))))), ?_⟩
  have e2 : ∀ m1, pays 1 [Pa01.full hs e.t] m1 = pay 1 (Pa01.full hs e.t) m1 := fun m1 => pays_one _ _ _
  have e0 : pays 1 [Pa01.full hs e.s, Pa01.full hs e.t] m = (pay 1 (Pa01.full hs e.s) m).bind (pay 1 (Pa01.full hs e.t)) := by
    show (pay 1 (Pa01.full hs e.s) m).bind (pays 1 [Pa01.full hs e.t]) = _
    congr 1
    funext m1
    exact e2 m1
  rw [e0] at qE q
  refine ⟨_, rfl, ae, _, rfl, SqT.of h1, rfl, _, _, rfl, _, _, rfl, _, _, rfl, rfl, ?_⟩
  refine ⟨_, rfl, _, rfl, _, rfl, _, rfl, _, rfl, ?_⟩
  refine ⟨lh, b, dx, v1, hs, e.s, e.n, m, rfl, hh, hb, t1, hbod, hsm, hok.fs, hok.os, hok.n, hm, fun z => qE (by rw [z]; rfl), fun m1 z1 H1 u1 k1 b1 at1 => ?_⟩
  rw [z1] at qE q
  refine ⟨_, rfl, _, rfl, _, rfl, _, rfl, ?_⟩
  refine ⟨lh, b, dx, v2, hs, e.t, e.n, m1, rfl, hh.sq (k1.sq hb), b1, t2.tps (k1.tps hb), hbod, hsm, hok.ft, hok.ot, hok.n, by have := pay_le z1; omega, fun z H' k => qE z H' (k1.trans k), fun m2 z2 H2 u2 k2 b2 at2 => ?_⟩
  refine ⟨l3le _ _ _, fun p np => ?_⟩
  have sp := same_new np (.tup [vn e.n, u1, u2])
  exact q m2 z2 _ _ (k1.trans (k2.trans sp.kp)) (sp _ _ b2) ⟨p, u1, u2, rfl, upd_same, (at1.tps (k2.tps b1)).tps sp.tps, at2.tps sp.tps⟩
def fullH (hs : List Hole) (x : Hole) : Hole := { x with body := x.body.map (Pa01.full hs) }
def spHW (a : Ad) : Sp := fun vs H Q E => ∃ (lh b dx : Addr) (hs : List Hole) (m : Nat),
  vs = [.ref lh, .ref b] ∧ HolesL H lh hs ∧ BgAt a.bg H b dx m ∧ Bodies hs ∧ Sm hs ∧ (∀ x ∈ hs, ∀ t, x.body = some t → Ok2 hs t) ∧ hs.length ≤ 1000 ∧ m ≤ 2000 ∧
  (pays 1 ((Pa01.bodies hs).map (Pa01.full hs)) m = none → ∀ H', Kp b H H' → E (.ref a.tl) none H') ∧
  (∀ m', pays 1 ((Pa01.bodies hs).map (Pa01.full hs)) m = some m' → ∀ H' r, Kp b H H' → BgAt a.bg H' b dx m' → HolesL H' r (hs.map (fullH hs)) → Q (.ref r) H')
theorem sc_holes_written : FnScope ["holes", "budget", "found", "places", "sees", "term"] ["holes", "budget"] (defScope s_holes_written) := ⟨rfl, rfl, rfl, by decide +kernel, rfl, by decide +kernel, by decide +kernel⟩
theorem ok_holes_written (T : Txt K mg a) : Cal P w K mg base (L2N.CX P w) 125 "holes_written" ["holes", "budget"] (spHW a) := by
  have c_written : Cal P w K mg base (L2N.CX P w) 124 "written" ["holes", "budget", "term", "places"] (spW a) := ok_written T
  refine T.d_holes_written.okN sc_holes_written (fun vs H Q E h => ?_) (fun f cdv A outer s H vs Q E hr h => ?_)
  · obtain ⟨lh, b, dx, hs, m, rfl, _⟩ := h
    rfl
  obtain ⟨lh, b, dx, hs, m, rfl, hh, hb, hbod, hsm, hok, hlen, hm, qE, q⟩ := h
  have tkd : L2N.Takes (cxOf (L2N.CX P w) P w K mg base ["holes", "budget", "found", "places", "sees", "term"] "holes_written" (defScope s_holes_written) f cdv A outer s H E) (fun cls d _ H => E cls d H) := L2N.takes_of rfl rfl rfl rfl
  obtain ⟨vs1, hl1, hp1⟩ := hh
  refine ⟨_, (pss_cons (ps_set (i := 2) sc_holes_written.nd rfl (Or.inl rfl) (pe_lst pa_nil))
      (pss_cons (ps_for (L2.passes_of rfl) rfl (pi_list (pv 0)) (pg_tup rfl (pgs_cons (pg_name (i := 3) sc_holes_written.nd rfl (Or.inl rfl)) (pgs_cons (pg_name (i := 4) sc_holes_written.nd rfl (Or.inl rfl)) (pgs_cons (pg_name (i := 5) sc_holes_written.nd rfl (Or.inl rfl)) pgs_nil)))) (pss_cons (ps_if (pt_cmpR op_notN (pv 5) pe_non (nomark _)) (pss_one (ps_set (i := 5) sc_holes_written.nd rfl (Or.inl rfl) (pe_callC c_written (hr.mono (by omega)) rfl (passN tkd) (pa_cons (pv 0) (pa_cons (pv 1) (pa_cons (pv 5) (pa_cons (pv 3) pa_nil))))))) pss_nil)
      (pss_one (ps_expr (pe_bm PySem.F.plainAttrs_list PySem.F.slot_list_append PySem.F.type_list_append mt_append (pv 2) (pa_cons (pe_tup (pa_cons (pv 3) (pa_cons (pv 4) (pa_cons (pv 5) pa_nil)))) pa_nil))))))
      (pss_one (ps_ret (pv 2))))), ?_⟩
  refine ⟨le_line (by simp), fun D nD => ?_⟩
  have s0 := same_new nD (.lst [])
  have hDb : D ≠ b := fun z => by rw [z] at nD; rw [hb] at nD; cases nD
  refine ⟨_, rfl, lh, rfl, ⟨_, SqL.of (s0 _ _ hl1)⟩, for_list (K := K) (a := lh) (xs := vs1) (fun i σ H' => (∃ x y z, σ = [some (.ref lh), some (.ref b), some (.ref D), x, y, z]) ∧
      ∃ m1 zs, pays 1 ((Pa01.bodies (hs.take i)).map (Pa01.full hs)) m = some m1 ∧ Kp b H H' ∧ BgAt a.bg H' b dx m1 ∧ H' D = some (.lst zs) ∧ Paired (HoleAt H') zs ((hs.take i).map (fullH hs)))
    ⟨⟨_, _, _, rfl⟩, m, [], rfl, s0.kp, s0 _ _ hb, upd_same, .nil⟩ (fun i σ H' _ h => ?_) ?_ ?_⟩
  · obtain ⟨_, m1, zs, _, kp, _⟩ := h
    exact SqL.of ((kp.sq hb).l _ _ hl1)
  · rintro i x σ H1 hx ⟨⟨x0, y0, z0, rfl⟩, m1, zs, hp, kp, hb1, hD, hT⟩
    obtain ⟨xh, exh, bh, sh, bv, rfl, g1, g2, g3⟩ := p2_get hp1 hx
    have sq1 := kp.sq hb
    have hm1 := pays_le hp
    have hlz : zs.length < sizeLine := by
      have := hT.length
      rw [List.length_map, List.length_take] at this
      exact lt_line (by omega)
    have ebo : Pa01.bodies (hs.take (i + 1)) = Pa01.bodies (hs.take i) ++ xh.body.toList := by
      rw [take_more exh]
      unfold Pa01.bodies
      rw [List.filterMap_append]
      cases eb : xh.body <;> simp [eb]
    have xm := List.mem_of_getElem? exh
    refine ⟨bh, _, rfl, SqT.of (sq1.t _ _ g1), rfl, _, _, rfl, _, _, rfl, _, _, rfl, rfl, ?_⟩
    cases eb : xh.body with
    | none =>
      rw [eb] at g3
      have g3' : bv = .non := g3
      subst g3'
      refine ⟨_, rfl, rfl, _, rfl, if_f rfl ?_⟩
      refine ⟨_, rfl, .inl ⟨rfl, _, SqL.of hD⟩, _, rfl, _, rfl, _, rfl, l3le _ _ _, fun p np => ?_⟩
      have sp := same_new np (.tup [vn xh.many, .ref sh, V.non])
      have hD2 := sp _ _ hD
      refine ⟨D, zs, _, rfl, rfl, hD2, hlz, ⟨_, _, _, rfl⟩, m1, zs ++ [.ref p], ?_, kp_new (kp.trans sp.kp) nD, ?_, upd_same, ?_⟩
      · rw [ebo, eb]
        simpa using hp
      · show upd _ D _ b = _
        rw [upd_ne (Ne.symm hDb)]
        exact sp _ _ hb1
      · rw [take_more exh, List.map_append]
        refine p2_imp (p2_append (p2_imp hT fun v x q => q.tps sp.tps) (p2_one ?_)) fun v x q => q.tps (tps_lst hD2)
        exact ⟨p, sh, .non, rfl, upd_same, sp _ _ (sq1.t _ _ g2), by show BodyAt _ _ (xh.body.map _); rw [eb]; rfl⟩
    | some bt =>
      rw [eb] at g3
      have g3' : TermAt H bv bt := g3
      obtain ⟨ab, pb, vsb, rfl, _⟩ := g3'.open
      refine ⟨_, rfl, rfl, _, rfl, if_t rfl ?_⟩
      refine ⟨_, rfl, _, rfl, _, rfl, _, rfl, ?_⟩
      have epay : pays 1 ((Pa01.bodies (hs.take (i + 1))).map (Pa01.full hs)) m = pay 1 (Pa01.full hs bt) m1 := by
        rw [ebo, eb, List.map_append, pays_append, hp]
        exact pays_one _ _ _
      have enone : pay 1 (Pa01.full hs bt) m1 = none → pays 1 ((Pa01.bodies hs).map (Pa01.full hs)) m = none := by
        intro z
        have ez : Pa01.bodies hs = Pa01.bodies (hs.take (i + 1)) ++ Pa01.bodies (hs.drop (i + 1)) := by
          unfold Pa01.bodies
          rw [← List.filterMap_append, List.take_append_drop]
        rw [ez, List.map_append, pays_append, epay, z]
        rfl
      refine ⟨lh, b, dx, _, hs, bt, xh.many, m1, rfl, ⟨vs1, sq1.l _ _ hl1, p2_imp hp1 fun v x q => q.tps sq1.t⟩, hb1, g3'.tps sq1.t, hbod, hsm, hbod xh xm bt eb, hok xh xm bt eb, by have := hsm xh xm; omega, by omega, fun z H' k => qE (enone z) H' (kp.trans k), fun m2 z2 H2 v2 k2 b2 t2 => ?_⟩
      have hD1 := k2 _ _ hD hDb
      refine ⟨_, rfl, .inl ⟨rfl, _, SqL.of hD1⟩, _, rfl, _, rfl, _, rfl, l3le _ _ _, fun p np => ?_⟩
      have sp := same_new np (.tup [vn xh.many, .ref sh, v2])
      have hD2 := sp _ _ hD1
      refine ⟨D, zs, _, rfl, rfl, hD2, hlz, ⟨_, _, _, rfl⟩, m2, zs ++ [.ref p], ?_, kp_new (kp.trans (k2.trans sp.kp)) nD, ?_, upd_same, ?_⟩
      · rw [epay]
        exact z2
      · show upd _ D _ b = _
        rw [upd_ne (Ne.symm hDb)]
        exact sp _ _ b2
      · rw [take_more exh, List.map_append]
        have tk2 := k2.tps hb1
        refine p2_imp (p2_append (p2_imp hT fun v x q => (q.tps tk2).tps sp.tps) (p2_one ?_)) fun v x q => q.tps (tps_lst hD2)
        exact ⟨p, sh, v2, rfl, upd_same, sp _ _ (tk2 _ _ (sq1.t _ _ g2)), by show BodyAt _ _ (xh.body.map _); rw [eb]; exact t2.tps sp.tps⟩
  · rintro σ H' ⟨⟨x0, y0, z0, rfl⟩, m1, zs, hp, kp, hb1, hD, hT⟩
    have e : vs1.length = hs.length := hp1.length
    rw [e, List.take_length] at hp hT
    exact ⟨_, rfl, q m1 hp _ D kp hb1 ⟨zs, hD, hT⟩⟩
end
end HH
namespace HH
open PySem PySem.Spec PyProof.Rows L2 L2Y
open Pa01 (Term Hole Eqn)
/-! ### reading parts -/
section
variable {F : List Nat → Option (Term × List Nat)} {may : Nat → Bool}
def one1 (F : List Nat → Option (Term × List Nat)) (may : Nat → Bool) (j : Nat) (r : List Nat) : Option (Term × List Nat) := if r.head? = some 4 ∧ may j = true then some (.gone, r.drop 1) else F r
theorem rp_none {k j : Nat} {r : List Nat} (h : one1 F may j r = none) : Pa01.readParts F may (k + 1) j r = none := by
  unfold one1 at h
  simp only [Pa01.readParts]
  rw [h]
theorem rp_some {k j : Nat} {r rest : List Nat} {t : Term} (h : one1 F may j r = some (t, rest)) : Pa01.readParts F may (k + 1) j r = (Pa01.readParts F may k (j + 1) rest).map fun y => (t :: y.1, y.2) := by
  unfold one1 at h
  simp only [Pa01.readParts]
  rw [h]
/-- a state of the loop -/
def RpAt (F : List Nat → Option (Term × List Nat)) (may : Nat → Bool) (k : Nat) (r0 : List Nat) (j : Nat) (ts : List Term) (r : List Nat) : Prop :=
  ts.length = j ∧ j ≤ k ∧ Pa01.readParts F may k 0 r0 = (Pa01.readParts F may (k - j) j r).map fun y => (ts ++ y.1, y.2)
theorem rpAt_0 {k : Nat} {r : List Nat} : RpAt F may k r 0 [] r := ⟨rfl, Nat.zero_le _, by
  show _ = (Pa01.readParts F may k 0 r).map _
  cases Pa01.readParts F may k 0 r <;> rfl⟩
theorem rpAt_none {k j : Nat} {r0 r : List Nat} {ts : List Term} (h : RpAt F may k r0 j ts r) (hj : j < k) (o : one1 F may j r = none) : Pa01.readParts F may k 0 r0 = none := by
  obtain ⟨_, _, e⟩ := h
  obtain ⟨m, em⟩ : ∃ m, k - j = m + 1 := ⟨k - j - 1, by omega⟩
  rw [e, em, rp_none o]
  rfl
theorem rpAt_some {k j : Nat} {r0 r rest : List Nat} {ts : List Term} {t : Term} (h : RpAt F may k r0 j ts r) (hj : j < k) (o : one1 F may j r = some (t, rest)) : RpAt F may k r0 (j + 1) (ts ++ [t]) rest := by
  obtain ⟨h1, _, e⟩ := h
  refine ⟨by simp [h1], hj, ?_⟩
  obtain ⟨m, em⟩ : ∃ m, k - j = m + 1 := ⟨k - j - 1, by omega⟩
  have em2 : k - (j + 1) = m := by omega
  rw [e, em, rp_some o, em2]
  cases Pa01.readParts F may m (j + 1) rest with
  | none => rfl
  | some y =>
    show some (ts ++ t :: y.1, y.2) = some ((ts ++ [t]) ++ y.1, y.2)
    rw [List.append_assoc]
    rfl
theorem rpAt_end {k : Nat} {r0 r : List Nat} {ts : List Term} (h : RpAt F may k r0 k ts r) : Pa01.readParts F may k 0 r0 = some (ts, r) := by
  obtain ⟨_, _, e⟩ := h
  rw [e, Nat.sub_self]
  show some (ts ++ [], r) = _
  rw [List.append_nil]
end
theorem drop_at {ns : List Nat} {i x : Nat} (h : ns[i]? = some x) : ns.drop i = x :: ns.drop (i + 1) := by
  obtain ⟨h1, h2⟩ := List.getElem?_eq_some_iff.mp h
  rw [List.drop_eq_getElem_cons h1, h2]
theorem drop_end {ns : List Nat} {i : Nat} (h : ns[i]? = none) : ns.drop i = [] := List.drop_eq_nil_of_le (List.getElem?_eq_none_iff.mp h)
theorem vns_at {ns : List Nat} {i x : Nat} (h : ns[i]? = some x) : (vns ns)[i]? = some (vn x) := by
  show (ns.map vn)[i]? = _
  rw [List.getElem?_map, h]
  rfl
/-! ### the reader in the heap -/
def rdF (ln : Addr) (i : Nat) (lh : Addr) (may : Bool) : List (Str × V) := [("numbers", .ref ln), ("at", vn i), ("holes", .ref lh), ("may_have_holes", .bl may)]
def RdAt (C : Addr) (H : Hp) (r dx ln : Addr) (i : Nat) (lh : Addr) (may : Bool) : Prop := H r = some (.ins C dx (rdF ln i lh may))
section
variable {ln lh : Addr} {i j : Nat} {may : Bool}
theorem lk_numbers : List.lookup ("numbers" : Str) (rdF ln i lh may) = some (.ref ln) := rfl
theorem lk_at : List.lookup ("at" : Str) (rdF ln i lh may) = some (vn i) := rfl
theorem lk_holes : List.lookup ("holes" : Str) (rdF ln i lh may) = some (.ref lh) := rfl
theorem lk_may : List.lookup ("may_have_holes" : Str) (rdF ln i lh may) = some (.bl may) := rfl
theorem put_at' : putF ("at" : Str) (vn j) (rdF ln i lh may) = rdF ln j lh may := rfl
end
section
variable {P : Program} {w : World} {K : PySem.W.Frag} {mg : Str → Option Value} {base : Heap} {a : Ad}
def spCheck (a : Ad) : Sp := fun vs H Q E => ∃ c : Bool, vs = [.bl c] ∧ (c = false → E (.ref a.nr) none H) ∧ (c = true → Q .non H)
theorem sc_check : FnScope ["truth"] ["truth"] (defScope s_check) := ⟨rfl, rfl, rfl, by decide +kernel, rfl, by decide +kernel, by decide +kernel⟩
theorem ok_check (T : Txt K mg a) : Cal P w K mg base (L2N.CX P w) 1 "check" ["truth"] (spCheck a) := by
  refine T.d_check.okN sc_check (fun vs H Q E h => ?_) (fun f cdv A outer s H vs Q E hr h => ?_)
  · obtain ⟨c, rfl, _⟩ := h
    rfl
  obtain ⟨c, rfl, qE, q⟩ := h
  have tkd : L2N.Takes (cxOf (L2N.CX P w) P w K mg base ["truth"] "check" (defScope s_check) f cdv A outer s H E) (fun cls d _ H => E cls d H) := L2N.takes_of rfl rfl rfl rfl
  refine ⟨_, (pss_one (ps_if (pt_not (pt_val (pv 0))) (pss_one (L2N.ps_raise rfl tkd (pmk_own0 PySem.F.excBase_ValueError T.nr.x T.nr.g T.nr.k (raises_own T.nr.b T.nr.t) rfl))) pss_nil)), ?_⟩
  cases c with
  | false => exact ⟨_, rfl, _, rfl, if_t rfl (qE rfl)⟩
  | true => exact ⟨_, rfl, _, rfl, if_f rfl (q rfl)⟩
def spNum (a : Ad) : Sp := fun vs H Q E => ∃ (r dx ln : Addr) (i : Nat) (lh : Addr) (may : Bool) (ns : List Nat), vs = [.ref r] ∧ RdAt a.rd H r dx ln i lh may ∧ H ln = some (.lst (vns ns)) ∧
  (ns[i]? = none → E (.ref a.nr) none H) ∧ (∀ x, ns[i]? = some x → Q (vn x) (upd H r (.ins a.rd dx (rdF ln (i + 1) lh may))))
theorem sc_read_number : FnScope ["reader"] ["reader"] (defScope s_read_number) := ⟨rfl, rfl, rfl, by decide +kernel, rfl, by decide +kernel, by decide +kernel⟩
theorem ok_read_number (T : Txt K mg a) : Cal P w K mg base (L2N.CX P w) 2 "read_number" ["reader"] (spNum a) := by
  have c_check : Cal P w K mg base (L2N.CX P w) 1 "check" ["truth"] (spCheck a) := ok_check T
  refine T.d_read_number.okN sc_read_number (fun vs H Q E h => ?_) (fun f cdv A outer s H vs Q E hr h => ?_)
  · obtain ⟨r, dx, ln, i, lh, may, ns, rfl, _⟩ := h
    rfl
  obtain ⟨r, dx, ln, i, lh, may, ns, rfl, h0, hn, qE, q⟩ := h
  have tkd : L2N.Takes (cxOf (L2N.CX P w) P w K mg base ["reader"] "read_number" (defScope s_read_number) f cdv A outer s H E) (fun cls d _ H => E cls d H) := L2N.takes_of rfl rfl rfl rfl
  refine ⟨_, (pss_cons (ps_expr (pe_callC c_check (hr.mono (by omega)) rfl (passN tkd) (pa_cons (pe_cmpR op_lt (pe_fld (pv 0) rfl) (pe_callB call_len_seq rfl T.b_len (by decide +kernel) (pa_cons (pe_fld (pv 0) rfl) pa_nil)) (nomark _)) pa_nil)))
      (pss_cons (ps_fldaug (pv 0) pe_int in_add)
      (pss_one (ps_ret (pe_ix ix_list (pe_fld (pv 0) rfl) (pe_op op_sub (pe_fld (pv 0) rfl) pe_int) (fun _ _ => rfl)))))), ?_⟩
  refine ⟨_, rfl, r, _, dx, _, _, rfl, h0, T.rd.c, T.rd.n "at" (by simp), lk_at, _, rfl, r, _, dx, _, _, rfl, h0, T.rd.c, T.rd.n "numbers" (by simp), lk_numbers, ln, _, rfl, .inl (SqL.of hn), _, _, rfl, rfl, _, rfl, fun c => ?_, fun c => ?_⟩
  · have c' : ¬ ((i : Int) < ((vns ns).length : Int)) := of_decide_eq_false c
    rw [List.length_map] at c'
    exact qE (List.getElem?_eq_none_iff.mpr (by omega))
  · have c' : (i : Int) < ((vns ns).length : Int) := of_decide_eq_true c
    rw [List.length_map] at c'
    have ex : ns[i]? = some ns[i] := List.getElem?_eq_getElem (by omega)
    refine ⟨_, rfl, r, _, dx, _, _, rfl, h0, T.rd.c, T.rd.n "at" (by simp), lk_at, _, _, rfl, rfl, _, _, h0, (by show 4 < 1000; decide), ?_⟩
    have hln : ln ≠ r := fun z => by rw [z] at hn; rw [h0] at hn; cases hn
    have e : putF ("at" : Str) (V.int ((i : Int) + 1)) (rdF ln i lh may) = rdF ln (i + 1) lh may := rfl
    rw [e]
    refine ⟨_, rfl, r, _, dx, _, _, rfl, upd_same, T.rd.c, T.rd.n "numbers" (by simp), lk_numbers, _, rfl, r, _, dx, _, _, rfl, upd_same, T.rd.c, T.rd.n "at" (by simp), lk_at, _, _, rfl, rfl, ln, _, _, _, rfl, rfl, SqL.of (by rw [upd_ne hln]; exact hn), ?_, q _ ex⟩
    rw [show (((i + 1 : Nat) : Int) - 1) = (i : Int) by omega]
    exact atI_nat (vns_at ex)
def spGone (a : Ad) : Sp := fun vs H Q _ => ∃ (r dx ln : Addr) (i : Nat) (lh : Addr) (may : Bool) (ns : List Nat) (v : V) (x : Hole) (k : Nat), vs = [.ref r, v, vn k] ∧ RdAt a.rd H r dx ln i lh may ∧ H ln = some (.lst (vns ns)) ∧ HoleAt H v x ∧ k < x.many ∧
  Q (.bl (decide (ns[i]? = some 4) && (x.body.isNone && !x.seen.contains k))) H
theorem sc_is_gone_next : FnScope ["reader", "hole", "k", "places", "sees", "term"] ["reader", "hole", "k"] (defScope s_is_gone_next) := ⟨rfl, rfl, rfl, by decide +kernel, rfl, by decide +kernel, by decide +kernel⟩
theorem ok_is_gone_next (T : Txt K mg a) : Cal P w K mg base CX0 1 "is_gone_next" ["reader", "hole", "k"] (spGone a) := by
  refine T.d_is_gone_next.ok0 sc_is_gone_next (fun vs H Q E h => ?_) (fun f cdv A outer s H vs Q E hr h => ?_)
  · obtain ⟨r, dx, ln, i, lh, may, ns, v, x, k, rfl, _⟩ := h
    rfl
  obtain ⟨r, dx, ln, i, lh, may, ns, v, x, k, rfl, h0, hn, ⟨bh, sh, bv, rfl, g1, g2, g3⟩, hk, q⟩ := h
  refine ⟨_, (pss_cons (ps_asg (pv 1) (pg_tup rfl (pgs_cons (pg_name (i := 3) sc_is_gone_next.nd rfl (Or.inl rfl)) (pgs_cons (pg_name (i := 4) sc_is_gone_next.nd rfl (Or.inl rfl)) (pgs_cons (pg_name (i := 5) sc_is_gone_next.nd rfl (Or.inl rfl)) pgs_nil)))))
      (pss_cons (ps_if (PW.pt (pw_or (pt_cmpR op_ge (pe_fld (pv 0) rfl) (pe_callB call_len_seq rfl T.b_len (by decide +kernel) (pa_cons (pe_fld (pv 0) rfl) pa_nil)) (nomark _)) (pw_or1 (pt_cmpR op_ne (pe_ix ix_list (pe_fld (pv 0) rfl) (pe_fld (pv 0) rfl) (fun _ _ => rfl)) (pe_k T.k_GONE) (nomark _))))) (pss_one (ps_ret pe_bl)) pss_nil)
      (pss_one (ps_ret (pe_and (pe_cmpR op_isN (pv 5) pe_non (nomark _)) (pe_one (pe_not (pe_ix ix_tup (pv 4) (pv 2) (fun _ _ => rfl))))))))), ?_⟩
  refine ⟨_, rfl, bh, _, rfl, SqT.of g1, rfl, _, _, rfl, _, _, rfl, _, _, rfl, rfl, ?_⟩
  refine ⟨_, rfl, r, _, dx, _, _, rfl, h0, T.rd.c, T.rd.n "at" (by simp), lk_at, _, rfl, r, _, dx, _, _, rfl, h0, T.rd.c, T.rd.n "numbers" (by simp), lk_numbers, ln, _, rfl, .inl (SqL.of hn), _, _, rfl, rfl, _, rfl, ite2 (fun c => ?_) (fun c => ?_)⟩
  · have c' : ((vns ns).length : Int) ≤ (i : Int) := of_decide_eq_true c
    rw [List.length_map] at c'
    rw [List.getElem?_eq_none_iff.mpr (by omega : ns.length ≤ i)] at q
    exact q
  have c' : ¬ ((vns ns).length : Int) ≤ (i : Int) := fun z => c (decide_eq_true z)
  rw [List.length_map] at c'
  have ex : ns[i]? = some ns[i] := List.getElem?_eq_getElem (by omega)
  rw [ex] at q
  refine ⟨_, rfl, r, _, dx, _, _, rfl, h0, T.rd.c, T.rd.n "numbers" (by simp), lk_numbers, _, rfl, r, _, dx, _, _, rfl, h0, T.rd.c, T.rd.n "at" (by simp), lk_at, ln, _, _, _, rfl, rfl, SqL.of hn, atI_nat (vns_at ex), rfl, _, rfl, ite2 (fun c2 => ?_) (fun c2 => ?_)⟩
  · have c2' := nitT c2
    rw [decide_eq_false (by intro z; injection z with z; omega)] at q
    exact q
  have c2' := nitF c2
  have e4 : ns[i] = 4 := by omega
  rw [e4, decide_eq_true rfl, Bool.true_and] at q
  cases eb : x.body with
  | none =>
    rw [eb] at g3 q
    have g3' : bv = .non := g3
    subst g3'
    refine ⟨_, rfl, rfl, _, rfl, ?_⟩
    exact ⟨_, rfl, _, rfl, sh, _, _, _, rfl, rfl, SqT.of g2, sees_at hk, _, rfl, q⟩
  | some bt =>
    rw [eb] at g3 q
    have g3' : TermAt H bv bt := g3
    obtain ⟨ab, pb, vsb, rfl, _⟩ := g3'.open
    refine ⟨_, rfl, rfl, _, rfl, ?_⟩
    exact q
end
end HH
namespace HH
open PySem PySem.Spec PyProof.Rows L2 L2Y
open Pa01 (Term Hole Eqn)
structure RdIn (a : Ad) (H : Hp) (r dx ln : Addr) (i : Nat) (lh : Addr) (may : Bool) (ns : List Nat) (hs : List Hole) : Prop where
  r : RdAt a.rd H r dx ln i lh may
  n : H ln = some (.lst (vns ns))
  h : HolesL H lh hs
  i : i ≤ ns.length
section
variable {a : Ad} {H H' : Hp} {r dx ln lh : Addr} {i i' : Nat} {may : Bool} {ns : List Nat} {hs : List Hole}
theorem RdIn.kp (h : RdIn a H r dx ln i lh may ns hs) (k : Kp r H H') (h' : RdAt a.rd H' r dx ln i' lh may) (hi : i' ≤ ns.length) : RdIn a H' r dx ln i' lh may ns hs :=
  ⟨h', (k.sq h.r).l _ _ h.n, h.h.sq (k.sq h.r), hi⟩
theorem RdIn.next (h : RdIn a H r dx ln i lh may ns hs) (hi : i + 1 ≤ ns.length) : RdIn a (upd H r (.ins a.rd dx (rdF ln (i + 1) lh may))) r dx ln (i + 1) lh may ns hs := h.kp kp_upd upd_same hi
theorem RdIn.same (h : RdIn a H r dx ln i lh may ns hs) (s : Same H H') : RdIn a H' r dx ln i lh may ns hs := h.kp s.kp (s _ _ h.r) h.i
end
theorem at_lt {α : Type} {l : List α} {i : Nat} {x : α} (h : l[i]? = some x) : i < l.length := (List.getElem?_eq_some_iff.mp h).1
section
variable {P : Program} {w : World} {K : PySem.W.Frag} {mg : Str → Option Value} {base : Heap} {a : Ad}
def spRT (a : Ad) (f : Nat) : Sp := fun vs H Q E => ∃ (r dx ln : Addr) (i : Nat) (lh : Addr) (may : Bool) (ns : List Nat) (hs : List Hole) (n d : Nat), vs = [.ref r, vn n, vn d] ∧ RdIn a H r dx ln i lh may ns hs ∧ (may = true ∨ hs = []) ∧ Sm hs ∧ d + f = 31 ∧
  (Pa01.read hs f n (ns.drop i) = none → ∀ H', Kp r H H' → E (.ref a.nr) none H') ∧
  (∀ t i', Pa01.read hs f n (ns.drop i) = some (t, ns.drop i') → ∀ H' v', Kp r H H' → RdIn a H' r dx ln i' lh may ns hs → TermAt H' v' t → Q v' H')
def spRP (a : Ad) (f : Nat) : Sp := fun vs H Q E => ∃ (r dx ln : Addr) (i : Nat) (lh : Addr) (may : Bool) (ns : List Nat) (hs : List Hole) (n d k : Nat), vs = [.ref r, vn n, vn d, vn k] ∧ RdIn a H r dx ln i lh may ns hs ∧ (may = true ∨ hs = []) ∧ Sm hs ∧ d + f = 31 ∧ k ≤ 8 ∧
  (Pa01.readParts (Pa01.read hs f n) (fun _ => false) k 0 (ns.drop i) = none → ∀ H', Kp r H H' → E (.ref a.nr) none H') ∧
  (∀ ts i', Pa01.readParts (Pa01.read hs f n) (fun _ => false) k 0 (ns.drop i) = some (ts, ns.drop i') → ∀ H' p us, Kp r H H' → RdIn a H' r dx ln i' lh may ns hs → H' p = some (.tup us) → TermsAt H' us ts → Q (.ref p) H')
theorem sc_read_parts : FnScope ["reader", "places", "depth", "many", "found", "k"] ["reader", "places", "depth", "many"] (defScope s_read_parts) := ⟨rfl, rfl, rfl, by decide +kernel, rfl, by decide +kernel, by decide +kernel⟩
theorem ok_read_parts (T : Txt K mg a) {fu : Nat} (c_read_term : Cal P w K mg base (L2N.CX P w) (3 * fu + 3) "read_term" ["reader", "places", "depth"] (spRT a fu)) :
    Cal P w K mg base (L2N.CX P w) (3 * fu + 4) "read_parts" ["reader", "places", "depth", "many"] (spRP a fu) := by
  refine T.d_read_parts.okN sc_read_parts (fun vs H Q E h => ?_) (fun f cdv A outer s H vs Q E hr h => ?_)
  · obtain ⟨r, dx, ln, i, lh, may, ns, hs, n, d, k, rfl, _⟩ := h
    rfl
  obtain ⟨r, dx, ln, i, lh, may, ns, hs, n, d, k, rfl, hR, hmay, hsm, hd, hk, qE, q⟩ := h
  have tkd : L2N.Takes (cxOf (L2N.CX P w) P w K mg base ["reader", "places", "depth", "many", "found", "k"] "read_parts" (defScope s_read_parts) f cdv A outer s H E) (fun cls d _ H => E cls d H) := L2N.takes_of rfl rfl rfl rfl
  refine ⟨_, (pss_cons (ps_set (i := 4) sc_read_parts.nd rfl (Or.inl rfl) (pe_lst pa_nil))
      (pss_cons (ps_for (L2.passes_of rfl) rfl (pi_range1 rfl T.b_range (pa_cons (pv 3) pa_nil)) (pg_name (i := 5) sc_read_parts.nd rfl (Or.inl rfl)) (pss_one (ps_expr (pe_bm PySem.F.plainAttrs_list PySem.F.slot_list_append PySem.F.type_list_append mt_append (pv 4) (pa_cons (pe_callC c_read_term (hr.mono (by omega)) rfl (passN tkd) (pa_cons (pv 0) (pa_cons (pv 1) (pa_cons (pv 2) pa_nil)))) pa_nil)))))
      (pss_one (ps_ret (pe_callTy call_tuple_of rfl T.b_tuple (by decide +kernel) (pa_cons (pv 4) pa_nil)))))), ?_⟩
  refine ⟨le_line (by simp), fun D nD => ?_⟩
  have s0 := same_new nD (.lst [])
  have hDr : D ≠ r := fun z => by rw [z] at nD; rw [hR.r] at nD; cases nD
  refine ⟨_, rfl, (k : Int), rfl, by omega, by omega, for_range (lo := 0) (n := k) (fun j σ H' => (∃ x, σ = [some (.ref r), some (vn n), some (vn d), some (vn k), some (.ref D), x]) ∧
      ∃ i1 ts zs, RpAt (Pa01.read hs fu n) (fun _ => false) k (ns.drop i) j ts (ns.drop i1) ∧ Kp r H H' ∧ RdIn a H' r dx ln i1 lh may ns hs ∧ H' D = some (.lst zs) ∧ TermsAt H' zs ts)
    ⟨⟨_, rfl⟩, i, [], [], rpAt_0, s0.kp, hR.same s0, upd_same, .nil⟩ ?_ ?_⟩
  · rintro j σ H1 hj ⟨⟨x0, rfl⟩, i1, ts, zs, hp, kp, hR1, hD, hT⟩
    have eo : one1 (Pa01.read hs fu n) (fun _ => false) j (ns.drop i1) = Pa01.read hs fu n (ns.drop i1) := if_neg (by simp)
    refine ⟨_, rfl, .inl ⟨rfl, _, SqL.of hD⟩, _, rfl, _, rfl, _, rfl, r, dx, ln, i1, lh, may, ns, hs, n, d, rfl, hR1, hmay, hsm, hd, fun z H' k' => qE (rpAt_none hp hj (by rw [eo]; exact z)) H' (kp.trans k'), fun t i2 z H2 v2 k2 hR2 t2 => ?_⟩
    have hD2 := k2 _ _ hD hDr
    refine ⟨D, zs, _, rfl, rfl, hD2, ?_, ⟨_, rfl⟩, i2, ts ++ [t], zs ++ [v2], rpAt_some hp hj (by rw [eo]; exact z), kp_new (kp.trans k2) nD, ?_, upd_same, ?_⟩
    · have h1 := hT.length
      have h2 := hp.1
      exact lt_line (by omega)
    · have e : upd H2 D (.lst (zs ++ [v2])) r = H2 r := upd_ne (Ne.symm hDr)
      have k3 : Kp r H (upd H2 D (.lst (zs ++ [v2]))) := kp_new (kp.trans k2) nD
      exact hR.kp k3 (by show upd _ _ _ _ = _; rw [e]; exact hR2.r) hR2.i
    · exact ((hT.tps (k2.tps hR1.r)).append (.cons t2 .nil)).tps (tps_lst hD2)
  · rintro σ H' ⟨⟨x0, rfl⟩, i1, ts, zs, hp, kp, hR1, hD, hT⟩
    refine ⟨_, rfl, D, zs, rfl, .inl ⟨SqL.of hD, fun p np => ?_⟩⟩
    have s3 := same_new np (.tup zs)
    exact q ts i1 (rpAt_end hp) _ p zs (kp.trans s3.kp) (hR1.same s3) upd_same (hT.tps s3.tps)
/-! ### read_sign -/
def spRS (a : Ad) (f : Nat) : Sp := fun vs H Q E => ∃ (r dx ln : Addr) (i : Nat) (lh : Addr) (may : Bool) (ns : List Nat) (hs : List Hole) (n d : Nat), vs = [.ref r, vn n, vn d] ∧ RdIn a H r dx ln i lh may ns hs ∧ (may = true ∨ hs = []) ∧ Sm hs ∧ d + (f + 1) = 31 ∧
  (Pa01.read hs (f + 1) n (1 :: ns.drop i) = none → ∀ H', Kp r H H' → E (.ref a.nr) none H') ∧
  (∀ t i', Pa01.read hs (f + 1) n (1 :: ns.drop i) = some (t, ns.drop i') → ∀ H' v', Kp r H H' → RdIn a H' r dx ln i' lh may ns hs → TermAt H' v' t → Q v' H')
theorem sc_read_sign : FnScope ["reader", "places", "depth", "sign", "many"] ["reader", "places", "depth"] (defScope s_read_sign) := ⟨rfl, rfl, rfl, by decide +kernel, rfl, by decide +kernel, by decide +kernel⟩
theorem ok_read_sign (T : Txt K mg a) {fu : Nat} (c_read_parts : Cal P w K mg base (L2N.CX P w) (3 * fu + 4) "read_parts" ["reader", "places", "depth", "many"] (spRP a fu)) :
    Cal P w K mg base (L2N.CX P w) (3 * fu + 5) "read_sign" ["reader", "places", "depth"] (spRS a fu) := by
  have c_check : Cal P w K mg base (L2N.CX P w) 1 "check" ["truth"] (spCheck a) := ok_check T
  have c_read_number : Cal P w K mg base (L2N.CX P w) 2 "read_number" ["reader"] (spNum a) := ok_read_number T
  refine T.d_read_sign.okN sc_read_sign (fun vs H Q E h => ?_) (fun f cdv A outer s H vs Q E hr h => ?_)
  · obtain ⟨r, dx, ln, i, lh, may, ns, hs, n, d, rfl, _⟩ := h
    rfl
  obtain ⟨r, dx, ln, i, lh, may, ns, hs, n, d, rfl, hR, hmay, hsm, hd, qE, q⟩ := h
  have tkd : L2N.Takes (cxOf (L2N.CX P w) P w K mg base ["reader", "places", "depth", "sign", "many"] "read_sign" (defScope s_read_sign) f cdv A outer s H E) (fun cls d _ H => E cls d H) := L2N.takes_of rfl rfl rfl rfl
  refine ⟨_, (pss_cons (ps_set (i := 3) sc_read_sign.nd rfl (Or.inl rfl) (pe_callC c_read_number (hr.mono (by omega)) rfl (passN tkd) (pa_cons (pv 0) pa_nil)))
      (pss_cons (ps_set (i := 4) sc_read_sign.nd rfl (Or.inl rfl) (pe_callC c_read_number (hr.mono (by omega)) rfl (passN tkd) (pa_cons (pv 0) pa_nil)))
      (pss_cons (ps_expr (pe_callC c_check (hr.mono (by omega)) rfl (passN tkd) (pa_cons (pe_cmpR op_le (pv 4) (pe_k T.k_MOST_PARTS) (nomark _)) pa_nil)))
      (pss_one (ps_ret (pe_tup (pa_cons (pe_k T.k_SIGN) (pa_cons (pv 3) (pa_cons (pe_callC c_read_parts (hr.mono (by omega)) rfl (passN tkd) (pa_cons (pv 0) (pa_cons (pv 1) (pa_cons (pe_op op_add (pv 2) pe_int) (pa_cons (pv 4) pa_nil))))) pa_nil))))))))), ?_⟩
  refine ⟨_, rfl, r, dx, ln, i, lh, may, ns, rfl, hR.r, hR.n, fun z => qE (by rw [drop_end z]; rfl) _ Kp.refl, fun sg es => ?_⟩
  have hR1 := hR.next (at_lt es)
  have k1 : Kp r H (upd H r (.ins a.rd dx (rdF ln (i + 1) lh may))) := kp_upd
  rw [drop_at es] at qE q
  generalize upd H r (.ins a.rd dx (rdF ln (i + 1) lh may)) = H1 at *
  refine ⟨_, rfl, r, dx, ln, i + 1, lh, may, ns, rfl, hR1.r, hR1.n, fun z => qE (by rw [drop_end z]; rfl) _ k1, fun mn em => ?_⟩
  have hR2 := hR1.next (at_lt em)
  have k2 : Kp r H1 (upd H1 r (.ins a.rd dx (rdF ln (i + 1 + 1) lh may))) := kp_upd
  rw [drop_at em] at qE q
  generalize upd H1 r (.ins a.rd dx (rdF ln (i + 1 + 1) lh may)) = H2 at *
  have er : Pa01.read hs (fu + 1) n (1 :: sg :: mn :: ns.drop (i + 1 + 1)) = if 8 < mn then none else (Pa01.readParts (Pa01.read hs fu n) (fun _ => false) mn 0 (ns.drop (i + 1 + 1))).map fun x => (.sign sg x.1, x.2) := rfl
  rw [er] at qE q
  refine ⟨_, rfl, _, _, rfl, rfl, _, rfl, fun c => ?_, fun c => ?_⟩
  · have c' : ¬ (mn : Int) ≤ 8 := of_decide_eq_false c
    exact qE (if_pos (by omega)) _ (k1.trans k2)
  · have c' : (mn : Int) ≤ 8 := of_decide_eq_true c
    rw [if_neg (by omega)] at qE q
    refine ⟨_, rfl, _, rfl, _, rfl, _, rfl, _, _, rfl, rfl, _, rfl, r, dx, ln, i + 1 + 1, lh, may, ns, hs, n, d + 1, mn, rfl, hR2, hmay, hsm, by omega, by omega, fun z H' k' => qE (by rw [z]; rfl) H' (k1.trans (k2.trans k')), fun ts i' z H' p us k' hR' hp hT => ?_⟩
    refine ⟨l3le _ _ _, fun p2 np2 => ?_⟩
    have s3 := same_new np2 (.tup [V.int 1, vn sg, V.ref p])
    exact q (.sign sg ts) i' (by rw [z]; rfl) _ _ (k1.trans (k2.trans (k'.trans s3.kp))) (hR'.same s3) (.mk (t := .sign sg ts) (p := p) upd_same (s3 _ _ hp) (hT.tps s3.tps))
/-! ### read_hole -/
def spRH (a : Ad) (f : Nat) : Sp := fun vs H Q E => ∃ (r dx ln : Addr) (i : Nat) (lh : Addr) (may : Bool) (ns : List Nat) (hs : List Hole) (n d : Nat), vs = [.ref r, vn n, vn d] ∧ RdIn a H r dx ln i lh may ns hs ∧ (may = true ∨ hs = []) ∧ Sm hs ∧ d + (f + 1) = 31 ∧
  (Pa01.read hs (f + 1) n (3 :: ns.drop i) = none → ∀ H', Kp r H H' → E (.ref a.nr) none H') ∧
  (∀ t i', Pa01.read hs (f + 1) n (3 :: ns.drop i) = some (t, ns.drop i') → ∀ H' v', Kp r H H' → RdIn a H' r dx ln i' lh may ns hs → TermAt H' v' t → Q v' H')
theorem sc_read_hole : FnScope ["reader", "places", "depth", "number", "many", "hole", "found", "k"] ["reader", "places", "depth"] (defScope s_read_hole) := ⟨rfl, rfl, rfl, by decide +kernel, rfl, by decide +kernel, by decide +kernel⟩
theorem ok_read_hole (T : Txt K mg a) {fu : Nat} (c_read_term : Cal P w K mg base (L2N.CX P w) (3 * fu + 3) "read_term" ["reader", "places", "depth"] (spRT a fu)) :
    Cal P w K mg base (L2N.CX P w) (3 * fu + 4) "read_hole" ["reader", "places", "depth"] (spRH a fu) := by
  have c_check : Cal P w K mg base (L2N.CX P w) 1 "check" ["truth"] (spCheck a) := ok_check T
  have c_read_number : Cal P w K mg base (L2N.CX P w) 2 "read_number" ["reader"] (spNum a) := ok_read_number T
  have c_is_gone_next : Cal P w K mg base CX0 1 "is_gone_next" ["reader", "hole", "k"] (spGone a) := ok_is_gone_next T
  refine T.d_read_hole.okN sc_read_hole (fun vs H Q E h => ?_) (fun f cdv A outer s H vs Q E hr h => ?_)
  · obtain ⟨r, dx, ln, i, lh, may, ns, hs, n, d, rfl, _⟩ := h
    rfl
  obtain ⟨r, dx, ln, i, lh, may, ns, hs, n, d, rfl, hR, hmay, hsm, hd, qE, q⟩ := h
  have tkd : L2N.Takes (cxOf (L2N.CX P w) P w K mg base ["reader", "places", "depth", "number", "many", "hole", "found", "k"] "read_hole" (defScope s_read_hole) f cdv A outer s H E) (fun cls d _ H => E cls d H) := L2N.takes_of rfl rfl rfl rfl
  refine ⟨_, (pss_cons (ps_set (i := 3) sc_read_hole.nd rfl (Or.inl rfl) (pe_callC c_read_number (hr.mono (by omega)) rfl (passN tkd) (pa_cons (pv 0) pa_nil)))
      (pss_cons (ps_set (i := 4) sc_read_hole.nd rfl (Or.inl rfl) (pe_callC c_read_number (hr.mono (by omega)) rfl (passN tkd) (pa_cons (pv 0) pa_nil)))
      (pss_cons (ps_expr (pe_callC c_check (hr.mono (by omega)) rfl (passN tkd) (pa_cons (pe_and (pe_fld (pv 0) rfl) (pe_one (pe_cmpR op_lt (pv 3) (pe_callB call_len_seq rfl T.b_len (by decide +kernel) (pa_cons (pe_fld (pv 0) rfl) pa_nil)) (nomark _)))) pa_nil)))
      (pss_cons (ps_set (i := 5) sc_read_hole.nd rfl (Or.inl rfl) (pe_ix ix_list (pe_fld (pv 0) rfl) (pv 3) (fun _ _ => rfl)))
      (pss_cons (ps_expr (pe_callC c_check (hr.mono (by omega)) rfl (passN tkd) (pa_cons (pe_cmpR op_eq (pv 4) (pe_ix ix_tup (pv 5) pe_int (fun _ _ => rfl)) (nomark _)) pa_nil)))
      (pss_cons (ps_set (i := 6) sc_read_hole.nd rfl (Or.inl rfl) (pe_lst pa_nil))
      (pss_cons (ps_for (L2.passes_of rfl) rfl (pi_range1 rfl T.b_range (pa_cons (pv 4) pa_nil)) (pg_name (i := 7) sc_read_hole.nd rfl (Or.inl rfl)) (pss_one (ps_if (pt_val (pe_callC c_is_gone_next (hr.mono (by omega)) rfl pass0 (pa_cons (pv 0) (pa_cons (pv 5) (pa_cons (pv 7) pa_nil))))) (pss_cons (ps_expr (pe_callC c_check (hr.mono (by omega)) rfl (passN tkd) (pa_cons (pe_cmpR op_lt (pv 2) (pe_k T.k_DEEPEST_ROW) (nomark _)) pa_nil)))
      (pss_cons (ps_fldaug (pv 0) pe_int in_add)
      (pss_one (ps_expr (pe_bm PySem.F.plainAttrs_list PySem.F.slot_list_append PySem.F.type_list_append mt_append (pv 6) (pa_cons (pe_tup (pa_cons (pe_k T.k_GONE) (pa_cons pe_int (pa_cons (pe_tup pa_nil) pa_nil)))) pa_nil)))))) (pss_one (ps_expr (pe_bm PySem.F.plainAttrs_list PySem.F.slot_list_append PySem.F.type_list_append mt_append (pv 6) (pa_cons (pe_callC c_read_term (hr.mono (by omega)) rfl (passN tkd) (pa_cons (pv 0) (pa_cons (pv 1) (pa_cons (pe_op op_add (pv 2) pe_int) pa_nil)))) pa_nil)))))))
      (pss_one (ps_ret (pe_tup (pa_cons (pe_k T.k_HOLE) (pa_cons (pv 3) (pa_cons (pe_callTy call_tuple_of rfl T.b_tuple (by decide +kernel) (pa_cons (pv 6) pa_nil)) pa_nil))))))))))))), ?_⟩
  refine ⟨_, rfl, r, dx, ln, i, lh, may, ns, rfl, hR.r, hR.n, fun z => qE (by rw [drop_end z]; rfl) _ Kp.refl, fun sg es => ?_⟩
  have hR1 := hR.next (at_lt es)
  have k1 : Kp r H (upd H r (.ins a.rd dx (rdF ln (i + 1) lh may))) := kp_upd
  rw [drop_at es] at qE q
  generalize upd H r (.ins a.rd dx (rdF ln (i + 1) lh may)) = H1 at *
  refine ⟨_, rfl, r, dx, ln, i + 1, lh, may, ns, rfl, hR1.r, hR1.n, fun z => qE (by rw [drop_end z]; rfl) _ k1, fun mn em => ?_⟩
  have hR2 := hR1.next (at_lt em)
  have k2 : Kp r H1 (upd H1 r (.ins a.rd dx (rdF ln (i + 1 + 1) lh may))) := kp_upd
  rw [drop_at em] at qE q
  generalize upd H1 r (.ins a.rd dx (rdF ln (i + 1 + 1) lh may)) = H2 at *
  have k12 := k1.trans k2
  have er : Pa01.read hs (fu + 1) n (3 :: sg :: mn :: ns.drop (i + 1 + 1)) = match hs[sg]? with
      | none => none
      | some x => if mn = x.many then (Pa01.readParts (Pa01.read hs fu n) (fun i => decide (0 < fu) && (x.body.isNone && !x.seen.contains i)) mn 0 (ns.drop (i + 1 + 1))).map (fun y => (.hole sg y.1, y.2)) else none := rfl
  rw [er] at qE q
  obtain ⟨vsH, hvH, hpH⟩ := hR2.h
  have hlH := hpH.length
  cases may with
  | false =>
    rcases hmay with hmay | hmay
    · cases hmay
    subst hmay
    exact ⟨_, rfl, r, _, dx, _, _, rfl, hR2.r, T.rd.c, T.rd.n "may_have_holes" (by simp), lk_may, _, rfl, _, rfl, fun _ => qE rfl _ k12, fun z => absurd z (by decide)⟩
  | true =>
  refine ⟨_, rfl, r, _, dx, _, _, rfl, hR2.r, T.rd.c, T.rd.n "may_have_holes" (by simp), lk_may, _, rfl, _, rfl, _, rfl, r, _, dx, _, _, rfl, hR2.r, T.rd.c, T.rd.n "holes" (by simp), lk_holes, lh, _, rfl, .inl (SqL.of hvH), _, _, rfl, rfl, _, rfl, fun c => ?_, fun c => ?_⟩
  · have c' : ¬ ((sg : Int) < (vsH.length : Int)) := of_decide_eq_false c
    refine qE ?_ _ k12
    rw [List.getElem?_eq_none_iff.mpr (by omega : hs.length ≤ sg)]
  have c' : (sg : Int) < (vsH.length : Int) := of_decide_eq_true c
  obtain ⟨xh, exh⟩ : ∃ x, hs[sg]? = some x := ⟨_, List.getElem?_eq_getElem (by omega)⟩
  rw [exh] at qE q
  obtain ⟨hv1, ehv, hx⟩ := p2_at hpH exh
  have hx' := hx
  obtain ⟨bH, sH2, bv, rfl, hb1, hb2, hb3⟩ := hx
  refine ⟨_, rfl, r, _, dx, _, _, rfl, hR2.r, T.rd.c, T.rd.n "holes" (by simp), lk_holes, _, rfl, lh, vsH, _, _, rfl, rfl, SqL.of hvH, atI_nat ehv, ?_⟩
  refine ⟨_, rfl, _, rfl, bH, _, _, _, rfl, rfl, SqT.of hb1, rfl, rfl, _, rfl, fun c2 => ?_, fun c2 => ?_⟩
  · have c2' : mn ≠ xh.many := by
      have : V.int (mn : Nat) ≠ V.int (xh.many : Nat) := of_decide_eq_false c2
      intro z
      exact this (by rw [z])
    exact qE (if_neg c2') _ k12
  have c2' : mn = xh.many := by
    have : V.int (mn : Nat) = V.int (xh.many : Nat) := of_decide_eq_true c2
    injection this with this
    omega
  have er2 : (match some xh with
      | none => none
      | some x => if mn = x.many then (Pa01.readParts (Pa01.read hs fu n) (fun i => decide (0 < fu) && (x.body.isNone && !x.seen.contains i)) mn 0 (ns.drop (i + 1 + 1))).map (fun y => (Term.hole sg y.1, y.2)) else none) = (Pa01.readParts (Pa01.read hs fu n) (fun i => decide (0 < fu) && (xh.body.isNone && !xh.seen.contains i)) mn 0 (ns.drop (i + 1 + 1))).map (fun y => (Term.hole sg y.1, y.2)) := if_pos c2'
  rw [er2] at qE q
  have hmn : mn ≤ 6 := by rw [c2']; exact hsm xh (List.mem_of_getElem? exh)
  refine ⟨le_line (by simp), fun D nD => ?_⟩
  have s0 := same_new nD (.lst [])
  have hDr : D ≠ r := fun z => by rw [z] at nD; rw [hR2.r] at nD; cases nD
  have nD0 : H D = none := kp_free k12 hR2.r nD
  refine ⟨_, rfl, (mn : Int), rfl, by omega, by omega, for_range (lo := 0) (n := mn) (fun j σ H' => (∃ x, σ = [some (.ref r), some (vn n), some (vn d), some (vn sg), some (vn mn), some (.ref bH), some (.ref D), x]) ∧
      ∃ i1 ts zs, RpAt (Pa01.read hs fu n) (fun i => decide (0 < fu) && (xh.body.isNone && !xh.seen.contains i)) mn (ns.drop (i + 1 + 1)) j ts (ns.drop i1) ∧ Kp r H2 H' ∧ RdIn a H' r dx ln i1 lh true ns hs ∧ H' D = some (.lst zs) ∧ TermsAt H' zs ts)
    ⟨⟨_, rfl⟩, i + 1 + 1, [], [], rpAt_0, s0.kp, hR2.same s0, upd_same, .nil⟩ ?_ ?_⟩
  · rintro j σ H3 hj ⟨⟨x0, rfl⟩, i1, ts, zs, hp, kp, hR3, hD, hT⟩
    have hlen : zs.length < sizeLine := by
      have h1 := hT.length
      have h2 := hp.1
      exact lt_line (by omega)
    have hd1 : (ns.drop i1).head? = ns[i1]? := by rw [List.head?_drop]
    -- going on with one more part
    have next : ∀ (t : Term) (i2 : Nat) (H4 : Hp) (v4 : V), one1 (Pa01.read hs fu n) (fun i => decide (0 < fu) && (xh.body.isNone && !xh.seen.contains i)) j (ns.drop i1) = some (t, ns.drop i2) → Kp r H3 H4 → RdIn a H4 r dx ln i2 lh true ns hs → TermAt H4 v4 t →
        (∃ x, ([some (V.ref r), some (vn n), some (vn d), some (vn sg), some (vn mn), some (V.ref bH), some (V.ref D), some (V.int (0 + (j : Int)))] : L2.St) = [some (.ref r), some (vn n), some (vn d), some (vn sg), some (vn mn), some (.ref bH), some (.ref D), x]) ∧
        ∃ i1 ts' zs', RpAt (Pa01.read hs fu n) (fun i => decide (0 < fu) && (xh.body.isNone && !xh.seen.contains i)) mn (ns.drop (i + 1 + 1)) (j + 1) ts' (ns.drop i1) ∧ Kp r H2 (upd H4 D (.lst (zs ++ [v4]))) ∧ RdIn a (upd H4 D (.lst (zs ++ [v4]))) r dx ln i1 lh true ns hs ∧ upd H4 D (.lst (zs ++ [v4])) D = some (.lst zs') ∧ TermsAt (upd H4 D (.lst (zs ++ [v4]))) zs' ts' := by
      intro t i2 H4 v4 o k4 hR4 t4
      have hD4 := k4 _ _ hD hDr
      have k5 : Kp r H2 (upd H4 D (.lst (zs ++ [v4]))) := kp_new (kp.trans k4) nD
      refine ⟨⟨_, rfl⟩, i2, ts ++ [t], zs ++ [v4], rpAt_some hp hj o, k5, ?_, upd_same, ?_⟩
      · refine hR2.kp k5 ?_ hR4.i
        show upd _ _ _ _ = _
        rw [upd_ne (Ne.symm hDr)]
        exact hR4.r
      · exact ((hT.tps (k4.tps hR3.r)).append (.cons t4 .nil)).tps (tps_lst hD4)
    have fail : one1 (Pa01.read hs fu n) (fun i => decide (0 < fu) && (xh.body.isNone && !xh.seen.contains i)) j (ns.drop i1) = none → ∀ H', Kp r H3 H' → E (.ref a.nr) none H' := fun o H' k' =>
      qE (by rw [rpAt_none hp hj o]; rfl) H' (k12.trans (kp.trans k'))
    refine ⟨_, rfl, _, rfl, _, rfl, r, dx, ln, i1, lh, true, ns, .ref bH, xh, j, by rw [Int.zero_add], hR3.r, hR3.n, hx'.tps (kp.tps hR2.r), by omega, _, rfl, ite2 (fun cg => ?_) (fun cg => ?_)⟩
    · obtain ⟨cg1, cg2⟩ := Bool.and_eq_true_iff.mp cg
      have cg1' : ns[i1]? = some 4 := of_decide_eq_true cg1
      refine ⟨_, rfl, _, _, rfl, rfl, _, rfl, fun c3 => ?_, fun c3 => ?_⟩
      · have c3' : ¬ (d : Int) < 30 := of_decide_eq_false c3
        refine fail ?_ _ Kp.refl
        unfold one1
        rw [decide_eq_false (by omega : ¬ 0 < fu)]
        refine (if_neg (by simp)).trans ?_
        have ef : fu = 0 := by omega
        subst ef
        rfl
      · have c3' : (d : Int) < 30 := of_decide_eq_true c3
        have hone : one1 (Pa01.read hs fu n) (fun i => decide (0 < fu) && (xh.body.isNone && !xh.seen.contains i)) j (ns.drop i1) = some (.gone, ns.drop (i1 + 1)) := by
          unfold one1
          rw [decide_eq_true (by omega : 0 < fu)]
          refine (if_pos ⟨by rw [hd1]; exact cg1', cg2⟩).trans ?_
          rw [List.drop_drop]
        refine ⟨_, rfl, r, _, dx, _, _, rfl, hR3.r, T.rd.c, T.rd.n "at" (by simp), lk_at, _, _, rfl, rfl, _, _, hR3.r, (by show 4 < 1000; decide), ?_⟩
        have e : putF ("at" : Str) (V.int ((i1 : Int) + 1)) (rdF ln i1 lh true) = rdF ln (i1 + 1) lh true := rfl
        rw [e]
        have k4 : Kp r H3 (upd H3 r (.ins a.rd dx (rdF ln (i1 + 1) lh true))) := kp_upd
        have hR4 := hR3.next (at_lt cg1')
        have hD4 := k4 _ _ hD hDr
        refine ⟨_, rfl, .inl ⟨rfl, _, SqL.of hD4⟩, le_line (by simp), fun p np => ⟨l3le _ _ _, fun p2 np2 => ?_⟩⟩
        have s4 := (same_new np (.tup [])).trans (same_new np2 (.tup [V.int 4, V.int 0, V.ref p]))
        exact ⟨D, zs, _, rfl, rfl, s4 _ _ hD4, hlen, next .gone (i1 + 1) _ (.ref p2) hone (k4.trans s4.kp) (hR4.same s4) (.mk (p := p) upd_same (same_new np2 _ _ _ upd_same) .nil)⟩
    · have hone : one1 (Pa01.read hs fu n) (fun i => decide (0 < fu) && (xh.body.isNone && !xh.seen.contains i)) j (ns.drop i1) = Pa01.read hs fu n (ns.drop i1) := by
        unfold one1
        refine if_neg fun z => cg ?_
        obtain ⟨z1, z2⟩ := z
        rw [hd1] at z1
        rw [decide_eq_true z1, Bool.true_and]
        exact (Bool.and_eq_true_iff.mp z2).2
      refine ⟨_, rfl, .inl ⟨rfl, _, SqL.of hD⟩, _, rfl, _, rfl, _, rfl, _, _, rfl, rfl, r, dx, ln, i1, lh, true, ns, hs, n, d + 1, rfl, hR3, .inl rfl, hsm, by omega, fun z H' k' => fail (by rw [hone]; exact z) H' k', fun t i2 z H4 v4 k4 hR4 t4 => ?_⟩
      exact ⟨D, zs, _, rfl, rfl, k4 _ _ hD hDr, hlen, next t i2 H4 v4 (by rw [hone]; exact z) k4 hR4 t4⟩
  · rintro σ H' ⟨⟨x0, rfl⟩, i1, ts, zs, hp, kp, hR3, hD, hT⟩
    refine ⟨_, rfl, _, rfl, D, zs, rfl, .inl ⟨SqL.of hD, fun p np => ⟨l3le _ _ _, fun p2 np2 => ?_⟩⟩⟩
    have s4 := (same_new np (.tup zs)).trans (same_new np2 (.tup [V.int 3, vn sg, V.ref p]))
    exact q (.hole sg ts) i1 (by rw [rpAt_end hp]; rfl) _ _ (k12.trans (kp.trans s4.kp)) (hR3.same s4) (.mk (t := .hole sg ts) (p := p) upd_same (same_new np2 _ _ _ upd_same) (hT.tps s4.tps))
/-! ### read_term -/
theorem read_big {hs : List Hole} {f n k : Nat} {r : List Nat} (h : 4 ≤ k) : Pa01.read hs (f + 1) n (k :: r) = none := by
  obtain ⟨j, rfl⟩ : ∃ j, k = j + 4 := ⟨k - 4, by omega⟩
  rfl
theorem rp_1 {F : List Nat → Option (Term × List Nat)} {r : List Nat} : Pa01.readParts F (fun _ => false) 1 0 r = (F r).map fun x => ([x.1], x.2) := by
  cases h : F r with
  | none => exact rp_none (k := 0) (by unfold one1; rw [if_neg (by simp)]; exact h)
  | some x => exact rp_some (k := 0) (t := x.1) (rest := x.2) (by unfold one1; rw [if_neg (by simp)]; exact h)
theorem sc_read_term : FnScope ["reader", "places", "depth", "kind", "number"] ["reader", "places", "depth"] (defScope s_read_term) := ⟨rfl, rfl, rfl, by decide +kernel, rfl, by decide +kernel, by decide +kernel⟩
theorem ok_read_termZ (T : Txt K mg a) : Cal P w K mg base (L2N.CX P w) 3 "read_term" ["reader", "places", "depth"] (spRT a 0) := by
  have c_check : Cal P w K mg base (L2N.CX P w) 1 "check" ["truth"] (spCheck a) := ok_check T
  refine T.d_read_term.okN sc_read_term (fun vs H Q E h => ?_) (fun f cdv A outer s H vs Q E hr h => ?_)
  · obtain ⟨r, dx, ln, i, lh, may, ns, hs, n, d, rfl, _⟩ := h
    rfl
  obtain ⟨r, dx, ln, i, lh, may, ns, hs, n, d, rfl, hR, hmay, hsm, hd, qE, q⟩ := h
  have tkd : L2N.Takes (cxOf (L2N.CX P w) P w K mg base ["reader", "places", "depth", "kind", "number"] "read_term" (defScope s_read_term) f cdv A outer s H E) (fun cls d _ H => E cls d H) := L2N.takes_of rfl rfl rfl rfl
  refine ⟨_, (pss_cons (ps_expr (pe_callC c_check (hr.mono (by omega)) rfl (passN tkd) (pa_cons (pe_cmpR op_le (pv 2) (pe_k T.k_DEEPEST_ROW) (nomark _)) pa_nil))) pss_never), ?_⟩
  refine ⟨_, rfl, _, _, rfl, rfl, _, rfl, fun c => qE rfl _ Kp.refl, fun c => ?_⟩
  have c' : (d : Int) ≤ 30 := of_decide_eq_true c
  omega
theorem ok_read_term0 (T : Txt K mg a) {fu : Nat} (c_read_term : Cal P w K mg base (L2N.CX P w) (3 * fu + 3) "read_term" ["reader", "places", "depth"] (spRT a fu)) :
    Cal P w K mg base (L2N.CX P w) (3 * (fu + 1) + 3) "read_term" ["reader", "places", "depth"] (spRT a (fu + 1)) := by
  have c_check : Cal P w K mg base (L2N.CX P w) 1 "check" ["truth"] (spCheck a) := ok_check T
  have c_read_number : Cal P w K mg base (L2N.CX P w) 2 "read_number" ["reader"] (spNum a) := ok_read_number T
  have c_read_parts := ok_read_parts T c_read_term
  have c_read_sign := ok_read_sign T c_read_parts
  have c_read_hole := ok_read_hole T c_read_term
  refine T.d_read_term.okN sc_read_term (fun vs H Q E h => ?_) (fun f cdv A outer s H vs Q E hr h => ?_)
  · obtain ⟨r, dx, ln, i, lh, may, ns, hs, n, d, rfl, _⟩ := h
    rfl
  obtain ⟨r, dx, ln, i, lh, may, ns, hs, n, d, rfl, hR, hmay, hsm, hd, qE, q⟩ := h
  have tkd : L2N.Takes (cxOf (L2N.CX P w) P w K mg base ["reader", "places", "depth", "kind", "number"] "read_term" (defScope s_read_term) f cdv A outer s H E) (fun cls d _ H => E cls d H) := L2N.takes_of rfl rfl rfl rfl
  refine ⟨_, (pss_cons (ps_expr (pe_callC c_check (hr.mono (by omega)) rfl (passN tkd) (pa_cons (pe_cmpR op_le (pv 2) (pe_k T.k_DEEPEST_ROW) (nomark _)) pa_nil)))
      (pss_cons (ps_set (i := 3) sc_read_term.nd rfl (Or.inl rfl) (pe_callC c_read_number (hr.mono (by omega)) rfl (passN tkd) (pa_cons (pv 0) pa_nil)))
      (pss_cons (ps_if (pt_cmpR op_eq (pv 3) (pe_k T.k_PLACE) (nomark _)) (pss_cons (ps_set (i := 4) sc_read_term.nd rfl (Or.inl rfl) (pe_callC c_read_number (hr.mono (by omega)) rfl (passN tkd) (pa_cons (pv 0) pa_nil)))
      (pss_cons (ps_expr (pe_callC c_check (hr.mono (by omega)) rfl (passN tkd) (pa_cons (pe_cmpR op_lt (pv 4) (pv 1) (nomark _)) pa_nil)))
      (pss_one (ps_ret (pe_tup (pa_cons (pe_k T.k_PLACE) (pa_cons (pv 4) (pa_cons (pe_tup pa_nil) pa_nil)))))))) pss_nil)
      (pss_cons (ps_if (pt_cmpR op_eq (pv 3) (pe_k T.k_SIGN) (nomark _)) (pss_one (ps_ret (pe_callC c_read_sign (hr.mono (by omega)) rfl (passN tkd) (pa_cons (pv 0) (pa_cons (pv 1) (pa_cons (pv 2) pa_nil)))))) pss_nil)
      (pss_cons (ps_if (pt_cmpR op_eq (pv 3) (pe_k T.k_BINDER) (nomark _)) (pss_one (ps_ret (pe_tup (pa_cons (pe_k T.k_BINDER) (pa_cons pe_int (pa_cons (pe_callC c_read_parts (hr.mono (by omega)) rfl (passN tkd) (pa_cons (pv 0) (pa_cons (pe_op op_add (pv 1) pe_int) (pa_cons (pe_op op_add (pv 2) pe_int) (pa_cons pe_int pa_nil))))) pa_nil)))))) pss_nil)
      (pss_cons (ps_expr (pe_callC c_check (hr.mono (by omega)) rfl (passN tkd) (pa_cons (pe_cmpR op_eq (pv 3) (pe_k T.k_HOLE) (nomark _)) pa_nil)))
      (pss_one (ps_ret (pe_callC c_read_hole (hr.mono (by omega)) rfl (passN tkd) (pa_cons (pv 0) (pa_cons (pv 1) (pa_cons (pv 2) pa_nil)))))))))))), ?_⟩
  refine ⟨_, rfl, _, _, rfl, rfl, _, rfl, fun c => ?_, fun c => ?_⟩
  · have c' : ¬ (d : Int) ≤ 30 := of_decide_eq_false c
    omega
  refine ⟨_, rfl, r, dx, ln, i, lh, may, ns, rfl, hR.r, hR.n, fun z => qE (by rw [drop_end z]; rfl) _ Kp.refl, fun kn es => ?_⟩
  have hR1 := hR.next (at_lt es)
  have k1 : Kp r H (upd H r (.ins a.rd dx (rdF ln (i + 1) lh may))) := kp_upd
  rw [drop_at es] at qE q
  generalize upd H r (.ins a.rd dx (rdF ln (i + 1) lh may)) = H1 at *
  refine ⟨_, rfl, rfl, _, rfl, ite2 (fun c0 => ?_) (fun c0 => ?_)⟩
  · have c0' := litT c0
    have e0 : kn = 0 := by omega
    subst e0
    refine ⟨_, rfl, r, dx, ln, i + 1, lh, may, ns, rfl, hR1.r, hR1.n, fun z => qE (by rw [drop_end z]; rfl) _ k1, fun mn em => ?_⟩
    have hR2 := hR1.next (at_lt em)
    have k2 : Kp r H1 (upd H1 r (.ins a.rd dx (rdF ln (i + 1 + 1) lh may))) := kp_upd
    rw [drop_at em] at qE q
    generalize upd H1 r (.ins a.rd dx (rdF ln (i + 1 + 1) lh may)) = H2 at *
    have er : Pa01.read hs (fu + 1) n (0 :: mn :: ns.drop (i + 1 + 1)) = if mn < n then some (.place mn, ns.drop (i + 1 + 1)) else none := rfl
    rw [er] at qE q
    refine ⟨_, rfl, _, rfl, _, _, rfl, rfl, _, rfl, fun c => ?_, fun c => ?_⟩
    · have c' : ¬ (mn : Int) < (n : Int) := of_decide_eq_false c
      exact qE (if_neg (by omega)) _ (k1.trans k2)
    · have c' : (mn : Int) < (n : Int) := of_decide_eq_true c
      refine ⟨_, rfl, le_line (by simp), fun p np => ⟨l3le _ _ _, fun p2 np2 => ?_⟩⟩
      have s4 := (same_new np (.tup [])).trans (same_new np2 (.tup [V.int 0, vn mn, V.ref p]))
      exact q (.place mn) (i + 1 + 1) (if_pos (by omega)) _ _ (k1.trans (k2.trans s4.kp)) (hR2.same s4) (.mk (t := .place mn) (p := p) upd_same (same_new np2 _ _ _ upd_same) .nil)
  have c0' := litF c0
  refine ⟨_, rfl, rfl, _, rfl, ite2 (fun c1 => ?_) (fun c1 => ?_)⟩
  · have c1' := litT c1
    have e1 : kn = 1 := by omega
    subst e1
    exact ⟨_, rfl, _, rfl, _, rfl, r, dx, ln, i + 1, lh, may, ns, hs, n, d, rfl, hR1, hmay, hsm, by omega, fun z H' k' => qE z H' (k1.trans k'), fun t i' z H' v' k' hR' t' => q t i' z H' v' (k1.trans k') hR' t'⟩
  have c1' := litF c1
  refine ⟨_, rfl, rfl, _, rfl, ite2 (fun c2 => ?_) (fun c2 => ?_)⟩
  · have c2' := litT c2
    have e2 : kn = 2 := by omega
    subst e2
    have er : Pa01.read hs (fu + 1) n (2 :: ns.drop (i + 1)) = (Pa01.read hs fu (n + 1) (ns.drop (i + 1))).map fun x => (.bind x.1, x.2) := rfl
    rw [er] at qE q
    refine ⟨_, rfl, _, rfl, _, _, rfl, rfl, _, rfl, _, _, rfl, rfl, r, dx, ln, i + 1, lh, may, ns, hs, n + 1, d + 1, 1, rfl, hR1, hmay, hsm, by omega, by omega, fun z H' k' => qE ?_ H' (k1.trans k'), fun ts i' z H' p us k' hR' hp hT => ?_⟩
    · rw [rp_1] at z
      cases e : Pa01.read hs fu (n + 1) (ns.drop (i + 1)) with
      | none => rfl
      | some x => rw [e] at z; cases z
    · rw [rp_1] at z
      cases e : Pa01.read hs fu (n + 1) (ns.drop (i + 1)) with
      | none => rw [e] at z; cases z
      | some x =>
        rw [e] at z q
        obtain ⟨x1, x2⟩ := x
        have z' := Option.some.inj z
        have z1 : [x1] = ts := congrArg Prod.fst z'
        have z2 : x2 = ns.drop i' := congrArg Prod.snd z'
        refine ⟨l3le _ _ _, fun p2 np2 => ?_⟩
        have s3 := same_new np2 (.tup [V.int 2, V.int 0, V.ref p])
        refine q (.bind x1) i' (by rw [z2]; rfl) _ _ (k1.trans (k'.trans s3.kp)) (hR'.same s3) (.mk (t := .bind x1) (p := p) upd_same (s3 _ _ hp) ?_)
        rw [← z1] at hT
        exact hT.tps s3.tps
  have c2' := litF c2
  refine ⟨_, rfl, rfl, _, rfl, fun c3 => ?_, fun c3 => ?_⟩
  · have c3' : V.int (kn : Nat) ≠ V.int 3 := of_decide_eq_false c3
    have h3 : kn ≠ 3 := fun z => c3' (by rw [z]; rfl)
    exact qE (read_big (by omega)) _ k1
  · have c3' := litT c3
    have e3 : kn = 3 := by omega
    subst e3
    exact ⟨_, rfl, _, rfl, _, rfl, r, dx, ln, i + 1, lh, may, ns, hs, n, d, rfl, hR1, hmay, hsm, by omega, fun z H' k' => qE z H' (k1.trans k'), fun t i' z H' v' k' hR' t' => q t i' z H' v' (k1.trans k') hR' t'⟩
theorem ok_read_term (T : Txt K mg a) : ∀ n : Nat, Cal P w K mg base (L2N.CX P w) (3 * n + 3) "read_term" ["reader", "places", "depth"] (spRT a n)
  | 0 => ok_read_termZ T
  | n + 1 => ok_read_term0 T (ok_read_term T n)
end
end HH
namespace HH
open PySem PySem.Spec PyProof.Rows L2 L2Y
open Pa01 (Term Hole Eqn)
/-- so many terms, and nothing else -/
def readMany (hs : List Hole) (n k : Nat) (ns : List Nat) : Option (List Term) := if 12 < n then none else match Pa01.readParts (Pa01.read hs 30 n) (fun _ => false) k 0 ns with
  | some (ts, []) => some ts
  | _ => none
def readFor : List Nat → List Nat → Option (List Term × List Nat)
  | [], r => some ([], r)
  | p :: l, r => match Pa01.read [] 30 p r with
    | none => none
    | some x => (readFor l x.2).map fun y => (x.1 :: y.1, y.2)
def readFills (ps ns : List Nat) : Option (List Term) := match readFor ps ns with
  | some (ts, []) => some ts
  | _ => none
def RfAt (ps r0 : List Nat) (j : Nat) (ts : List Term) (r : List Nat) : Prop := ts.length = j ∧ readFor ps r0 = (readFor (ps.drop j) r).map fun y => (ts ++ y.1, y.2)
theorem rfAt_0 {ps r : List Nat} : RfAt ps r 0 [] r := ⟨rfl, by
  show _ = (readFor ps r).map _
  cases readFor ps r <;> rfl⟩
theorem rfAt_none {ps r0 r : List Nat} {j p : Nat} {ts : List Term} (h : RfAt ps r0 j ts r) (hj : ps[j]? = some p) (o : Pa01.read [] 30 p r = none) : readFor ps r0 = none := by
  rw [h.2, drop_at hj]
  simp only [readFor]
  rw [o]
  rfl
theorem rfAt_some {ps r0 r rest : List Nat} {j p : Nat} {ts : List Term} {t : Term} (h : RfAt ps r0 j ts r) (hj : ps[j]? = some p) (o : Pa01.read [] 30 p r = some (t, rest)) : RfAt ps r0 (j + 1) (ts ++ [t]) rest := by
  refine ⟨by simp [h.1], ?_⟩
  rw [h.2, drop_at hj]
  simp only [readFor]
  rw [o]
  show Option.map _ (Option.map _ (readFor (ps.drop (j + 1)) rest)) = _
  cases readFor (ps.drop (j + 1)) rest with
  | none => rfl
  | some y =>
    show some (ts ++ t :: y.1, y.2) = some ((ts ++ [t]) ++ y.1, y.2)
    rw [List.append_assoc]
    rfl
theorem rfAt_end {ps r0 r : List Nat} {ts : List Term} (h : RfAt ps r0 ps.length ts r) : readFor ps r0 = some (ts, r) := by
  rw [h.2, List.drop_length]
  show some (ts ++ [], r) = _
  rw [List.append_nil]
section
variable {P : Program} {w : World} {K : PySem.W.Frag} {mg : Str → Option Value} {base : Heap} {a : Ad}
def spRdI (a : Ad) : Sp := fun vs H Q _ => ∃ (p dx ln lh : Addr) (may : Bool), vs = [.ref p, .ref ln, .ref lh, .bl may] ∧ H p = some (.ins a.rd dx []) ∧ ∀ H', Kp p H H' → RdAt a.rd H' p dx ln 0 lh may → Q .non H'
theorem sc_Reader_init : FnScope ["self", "numbers", "holes", "may_have_holes"] ["self", "numbers", "holes", "may_have_holes"] (defScope s_Reader_init) := ⟨rfl, rfl, rfl, by decide +kernel, rfl, by decide +kernel, by decide +kernel⟩
theorem ok_Reader (T : Txt K mg a) : Mak P w K mg base 1 "Reader" a.rd ["self", "numbers", "holes", "may_have_holes"] (spRdI a) := by
  obtain ⟨f, fd, M, F, b⟩ := T.rd.i
  refine ⟨f, fd, M, ?_, T.rd.g, b⟩
  refine F.ok sc_Reader_init (fun vs H Q E h => ?_) (fun cdv A outer s H vs Q E hr h => ?_)
  · obtain ⟨p, dx, ln, lh, may, rfl, _⟩ := h
    rfl
  obtain ⟨p, dx, ln, lh, may, rfl, hp, q⟩ := h
  refine ⟨_, (pss_cons (ps_fld (pv 0) (pv 1) rfl)
      (pss_cons (ps_fld (pv 0) pe_int rfl)
      (pss_cons (ps_fld (pv 0) (pv 2) rfl)
      (pss_one (ps_fld (pv 0) (pv 3) rfl))))), ?_⟩
  refine ⟨_, rfl, _, rfl, p, _, dx, _, rfl, hp, T.rd.c, T.rd.n "numbers" (by simp), (by show 0 < 1000; decide), ?_⟩
  refine ⟨_, rfl, p, _, dx, _, rfl, upd_same, T.rd.c, T.rd.n "at" (by simp), (by show 1 < 1000; decide), ?_⟩
  refine ⟨_, rfl, _, rfl, p, _, dx, _, rfl, upd_same, T.rd.c, T.rd.n "holes" (by simp), (by show 2 < 1000; decide), ?_⟩
  refine ⟨_, rfl, _, rfl, p, _, dx, _, rfl, upd_same, T.rd.c, T.rd.n "may_have_holes" (by simp), (by show 3 < 1000; decide), ?_⟩
  exact q _ (((kp_upd.trans kp_upd).trans kp_upd).trans kp_upd) upd_same
def spRTs (a : Ad) : Sp := fun vs H Q E => ∃ (ln lh : Addr) (ns : List Nat) (hs : List Hole) (n k : Nat), vs = [.ref ln, .ref lh, vn n, vn k] ∧ H ln = some (.lst (vns ns)) ∧ HolesL H lh hs ∧ Sm hs ∧ k ≤ 8 ∧
  (readMany hs n k ns = none → ∀ H', Same H H' → E (.ref a.nr) none H') ∧ (∀ ts, readMany hs n k ns = some ts → ∀ H' r us, Same H H' → H' r = some (.lst us) → TermsAt H' us ts → Q (.ref r) H')
theorem sc_read_terms : FnScope ["numbers", "holes", "places", "many", "reader", "found", "k"] ["numbers", "holes", "places", "many"] (defScope s_read_terms) := ⟨rfl, rfl, rfl, by decide +kernel, rfl, by decide +kernel, by decide +kernel⟩
theorem ok_read_terms (T : Txt K mg a) : Cal P w K mg base (L2N.CX P w) 94 "read_terms" ["numbers", "holes", "places", "many"] (spRTs a) := by
  have c_check : Cal P w K mg base (L2N.CX P w) 1 "check" ["truth"] (spCheck a) := ok_check T
  have c_Reader : Mak P w K mg base 1 "Reader" a.rd ["self", "numbers", "holes", "may_have_holes"] (spRdI a) := ok_Reader T
  have c_read_term : Cal P w K mg base (L2N.CX P w) 93 "read_term" ["reader", "places", "depth"] (spRT a 30) := ok_read_term T 30
  refine T.d_read_terms.okN sc_read_terms (fun vs H Q E h => ?_) (fun f cdv A outer s H vs Q E hr h => ?_)
  · obtain ⟨ln, lh, ns, hs, n, k, rfl, _⟩ := h
    rfl
  obtain ⟨ln, lh, ns, hs, n, k, rfl, hn, hh, hsm, hk, qE, q⟩ := h
  have tkd : L2N.Takes (cxOf (L2N.CX P w) P w K mg base ["numbers", "holes", "places", "many", "reader", "found", "k"] "read_terms" (defScope s_read_terms) f cdv A outer s H E) (fun cls d _ H => E cls d H) := L2N.takes_of rfl rfl rfl rfl
  refine ⟨_, (pss_cons (ps_expr (pe_callC c_check (hr.mono (by omega)) rfl (passN tkd) (pa_cons (pe_cmpR op_le (pv 2) (pe_k T.k_MOST_PLACES) (nomark _)) pa_nil)))
      (pss_cons (ps_set (i := 4) sc_read_terms.nd rfl (Or.inr rfl) (pe_makeC c_Reader (hr.mono (by omega)) rfl (pa_cons (pv 0) (pa_cons (pv 1) (pa_cons pe_bl pa_nil)))))
      (pss_cons (ps_setLcX (i := 5) (E := fun _ => E) (own := [("k", 6)]) rfl rfl tkd (fun _ _ _ _ h => h) rfl sc_read_terms.nd rfl rfl (sw_true rfl rfl rfl (by decide +kernel)) (pi_range1 rfl T.b_range (pa_cons (pv 3) pa_nil)) (blkOk_by (own := [("k", 6)]) (N := ["numbers", "holes", "places", "many", "reader", "found", "k"]) (sc := defScope s_read_terms) (by decide +kernel)) (fun _ _ _ _ _ => (pg_name (i := 6) sc_read_terms.nd rfl (Or.inl rfl))) (fun _ _ _ _ _ => pts_nil) (fun _ _ _ _ _ _ => (pe_callC c_read_term (hr.mono (by omega)) rfl passB (pa_cons (pv 4) (pa_cons (pv 2) (pa_cons pe_int pa_nil))))))
      (pss_cons (ps_expr (pe_callC c_check (hr.mono (by omega)) rfl (passN tkd) (pa_cons (pe_cmpR op_eq (pe_fld (pv 4) rfl) (pe_callB call_len_seq rfl T.b_len (by decide +kernel) (pa_cons (pv 0) pa_nil)) (nomark _)) pa_nil)))
      (pss_one (ps_ret (pv 5))))))), ?_⟩
  unfold readMany at qE q
  refine ⟨_, rfl, _, _, rfl, rfl, _, rfl, fun c => ?_, fun c => ?_⟩
  · have c' : ¬ (n : Int) ≤ 12 := of_decide_eq_false c
    exact qE (if_pos (by omega)) _ (Same.refl _)
  have c' : (n : Int) ≤ 12 := of_decide_eq_true c
  rw [if_neg (by omega)] at qE q
  refine ⟨_, rfl, _, rfl, fun r dx nr ndx hdr => ?_⟩
  have s1 : Same H (upd (upd H dx (.own r)) r (.ins a.rd dx [])) := (same_new ndx _).trans (same_new (by rw [upd_ne (Ne.symm hdr)]; exact nr) _)
  refine ⟨r, dx, ln, lh, true, rfl, upd_same, fun H1 k1 hr1 => ⟨rfl, ?_⟩⟩
  have k01 : Kp r H H1 := s1.kp.trans k1
  have s01 : Same H H1 := k01.back nr
  have hR1 : RdIn a H1 r dx ln 0 lh true ns hs := ⟨hr1, s01 _ _ hn, hh.sq s01.sq, Nat.zero_le _⟩
  refine ⟨_, rfl, (k : Int), rfl, by omega, by omega, fun D nD => ?_⟩
  have s0 := same_new nD (.lst [])
  have hDr : D ≠ r := fun z => by rw [z] at nD; rw [hr1] at nD; cases nD
  refine lc_range (lo := 0) (n := k) (fun j H' => ∃ i1 ts zs, RpAt (Pa01.read hs 30 n) (fun _ => false) k ns j ts (ns.drop i1) ∧ Kp r H1 H' ∧ RdIn a H' r dx ln i1 lh true ns hs ∧ H' D = some (.lst zs) ∧ TermsAt H' zs ts)
    ⟨0, [], [], rpAt_0, s0.kp, hR1.same s0, upd_same, .nil⟩ ?_ ?_
  · rintro j H2 hj ⟨i1, ts, zs, hp, kp, hR2, hD, hT⟩
    have eo : one1 (Pa01.read hs 30 n) (fun _ => false) j (ns.drop i1) = Pa01.read hs 30 n (ns.drop i1) := if_neg (by simp)
    refine ⟨rfl, _, rfl, _, rfl, r, dx, ln, i1, lh, true, ns, hs, n, 1, rfl, hR2, .inl rfl, hsm, rfl, fun z H' k' => ?_, fun t i2 z H3 v3 k3 hR3 t3 => ?_⟩
    · refine qE ?_ H' ((k01.trans (kp.trans k')).back nr)
      rw [rpAt_none hp hj (by rw [eo]; exact z)]
    have hD3 := k3 _ _ hD hDr
    have k4 : Kp r H1 (upd H3 D (.lst (zs ++ [v3]))) := kp_new (kp.trans k3) nD
    refine ⟨zs, hD3, ?_, i2, ts ++ [t], zs ++ [v3], rpAt_some hp hj (by rw [eo]; exact z), k4, hR1.kp k4 ?_ hR3.i, upd_same, ?_⟩
    · have h1 := hT.length
      have h2 := hp.1
      exact lt_line (by omega)
    · show upd _ _ _ _ = _
      rw [upd_ne (Ne.symm hDr)]
      exact hR3.r
    · exact ((hT.tps (k3.tps hR2.r)).append (.cons t3 .nil)).tps (tps_lst hD3)
  · rintro H2 ⟨i1, ts, zs, hp, kp, hR2, hD, hT⟩
    rw [rpAt_end hp] at qE q
    have hi := hR2.i
    have s2 := (k01.trans kp).back nr
    refine ⟨_, rfl, r, _, dx, _, _, rfl, hR2.r, T.rd.c, T.rd.n "at" (by simp), lk_at, _, rfl, ln, _, rfl, .inl (SqL.of hR2.n), rfl, _, rfl, fun c2 => ?_, fun c2 => ?_⟩
    · have c2' : V.int (i1 : Nat) ≠ V.int ((vns ns).length : Nat) := of_decide_eq_false c2
      rw [List.length_map] at c2'
      have h1 : i1 < ns.length := by
        rcases Nat.lt_or_ge i1 ns.length with h | h
        · exact h
        · exact absurd (congrArg (fun z : Nat => V.int (z : Int)) (by omega : i1 = ns.length)) c2'
      refine qE ?_ H2 s2
      rw [List.drop_eq_getElem_cons h1]
    · have c2' := litT c2
      rw [List.length_map] at c2'
      have h1 : ns.drop i1 = [] := List.drop_eq_nil_of_le (by omega)
      rw [h1] at q
      exact ⟨_, rfl, q ts rfl H2 D zs s2 hD hT⟩
def spRF (a : Ad) : Sp := fun vs H Q E => ∃ (ln la : Addr) (ns ps : List Nat), vs = [.ref ln, .ref la] ∧ H ln = some (.lst (vns ns)) ∧ H la = some (.lst (vns ps)) ∧ ps.length ≤ 1000 ∧
  (readFills ps ns = none → ∀ H', Same H H' → E (.ref a.nr) none H') ∧ (∀ ts, readFills ps ns = some ts → ∀ H' r us, Same H H' → H' r = some (.lst us) → TermsAt H' us ts → Q (.ref r) H')
theorem sc_read_fillings : FnScope ["numbers", "all_places", "reader", "found", "places"] ["numbers", "all_places"] (defScope s_read_fillings) := ⟨rfl, rfl, rfl, by decide +kernel, rfl, by decide +kernel, by decide +kernel⟩
theorem ok_read_fillings (T : Txt K mg a) : Cal P w K mg base (L2N.CX P w) 94 "read_fillings" ["numbers", "all_places"] (spRF a) := by
  have c_check : Cal P w K mg base (L2N.CX P w) 1 "check" ["truth"] (spCheck a) := ok_check T
  have c_Reader : Mak P w K mg base 1 "Reader" a.rd ["self", "numbers", "holes", "may_have_holes"] (spRdI a) := ok_Reader T
  have c_read_term : Cal P w K mg base (L2N.CX P w) 93 "read_term" ["reader", "places", "depth"] (spRT a 30) := ok_read_term T 30
  refine T.d_read_fillings.okN sc_read_fillings (fun vs H Q E h => ?_) (fun f cdv A outer s H vs Q E hr h => ?_)
  · obtain ⟨ln, la, ns, ps, rfl, _⟩ := h
    rfl
  obtain ⟨ln, la, ns, ps, rfl, hn, hla, hlp, qE, q⟩ := h
  have tkd : L2N.Takes (cxOf (L2N.CX P w) P w K mg base ["numbers", "all_places", "reader", "found", "places"] "read_fillings" (defScope s_read_fillings) f cdv A outer s H E) (fun cls d _ H => E cls d H) := L2N.takes_of rfl rfl rfl rfl
  refine ⟨_, (pss_cons (ps_set (i := 2) sc_read_fillings.nd rfl (Or.inr rfl) (pe_makeC c_Reader (hr.mono (by omega)) rfl (pa_cons (pv 0) (pa_cons (pe_lst pa_nil) (pa_cons pe_bl pa_nil)))))
      (pss_cons (ps_setLcX (i := 3) (E := fun _ => E) (own := [("places", 4)]) rfl rfl tkd (fun _ _ _ _ h => h) rfl sc_read_fillings.nd rfl rfl (sw_true rfl rfl rfl (by decide +kernel)) (pi_list (pv 1)) (blkOk_by (own := [("places", 4)]) (N := ["numbers", "all_places", "reader", "found", "places"]) (sc := defScope s_read_fillings) (by decide +kernel)) (fun _ _ _ _ _ => (pg_name (i := 4) sc_read_fillings.nd rfl (Or.inl rfl))) (fun _ _ _ _ _ => pts_nil) (fun _ _ _ _ _ _ => (pe_callC c_read_term (hr.mono (by omega)) rfl passB (pa_cons (pv 2) (pa_cons (pv 4) (pa_cons pe_int pa_nil))))))
      (pss_cons (ps_expr (pe_callC c_check (hr.mono (by omega)) rfl (passN tkd) (pa_cons (pe_cmpR op_eq (pe_fld (pv 2) rfl) (pe_callB call_len_seq rfl T.b_len (by decide +kernel) (pa_cons (pv 0) pa_nil)) (nomark _)) pa_nil)))
      (pss_one (ps_ret (pv 3)))))), ?_⟩
  unfold readFills at qE q
  refine ⟨_, rfl, le_line (by simp), fun lh nlh => fun r dx nr ndx hdr => ?_⟩
  have sl := same_new nlh (.lst [])
  have s1 := sl.trans ((same_new ndx (.own r)).trans (same_new (p := r) (H := upd (upd H lh (.lst [])) dx (.own r)) (by rw [upd_ne (Ne.symm hdr)]; exact nr) (.ins a.rd dx [])))
  refine ⟨r, dx, ln, lh, false, rfl, upd_same, fun H1 k1 hr1 => ⟨rfl, ?_⟩⟩
  have k01 : Kp r H H1 := s1.kp.trans k1
  have nr0 : H r = none := by
    cases e : H r with
    | none => rfl
    | some o => rw [sl _ _ e] at nr; cases nr
  have s01 : Same H H1 := k01.back nr0
  have hlr : lh ≠ r := fun z => by rw [z, upd_same] at nr; cases nr
  have hlh : H1 lh = some (.lst []) := by
    refine k1 _ _ ?_ hlr
    exact ((same_new ndx (.own r)).trans (same_new (p := r) (H := upd (upd H lh (.lst [])) dx (.own r)) (by rw [upd_ne (Ne.symm hdr)]; exact nr) (.ins a.rd dx []))) _ _ upd_same
  have hR1 : RdIn a H1 r dx ln 0 lh false ns [] := ⟨hr1, s01 _ _ hn, ⟨[], hlh, .nil⟩, Nat.zero_le _⟩
  refine ⟨_, rfl, la, rfl, ⟨_, SqL.of (s01 _ _ hla)⟩, fun D nD => ?_⟩
  have s0 := same_new nD (.lst [])
  have hDr : D ≠ r := fun z => by rw [z] at nD; rw [hr1] at nD; cases nD
  refine lc_list (K := K) (a := la) (xs := vns ps) (fun j H' => ∃ i1 ts zs, RfAt ps ns j ts (ns.drop i1) ∧ Kp r H1 H' ∧ RdIn a H' r dx ln i1 lh false ns [] ∧ H' D = some (.lst zs) ∧ TermsAt H' zs ts)
    ⟨0, [], [], rfAt_0, s0.kp, hR1.same s0, upd_same, .nil⟩ (fun j H' _ ⟨_, _, _, _, kp, _⟩ => SqL.of ((kp.sq hr1).l _ _ (s01 _ _ hla))) ?_ ?_
  · rintro j x H2 hx ⟨i1, ts, zs, hp, kp, hR2, hD, hT⟩
    obtain ⟨n, hj, rfl⟩ : ∃ n, ps[j]? = some n ∧ x = vn n := by
      have hx' : (ps.map vn)[j]? = some x := hx
      rw [List.getElem?_map] at hx'
      cases e : ps[j]? with
      | none => rw [e] at hx'; cases hx'
      | some n => rw [e] at hx'; exact ⟨n, rfl, (Option.some.inj hx').symm⟩
    refine ⟨rfl, _, rfl, _, rfl, r, dx, ln, i1, lh, false, ns, [], n, 1, rfl, hR2, .inr rfl, (fun x hx => by cases hx), rfl, fun z H' k' => ?_, fun t i2 z H3 v3 k3 hR3 t3 => ?_⟩
    · refine qE ?_ H' ((k01.trans (kp.trans k')).back nr0)
      rw [rfAt_none hp hj z]
    have hD3 := k3 _ _ hD hDr
    have k4 : Kp r H1 (upd H3 D (.lst (zs ++ [v3]))) := kp_new (kp.trans k3) nD
    refine ⟨zs, hD3, ?_, i2, ts ++ [t], zs ++ [v3], rfAt_some hp hj z, k4, hR1.kp k4 ?_ hR3.i, upd_same, ?_⟩
    · have h1 := hT.length
      have h2 := hp.1
      have h3 := at_lt hj
      exact lt_line (by omega)
    · show upd _ _ _ _ = _
      rw [upd_ne (Ne.symm hDr)]
      exact hR3.r
    · exact ((hT.tps (k3.tps hR2.r)).append (.cons t3 .nil)).tps (tps_lst hD3)
  · rintro H2 ⟨i1, ts, zs, hp, kp, hR2, hD, hT⟩
    rw [List.length_map] at hp
    rw [rfAt_end hp] at qE q
    have hi := hR2.i
    have s2 := (k01.trans kp).back nr0
    refine ⟨_, rfl, r, _, dx, _, _, rfl, hR2.r, T.rd.c, T.rd.n "at" (by simp), lk_at, _, rfl, ln, _, rfl, .inl (SqL.of hR2.n), rfl, _, rfl, fun c2 => ?_, fun c2 => ?_⟩
    · have c2' : V.int (i1 : Nat) ≠ V.int ((vns ns).length : Nat) := of_decide_eq_false c2
      rw [List.length_map] at c2'
      have h1 : i1 < ns.length := by
        rcases Nat.lt_or_ge i1 ns.length with h | h
        · exact h
        · exact absurd (congrArg (fun z : Nat => V.int (z : Int)) (by omega : i1 = ns.length)) c2'
      refine qE ?_ H2 s2
      rw [List.drop_eq_getElem_cons h1]
    · have c2' := litT c2
      rw [List.length_map] at c2'
      have h1 : ns.drop i1 = [] := List.drop_eq_nil_of_le (by omega)
      rw [h1] at q
      exact ⟨_, rfl, q ts rfl H2 D zs s2 hD hT⟩
end
end HH
namespace HH
open Pa01
/-! ### all is well with holes and equations -/
def OpenIn (hs hs' : List Hole) : Prop := ∀ (h : Nat) (x y : Hole), hs[h]? = some x → x.body = none → hs'[h]? = some y → y.body = none
mutual
theorem ok2_open {hs hs' : List Hole} (o : OpenIn hs hs') : ∀ t : Term, Cl hs t → Ok2 hs' t
  | .place _, _ => trivial
  | .sign _ ps, h => ok2s_open o ps h
  | .bind t, h => ok2_open o t h
  | .hole k ps, h => by
    obtain ⟨⟨x, e, eb, _⟩, h2⟩ := h
    exact ⟨fun y b e' eb' => (by rw [o k x y e eb e'] at eb'; cases eb'), ok2s_open o ps h2⟩
  | .gone, _ => trivial
theorem ok2s_open {hs hs' : List Hole} (o : OpenIn hs hs') : ∀ l : List Term, Cls hs l → Ok2s hs' l
  | [], _ => trivial
  | t :: l, h => ⟨ok2_open o t h.1, ok2s_open o l h.2⟩
end
structure TOk (hs : List Hole) (L : List Eqn) : Prop where
  bod : Bodies hs
  sm : Sm hs
  ok : ∀ x ∈ hs, ∀ t, x.body = some t → Ok2 hs t
  len : hs.length ≤ 24
  eqs : ∀ e ∈ L, EqOk hs e
  cnt : L.length ≤ 10000
structure EOk (B : Nat) (hs : List Hole) (e : Eqn) : Prop where
  n : e.n ≤ B
  fs : Fit (mans hs) e.n e.s
  ft : Fit (mans hs) e.n e.t
  cs : Cl hs e.s
  ct : Cl hs e.t
  ds : deep e.s ≤ 60
  dt : deep e.t ≤ 60
def tot (L : List Eqn) : Nat := sizes (L.flatMap Eqn.terms)
structure HOk (hs : List Hole) : Prop where
  len : hs.length ≤ 24
  sm : Sm hs
  bod : Bodies hs
  bcl : ∀ x ∈ hs, ∀ b, x.body = some b → Cl hs b
  bsz : ∀ x ∈ hs, ∀ b, x.body = some b → deep b ≤ 60 ∧ size b ≤ 2000
  sn : ∀ x ∈ hs, x.seen = (List.range x.many).filter fun k => x.seen.contains k
structure WOk (B : Nat) (hs : List Hole) (L : List Eqn) : Prop where
  h : HOk hs
  eqs : ∀ e ∈ L, EOk B hs e
  tot : tot L ≤ 2000
theorem EOk.mono {B B' : Nat} {hs : List Hole} {e : Eqn} (h : EOk B hs e) (hB : B ≤ B') : EOk B' hs e := ⟨Nat.le_trans h.n hB, h.fs, h.ft, h.cs, h.ct, h.ds, h.dt⟩
theorem WOk.mono {B B' : Nat} {hs : List Hole} {L : List Eqn} (h : WOk B hs L) (hB : B ≤ B') : WOk B' hs L := ⟨h.h, fun e he => (h.eqs e he).mono hB, h.tot⟩
theorem tot_cons (e : Eqn) (L : List Eqn) : tot (e :: L) = size e.s + size e.t + tot L := by
  unfold tot
  rw [List.flatMap_cons, sizes_append]
  simp [Eqn.terms, sizes]
theorem tot_append (a b : List Eqn) : tot (a ++ b) = tot a + tot b := by
  unfold tot
  rw [List.flatMap_append, sizes_append]
theorem tot_len : ∀ L : List Eqn, 2 * L.length ≤ tot L
  | [] => Nat.le_refl _
  | e :: L => by
    have := tot_len L
    have := size_pos e.s
    have := size_pos e.t
    rw [tot_cons, List.length_cons]
    omega
theorem tot_mem {e : Eqn} : ∀ {L : List Eqn}, e ∈ L → size e.s + size e.t ≤ tot L
  | a :: L, h => by
    rw [tot_cons]
    rcases List.mem_cons.mp h with rfl | h
    · omega
    · have := tot_mem h
      omega
theorem WOk.cnt {B : Nat} {hs : List Hole} {L : List Eqn} (h : WOk B hs L) : L.length ≤ 1000 := by
  have := tot_len L
  have := h.tot
  omega
/-! ### tidy -/
theorem tidy_eq (hs : List Hole) (L : List Eqn) : tidy hs L = if (pays 1 ((bodies hs ++ L.flatMap Eqn.terms).map (full hs)) 2000).isSome then some (hs.map (fullH hs), L.map (fullE hs)) else none := by
  unfold tidy
  rw [out_pays]
  by_cases h : (pays 1 ((bodies hs ++ L.flatMap Eqn.terms).map (full hs)) 2000).isSome = true
  · rw [if_pos h, if_pos h]
    rfl
  · rw [if_neg h, if_neg h]
theorem fullH_mans (hs : List Hole) : mans (hs.map (fullH hs)) = mans hs := by
  unfold mans
  rw [List.map_map]
  rfl
theorem fullH_alike (hs : List Hole) : Alike hs (hs.map (fullH hs)) := fun h x e eb => ⟨fullH hs x, by rw [List.getElem?_map, e]; rfl, by show x.body.map _ = none; rw [eb]; rfl, rfl⟩
theorem bodies_mem {hs : List Hole} {x : Hole} {b : Term} (h : x ∈ hs) (e : x.body = some b) : b ∈ bodies hs := List.mem_filterMap.mpr ⟨x, h, e⟩
theorem flatE (hs : List Hole) (L : List Eqn) : (L.map (fullE hs)).flatMap Eqn.terms = (L.flatMap Eqn.terms).map (full hs) := by
  induction L with
  | nil => rfl
  | cons e L ih =>
    rw [List.map_cons, List.flatMap_cons, List.flatMap_cons, List.map_append, ih]
    rfl
theorem tidy_wok {B : Nat} {hs : List Hole} {L : List Eqn} {x : List Hole × List Eqn} (t : TOk hs L) (sn : ∀ x ∈ hs, x.seen = (List.range x.many).filter fun k => x.seen.contains k) (hB : ∀ e ∈ L, e.n ≤ B) (h : tidy hs L = some x) : WOk B x.1 x.2 ∧ mans x.1 = mans hs ∧ x = (hs.map (fullH hs), L.map (fullE hs)) := by
  rw [tidy_eq] at h
  have hp : (pays 1 ((bodies hs ++ L.flatMap Eqn.terms).map (full hs)) 2000).isSome = true := by
    by_cases hp : (pays 1 ((bodies hs ++ L.flatMap Eqn.terms).map (full hs)) 2000).isSome = true
    · exact hp
    · rw [if_neg hp] at h
      cases h
  rw [if_pos hp] at h
  cases h
  have hs2 : sizes ((bodies hs ++ L.flatMap Eqn.terms).map (full hs)) ≤ 2000 ∧ deeps ((bodies hs ++ L.flatMap Eqn.terms).map (full hs)) ≤ 60 := by
    rw [pays_is _ _ _ (by omega)] at hp
    split at hp
    · rename_i hc
      omega
    · cases hp
  have mem : ∀ u ∈ (bodies hs ++ L.flatMap Eqn.terms).map (full hs), deep u ≤ 60 ∧ size u ≤ 2000 := fun u hu => ⟨Nat.le_trans (deeps_le hu) hs2.2, Nat.le_trans (sizes_le hu) hs2.1⟩
  have em := fullH_mans hs
  have al := fullH_alike hs
  have bmem : ∀ y ∈ hs.map (fullH hs), ∀ b, y.body = some b → ∃ z ∈ hs, ∃ c, z.body = some c ∧ b = full hs c ∧ y.many = z.many := by
    intro y hy b eb
    obtain ⟨z, hz, rfl⟩ := List.mem_map.mp hy
    have eb' : z.body.map (full hs) = some b := eb
    cases ec : z.body with
    | none => rw [ec] at eb'; cases eb'
    | some c => rw [ec] at eb'; exact ⟨z, hz, c, ec, (Option.some.inj eb').symm, rfl⟩
  refine ⟨⟨⟨by rw [List.length_map]; exact t.len, fun y hy => ?_, fun y hy b eb => ?_, fun y hy b eb => ?_, fun y hy b eb => ?_, fun y hy => ?_⟩, fun e he => ?_, ?_⟩, em, rfl⟩
  · obtain ⟨z, hz, rfl⟩ := List.mem_map.mp hy
    exact t.sm z hz
  · obtain ⟨z, hz, c, ec, rfl, ey⟩ := bmem y hy b eb
    show Fit (mans _) _ _
    rw [em, ey]
    exact fit_full t.bod _ c (t.bod z hz c ec)
  · obtain ⟨z, hz, c, ec, rfl, ey⟩ := bmem y hy b eb
    exact cl_alike al _ (cl_full _ c (t.bod z hz c ec) (t.ok z hz c ec))
  · obtain ⟨z, hz, c, ec, rfl, ey⟩ := bmem y hy b eb
    exact mem _ (List.mem_map.mpr ⟨c, List.mem_append_left _ (bodies_mem hz ec), rfl⟩)
  · obtain ⟨z, hz, rfl⟩ := List.mem_map.mp hy
    exact sn z hz
  · obtain ⟨g, hg, rfl⟩ := List.mem_map.mp he
    have q := t.eqs g hg
    have m1 : g.s ∈ bodies hs ++ L.flatMap Eqn.terms := List.mem_append_right _ (List.mem_flatMap.mpr ⟨g, hg, by simp [Eqn.terms]⟩)
    have m2 : g.t ∈ bodies hs ++ L.flatMap Eqn.terms := List.mem_append_right _ (List.mem_flatMap.mpr ⟨g, hg, by simp [Eqn.terms]⟩)
    exact ⟨hB g hg, by show Fit (mans (hs.map (fullH hs))) _ _; rw [em]; exact fit_full t.bod _ _ q.fs, by show Fit (mans (hs.map (fullH hs))) _ _; rw [em]; exact fit_full t.bod _ _ q.ft, cl_alike al _ (cl_full _ _ q.fs q.os), cl_alike al _ (cl_full _ _ q.ft q.ot),
      (mem _ (List.mem_map.mpr ⟨_, m1, rfl⟩)).1, (mem _ (List.mem_map.mpr ⟨_, m2, rfl⟩)).1⟩
  · show sizes ((L.map (fullE hs)).flatMap Eqn.terms) ≤ 2000
    rw [flatE]
    have := hs2.1
    rw [List.map_append, sizes_append] at this
    omega
/-! ### cuts -/
theorem cut_get (hs : List Hole) (c : List (Nat × Nat)) (h : Nat) : (cutAll hs c)[h]? = (hs[h]?).map fun x => { x with seen := x.seen.filter fun k => !c.contains (h, k) } := by
  unfold cutAll
  rw [List.getElem?_mapIdx]
theorem cut_mans (hs : List Hole) (c : List (Nat × Nat)) : mans (cutAll hs c) = mans hs := by
  apply List.ext_getElem?
  intro h
  rw [List.getElem?_map, List.getElem?_map, cut_get]
  cases hs[h]? <;> rfl
theorem cut_mem {hs : List Hole} {c : List (Nat × Nat)} {y : Hole} (h : y ∈ cutAll hs c) : ∃ i, ∃ x ∈ hs, y = { x with seen := x.seen.filter fun k => !c.contains (i, k) } := by
  obtain ⟨i, hi, e⟩ := List.getElem_of_mem h
  have e2 : (cutAll hs c)[i]? = some y := by rw [List.getElem?_eq_getElem hi, e]
  rw [cut_get] at e2
  cases q : hs[i]? with
  | none => rw [q] at e2; cases e2
  | some x => rw [q] at e2; exact ⟨i, x, List.mem_of_getElem? q, (Option.some.inj e2).symm⟩
theorem contains_filter (l : List Nat) (p : Nat → Bool) (k : Nat) : (l.filter p).contains k = (l.contains k && p k) := by
  rw [Bool.eq_iff_iff]
  simp [List.mem_filter]
theorem seen_filter {m : Nat} {l : List Nat} (p : Nat → Bool) (h : l = (List.range m).filter fun k => l.contains k) : l.filter p = (List.range m).filter fun k => (l.filter p).contains k := by
  have e : (fun k => (l.filter p).contains k) = fun k => (p k && l.contains k) := by
    funext k
    rw [contains_filter, Bool.and_comm]
  rw [e, ← List.filter_filter, ← h]
theorem cut_sn {hs : List Hole} (c : List (Nat × Nat)) (sn : ∀ x ∈ hs, x.seen = (List.range x.many).filter fun k => x.seen.contains k) : ∀ x ∈ cutAll hs c, x.seen = (List.range x.many).filter fun k => x.seen.contains k := by
  intro y hy
  obtain ⟨i, x, hx, rfl⟩ := cut_mem hy
  exact seen_filter _ (sn x hx)
theorem cut_open (hs : List Hole) (c : List (Nat × Nat)) : OpenIn hs (cutAll hs c) := fun h x y e eb e' => by
  rw [cut_get, e] at e'
  rw [← Option.some.inj e']
  exact eb
theorem cut_tok {B : Nat} {hs : List Hole} {L : List Eqn} (c : List (Nat × Nat)) (w : WOk B hs L) (hB : B ≤ 900000) : TOk (cutAll hs c) L := by
  have em := cut_mans hs c
  have o := cut_open hs c
  refine ⟨fun y hy b eb => ?_, fun y hy => ?_, fun y hy b eb => ?_, by unfold cutAll; rw [List.length_mapIdx]; exact w.h.len, fun e he => ?_, by have := w.cnt; omega⟩
  · obtain ⟨i, x, hx, rfl⟩ := cut_mem hy
    show Fit (mans _) _ _
    rw [em]
    exact w.h.bod x hx b eb
  · obtain ⟨i, x, hx, rfl⟩ := cut_mem hy
    exact w.h.sm x hx
  · obtain ⟨i, x, hx, rfl⟩ := cut_mem hy
    exact ok2_open o b (w.h.bcl x hx b eb)
  · have q := w.eqs e he
    exact ⟨Nat.le_trans q.n hB, by rw [em]; exact q.fs, by rw [em]; exact q.ft, ok2_open o _ q.cs, ok2_open o _ q.ct⟩
/-! ### a hole filled -/
theorem fillOne_get (hs : List Hole) (h : Nat) (t : Term) (k : Nat) : (fillOne hs h t)[k]? = (hs[k]?).map fun x => if k = h then { x with body := some t } else x := by
  unfold fillOne
  rw [List.getElem?_mapIdx]
theorem fillOne_mans (hs : List Hole) (h : Nat) (t : Term) : mans (fillOne hs h t) = mans hs := by
  apply List.ext_getElem?
  intro k
  rw [List.getElem?_map, List.getElem?_map, fillOne_get]
  cases hs[k]? with
  | none => rfl
  | some x => by_cases e : k = h <;> simp [e]
theorem fillOne_mem {hs : List Hole} {h : Nat} {t : Term} {y : Hole} (hy : y ∈ fillOne hs h t) : ∃ i x, hs[i]? = some x ∧ y = if i = h then { x with body := some t } else x := by
  obtain ⟨i, hi, e⟩ := List.getElem_of_mem hy
  have e2 : (fillOne hs h t)[i]? = some y := by rw [List.getElem?_eq_getElem hi, e]
  rw [fillOne_get] at e2
  cases q : hs[i]? with
  | none => rw [q] at e2; cases e2
  | some x => rw [q] at e2; exact ⟨i, x, q, (Option.some.inj e2).symm⟩
mutual
theorem cl_turn {hs : List Hole} (r : List Term) : ∀ (d : Nat) (t : Term), Cl hs t → Cl hs (turn r d t)
  | d, .place i, _ => by simp only [turn]; split <;> trivial
  | d, .sign f ps, h => cls_turns r d ps h
  | d, .bind t, h => cl_turn r (d + 1) t h
  | d, .hole k ps, h => by
    obtain ⟨⟨x, e, eb, em⟩, h2⟩ := h
    refine ⟨⟨x, e, eb, ?_⟩, cls_turns r d ps h2⟩
    rw [turns_map, mask_map (by simp [turn]), em]
  | d, .gone, _ => trivial
theorem cls_turns {hs : List Hole} (r : List Term) : ∀ (d : Nat) (l : List Term), Cls hs l → Cls hs (turns r d l)
  | d, [], _ => trivial
  | d, t :: l, h => ⟨cl_turn r d t h.1, cls_turns r d l h.2⟩
end
mutual
theorem within_turn {h : Nat} (r : List Term) : ∀ (d : Nat) (t : Term), within h (turn r d t) = within h t
  | d, .place i => by simp only [turn]; split <;> rfl
  | d, .sign f ps => by simp only [turn, within]; exact withins_turns r d ps
  | d, .bind t => by simp only [turn, within]; exact within_turn r (d + 1) t
  | d, .hole k ps => by simp only [turn, within]; rw [withins_turns r d ps]
  | d, .gone => rfl
theorem withins_turns {h : Nat} (r : List Term) : ∀ (d : Nat) (l : List Term), withins h (turns r d l) = withins h l
  | d, [] => rfl
  | d, t :: l => by simp only [turns, withins]; rw [within_turn r d t, withins_turns r d l]
end
mutual
/-- what is written out and does not name h is so with h filled -/
theorem cl_fillOne {hs : List Hole} {h : Nat} {b : Term} : ∀ t : Term, Cl hs t → within h t = false → Cl (fillOne hs h b) t
  | .place _, _, _ => trivial
  | .sign _ ps, c, w => cls_fillOne ps c w
  | .bind t, c, w => cl_fillOne t c w
  | .hole k ps, c, w => by
    obtain ⟨⟨x, e, eb, em⟩, c2⟩ := c
    simp only [within, Bool.or_eq_false_iff] at w
    have hk : k ≠ h := fun z => by simp [z] at w
    exact ⟨⟨x, by rw [fillOne_get, e]; simp [hk], eb, em⟩, cls_fillOne ps c2 w.2⟩
  | .gone, _, _ => trivial
theorem cls_fillOne {hs : List Hole} {h : Nat} {b : Term} : ∀ l : List Term, Cls hs l → withins h l = false → Cls (fillOne hs h b) l
  | [], _, _ => trivial
  | t :: l, c, w => by
    simp only [withins, Bool.or_eq_false_iff] at w
    exact ⟨cl_fillOne t c.1 w.1, cls_fillOne l c.2 w.2⟩
end
mutual
theorem ok2_fillOne {hs : List Hole} {h : Nat} {b : Term} (hb : Cl (fillOne hs h b) b) : ∀ t : Term, Cl hs t → Ok2 (fillOne hs h b) t
  | .place _, _ => trivial
  | .sign _ ps, c => ok2s_fillOne hb ps c
  | .bind t, c => ok2_fillOne hb t c
  | .hole k ps, c => by
    obtain ⟨⟨x, e, eb, em⟩, c2⟩ := c
    refine ⟨fun y d e' eb' => ?_, ok2s_fillOne hb ps c2⟩
    rw [fillOne_get, e] at e'
    have e'' : (if k = h then { x with body := some b } else x) = y := Option.some.inj e'
    by_cases hk : k = h
    · rw [if_pos hk] at e''
      rw [← e''] at eb'
      cases eb'
      exact hb
    · rw [if_neg hk] at e''
      rw [← e'', eb] at eb'
      cases eb'
  | .gone, _ => trivial
theorem ok2s_fillOne {hs : List Hole} {h : Nat} {b : Term} (hb : Cl (fillOne hs h b) b) : ∀ l : List Term, Cls hs l → Ok2s (fillOne hs h b) l
  | [], _ => trivial
  | t :: l, c => ⟨ok2_fillOne hb t c.1, ok2s_fillOne hb l c.2⟩
end
theorem spotOf_lt {ps : List Term} {i : Nat} (h : (spots ps).contains i = true) : spotOf ps i < ps.length := by
  unfold spotOf
  refine List.findIdx_lt_length_of_exists ?_
  have h' : i ∈ spots ps := by simpa using h
  obtain ⟨t, ht, e⟩ := List.mem_filterMap.mp h'
  refine ⟨t, ht, ?_⟩
  cases t with
  | place j =>
    have : j = i := Option.some.inj e
    simp [this]
  | _ => cases e
mutual
theorem fit_turn {ms : List Nat} {r : List Term} : ∀ (d n : Nat) (t : Term), Fit ms n t → badIn (fun i => (spots r).contains i) d t = false → Fit ms (r.length + d) (turn r d t)
  | d, n, .place i, f, b => by
    simp only [turn]
    split
    · rename_i hi
      show i < r.length + d
      omega
    · rename_i hi
      simp only [badIn] at b
      rw [decide_eq_true (by omega), Bool.true_and] at b
      have := spotOf_lt (ps := r) (i := i - d) (by simpa using b)
      show spotOf r (i - d) + d < r.length + d
      omega
  | d, n, .sign g ps, f, b => fits_turns d n ps f b
  | d, n, .bind t, f, b => fit_turn (d + 1) (n + 1) t f b
  | d, n, .hole k ps, f, b => ⟨by rw [turns_map, List.length_map]; exact f.1, fits_turns d n ps f.2 b⟩
  | d, n, .gone, _, _ => trivial
theorem fits_turns {ms : List Nat} {r : List Term} : ∀ (d n : Nat) (l : List Term), Fits ms n l → badIns (fun i => (spots r).contains i) d l = false → Fits ms (r.length + d) (turns r d l)
  | d, n, [], _, _ => trivial
  | d, n, t :: l, f, b => by
    simp only [badIns, Bool.or_eq_false_iff] at b
    exact ⟨fit_turn d n t f.1 b.1, fits_turns d n l f.2 b.2⟩
end
/-- what filling a hole of an equation needs -/
structure FillOk (hs : List Hole) (h : Nat) (ps : List Term) (n : Nat) (t : Term) : Prop where
  hole : Fit (mans hs) n (.hole h ps)
  clh : Cl hs (.hole h ps)
  fit : Fit (mans hs) n t
  cl : Cl hs t
  w : within h t = false
  b : badIn (fun i => (spots ps).contains i) 0 t = false
theorem fill_tok {B n : Nat} {hs : List Hole} {L : List Eqn} {h : Nat} {ps : List Term} {t : Term} (w : WOk B hs L) (hB : B ≤ 900000) (f : FillOk hs h ps n t) :
    TOk (fillOne hs h (turn ps 0 t)) L ∧ (∀ x ∈ fillOne hs h (turn ps 0 t), x.seen = (List.range x.many).filter fun k => x.seen.contains k) := by
  have em := fillOne_mans hs h (turn ps 0 t)
  have hb : Cl (fillOne hs h (turn ps 0 t)) (turn ps 0 t) := cl_fillOne _ (cl_turn ps 0 t f.cl) (by rw [within_turn]; exact f.w)
  have hft := fit_turn 0 n t f.fit f.b
  have hm := f.hole.1
  refine ⟨⟨fun y hy b eb => ?_, fun y hy => ?_, fun y hy b eb => ?_, by unfold fillOne; rw [List.length_mapIdx]; exact w.h.len, fun e he => ?_, by have := w.cnt; omega⟩, fun y hy => ?_⟩
  · obtain ⟨i, x, ex, rfl⟩ := fillOne_mem hy
    show Fit (mans _) _ _
    rw [em]
    by_cases hi : i = h
    · rw [if_pos hi] at eb ⊢
      cases eb
      obtain ⟨x', ex', emx⟩ := mans_at hm
      rw [hi, ex'] at ex
      cases ex
      show Fit (mans hs) x.many _
      rw [emx]
      exact hft
    · rw [if_neg hi] at eb ⊢
      exact w.h.bod x (List.mem_of_getElem? ex) b eb
  · obtain ⟨i, x, ex, rfl⟩ := fillOne_mem hy
    have := w.h.sm x (List.mem_of_getElem? ex)
    by_cases hi : i = h
    · rw [if_pos hi]; exact this
    · rw [if_neg hi]; exact this
  · obtain ⟨i, x, ex, rfl⟩ := fillOne_mem hy
    by_cases hi : i = h
    · rw [if_pos hi] at eb
      cases eb
      exact ok2_cl _ hb
    · rw [if_neg hi] at eb
      exact ok2_fillOne hb _ (w.h.bcl x (List.mem_of_getElem? ex) b eb)
  · have q := w.eqs e he
    exact ⟨Nat.le_trans q.n hB, by rw [em]; exact q.fs, by rw [em]; exact q.ft, ok2_fillOne hb _ q.cs, ok2_fillOne hb _ q.ct⟩
  · obtain ⟨i, x, ex, rfl⟩ := fillOne_mem hy
    have := w.h.sn x (List.mem_of_getElem? ex)
    by_cases hi : i = h
    · rw [if_pos hi]; exact this
    · rw [if_neg hi]; exact this
end HH
namespace HH
open Pa01
/-! ### one equation taken up -/
/-- what comes of one: it can't hold; too large; the new state -/
inductive St1 where
  | no
  | over
  | go (hs : List Hole) (l w : List Eqn)
def tid (hs : List Hole) (L : List Eqn) : St1 := match tidy hs L with
  | none => .over
  | some x => .go x.1 x.2 []
def stepO (hs : List Hole) (e : Eqn) (l w : List Eqn) : Out → St1
  | .no => .no
  | .done => .go hs l w
  | .parts ps => .go hs (ps ++ l) w
  | .wait => .go hs l (w ++ [e])
  | .cut c => tid (cutAll hs c) (e :: l ++ w)
  | .fill h t => tid (fillOne hs h t) (l ++ w)
theorem work_step (f : Nat) (hs : List Hole) (e : Eqn) (l w : List Eqn) : work (f + 1) hs (e :: l) w = match stepO hs e l w (take e) with
    | .no => .no
    | .over => .over
    | .go hs' l' w' => work f hs' l' w' := by
  simp only [work]
  cases take e with
  | no => rfl
  | done => rfl
  | parts ps => rfl
  | wait => rfl
  | cut c =>
    simp only [stepO, tid]
    cases tidy (cutAll hs c) (e :: l ++ w) <;> rfl
  | fill h t =>
    simp only [stepO, tid]
    cases tidy (fillOne hs h t) (l ++ w) <;> rfl
def withO (s t : Term) : Out := if isPl s = true ∧ (isPl t = false ∨ nm t < nm s) then solve (nm s) (pts s) t else if isPl t = true then solve (nm t) (pts t) s else .wait
def sameO (s t : Term) : Out := match differ (nm s) 0 (pts s) (pts t) with
  | [] => .wait
  | l => .cut l
def withoutO (n : Nat) (s t : Term) : Out := if kd s ≠ kd t ∨ nm s ≠ nm t ∨ (pts s).length ≠ (pts t).length ∨ ¬ (kd s = 1 ∨ kd s = 2) then .no else .parts (pair (n + un s) (pts s) (pts t))
theorem isPl_hole (h : Nat) (ps : List Term) : isPl (.hole h ps) = plain ps := by simp [isPl, kd, pts]
theorem isPl_not {t : Term} (h : kd t ≠ 3) : isPl t = false := by simp [isPl, h]
theorem take_eq (e : Eqn) : take e = if same e.s e.t = true then .done else if kd e.s = 3 ∧ kd e.t = 3 ∧ nm e.s = nm e.t then sameO e.s e.t else if kd e.s = 3 ∨ kd e.t = 3 then withO e.s e.t else withoutO e.n e.s e.t := by
  obtain ⟨n, s, t⟩ := e
  show take ⟨n, s, t⟩ = if same s t = true then .done else if kd s = 3 ∧ kd t = 3 ∧ nm s = nm t then sameO s t else if kd s = 3 ∨ kd t = 3 then withO s t else withoutO n s t
  unfold take
  by_cases hs : same s t = true
  · rw [if_pos hs, if_pos hs]
  rw [if_neg hs, if_neg hs]
  have nh : ∀ (u : Term) (h : Nat) (ps : List Term), kd u ≠ 3 → withO (.hole h ps) u = if plain ps = true then solve h ps u else .wait := by
    intro u h ps hu
    unfold withO
    rw [isPl_hole, isPl_not hu]
    by_cases hp : plain ps = true
    · rw [if_pos ⟨hp, .inl rfl⟩, if_pos hp]
      rfl
    · rw [if_neg (fun z => hp z.1), if_neg hp, if_neg (by decide)]
  have hn : ∀ (u : Term) (h : Nat) (ps : List Term), kd u ≠ 3 → withO u (.hole h ps) = if plain ps = true then solve h ps u else .wait := by
    intro u h ps hu
    unfold withO
    rw [isPl_hole, isPl_not hu, if_neg (fun z => by simp at z)]
    rfl
  cases s with
  | hole h ps =>
    cases t with
    | hole k qs =>
      by_cases hk : h = k
      · rw [if_pos ⟨rfl, rfl, hk⟩]
        subst hk
        show (if h = h then _ else _) = _
        rw [if_pos rfl]
        rfl
      · rw [if_neg (fun z => hk z.2.2), if_pos (.inl rfl)]
        show (if h = k then _ else _) = _
        rw [if_neg hk]
        unfold withO
        rw [isPl_hole, isPl_hole]
        rfl
    | place i => rw [if_neg (by simp [kd]), if_pos (.inl rfl), nh _ _ _ (by simp [kd])]
    | sign g qs => rw [if_neg (by simp [kd]), if_pos (.inl rfl), nh _ _ _ (by simp [kd])]
    | bind u => rw [if_neg (by simp [kd]), if_pos (.inl rfl), nh _ _ _ (by simp [kd])]
    | gone => rw [if_neg (by simp [kd]), if_pos (.inl rfl), nh _ _ _ (by simp [kd])]
  | place i =>
    cases t with
    | hole k qs => rw [if_neg (by simp [kd]), if_pos (.inr rfl), hn _ _ _ (by simp [kd])]
    | _ => simp [kd, withoutO]
  | sign g ps =>
    cases t with
    | hole k qs => rw [if_neg (by simp [kd]), if_pos (.inr rfl), hn _ _ _ (by simp [kd])]
    | sign f qs =>
      rw [if_neg (by simp [kd]), if_neg (by simp [kd])]
      show (if g = f ∧ ps.length = qs.length then _ else _) = _
      unfold withoutO
      by_cases hg : g = f ∧ ps.length = qs.length
      · rw [if_pos hg, if_neg (by simp [kd, nm, pts, hg])]
        simp [un, kd, pts]
      · rw [if_neg hg, if_pos]
        simp only [kd, nm, pts]
        by_cases h1 : g = f
        · exact .inr (.inr (.inl fun z => hg ⟨h1, z⟩))
        · exact .inr (.inl h1)
    | _ => simp [kd, withoutO]
  | bind u =>
    cases t with
    | hole k qs => rw [if_neg (by simp [kd]), if_pos (.inr rfl), hn _ _ _ (by simp [kd])]
    | bind v => simp [kd, withoutO, nm, pts, un, pair]
    | _ => simp [kd, withoutO]
  | gone =>
    cases t with
    | hole k qs => rw [if_neg (by simp [kd]), if_pos (.inr rfl), hn _ _ _ (by simp [kd])]
    | gone => exact absurd rfl hs
    | _ => simp [kd, withoutO]
/-! ### the same hole on both sides -/
def apartAt (ps qs : List Term) (k : Nat) : Bool := match ps[k]?, qs[k]? with
  | some a, some b => apart a b
  | _, _ => false
def goneL (ps qs : List Term) : List Nat := (List.range ps.length).filter (apartAt ps qs)
theorem differ_eq (h : Nat) : ∀ (ps qs : List Term) (k : Nat), ps.length = qs.length → differ h k ps qs = ((List.range ps.length).filter (apartAt ps qs)).map fun j => (h, k + j)
  | [], [], k, _ => rfl
  | a :: l, b :: m, k, e => by
    have e' : l.length = m.length := by simpa using e
    have ih := differ_eq h l m (k + 1) e'
    have ex : (List.range (a :: l).length) = 0 :: (List.range l.length).map (· + 1) := by
      rw [List.length_cons, List.range_succ_eq_map]
    rw [ex, List.filter_cons]
    have e0 : apartAt (a :: l) (b :: m) 0 = apart a b := rfl
    have e1 : (apartAt (a :: l) (b :: m) ∘ (· + 1)) = apartAt l m := by
      funext j
      simp [apartAt]
    rw [List.filter_map, e1, e0]
    simp only [differ]
    rw [ih]
    have e2 : (List.map (fun j => (h, k + j)) (List.map (· + 1) (List.filter (apartAt l m) (List.range l.length)))) = List.map (fun j => (h, k + 1 + j)) (List.filter (apartAt l m) (List.range l.length)) := by
      rw [List.map_map]
      exact List.map_congr_left fun j _ => by simp [Nat.add_assoc, Nat.add_comm 1 j]
    by_cases hc : apart a b = true
    · rw [if_pos hc, if_pos hc, List.map_cons, e2]
      simp
    · rw [if_neg hc, if_neg hc, e2]
      rfl
theorem differ_gone (h : Nat) (ps qs : List Term) (e : ps.length = qs.length) : differ h 0 ps qs = (goneL ps qs).map fun j => (h, j) := by
  rw [differ_eq h ps qs 0 e]
  unfold goneL
  exact List.map_congr_left fun j _ => by simp
/-! ### one hole sees less -/
def cutOne (hs : List Hole) (h : Nat) (gone : List Nat) : List Hole := hs.mapIdx fun k x => if k = h then { x with seen := x.seen.filter fun j => !gone.contains j } else x
theorem cutOne_get (hs : List Hole) (h : Nat) (gone : List Nat) (k : Nat) : (cutOne hs h gone)[k]? = (hs[k]?).map fun x => if k = h then { x with seen := x.seen.filter fun j => !gone.contains j } else x := by
  unfold cutOne
  rw [List.getElem?_mapIdx]
theorem cut_gone (hs : List Hole) (h : Nat) (gone : List Nat) : cutAll hs (gone.map fun j => (h, j)) = cutOne hs h gone := by
  apply List.ext_getElem?
  intro k
  rw [cut_get, cutOne_get]
  cases hs[k]? with
  | none => rfl
  | some x =>
    show some _ = some _
    congr 1
    show ({ x with seen := x.seen.filter fun j => !(gone.map fun j => (h, j)).contains (k, j) } : Hole) = if k = h then { x with seen := x.seen.filter fun j => !gone.contains j } else x
    by_cases hk : k = h
    · rw [if_pos hk]
      congr 1
      refine List.filter_congr fun j _ => ?_
      congr 1
      rw [Bool.eq_iff_iff]
      simp [hk]
    · rw [if_neg hk]
      obtain ⟨m, sn, b⟩ := x
      show Hole.mk m _ b = Hole.mk m sn b
      congr 1
      refine List.filter_eq_self.mpr fun j _ => ?_
      have : ((gone.map fun j => (h, j)).contains (k, j)) = false := by
        rw [Bool.eq_false_iff]
        intro z
        have z' : (k, j) ∈ gone.map fun j => (h, j) := by simpa using z
        obtain ⟨i, _, e⟩ := List.mem_map.mp z'
        exact hk (congrArg Prod.fst e).symm
      rw [this]
      rfl
theorem cut_nil (hs : List Hole) : cutAll hs [] = hs := by
  apply List.ext_getElem?
  intro k
  rw [cut_get]
  cases hs[k]? with
  | none => rfl
  | some x =>
    obtain ⟨m, sn, b⟩ := x
    show some (Hole.mk m _ b) = some (Hole.mk m sn b)
    congr 2
    exact List.filter_eq_self.mpr fun j _ => rfl
theorem cut_more (hs : List Hole) (c : List (Nat × Nat)) (h k : Nat) : cutAll hs (c ++ [(h, k)]) = cutOne (cutAll hs c) h [k] := by
  apply List.ext_getElem?
  intro i
  rw [cut_get, cutOne_get, cut_get]
  cases hs[i]? with
  | none => rfl
  | some x =>
    show some _ = some _
    congr 1
    show ({ x with seen := x.seen.filter fun j => !(c ++ [(h, k)]).contains (i, j) } : Hole) = if i = h then { x with seen := (x.seen.filter fun j => !c.contains (i, j)).filter fun j => ![k].contains j } else { x with seen := x.seen.filter fun j => !c.contains (i, j) }
    by_cases hi : i = h
    · rw [if_pos hi]
      obtain ⟨m, sn, b⟩ := x
      show Hole.mk m _ b = Hole.mk m _ b
      congr 1
      rw [List.filter_filter]
      refine List.filter_congr fun j _ => ?_
      rw [Bool.eq_iff_iff]
      simp [hi, and_comm]
    · rw [if_neg hi]
      obtain ⟨m, sn, b⟩ := x
      show Hole.mk m _ b = Hole.mk m _ b
      congr 1
      refine List.filter_congr fun j _ => ?_
      rw [Bool.eq_iff_iff]
      simp [hi]
theorem set_cutOne {hs : List Hole} {h : Nat} {x : Hole} (e : hs[h]? = some x) (gone : List Nat) : cutOne hs h gone = hs.take h ++ [{ x with seen := x.seen.filter fun j => !gone.contains j }] ++ hs.drop (h + 1) := by
  apply List.ext_getElem?
  intro i
  have hl := (List.getElem?_eq_some_iff.mp e).1
  rw [cutOne_get, List.append_assoc]
  rcases Nat.lt_trichotomy i h with hi | hi | hi
  · rw [List.getElem?_append_left (by rw [List.length_take]; omega), List.getElem?_take_of_lt hi]
    cases hs[i]? with
    | none => rfl
    | some y =>
      show some (if i = h then _ else y) = some y
      rw [if_neg (by omega)]
  · subst hi
    rw [List.getElem?_append_right (by rw [List.length_take]; omega), e, List.length_take, Nat.min_eq_left (by omega), Nat.sub_self]
    show some (if i = i then _ else x) = some _
    rw [if_pos rfl]
  · rw [List.getElem?_append_right (by rw [List.length_take]; omega), List.length_take, Nat.min_eq_left (by omega)]
    obtain ⟨j, rfl⟩ : ∃ j, i = h + 1 + j := ⟨i - h - 1, by omega⟩
    rw [show h + 1 + j - h = j + 1 by omega, List.singleton_append, List.getElem?_cons_succ, List.getElem?_drop]
    cases hs[h + 1 + j]? with
    | none => rfl
    | some y =>
      show some (if h + 1 + j = h then _ else y) = some y
      rw [if_neg (by omega)]
theorem set_fillOne {hs : List Hole} {h : Nat} {x : Hole} (e : hs[h]? = some x) (t : Term) : fillOne hs h t = hs.take h ++ [{ x with body := some t }] ++ hs.drop (h + 1) := by
  apply List.ext_getElem?
  intro i
  have hl := (List.getElem?_eq_some_iff.mp e).1
  rw [fillOne_get, List.append_assoc]
  rcases Nat.lt_trichotomy i h with hi | hi | hi
  · rw [List.getElem?_append_left (by rw [List.length_take]; omega), List.getElem?_take_of_lt hi]
    cases hs[i]? with
    | none => rfl
    | some y =>
      show some (if i = h then _ else y) = some y
      rw [if_neg (by omega)]
  · subst hi
    rw [List.getElem?_append_right (by rw [List.length_take]; omega), e, List.length_take, Nat.min_eq_left (by omega), Nat.sub_self]
    show some (if i = i then _ else x) = some _
    rw [if_pos rfl]
  · rw [List.getElem?_append_right (by rw [List.length_take]; omega), List.length_take, Nat.min_eq_left (by omega)]
    obtain ⟨j, rfl⟩ : ∃ j, i = h + 1 + j := ⟨i - h - 1, by omega⟩
    rw [show h + 1 + j - h = j + 1 by omega, List.singleton_append, List.getElem?_cons_succ, List.getElem?_drop]
    cases hs[h + 1 + j]? with
    | none => rfl
    | some y =>
      show some (if h + 1 + j = h then _ else y) = some y
      rw [if_neg (by omega)]
theorem sees_cut (x : Hole) (gone : List Nat) : seesL { x with seen := x.seen.filter fun j => !gone.contains j } = (List.range x.many).map fun k => (x.seen.contains k && !gone.contains k) := by
  unfold seesL
  exact List.map_congr_left fun k _ => contains_filter _ _ _
/-! ### the parts -/
theorem pair_mem {n : Nat} {ps qs : List Term} {e : Eqn} (h : e ∈ pair n ps qs) : e.n = n ∧ e.s ∈ ps ∧ e.t ∈ qs := by
  unfold pair at h
  obtain ⟨x, hx, rfl⟩ := List.mem_map.mp h
  exact ⟨rfl, (List.of_mem_zip hx).1, (List.of_mem_zip hx).2⟩
theorem pair_tot (n : Nat) : ∀ ps qs : List Term, tot (pair n ps qs) ≤ sizes ps + sizes qs
  | [], _ => Nat.zero_le _
  | _ :: _, [] => Nat.zero_le _
  | a :: l, b :: m => by
    have ih := pair_tot n l m
    have e : pair n (a :: l) (b :: m) = ⟨n, a, b⟩ :: pair n l m := rfl
    rw [e, tot_cons]
    simp only [sizes]
    omega
theorem cl_pts {hs : List Hole} {t : Term} (h : Cl hs t) : ∀ p ∈ pts t, Cl hs p := by
  cases t with
  | place i => intro p hp; cases hp
  | sign f ps => exact cls_iff.mp h
  | bind u =>
    intro p hp
    have : p = u := by simpa [pts] using hp
    rw [this]
    exact h
  | hole k ps => exact cls_iff.mp h.2
  | gone => intro p hp; cases hp
theorem parts_wok {B : Nat} {hs : List Hole} {e : Eqn} {L : List Eqn} (w : WOk B hs (e :: L)) (hu : un e.s = un e.t) : WOk (B + 1) hs (pair (e.n + un e.s) (pts e.s) (pts e.t) ++ L) := by
  have q := w.eqs e List.mem_cons_self
  have ht := w.tot
  rw [tot_cons] at ht
  have d1 := deep_eq e.s
  have d2 := deep_eq e.t
  have s1 := size_eq e.s
  have s2 := size_eq e.t
  have hun : un e.s ≤ 1 := by unfold un; split <;> omega
  refine ⟨w.h, fun g hg => ?_, ?_⟩
  · rcases List.mem_append.mp hg with hg | hg
    · obtain ⟨m1, m2, m3⟩ := pair_mem hg
      have e1 := deeps_le m2
      have e2 := deeps_le m3
      have f2 := fit_pts q.ft g.t m3
      rw [← hu] at f2
      exact ⟨by rw [m1]; have := q.n; omega, by rw [m1]; exact fit_pts q.fs g.s m2, by rw [m1]; exact f2, cl_pts q.cs _ m2, cl_pts q.ct _ m3, by have := q.ds; omega, by have := q.dt; omega⟩
    · exact (w.eqs g (List.mem_cons_of_mem _ hg)).mono (by omega)
  · have := pair_tot (e.n + un e.s) (pts e.s) (pts e.t)
    rw [tot_append]
    omega
end HH
namespace HH
open PySem PySem.Spec PyProof.Rows L2 L2Y
open Pa01 (Term Hole Eqn)
/-! ### what writing equations costs -/
def wpay (hs : List Hole) (es : List Eqn) (m : Nat) : Option Nat := pays 1 ((es.flatMap Eqn.terms).map (Pa01.full hs)) m
theorem wpay_more {hs : List Hole} {es : List Eqn} {j m m1 : Nat} {e : Eqn} (h : es[j]? = some e) (hp : wpay hs (es.take j) m = some m1) : wpay hs (es.take (j + 1)) m = pays 1 [Pa01.full hs e.s, Pa01.full hs e.t] m1 := by
  unfold wpay at *
  rw [take_more h, List.flatMap_append, List.map_append, pays_append, hp]
  rfl
theorem wpay_append (hs : List Hole) (a b : List Eqn) (m : Nat) : wpay hs (a ++ b) m = (wpay hs a m).bind (wpay hs b) := by
  unfold wpay
  rw [List.flatMap_append, List.map_append, pays_append]
theorem wpay_none {hs : List Hole} {es : List Eqn} {j m m1 : Nat} {e : Eqn} (h : es[j]? = some e) (hp : wpay hs (es.take j) m = some m1) (z : pays 1 [Pa01.full hs e.s, Pa01.full hs e.t] m1 = none) : wpay hs es m = none := by
  have := wpay_append hs (es.take (j + 1)) (es.drop (j + 1)) m
  rw [List.take_append_drop, wpay_more h hp, z] at this
  exact this
theorem wall_eq (hs : List Hole) (w l : List Eqn) (m : Nat) : pays 1 ((Pa01.bodies hs ++ (w ++ l).flatMap Eqn.terms).map (Pa01.full hs)) m = (pays 1 ((Pa01.bodies hs).map (Pa01.full hs)) m).bind fun m1 => (wpay hs w m1).bind (wpay hs l) := by
  rw [List.map_append, pays_append]
  congr 1
  funext m1
  exact wpay_append hs w l m1
/-! ### the work in the heap -/
def wkF (lh lw ll : Addr) : List (Str × V) := [("holes", .ref lh), ("waits", .ref lw), ("left", .ref ll)]
section
variable {lh lw ll x : Addr}
theorem lk_holes' : List.lookup ("holes" : Str) (wkF lh lw ll) = some (.ref lh) := rfl
theorem lk_waits : List.lookup ("waits" : Str) (wkF lh lw ll) = some (.ref lw) := rfl
theorem lk_left' : List.lookup ("left" : Str) (wkF lh lw ll) = some (.ref ll) := rfl
theorem put_holes : putF ("holes" : Str) (.ref x) (wkF lh lw ll) = wkF x lw ll := rfl
theorem put_waits : putF ("waits" : Str) (.ref x) (wkF lh lw ll) = wkF lh x ll := rfl
theorem put_left' : putF ("left" : Str) (.ref x) (wkF lh lw ll) = wkF lh lw x := rfl
end
def WkIn (a : Ad) (H : Hp) (wk dx : Addr) (hs : List Hole) (w l : List Eqn) : Prop := ∃ lh lw ll, H wk = some (.ins a.wk dx (wkF lh lw ll)) ∧ HolesL H lh hs ∧ EqnsL H lw w ∧ EqnsL H ll l
theorem WkIn.same {a : Ad} {H H' : Hp} {wk dx : Addr} {hs : List Hole} {w l : List Eqn} (h : WkIn a H wk dx hs w l) (s : Same H H') : WkIn a H' wk dx hs w l := by
  obtain ⟨lh, lw, ll, h1, h2, h3, h4⟩ := h
  exact ⟨lh, lw, ll, s _ _ h1, h2.sq s.sq, h3.sq s.sq, h4.sq s.sq⟩
theorem _root_.L2.Same.kpb {x : Addr} {H H' : Hp} (s : Same H H') : Kp x H H' := s.kp
section
variable {P : Program} {W0 : World} {K : PySem.W.Frag} {mg : Str → Option Value} {base : Heap} {a : Ad}
def spWkI (a : Ad) : Sp := fun vs H Q _ => ∃ (p dx lh lw ll : Addr), vs = [.ref p, .ref lh, .ref lw, .ref ll] ∧ H p = some (.ins a.wk dx []) ∧ ∀ H', Kp p H H' → H' p = some (.ins a.wk dx (wkF lh lw ll)) → Q .non H'
theorem sc_Work_init : FnScope ["self", "holes", "waits", "left"] ["self", "holes", "waits", "left"] (defScope s_Work_init) := ⟨rfl, rfl, rfl, by decide +kernel, rfl, by decide +kernel, by decide +kernel⟩
theorem ok_Work (T : Txt K mg a) : Mak P W0 K mg base 1 "Work" a.wk ["self", "holes", "waits", "left"] (spWkI a) := by
  obtain ⟨f, fd, M, F, b⟩ := T.wk.i
  refine ⟨f, fd, M, ?_, T.wk.g, b⟩
  refine F.ok sc_Work_init (fun vs H Q E h => ?_) (fun cdv A outer s H vs Q E hr h => ?_)
  · obtain ⟨p, dx, lh, lw, ll, rfl, _⟩ := h
    rfl
  obtain ⟨p, dx, lh, lw, ll, rfl, hp, q⟩ := h
  refine ⟨_, (pss_cons (ps_fld (pv 0) (pv 1) rfl)
      (pss_cons (ps_fld (pv 0) (pv 2) rfl)
      (pss_one (ps_fld (pv 0) (pv 3) rfl)))), ?_⟩
  refine ⟨_, rfl, _, rfl, p, _, dx, _, rfl, hp, T.wk.c, T.wk.n "holes" (by simp), (by show 0 < 1000; decide), ?_⟩
  refine ⟨_, rfl, _, rfl, p, _, dx, _, rfl, upd_same, T.wk.c, T.wk.n "waits" (by simp), (by show 1 < 1000; decide), ?_⟩
  refine ⟨_, rfl, _, rfl, p, _, dx, _, rfl, upd_same, T.wk.c, T.wk.n "left" (by simp), (by show 2 < 1000; decide), ?_⟩
  exact q _ ((kp_upd.trans kp_upd).trans kp_upd) upd_same
/-! ### write_all -/
def spWA (a : Ad) : Sp := fun vs H Q E => ∃ (wk dx : Addr) (hs : List Hole) (w l : List Eqn), vs = [.ref wk] ∧ WkIn a H wk dx hs w l ∧ TOk hs (w ++ l) ∧
  (Pa01.tidy hs (w ++ l) = none → ∀ H', Kp wk H H' → E (.ref a.tl) none H') ∧
  (∀ x, Pa01.tidy hs (w ++ l) = some x → ∀ H', Kp wk H H' → WkIn a H' wk dx (hs.map (fullH hs)) (w.map (fullE hs)) (l.map (fullE hs)) → Q .non H')
theorem sc_write_all : FnScope ["work", "budget", "holes", "waits", "equation", "left"] ["work"] (defScope s_write_all) := ⟨rfl, rfl, rfl, by decide +kernel, rfl, by decide +kernel, by decide +kernel⟩
theorem ok_write_all (T : Txt K mg a) : Cal P W0 K mg base (L2N.CX P W0) 126 "write_all" ["work"] (spWA a) := by
  have c_Budget : Mak P W0 K mg base 1 "Budget" a.bg ["self"] (spBgI a) := ok_Budget T
  have c_holes_written : Cal P W0 K mg base (L2N.CX P W0) 125 "holes_written" ["holes", "budget"] (spHW a) := ok_holes_written T
  have c_equation_written : Cal P W0 K mg base (L2N.CX P W0) 125 "equation_written" ["holes", "budget", "equation"] (spEW a) := ok_equation_written T
  refine T.d_write_all.okN sc_write_all (fun vs H Q E h => ?_) (fun f cdv A outer s H vs Q E hr h => ?_)
  · obtain ⟨wk, dx, hs, w, l, rfl, _⟩ := h
    rfl
  obtain ⟨wk, dx, hs, w, l, rfl, ⟨lh, lw, ll, hwk, hh, hw, hl⟩, t, qE, q⟩ := h
  have tkd : L2N.Takes (cxOf (L2N.CX P W0) P W0 K mg base ["work", "budget", "holes", "waits", "equation", "left"] "write_all" (defScope s_write_all) f cdv A outer s H E) (fun cls d _ H => E cls d H) := L2N.takes_of rfl rfl rfl rfl
  refine ⟨_, (pss_cons (ps_set (i := 1) sc_write_all.nd rfl (Or.inr rfl) (pe_makeC0 c_Budget (hr.mono (by omega)) rfl))
      (pss_cons (ps_set (i := 2) sc_write_all.nd rfl (Or.inl rfl) (pe_callC c_holes_written (hr.mono (by omega)) rfl (passN tkd) (pa_cons (pe_fld (pv 0) rfl) (pa_cons (pv 1) pa_nil))))
      (pss_cons (ps_setLcX (i := 3) (E := fun _ => E) (own := [("equation", 4)]) rfl rfl tkd (fun _ _ _ _ h => h) rfl sc_write_all.nd rfl rfl (sw_true rfl rfl rfl (by decide +kernel)) (pi_list (pe_fld (pv 0) rfl)) (blkOk_by (own := [("equation", 4)]) (N := ["work", "budget", "holes", "waits", "equation", "left"]) (sc := defScope s_write_all) (by decide +kernel)) (fun _ _ _ _ _ => (pg_name (i := 4) sc_write_all.nd rfl (Or.inl rfl))) (fun _ _ _ _ _ => pts_nil) (fun _ _ _ _ _ _ => (pe_callC c_equation_written (hr.mono (by omega)) rfl passB (pa_cons (pe_fldK K (pv 0) rfl) (pa_cons (pv 1) (pa_cons (pv 4) pa_nil))))))
      (pss_cons (ps_setLcX (i := 5) (E := fun _ => E) (own := [("equation", 4)]) rfl rfl tkd (fun _ _ _ _ h => h) rfl sc_write_all.nd rfl rfl (sw_true rfl rfl rfl (by decide +kernel)) (pi_list (pe_fld (pv 0) rfl)) (blkOk_by (own := [("equation", 4)]) (N := ["work", "budget", "holes", "waits", "equation", "left"]) (sc := defScope s_write_all) (by decide +kernel)) (fun _ _ _ _ _ => (pg_name (i := 4) sc_write_all.nd rfl (Or.inl rfl))) (fun _ _ _ _ _ => pts_nil) (fun _ _ _ _ _ _ => (pe_callC c_equation_written (hr.mono (by omega)) rfl passB (pa_cons (pe_fldK K (pv 0) rfl) (pa_cons (pv 1) (pa_cons (pv 4) pa_nil))))))
      (pss_cons (ps_fld (pv 0) (pv 2) rfl)
      (pss_cons (ps_fld (pv 0) (pv 3) rfl)
      (pss_one (ps_fld (pv 0) (pv 5) rfl)))))))), ?_⟩
  rw [tidy_eq, wall_eq] at qE
  have q' : ∀ m4, ((pays 1 ((Pa01.bodies hs).map (Pa01.full hs)) 2000).bind fun m1 => (wpay hs w m1).bind (wpay hs l)) = some m4 → ∀ H', Kp wk H H' → WkIn a H' wk dx (hs.map (fullH hs)) (w.map (fullE hs)) (l.map (fullE hs)) → Q .non H' := by
    intro m4 e
    refine q (hs.map (fullH hs), (w ++ l).map (fullE hs)) ?_
    rw [tidy_eq, wall_eq, e]
    rfl
  have qE' : ((pays 1 ((Pa01.bodies hs).map (Pa01.full hs)) 2000).bind fun m1 => (wpay hs w m1).bind (wpay hs l)) = none → ∀ H', Kp wk H H' → E (.ref a.tl) none H' := by
    intro e
    rw [e] at qE
    exact qE rfl
  clear q qE
  have q := q'
  have qE := qE'
  clear q' qE'
  refine fun b dxb nb ndb hne => ⟨b, dxb, rfl, upd_same, rfl, ?_⟩
  have k1 : Kp b H (upd (upd (upd H dxb (.own b)) b (.ins a.bg dxb [])) b (.ins a.bg dxb [("left", vn 2000)])) := (same_new ndb _).kp.trans (kp_upd.trans kp_upd)
  have s1 := k1.back nb
  have hb1 : BgAt a.bg (upd (upd (upd H dxb (.own b)) b (.ins a.bg dxb [])) b (.ins a.bg dxb [("left", vn 2000)])) b dxb 2000 := upd_same
  generalize upd (upd (upd H dxb (.own b)) b (.ins a.bg dxb [])) b (.ins a.bg dxb [("left", vn 2000)]) = H1 at *
  have hwb : wk ≠ b := fun z => by rw [z] at hwk; rw [hwk] at nb; cases nb
  refine ⟨_, rfl, wk, _, dx, _, _, rfl, s1 _ _ hwk, T.wk.c, T.wk.n "holes" (by simp), lk_holes', _, rfl, lh, b, dxb, hs, 2000, rfl, hh.sq s1.sq, hb1, t.bod, t.sm, t.ok, by have := t.len; omega, Nat.le_refl _, fun z H' k' => qE (by rw [z]; rfl) H' ((s1.kp.trans k').back nb).kp, fun m2 z2 H2 rh k2b hb2 hrh => ?_⟩
  have hm2 := pays_le z2
  have hwk2 := k2b _ _ (s1 _ _ hwk) hwb
  have sq2 := s1.sq.trans (k2b.sq hb1)
  have hh2 := hh.sq sq2
  obtain ⟨vw, hlw2, hpw2⟩ := hw.sq sq2
  have wfail1 : wpay hs w m2 = none → ((some m2).bind fun m1 => (wpay hs w m1).bind (wpay hs l)) = none := fun z => by
    show (wpay hs w m2).bind (wpay hs l) = none
    rw [z]
    rfl
  have wfail2 : ∀ {m3}, wpay hs w m2 = some m3 → wpay hs l m3 = none → ((some m2).bind fun m1 => (wpay hs w m1).bind (wpay hs l)) = none := fun z1 z => by
    show (wpay hs w m2).bind (wpay hs l) = none
    rw [z1]
    exact z
  refine ⟨_, rfl, wk, _, dx, _, _, rfl, hwk2, T.wk.c, T.wk.n "waits" (by simp), lk_waits, lw, rfl, ⟨_, SqL.of hlw2⟩, fun Dw nDw => ?_⟩
  have sDw := same_new nDw (.lst [])
  have hDwb : Dw ≠ b := fun z => by rw [z] at nDw; rw [hb2] at nDw; cases nDw
  refine lc_list (K := K) (a := lw) (xs := vw) (fun j H' => ∃ m1 zs, wpay hs (w.take j) m2 = some m1 ∧ Kp b H2 H' ∧ BgAt a.bg H' b dxb m1 ∧ H' Dw = some (.lst zs) ∧ Paired (EqnAt H') zs ((w.take j).map (fullE hs)))
    ⟨m2, [], rfl, sDw.kp, sDw _ _ hb2, upd_same, .nil⟩ (fun j H' _ ⟨_, _, _, kp, _⟩ => SqL.of ((kp.sq hb2).l _ _ hlw2)) ?_ ?_
  · rintro j x H' hx ⟨m1, zs, hp, kp, hb1, hD, hT⟩
    obtain ⟨e, ee, ae⟩ := p2_get hpw2 hx
    have sq1 := kp.sq hb2
    have hm1 := pays_le hp
    refine ⟨rfl, _, rfl, wk, _, dx, _, _, rfl, kp _ _ hwk2 hwb, T.wk.c, T.wk.n "holes" (by simp), lk_holes', _, rfl, _, rfl, lh, b, dxb, x, hs, e, m1, rfl, hh2.sq sq1, hb1, ae.tps sq1.t, t.bod, t.sm, t.eqs e (List.mem_append_left _ (List.mem_of_getElem? ee)), by omega, fun z H'' k' => qE (by rw [z2]; exact wfail1 (wpay_none ee hp z)) H'' ((s1.kp.trans (k2b.trans (kp.trans k'))).back nb |>.kp), fun m2 z H2' v2 k2 b2 e2 => ?_⟩
    have hD2 := k2 _ _ hD hDwb
    refine ⟨zs, hD2, ?_, m2, zs ++ [v2], (wpay_more ee hp).trans z, kp_new (kp.trans k2) nDw, ?_, upd_same, ?_⟩
    · have h1 := hT.length
      rw [List.length_map, List.length_take] at h1
      have h2 := t.cnt
      rw [List.length_append] at h2
      exact lt_line (by omega)
    · show upd _ _ _ _ = _
      rw [upd_ne (Ne.symm hDwb)]
      exact b2
    · rw [take_more ee, List.map_append]
      exact p2_imp (p2_append (p2_imp hT fun v x q => q.tps (k2.tps hb1)) (p2_one e2)) fun v x q => q.tps (tps_lst hD2)
  rintro H3 ⟨m3, zw, hpDw, kpDw, hbDw, hDDw, hTDw⟩
  rw [hpw2.length, List.take_length] at hpDw hTDw
  have hm3 := pays_le hpDw
  have hwk3 := kpDw _ _ hwk2 hwb
  have sq3 := kpDw.sq hb2
  have hh3 := hh2.sq sq3
  obtain ⟨vl, hll3, hpl3⟩ := (hl.sq sq2).sq sq3
  refine ⟨_, rfl, wk, _, dx, _, _, rfl, hwk3, T.wk.c, T.wk.n "left" (by simp), lk_left', ll, rfl, ⟨_, SqL.of hll3⟩, fun Dl nDl => ?_⟩
  have sDl := same_new nDl (.lst [])
  have hDlb : Dl ≠ b := fun z => by rw [z] at nDl; rw [hbDw] at nDl; cases nDl
  refine lc_list (K := K) (a := ll) (xs := vl) (fun j H' => ∃ m1 zs, wpay hs (l.take j) m3 = some m1 ∧ Kp b H3 H' ∧ BgAt a.bg H' b dxb m1 ∧ H' Dl = some (.lst zs) ∧ Paired (EqnAt H') zs ((l.take j).map (fullE hs)))
    ⟨m3, [], rfl, sDl.kp, sDl _ _ hbDw, upd_same, .nil⟩ (fun j H' _ ⟨_, _, _, kp, _⟩ => SqL.of ((kp.sq hbDw).l _ _ hll3)) ?_ ?_
  · rintro j x H' hx ⟨m1, zs, hp, kp, hb1, hD, hT⟩
    obtain ⟨e, ee, ae⟩ := p2_get hpl3 hx
    have sq1 := kp.sq hbDw
    have hm1 := pays_le hp
    refine ⟨rfl, _, rfl, wk, _, dx, _, _, rfl, kp _ _ hwk3 hwb, T.wk.c, T.wk.n "holes" (by simp), lk_holes', _, rfl, _, rfl, lh, b, dxb, x, hs, e, m1, rfl, hh3.sq sq1, hb1, ae.tps sq1.t, t.bod, t.sm, t.eqs e (List.mem_append_right _ (List.mem_of_getElem? ee)), by omega, fun z H'' k' => qE (by rw [z2]; exact wfail2 hpDw (wpay_none ee hp z)) H'' ((s1.kp.trans (k2b.trans (kpDw.trans (kp.trans k')))).back nb |>.kp), fun m2 z H2' v2 k2 b2 e2 => ?_⟩
    have hD2 := k2 _ _ hD hDlb
    refine ⟨zs, hD2, ?_, m2, zs ++ [v2], (wpay_more ee hp).trans z, kp_new (kp.trans k2) nDl, ?_, upd_same, ?_⟩
    · have h1 := hT.length
      rw [List.length_map, List.length_take] at h1
      have h2 := t.cnt
      rw [List.length_append] at h2
      exact lt_line (by omega)
    · show upd _ _ _ _ = _
      rw [upd_ne (Ne.symm hDlb)]
      exact b2
    · rw [take_more ee, List.map_append]
      exact p2_imp (p2_append (p2_imp hT fun v x q => q.tps (k2.tps hb1)) (p2_one e2)) fun v x q => q.tps (tps_lst hD2)
  rintro H4 ⟨m4, zl, hpDl, kpDl, hbDl, hDDl, hTDl⟩
  rw [hpl3.length, List.take_length] at hpDl hTDl
  have hwk4 := kpDl _ _ hwk3 hwb
  have sq4 := kpDl.sq hbDw
  have s04 : Same H H4 := (s1.kp.trans (k2b.trans (kpDw.trans kpDl))).back nb
  refine ⟨_, rfl, _, rfl, wk, _, dx, _, rfl, hwk4, T.wk.c, T.wk.n "holes" (by simp), (by show 3 < 1000; decide), ?_⟩
  refine ⟨_, rfl, _, rfl, wk, _, dx, _, rfl, upd_same, T.wk.c, T.wk.n "waits" (by simp), (by show 3 < 1000; decide), ?_⟩
  refine ⟨_, rfl, _, rfl, wk, _, dx, _, rfl, upd_same, T.wk.c, T.wk.n "left" (by simp), (by show 3 < 1000; decide), ?_⟩
  have k4 : ∀ {o1 o2 o3 : HO}, Kp wk H4 (upd (upd (upd H4 wk o1) wk o2) wk o3) := fun {o1 o2 o3} => (kp_upd.trans kp_upd).trans kp_upd
  refine q m4 ?_ _ (s04.kp.trans k4) ⟨rh, Dw, Dl, upd_same, ?_, ?_, ?_⟩
  · rw [z2]
    show (wpay hs w m2).bind (wpay hs l) = _
    rw [hpDw]
    exact hpDl
  · exact ((hrh.sq sq3).sq sq4).sq (k4.sq hwk4)
  · exact ⟨zw, (k4.sq hwk4).l _ _ (sq4.l _ _ hDDw), p2_imp hTDw fun v x q => (q.tps sq4.t).tps (k4.tps hwk4)⟩
  · exact ⟨zl, (k4.sq hwk4).l _ _ hDDl, p2_imp hTDl fun v x q => q.tps (k4.tps hwk4)⟩
/-! ### changed, put_by -/
def spCh (a : Ad) : Sp := fun vs H Q E => ∃ (wk dx ll : Addr) (hs : List Hole) (w l0 l : List Eqn), vs = [.ref wk, .ref ll] ∧ WkIn a H wk dx hs w l0 ∧ EqnsL H ll l ∧ TOk hs (l ++ w) ∧
  (Pa01.tidy hs (l ++ w) = none → ∀ H', Kp wk H H' → E (.ref a.tl) none H') ∧
  (∀ x, Pa01.tidy hs (l ++ w) = some x → ∀ H', Kp wk H H' → WkIn a H' wk dx x.1 [] x.2 → Q .non H')
theorem sc_changed : FnScope ["work", "left"] ["work", "left"] (defScope s_changed) := ⟨rfl, rfl, rfl, by decide +kernel, rfl, by decide +kernel, by decide +kernel⟩
theorem ok_changed (T : Txt K mg a) : Cal P W0 K mg base (L2N.CX P W0) 127 "changed" ["work", "left"] (spCh a) := by
  have c_write_all : Cal P W0 K mg base (L2N.CX P W0) 126 "write_all" ["work"] (spWA a) := ok_write_all T
  refine T.d_changed.okN sc_changed (fun vs H Q E h => ?_) (fun f cdv A outer s H vs Q E hr h => ?_)
  · obtain ⟨wk, dx, ll, hs, w, l0, l, rfl, _⟩ := h
    rfl
  obtain ⟨wk, dx, ll, hs, w, l0, l, rfl, ⟨lh, lw, ll0, hwk, hh, ⟨vw, hlw, hpw⟩, hl0⟩, ⟨vl, hll, hpl⟩, t, qE, q⟩ := h
  have tkd : L2N.Takes (cxOf (L2N.CX P W0) P W0 K mg base ["work", "left"] "changed" (defScope s_changed) f cdv A outer s H E) (fun cls d _ H => E cls d H) := L2N.takes_of rfl rfl rfl rfl
  refine ⟨_, (pss_cons (ps_fld (pv 0) (pe_op op_cat (pv 1) (pe_fld (pv 0) rfl)) rfl)
      (pss_cons (ps_fld (pv 0) (pe_lst pa_nil) rfl)
      (pss_one (ps_expr (pe_callC c_write_all (hr.mono (by omega)) rfl (passN tkd) (pa_cons (pv 0) pa_nil)))))), ?_⟩
  refine ⟨_, rfl, _, rfl, wk, _, dx, _, _, rfl, hwk, T.wk.c, T.wk.n "waits" (by simp), lk_waits, ll, lw, vl, vw, rfl, rfl, hll, hlw, ?_, fun p np => ?_⟩
  · have := t.cnt
    rw [List.length_append] at this
    rw [hpl.length, hpw.length]
    exact le_line (by omega)
  have s1 := same_new np (.lst (vl ++ vw))
  refine ⟨_, rfl, wk, _, dx, _, rfl, s1 _ _ hwk, T.wk.c, T.wk.n "left" (by simp), (by show 3 < 1000; decide), ?_⟩
  refine ⟨le_line (by simp), fun p2 np2 => ⟨_, rfl, wk, _, dx, _, rfl, same_new np2 _ _ _ upd_same, T.wk.c, T.wk.n "waits" (by simp), (by show 3 < 1000; decide), ?_⟩⟩
  have k1 : Kp wk H (upd (upd H p (.lst (vl ++ vw))) wk (.ins a.wk dx (wkF lh lw p))) := s1.kp.trans kp_upd
  have s2 := same_new np2 (.lst [])
  have hwk2 : (upd (upd H p (.lst (vl ++ vw))) wk (.ins a.wk dx (wkF lh lw p))) wk = some (.ins a.wk dx (wkF lh lw p)) := upd_same
  have hpw0 : p ≠ wk := fun z => by rw [z] at np; rw [hwk] at np; cases np
  have hp1 : (upd (upd H p (.lst (vl ++ vw))) wk (.ins a.wk dx (wkF lh lw p))) p = some (.lst (vl ++ vw)) := by rw [upd_ne hpw0, upd_same]
  have hp2w : p2 ≠ wk := fun z => by rw [z] at np2; rw [upd_same] at np2; cases np2
  have k3 : Kp wk H (upd (upd (upd (upd H p (.lst (vl ++ vw))) wk (.ins a.wk dx (wkF lh lw p))) p2 (.lst [])) wk (.ins a.wk dx (wkF lh p2 p))) := k1.trans (s2.kp.trans kp_upd)
  have sq3 := k3.sq hwk
  refine ⟨_, rfl, wk, dx, hs, [], l ++ w, rfl, ⟨lh, p2, p, upd_same, hh.sq sq3, ⟨[], ?_, .nil⟩, ⟨vl ++ vw, ?_, ?_⟩⟩, t, fun z H' k' => qE z H' (k3.trans k'), fun x z H' k' hW => ?_⟩
  · show upd _ _ _ _ = _
    rw [upd_ne hp2w, upd_same]
  · show upd _ _ _ _ = _
    rw [upd_ne hpw0]
    exact s2 _ _ hp1
  · exact p2_append (p2_imp hpl fun v x q => q.tps sq3.t) (p2_imp hpw fun v x q => q.tps sq3.t)
  · have e : Pa01.tidy hs (l ++ w) = some x := z
    have ex : x = (hs.map (fullH hs), (l ++ w).map (fullE hs)) := by
      rw [tidy_eq] at e
      split at e
      · exact (Option.some.inj e).symm
      · cases e
    rw [ex] at e
    exact q _ e H' (k3.trans k') hW
def spPB (a : Ad) : Sp := fun vs H Q _ => ∃ (wk dx lr : Addr) (ve : V) (hs : List Hole) (w l0 rest : List Eqn) (e : Eqn), vs = [.ref wk, ve, .ref lr] ∧ WkIn a H wk dx hs w l0 ∧ EqnAt H ve e ∧ EqnsL H lr rest ∧ w.length ≤ 10000 ∧
  ∀ H', Kp wk H H' → WkIn a H' wk dx hs (w ++ [e]) rest → Q .non H'
theorem sc_put_by : FnScope ["work", "equation", "rest"] ["work", "equation", "rest"] (defScope s_put_by) := ⟨rfl, rfl, rfl, by decide +kernel, rfl, by decide +kernel, by decide +kernel⟩
theorem ok_put_by (T : Txt K mg a) : Cal P W0 K mg base CX0 1 "put_by" ["work", "equation", "rest"] (spPB a) := by
  refine T.d_put_by.ok0 sc_put_by (fun vs H Q E h => ?_) (fun f cdv A outer s H vs Q E hr h => ?_)
  · obtain ⟨wk, dx, lr, ve, hs, w, l0, rest, e, rfl, _⟩ := h
    rfl
  obtain ⟨wk, dx, lr, ve, hs, w, l0, rest, e, rfl, ⟨lh, lw, ll0, hwk, hh, ⟨vw, hlw, hpw⟩, hl0⟩, he, hlr, hcnt, q⟩ := h
  refine ⟨_, (pss_cons (ps_fld (pv 0) (pe_op op_cat (pe_fld (pv 0) rfl) (pe_lst (pa_cons (pv 1) pa_nil))) rfl)
      (pss_one (ps_fld (pv 0) (pv 2) rfl))), ?_⟩
  refine ⟨_, rfl, wk, _, dx, _, _, rfl, hwk, T.wk.c, T.wk.n "waits" (by simp), lk_waits, _, rfl, l1le _, fun p np => ⟨lw, p, vw, _, rfl, rfl, same_new np _ _ _ hlw, upd_same, ?_, fun p2 np2 => ?_⟩⟩
  · rw [hpw.length]
    exact le_line (by show w.length + 1 ≤ _; omega)
  have s2 := (same_new np (.lst [ve])).trans (same_new np2 (.lst (vw ++ [ve])))
  refine ⟨_, rfl, wk, _, dx, _, rfl, s2 _ _ hwk, T.wk.c, T.wk.n "waits" (by simp), (by show 3 < 1000; decide), ?_⟩
  refine ⟨_, rfl, _, rfl, wk, _, dx, _, rfl, upd_same, T.wk.c, T.wk.n "left" (by simp), (by show 3 < 1000; decide), ?_⟩
  have hp2w : p2 ≠ wk := fun z => by rw [z] at np2; rw [same_new np (.lst [ve]) _ _ hwk] at np2; cases np2
  have k3 : ∀ {o1 o2 : HO}, Kp wk H (upd (upd (upd (upd H p (.lst [ve])) p2 (.lst (vw ++ [ve]))) wk o1) wk o2) := fun {o1 o2} => s2.kp.trans (kp_upd.trans kp_upd)
  have sq3 := fun {o1 o2 : HO} => (k3 (o1 := o1) (o2 := o2)).sq hwk
  refine q _ k3 ⟨lh, p2, lr, upd_same, hh.sq sq3, ⟨vw ++ [ve], ?_, ?_⟩, hlr.sq sq3⟩
  · show upd (upd _ _ _) _ _ _ = _
    rw [upd_ne hp2w, upd_ne hp2w, upd_same]
  · exact p2_append (p2_imp hpw fun v x q => q.tps sq3.t) (p2_one (he.tps sq3.t))
end
end HH
namespace HH
open PySem PySem.Spec PyProof.Rows L2 L2Y
open Pa01 (Term Hole Eqn Out)
theorem cut_drop (zs : List V) (k : Nat) : cutV zs (some (k : Int)) none = zs.drop k := by
  unfold cutV
  rw [HT.sIx_none, HT.sIx_nat]
  rcases Nat.le_total k zs.length with h | h
  · rw [Nat.min_eq_left h]
    exact List.take_of_length_le (by rw [List.length_drop]; exact Nat.le_refl _)
  · rw [Nat.min_eq_right h, List.drop_length, List.drop_eq_nil_of_le h, List.take_nil]
theorem inV_nats (k : Nat) (gone : List Nat) : inV (.int (k : Nat)) (vns gone) = gone.contains k := by
  have e : vns gone = (gone.map fun i : Nat => (i : Int)).map V.int := by
    show gone.map vn = _
    rw [List.map_map]
    rfl
  rw [e, inV_ints]
  induction gone with
  | nil => rfl
  | cons a l ih =>
    have e2 : (vns l) = (l.map fun i : Nat => (i : Int)).map V.int := by
      show l.map vn = _
      rw [List.map_map]
      rfl
    rw [List.map_cons, List.contains_cons, List.contains_cons, ih e2, nat_beq]
theorem flat_nats (gone : List Nat) : (vns gone).all flatV = true := by
  have e : vns gone = (gone.map fun i : Nat => (i : Int)).map V.int := by
    show gone.map vn = _
    rw [List.map_map]
    rfl
  rw [e]
  exact flat_ints _
def StepP (a : Ad) (H : Hp) (wk dx : Addr) (hs : List Hole) (e : Eqn) (l w : List Eqn) (o : Out) (Q : VK) (E : XK) : Prop :=
  (stepO hs e l w o = .no → ∀ H', Kp wk H H' → E (.ref a.ch) none H') ∧
  (stepO hs e l w o = .over → ∀ H', Kp wk H H' → E (.ref a.tl) none H') ∧
  (∀ hs' l' w', stepO hs e l w o = .go hs' l' w' → ∀ H', Kp wk H H' → WkIn a H' wk dx hs' w' l' → Q .non H')
theorem StepP.tidC {a : Ad} {H : Hp} {wk dx : Addr} {hs hs2 : List Hole} {e : Eqn} {l w L : List Eqn} {o : Out} {Q : VK} {E : XK} (S : StepP a H wk dx hs e l w o Q E) (ho : stepO hs e l w o = tid hs2 L) :
    (Pa01.tidy hs2 L = none → ∀ H', Kp wk H H' → E (.ref a.tl) none H') ∧ (∀ x, Pa01.tidy hs2 L = some x → ∀ H', Kp wk H H' → WkIn a H' wk dx x.1 [] x.2 → Q .non H') := by
  obtain ⟨_, S2, S3⟩ := S
  rw [ho] at S2 S3
  refine ⟨fun z => S2 ?_, fun x z => S3 x.1 x.2 [] ?_⟩
  · unfold tid
    rw [z]
  · unfold tid
    rw [z]
theorem StepP.kp {a : Ad} {H H1 : Hp} {wk dx : Addr} {hs : List Hole} {e : Eqn} {l w : List Eqn} {o : Out} {Q : VK} {E : XK} (S : StepP a H wk dx hs e l w o Q E) (k : Kp wk H H1) : StepP a H1 wk dx hs e l w o Q E :=
  ⟨fun z H' k' => S.1 z H' (k.trans k'), fun z H' k' => S.2.1 z H' (k.trans k'), fun hs' l' w' z H' k' => S.2.2 hs' l' w' z H' (k.trans k')⟩
section
variable {P : Program} {W0 : World} {K : PySem.W.Frag} {mg : Str → Option Value} {base : Heap} {a : Ad}
/-! ### unsee -/
def spUnsee (a : Ad) : Sp := fun vs H Q _ => ∃ (wk dx lg : Addr) (h : Nat) (gone : List Nat) (hs : List Hole) (w l : List Eqn) (x : Hole), vs = [.ref wk, vn h, .ref lg] ∧ WkIn a H wk dx hs w l ∧ H lg = some (.lst (vns gone)) ∧ hs[h]? = some x ∧ x.many ≤ 6 ∧ hs.length ≤ 24 ∧
  ∀ H', Kp wk H H' → WkIn a H' wk dx (cutOne hs h gone) w l → Q .non H'
theorem sc_unsee : FnScope ["work", "number", "gone", "places", "sees", "term", "seen", "k"] ["work", "number", "gone"] (defScope s_unsee) := ⟨rfl, rfl, rfl, by decide +kernel, rfl, by decide +kernel, by decide +kernel⟩
theorem ok_unsee (T : Txt K mg a) : Cal P W0 K mg base CX0 1 "unsee" ["work", "number", "gone"] (spUnsee a) := by
  refine T.d_unsee.ok0 sc_unsee (fun vs H Q E h => ?_) (fun f cdv A outer s H vs Q E hr h => ?_)
  · obtain ⟨wk, dx, lg, h, gone, hs, w, l, x, rfl, _⟩ := h
    rfl
  obtain ⟨wk, dx, lg, h, gone, hs, w, l, x, rfl, ⟨lh, lw, ll, hwk, ⟨vh, hlh, hph⟩, hw, hl⟩, hlg, hx, hm, hlen, q⟩ := h
  obtain ⟨hv, ehv, bh, sh, bv, rfl, g1, g2, g3⟩ := p2_at hph hx
  refine ⟨_, (pss_cons (ps_asg (pe_ix ix_list (pe_fld (pv 0) rfl) (pv 1) (fun _ _ => rfl)) (pg_tup rfl (pgs_cons (pg_name (i := 3) sc_unsee.nd rfl (Or.inl rfl)) (pgs_cons (pg_name (i := 4) sc_unsee.nd rfl (Or.inr rfl)) (pgs_cons (pg_name (i := 5) sc_unsee.nd rfl (Or.inl rfl)) pgs_nil)))))
      (pss_cons (ps_set (i := 6) sc_unsee.nd rfl (Or.inl rfl) (pe_callTy call_tuple_of rfl T.b_tuple (by decide +kernel) (pa_cons (pe_lc (own := [("k", 7)])  rfl sc_unsee.nd (pi_range1 rfl T.b_range (pa_cons (pv 3) pa_nil)) (blkOk_by (own := [("k", 7)]) (N := ["work", "number", "gone", "places", "sees", "term", "seen", "k"]) (sc := defScope s_unsee) (by decide +kernel)) (fun _ _ _ _ _ => (pg_name (i := 7) sc_unsee.nd rfl (Or.inl rfl))) (fun _ _ _ _ _ => pts_nil) (fun _ _ _ _ _ => (pe_and (pe_ix (ix_tupK K) (pv 4) (pv 7) (fun _ _ => rfl)) (pe_one (pe_cmpR (op_notIn_seqK K) (pv 7) (pv 2) (by rfl)))))) pa_nil)))
      (pss_one (ps_fld (pv 0) (pe_op op_cat (pe_op op_cat (pe_slice sl_list (pe_fld (pv 0) rfl) po_none (po_some (pv 1))) (pe_lst (pa_cons (pe_tup (pa_cons (pv 3) (pa_cons (pv 6) (pa_cons (pv 5) pa_nil)))) pa_nil))) (pe_slice sl_list (pe_fld (pv 0) rfl) (po_some (pe_op op_add (pv 1) pe_int)) po_none)) rfl)))), ?_⟩
  refine ⟨_, rfl, wk, _, dx, _, _, rfl, hwk, T.wk.c, T.wk.n "holes" (by simp), lk_holes', _, rfl, lh, vh, _, _, rfl, rfl, SqL.of hlh, atI_nat ehv, ?_⟩
  refine ⟨bh, _, rfl, SqT.of g1, rfl, _, _, rfl, _, _, rfl, _, _, rfl, rfl, ?_⟩
  refine ⟨_, rfl, (x.many : Int), rfl, by omega, by omega, fun D nD => ?_⟩
  refine lc_range (lo := 0) (n := x.many) (fun i H' => Same H H' ∧ H' D = some (.lst (((List.range i).map fun k => (x.seen.contains k && !gone.contains k)).map V.bl))) ⟨same_new nD _, upd_same⟩ ?_ ?_
  · rintro i H' hi ⟨sH, hD⟩
    rw [Int.zero_add]
    have fin : ∀ b : Bool, b = (x.seen.contains i && !gone.contains i) → ∃ acc, H' D = some (.lst acc) ∧ acc.length < sizeLine ∧ Same H (upd H' D (.lst (acc ++ [V.bl b]))) ∧ upd H' D (.lst (acc ++ [V.bl b])) D = some (.lst (((List.range (i + 1)).map fun k => (x.seen.contains k && !gone.contains k)).map V.bl)) := by
      intro b eb
      refine ⟨_, hD, ?_, same_upd nD sH, ?_⟩
      · rw [List.length_map, List.length_map, List.length_range]
        exact lt_line (by omega)
      · rw [upd_same, List.range_succ, List.map_append, List.map_append, eb]
        rfl
    refine ⟨rfl, _, rfl, _, rfl, sh, _, _, _, rfl, rfl, SqT.of (sH _ _ g2), sees_at hi, _, rfl, ite2 (fun c => ?_) (fun c => ?_)⟩
    · refine ⟨_, rfl, _, rfl, lg, _, rfl, .inl (SqL.of (sH _ _ hlg)), rfl, flat_nats _, ?_⟩
      rw [inV_nats]
      exact fin _ (by rw [c]; rfl)
    · exact fin false (by rw [Bool.eq_false_iff.mpr c]; rfl)
  rintro H1 ⟨s1, hD⟩
  refine ⟨D, _, rfl, .inl ⟨SqL.of hD, fun ps nps => ?_⟩⟩
  have s2 := s1.trans (same_new nps (.tup (((List.range x.many).map fun k => (x.seen.contains k && !gone.contains k)).map V.bl)))
  refine ⟨_, rfl, wk, _, dx, _, _, rfl, s2 _ _ hwk, T.wk.c, T.wk.n "holes" (by simp), lk_holes', _, rfl, _, rfl, lh, vh, rfl, SqL.of (s2 _ _ hlh), fun p1 np1 => ?_⟩
  rw [cut_take]
  have t1 := same_new np1 (.lst (vh.take h))
  refine ⟨_, rfl, _, rfl, _, rfl, l3le _ _ _, fun p2 np2 => ⟨l1le _, fun p3 np3 => ?_⟩⟩
  have t2 := same_new np2 (.tup [vn x.many, .ref ps, bv])
  have t3 := same_new np3 (.lst [V.ref p2])
  have hvl := hph.length
  refine ⟨p1, p3, _, _, rfl, rfl, t3 _ _ (t2 _ _ upd_same), upd_same, ?_, fun p4 np4 => ?_⟩
  · rw [List.length_take]
    exact le_line (by show min h vh.length + 1 ≤ _; omega)
  have t4 := same_new np4 (.lst (vh.take h ++ [V.ref p2]))
  have s6 := s2.trans (t1.trans (t2.trans (t3.trans t4)))
  refine ⟨_, rfl, wk, _, dx, _, _, rfl, s6 _ _ hwk, T.wk.c, T.wk.n "holes" (by simp), lk_holes', _, rfl, _, _, rfl, rfl, _, rfl, lh, vh, rfl, SqL.of (s6 _ _ hlh), fun p5 np5 => ?_⟩
  have ed : cutV vh (some ((h : Int) + 1)) none = vh.drop (h + 1) := cut_drop vh (h + 1)
  rw [ed]
  have t5 := same_new np5 (.lst (vh.drop (h + 1)))
  refine ⟨p4, p5, _, _, rfl, rfl, t5 _ _ upd_same, upd_same, ?_, fun p6 np6 => ?_⟩
  · rw [List.length_append, List.length_take, List.length_drop]
    exact le_line (by show min h vh.length + 1 + (vh.length - (h + 1)) ≤ _; omega)
  have t6 := same_new np6 (.lst (vh.take h ++ [V.ref p2] ++ vh.drop (h + 1)))
  have s8 := s6.trans (t5.trans t6)
  refine ⟨_, rfl, wk, _, dx, _, rfl, s8 _ _ hwk, T.wk.c, T.wk.n "holes" (by simp), (by show 3 < 1000; decide), ?_⟩
  have kw : ∀ {o : HO} {H9 : Hp}, Kp wk H9 (upd H9 wk o) := fun {o H9} => kp_upd
  have hp6w : p6 ≠ wk := Ne.symm (ne_of_none (t5 _ _ (s6 _ _ hwk)) np6)
  have hp2' := (t3.trans (t4.trans (t5.trans t6))) p2 _ upd_same
  have hps' := (t1.trans (t2.trans (t3.trans (t4.trans (t5.trans t6))))) ps _ upd_same
  have hp6' := upd_same (H := upd (upd (upd (upd (upd (upd H1 ps (.tup (((List.range x.many).map fun k => (x.seen.contains k && !gone.contains k)).map V.bl))) p1 (.lst (vh.take h))) p2 (.tup [vn x.many, .ref ps, bv])) p3 (.lst [V.ref p2])) p4 (.lst (vh.take h ++ [V.ref p2]))) p5 (.lst (vh.drop (h + 1)))) (a := p6) (o := HO.lst (vh.take h ++ [V.ref p2] ++ vh.drop (h + 1)))
  have hwk8 := s8 _ _ hwk
  have hh8 := p2_imp hph fun v x q => q.tps s8.tps
  have g3' := g3.tps s8.tps
  have hw8 := hw.sq s8.sq
  have hl8 := hl.sq s8.sq
  generalize upd (upd (upd (upd (upd (upd (upd H1 ps _) p1 _) p2 _) p3 _) p4 _) p5 _) p6 _ = H8 at *
  have kp8 : Kp wk H8 (upd H8 wk (.ins a.wk dx (wkF p6 lw ll))) := kp_upd
  have sq8 := kp8.sq hwk8
  refine q _ (s8.kp.trans kp8) ⟨p6, lw, ll, upd_same, ⟨_, sq8.l _ _ hp6', ?_⟩, hw8.sq sq8, hl8.sq sq8⟩
  rw [set_cutOne hx]
  refine p2_append (p2_append (p2_take h (p2_imp hh8 fun v x q => q.tps sq8.t)) (p2_one ?_)) (p2_drop (h + 1) (p2_imp hh8 fun v x q => q.tps sq8.t))
  exact ⟨p2, ps, bv, rfl, sq8.t _ _ hp2', by rw [sees_cut]; exact sq8.t _ _ hps', g3'.tps sq8.t⟩
end
end HH
namespace HH
open PySem PySem.Spec PyProof.Rows L2 L2Y
open Pa01 (Term Hole Eqn Out)
theorem hole_len {hs : List Hole} {n : Nat} {t : Term} (hk : kd t = 3) (hf : Fit (mans hs) n t) : ∃ x, hs[nm t]? = some x ∧ x.many = (pts t).length := by
  rw [hole_of hk] at hf
  exact mans_at hf.1
theorem pts_6 {hs : List Hole} {n : Nat} {t : Term} (hk : kd t = 3) (hf : Fit (mans hs) n t) (hsm : Sm hs) : (pts t).length ≤ 6 := by
  obtain ⟨x, ex, em⟩ := hole_len hk hf
  rw [← em]
  exact hsm x (List.mem_of_getElem? ex)
/-- the state when an equation is taken up: first e, then the rest -/
def spStep (a : Ad) (O : Eqn → Out) (C : Eqn → Prop) : Sp := fun vs H Q E => ∃ (wk dx lr : Addr) (ve : V) (hs : List Hole) (w l0 rest : List Eqn) (e : Eqn) (B : Nat), vs = [.ref wk, ve, .ref lr] ∧ WkIn a H wk dx hs w l0 ∧ EqnAt H ve e ∧ EqnsL H lr rest ∧
  WOk B hs (e :: rest ++ w) ∧ B ≤ 900000 ∧ C e ∧ StepP a H wk dx hs e rest w (O e) Q E
section
variable {P : Program} {W0 : World} {K : PySem.W.Frag} {mg : Str → Option Value} {base : Heap} {a : Ad}
abbrev spSame (a : Ad) : Sp := spStep a (fun e => sameO e.s e.t) fun e => kd e.s = 3 ∧ kd e.t = 3 ∧ nm e.s = nm e.t
theorem sc_same_hole : FnScope ["work", "equation", "rest", "places", "one", "other", "gone", "k"] ["work", "equation", "rest"] (defScope s_same_hole) := ⟨rfl, rfl, rfl, by decide +kernel, rfl, by decide +kernel, by decide +kernel⟩
theorem ok_same_hole (T : Txt K mg a) : Cal P W0 K mg base (L2N.CX P W0) 128 "same_hole" ["work", "equation", "rest"] (spSame a) := by
  have c_are_apart : Cal P W0 K mg base CX0 60 "are_apart" ["one", "other"] (spApart 60) := ok_are_apart T 60
  have c_put_by : Cal P W0 K mg base CX0 1 "put_by" ["work", "equation", "rest"] (spPB a) := ok_put_by T
  have c_unsee : Cal P W0 K mg base CX0 1 "unsee" ["work", "number", "gone"] (spUnsee a) := ok_unsee T
  have c_changed : Cal P W0 K mg base (L2N.CX P W0) 127 "changed" ["work", "left"] (spCh a) := ok_changed T
  refine T.d_same_hole.okN sc_same_hole (fun vs H Q E h => ?_) (fun f cdv A outer s H vs Q E hr h => ?_)
  · obtain ⟨wk, dx, lr, ve, hs, w, l0, rest, e, B, rfl, _⟩ := h
    rfl
  obtain ⟨wk, dx, lr, ve, hs, w, l0, rest, e, B, rfl, hW, he, hlr, hok, hB, ⟨hk1, hk2, hnm⟩, S⟩ := h
  have tkd : L2N.Takes (cxOf (L2N.CX P W0) P W0 K mg base ["work", "equation", "rest", "places", "one", "other", "gone", "k"] "same_hole" (defScope s_same_hole) f cdv A outer s H E) (fun cls d _ H => E cls d H) := L2N.takes_of rfl rfl rfl rfl
  have he' := he
  obtain ⟨ae, v1, v2, rfl, hae, at1, at2⟩ := he
  obtain ⟨a1, p1, vs1, rfl, h1, k1, l1⟩ := at1.open
  obtain ⟨a2, p2, vs2, rfl, h2, k2, l2⟩ := at2.open
  have qe := hok.eqs e List.mem_cons_self
  obtain ⟨x, ex, em⟩ := hole_len hk1 qe.fs
  obtain ⟨x', ex', em'⟩ := hole_len hk2 qe.ft
  have el : (pts e.s).length = (pts e.t).length := by
    rw [← hnm, ex] at ex'
    cases ex'
    omega
  have h6 := pts_6 hk1 qe.fs hok.h.sm
  have d1 := deep_eq e.s
  have ed := qe.ds
  refine ⟨_, (pss_cons (ps_asg (pv 1) (pg_tup rfl (pgs_cons (pg_name (i := 3) sc_same_hole.nd rfl (Or.inl rfl)) (pgs_cons (pg_name (i := 4) sc_same_hole.nd rfl (Or.inr rfl)) (pgs_cons (pg_name (i := 5) sc_same_hole.nd rfl (Or.inr rfl)) pgs_nil)))))
      (pss_cons (ps_setLc (i := 6) (own := [("k", 7)])  rfl sc_same_hole.nd rfl rfl (sw_true rfl rfl rfl (by decide +kernel)) (pi_range1 rfl T.b_range (pa_cons (pe_callB call_len_seq rfl T.b_len (by decide +kernel) (pa_cons (pe_ix ix_tup (pv 4) pe_int (fun _ _ => rfl)) pa_nil)) pa_nil)) (blkOk_by (own := [("k", 7)]) (N := ["work", "equation", "rest", "places", "one", "other", "gone", "k"]) (sc := defScope s_same_hole) (by decide +kernel)) (fun _ _ _ _ _ => (pg_name (i := 7) sc_same_hole.nd rfl (Or.inl rfl))) (fun _ _ _ _ _ => pts_one (pt_val (pe_callC c_are_apart (hr.mono (by omega)) rfl pass0 (pa_cons (pe_ix (ix_tupK K) (pe_ix (ix_tupK K) (pv 4) pe_int (fun _ _ => rfl)) (pv 7) (fun _ _ => rfl)) (pa_cons (pe_ix (ix_tupK K) (pe_ix (ix_tupK K) (pv 5) pe_int (fun _ _ => rfl)) (pv 7) (fun _ _ => rfl)) pa_nil))))) (fun _ _ _ _ _ => (pv 7)))
      (pss_one (ps_if (pt_cmpR (op_eqNil (u0 hr)) (pv 6) (pe_lst pa_nil) (nomark _)) (pss_one (ps_expr (pe_callC c_put_by (hr.mono (by omega)) rfl pass0 (pa_cons (pv 0) (pa_cons (pv 1) (pa_cons (pv 2) pa_nil)))))) (pss_cons (ps_expr (pe_callC c_unsee (hr.mono (by omega)) rfl pass0 (pa_cons (pv 0) (pa_cons (pe_ix ix_tup (pv 4) pe_int (fun _ _ => rfl)) (pa_cons (pv 6) pa_nil)))))
      (pss_one (ps_expr (pe_callC c_changed (hr.mono (by omega)) rfl (passN tkd) (pa_cons (pv 0) (pa_cons (pe_op op_cat (pe_lst (pa_cons (pv 1) pa_nil)) (pv 2)) pa_nil)))))))))), ?_⟩
  refine ⟨_, rfl, ae, _, rfl, SqT.of hae, rfl, _, _, rfl, _, _, rfl, _, _, rfl, rfl, ?_⟩
  refine ⟨_, rfl, _, _, _, _, rfl, rfl, SqT.of h1, rfl, p1, _, rfl, .inr (SqT.of k1), _, rfl, by omega, by have := l1.length; omega, fun D nD => ?_⟩
  refine lc_range (lo := 0) (n := vs1.length) (fun i H' => Same H H' ∧ H' D = some (.lst (vns ((List.range i).filter (apartAt (pts e.s) (pts e.t)))))) ⟨same_new nD _, upd_same⟩ ?_ ?_
  · rintro i H1 hi ⟨sH, hD⟩
    rw [Int.zero_add]
    have hl1 := l1.length
    obtain ⟨t1, e1⟩ : ∃ t, (pts e.s)[i]? = some t := ⟨_, List.getElem?_eq_getElem (by omega)⟩
    obtain ⟨t2, e2⟩ : ∃ t, (pts e.t)[i]? = some t := ⟨_, List.getElem?_eq_getElem (by omega)⟩
    obtain ⟨u1, eu1, au1⟩ := l1.at e1
    obtain ⟨u2, eu2, au2⟩ := l2.at e2
    have ea : apartAt (pts e.s) (pts e.t) i = Pa01.apart t1 t2 := by
      unfold apartAt
      rw [e1, e2]
    refine ⟨rfl, _, rfl, _, _, _, _, rfl, rfl, SqT.of (sH _ _ h1), rfl, _, rfl, p1, _, _, _, rfl, rfl, SqT.of (sH _ _ k1), atI_nat eu1, _, rfl, _, _, _, _, rfl, rfl, SqT.of (sH _ _ h2), rfl, _, rfl, p2, _, _, _, rfl, rfl, SqT.of (sH _ _ k2), atI_nat eu2, ?_⟩
    refine ⟨u1, u2, t1, t2, rfl, au1.tps sH.tps, au2.tps sH.tps, ?_, fun H2 s2 => ⟨_, rfl, ite2 (fun c => ?_) (fun c => ?_)⟩⟩
    · have := deeps_le (List.mem_of_getElem? e1)
      omega
    · refine ⟨_, rfl, _, s2 _ _ hD, ?_, same_upd nD (sH.trans s2), ?_⟩
      · rw [List.length_map]
        have := List.length_filter_le (apartAt (pts e.s) (pts e.t)) (List.range i)
        rw [List.length_range] at this
        exact lt_line (by omega)
      · rw [upd_same, List.range_succ, List.filter_append]
        show some (HO.lst (vns _ ++ [vn i])) = some (HO.lst ((_ ++ List.filter _ [i]).map vn))
        rw [List.map_append]
        simp [ea, c]
    · refine ⟨sH.trans s2, ?_⟩
      rw [s2 _ _ hD, List.range_succ, List.filter_append]
      simp [ea, c]
  rintro H1 ⟨s1, hD⟩
  rw [l1.length] at hD
  have hD' : H1 D = some (.lst (vns (goneL (pts e.s) (pts e.t)))) := hD
  have so : ∀ l, (goneL (pts e.s) (pts e.t)).map (fun j => (nm e.s, j)) = l → sameO e.s e.t = (match l with | [] => .wait | l => .cut l) := by
    intro l hl
    unfold sameO
    rw [differ_gone _ _ _ el, hl]
    all_goals (cases l <;> rfl)
  refine ⟨_, rfl, le_line (by simp), fun p3 np3 => ⟨D, p3, _, rfl, rfl, SqL.of (same_new np3 _ _ _ hD'), SqL.of upd_same, _, rfl, ite2 (fun c => ?_) (fun c => ?_)⟩⟩
  · have eg : goneL (pts e.s) (pts e.t) = [] := by
      have : (vns (goneL (pts e.s) (pts e.t))).isEmpty = true := c
      simpa using this
    have so' : sameO e.s e.t = .wait := so [] (by rw [eg]; rfl)
    have s3 := s1.trans (same_new np3 (.lst []))
    refine ⟨_, rfl, _, rfl, _, rfl, wk, dx, lr, .ref ae, hs, w, l0, rest, e, rfl, hW.same s3, he'.tps s3.tps, hlr.sq s3.sq, ?_, fun H' k' hW' => ?_⟩
    · have := hok.cnt
      rw [List.length_append] at this
      omega
    · refine S.2.2 hs rest (w ++ [e]) ?_ H' (s3.kp.trans k') hW'
      show stepO hs e rest w (sameO e.s e.t) = _
      rw [so']
      rfl
  · have ng : goneL (pts e.s) (pts e.t) ≠ [] := by
      intro z
      apply c
      rw [z]
      rfl
    have so' : sameO e.s e.t = .cut ((goneL (pts e.s) (pts e.t)).map fun j => (nm e.s, j)) := by
      cases z : goneL (pts e.s) (pts e.t) with
      | nil => exact absurd z ng
      | cons a l => exact so _ (by rw [z])
    have s3 := s1.trans (same_new np3 (.lst []))
    refine ⟨_, rfl, _, rfl, _, _, _, _, rfl, rfl, SqT.of (s3 _ _ h1), rfl, _, rfl, ?_⟩
    refine ⟨wk, dx, D, nm e.s, goneL (pts e.s) (pts e.t), hs, w, l0, x, rfl, hW.same s3, same_new np3 _ _ _ hD', ex, by omega, hok.h.len, fun H4 k4 hW4 => ?_⟩
    have sq4 := k4.sq (hW.same s3).choose_spec.choose_spec.choose_spec.1
    obtain ⟨vr, hlr4, hpr4⟩ := (hlr.sq s3.sq).sq sq4
    refine ⟨_, rfl, _, rfl, l1le _, fun p5 np5 => ⟨_, rfl, p5, lr, _, vr, rfl, rfl, upd_same, same_new np5 _ _ _ hlr4, ?_, fun p6 np6 => ?_⟩⟩
    · have := hok.cnt
      rw [List.length_append, List.length_cons] at this
      rw [hpr4.length]
      exact le_line (by show 1 + rest.length ≤ _; omega)
    have s6 := (same_new np5 (.lst [V.ref ae])).trans (same_new np6 (.lst ([V.ref ae] ++ vr)))
    have kA := s3.kp.trans (k4.trans s6.kp)
    have ho : stepO hs e rest w (sameO e.s e.t) = tid (cutOne hs (nm e.s) (goneL (pts e.s) (pts e.t))) (e :: rest ++ w) := by
      rw [so']
      show tid (Pa01.cutAll hs _) _ = _
      rw [cut_gone]
    have TT := cut_tok ((goneL (pts e.s) (pts e.t)).map fun j => (nm e.s, j)) hok hB
    rw [cut_gone] at TT
    obtain ⟨q1, q2⟩ := (S.kp kA).tidC ho
    refine ⟨wk, dx, p6, cutOne hs (nm e.s) (goneL (pts e.s) (pts e.t)), w, l0, e :: rest, rfl, hW4.same s6, ⟨_, upd_same, ?_⟩, TT, q1, q2⟩
    exact .cons ((he'.tps s3.tps).tps (sq4.t) |>.tps s6.tps) (p2_imp hpr4 fun v x q => q.tps s6.tps)
end
end HH
namespace HH
open PySem PySem.Spec PyProof.Rows L2 L2Y
open Pa01 (Term Hole Eqn Out)
theorem cutsOf_fst {ok : Nat → Bool} {d h : Nat} : ∀ (l : List Term) (k : Nat) (x : Nat × Nat), x ∈ Pa01.cutsOf ok d h k l → x.1 = h
  | [], _, _, hx => by cases hx
  | t :: l, k, x, hx => by
    simp only [Pa01.cutsOf] at hx
    rcases List.mem_append.mp hx with hx | hx
    · split at hx
      · have : x = (h, k) := by simpa using hx
        rw [this]
      · cases hx
    · exact cutsOf_fst l (k + 1) x hx
mutual
theorem cuts_hole {ms : List Nat} {ok : Nat → Bool} : ∀ (d n : Nat) (t : Term), Fit ms n t → ∀ x ∈ Pa01.cuts ok d t, ∃ m, ms[x.1]? = some m
  | d, n, .place i, _, x, hx => by cases hx
  | d, n, .sign f ps, h, x, hx => cutss_hole d n ps h x hx
  | d, n, .bind t, h, x, hx => cuts_hole (d + 1) (n + 1) t h x hx
  | d, n, .hole k ps, h, x, hx => ⟨ps.length, by rw [cutsOf_fst ps 0 x hx]; exact h.1⟩
  | d, n, .gone, _, x, hx => by cases hx
theorem cutss_hole {ms : List Nat} {ok : Nat → Bool} : ∀ (d n : Nat) (l : List Term), Fits ms n l → ∀ x ∈ Pa01.cutss ok d l, ∃ m, ms[x.1]? = some m
  | d, n, [], _, x, hx => by cases hx
  | d, n, t :: l, h, x, hx => by
    simp only [Pa01.cutss] at hx
    rcases List.mem_append.mp hx with hx | hx
    · exact cuts_hole d n t h.1 x hx
    · exact cutss_hole d n l h.2 x hx
end
theorem solve_no {h : Nat} {ps : List Term} {t : Term} (c : Pa01.outside h t = true ∨ Pa01.badOut (fun i => (Pa01.spots ps).contains i) 0 t = true) : Pa01.solve h ps t = .no := by
  unfold Pa01.solve
  exact if_pos c
theorem solve_cut {h : Nat} {ps : List Term} {t : Term} (c : ¬ (Pa01.outside h t = true ∨ Pa01.badOut (fun i => (Pa01.spots ps).contains i) 0 t = true)) (n : Pa01.cuts (fun i => (Pa01.spots ps).contains i) 0 t ≠ []) : Pa01.solve h ps t = .cut (Pa01.cuts (fun i => (Pa01.spots ps).contains i) 0 t) := by
  unfold Pa01.solve
  simp only []
  rw [if_neg c]
theorem solve_wait {h : Nat} {ps : List Term} {t : Term} (c : ¬ (Pa01.outside h t = true ∨ Pa01.badOut (fun i => (Pa01.spots ps).contains i) 0 t = true)) (n : Pa01.cuts (fun i => (Pa01.spots ps).contains i) 0 t = []) (d : Pa01.within h t = true ∨ Pa01.badIn (fun i => (Pa01.spots ps).contains i) 0 t = true) : Pa01.solve h ps t = .wait := by
  unfold Pa01.solve
  simp only []
  rw [if_neg c, n]
  exact if_pos d
theorem solve_fill {h : Nat} {ps : List Term} {t : Term} (c : ¬ (Pa01.outside h t = true ∨ Pa01.badOut (fun i => (Pa01.spots ps).contains i) 0 t = true)) (n : Pa01.cuts (fun i => (Pa01.spots ps).contains i) 0 t = []) (d : ¬ (Pa01.within h t = true ∨ Pa01.badIn (fun i => (Pa01.spots ps).contains i) 0 t = true)) : Pa01.solve h ps t = .fill h (Pa01.turn ps 0 t) := by
  unfold Pa01.solve
  simp only []
  rw [if_neg c, n]
  exact if_neg d
section
variable {P : Program} {W0 : World} {K : PySem.W.Frag} {mg : Str → Option Value} {base : Heap} {a : Ad}
def spFill (a : Ad) : Sp := fun vs H Q E => ∃ (wk dx lr : Addr) (ve vh vt : V) (hs : List Hole) (w l0 rest : List Eqn) (e : Eqn) (B : Nat) (th u : Term), vs = [.ref wk, ve, .ref lr, vh, vt] ∧ WkIn a H wk dx hs w l0 ∧ EqnAt H ve e ∧ EqnsL H lr rest ∧
  WOk B hs (e :: rest ++ w) ∧ B ≤ 900000 ∧ TermAt H vh th ∧ TermAt H vt u ∧ kd th = 3 ∧ Pa01.plain (pts th) = true ∧ Fit (mans hs) e.n th ∧ Cl hs th ∧ Fit (mans hs) e.n u ∧ Cl hs u ∧ Pa01.deep u ≤ 60 ∧ Pa01.size u ≤ 2000 ∧
  StepP a H wk dx hs e rest w (Pa01.solve (nm th) (pts th) u) Q E
theorem sc_to_fill : FnScope ["work", "equation", "rest", "hole", "term", "own", "spots", "number", "k", "places", "sees", "empty", "filled"] ["work", "equation", "rest", "hole", "term"] (defScope s_to_fill) := ⟨rfl, rfl, rfl, by decide +kernel, rfl, by decide +kernel, by decide +kernel⟩
theorem ok_to_fill (T : Txt K mg a) : Cal P W0 K mg base (L2N.CX P W0) 128 "to_fill" ["work", "equation", "rest", "hole", "term"] (spFill a) := by
  have c_own_places : Cal P W0 K mg base CX0 1 "own_places" ["hole"] spOwn := ok_own_places T
  have c_has_hole : Cal P W0 K mg base CX0 60 "has_hole" ["term", "own", "deep"] (spHas 60) := ok_has_hole T 60
  have c_has_strange : Cal P W0 K mg base CX0 61 "has_strange" ["term", "own", "depth", "deep"] (spStr K 60) := ok_has_strange T 60
  have c_blind_spots : Cal P W0 K mg base CX0 62 "blind_spots" ["term", "own", "depth"] (spBlind K 60) := ok_blind_spots T 60
  have c_in_own_places : Cal P W0 K mg base CX0 60 "in_own_places" ["term", "own", "depth"] (spTurn 60) := ok_in_own_places T 60
  have c_put_by : Cal P W0 K mg base CX0 1 "put_by" ["work", "equation", "rest"] (spPB a) := ok_put_by T
  have c_unsee : Cal P W0 K mg base CX0 1 "unsee" ["work", "number", "gone"] (spUnsee a) := ok_unsee T
  have c_changed : Cal P W0 K mg base (L2N.CX P W0) 127 "changed" ["work", "left"] (spCh a) := ok_changed T
  refine T.d_to_fill.okN sc_to_fill (fun vs H Q E h => ?_) (fun f cdv A outer s H vs Q E hr h => ?_)
  · obtain ⟨wk, dx, lr, ve, vh, vt, hs, w, l0, rest, e, B, th, u, rfl, _⟩ := h
    rfl
  obtain ⟨wk, dx, lr, ve, vh, vt, hs, w, l0, rest, e, B, th, u, rfl, hW, he, hlr, hok, hB, ath, atu, hk, hpl, fth, cth, fu, cu, du, su, S⟩ := h
  have tkd : L2N.Takes (cxOf (L2N.CX P W0) P W0 K mg base ["work", "equation", "rest", "hole", "term", "own", "spots", "number", "k", "places", "sees", "empty", "filled"] "to_fill" (defScope s_to_fill) f cdv A outer s H E) (fun cls d _ H => E cls d H) := L2N.takes_of rfl rfl rfl rfl
  have h6 := pts_6 hk fth hok.h.sm
  have eo : okO (ownL (pts th)) = fun i => (Pa01.spots (pts th)).contains i := by
    funext i
    exact own_spots hpl i
  refine ⟨_, (pss_cons (ps_set (i := 5) sc_to_fill.nd rfl (Or.inl rfl) (pe_callC c_own_places (hr.mono (by omega)) rfl pass0 (pa_cons (pv 3) pa_nil)))
      (pss_cons (ps_if (PW.pt (pw_or (pt_val (pe_callC c_has_hole (hr.mono (by omega)) rfl pass0 (pa_cons (pv 4) (pa_cons (pe_ix ix_tup (pv 3) pe_int (fun _ _ => rfl)) (pa_cons pe_bl pa_nil))))) (pw_or1 (pt_val (pe_callC c_has_strange (hr.mono (by omega)) rfl pass0 (pa_cons (pv 4) (pa_cons (pv 5) (pa_cons pe_int (pa_cons pe_bl pa_nil))))))))) (pss_one (L2N.ps_raise rfl tkd (pmk_own0 PySem.F.excBase_ValueError T.ch.x T.ch.g T.ch.k (raises_own T.ch.b T.ch.t) rfl))) pss_nil)
      (pss_cons (ps_set (i := 6) sc_to_fill.nd rfl (Or.inl rfl) (pe_callC c_blind_spots (hr.mono (by omega)) rfl pass0 (pa_cons (pv 4) (pa_cons (pv 5) (pa_cons pe_int pa_nil)))))
      (pss_one (ps_if (pt_cmpR (op_neNil (u0 hr)) (pv 6) (pe_lst pa_nil) (nomark _)) (pss_cons (ps_for (L2.passes_of rfl) rfl (pi_list (pv 6)) (pg_tup rfl (pgs_cons (pg_name (i := 7) sc_to_fill.nd rfl (Or.inl rfl)) (pgs_cons (pg_name (i := 8) sc_to_fill.nd rfl (Or.inl rfl)) pgs_nil))) (pss_one (ps_expr (pe_callC c_unsee (hr.mono (by omega)) rfl pass0 (pa_cons (pv 0) (pa_cons (pv 7) (pa_cons (pe_lst (pa_cons (pv 8) pa_nil)) pa_nil)))))))
      (pss_one (ps_expr (pe_callC c_changed (hr.mono (by omega)) rfl (passN tkd) (pa_cons (pv 0) (pa_cons (pe_op op_cat (pe_lst (pa_cons (pv 1) pa_nil)) (pv 2)) pa_nil)))))) (pss_one (ps_if (PW.pt (pw_or (pt_val (pe_callC c_has_hole (hr.mono (by omega)) rfl pass0 (pa_cons (pv 4) (pa_cons (pe_ix ix_tup (pv 3) pe_int (fun _ _ => rfl)) (pa_cons pe_bl pa_nil))))) (pw_or1 (pt_val (pe_callC c_has_strange (hr.mono (by omega)) rfl pass0 (pa_cons (pv 4) (pa_cons (pv 5) (pa_cons pe_int (pa_cons pe_bl pa_nil))))))))) (pss_one (ps_expr (pe_callC c_put_by (hr.mono (by omega)) rfl pass0 (pa_cons (pv 0) (pa_cons (pv 1) (pa_cons (pv 2) pa_nil)))))) (pss_cons (ps_asg (pe_ix ix_list (pe_fld (pv 0) rfl) (pe_ix ix_tup (pv 3) pe_int (fun _ _ => rfl)) (fun _ _ => rfl)) (pg_tup rfl (pgs_cons (pg_name (i := 9) sc_to_fill.nd rfl (Or.inl rfl)) (pgs_cons (pg_name (i := 10) sc_to_fill.nd rfl (Or.inl rfl)) (pgs_cons (pg_name (i := 11) sc_to_fill.nd rfl (Or.inl rfl)) pgs_nil)))))
      (pss_cons (ps_set (i := 12) sc_to_fill.nd rfl (Or.inl rfl) (pe_tup (pa_cons (pv 9) (pa_cons (pv 10) (pa_cons (pe_callC c_in_own_places (hr.mono (by omega)) rfl pass0 (pa_cons (pv 4) (pa_cons (pv 5) (pa_cons pe_int pa_nil)))) pa_nil)))))
      (pss_cons (ps_fld (pv 0) (pe_op op_cat (pe_op op_cat (pe_slice sl_list (pe_fld (pv 0) rfl) po_none (po_some (pe_ix ix_tup (pv 3) pe_int (fun _ _ => rfl)))) (pe_lst (pa_cons (pv 12) pa_nil))) (pe_slice sl_list (pe_fld (pv 0) rfl) (po_some (pe_op op_add (pe_ix ix_tup (pv 3) pe_int (fun _ _ => rfl)) pe_int)) po_none)) rfl)
      (pss_one (ps_expr (pe_callC c_changed (hr.mono (by omega)) rfl (passN tkd) (pa_cons (pv 0) (pa_cons (pv 2) pa_nil))))))))))))))), ?_⟩
  refine ⟨_, rfl, vh, th, rfl, ath, by omega, fun H1 o s1 ho => ?_⟩
  have S1 := S.kp s1.kp
  have hW1 := hW.same s1
  have he1 := he.tps s1.tps
  have hlr1 := hlr.sq s1.sq
  have ath1 := ath.tps s1.tps
  have atu1 := atu.tps s1.tps
  clear S hW he hlr ath atu
  obtain ⟨a1, p1, vs1, rfl, h1, k1, l1⟩ := ath1.open
  -- it can't hold
  have no : (Pa01.outside (nm th) u = true ∨ Pa01.badOut (fun i => (Pa01.spots (pts th)).contains i) 0 u = true) → E (.ref a.ch) none H1 := fun c => S1.1 (by rw [solve_no c]; rfl) H1 Kp.refl
  refine ⟨_, rfl, _, rfl, _, _, _, _, rfl, rfl, SqT.of h1, rfl, vt, u, nm th, false, rfl, atu1, du, _, rfl, ite2 (fun c => no (.inl c)) (fun c => ?_)⟩
  refine ⟨_, rfl, _, rfl, vt, u, o, ownL (pts th), 0, false, rfl, atu1, SqL.of ho, du, _, rfl, ite2 (fun c2 => ?_) (fun c2 => ?_)⟩
  · have c2' : Pa01.badOut (okO (ownL (pts th))) 0 u = true := c2
    rw [eo] at c2'
    exact no (.inr c2')
  have cno : ¬ (Pa01.outside (nm th) u = true ∨ Pa01.badOut (fun i => (Pa01.spots (pts th)).contains i) 0 u = true) := by
    rintro (z | z)
    · exact c z
    · refine c2 ?_
      show Pa01.badOut (okO (ownL (pts th))) 0 u = true
      rw [eo]
      exact z
  refine ⟨_, rfl, _, rfl, vt, u, o, ownL (pts th), 0, rfl, atu1, ho, du, by omega, fun H2 r zs s2 hr2 hp2 => ?_⟩
  rw [eo] at hp2
  have S2 := S1.kp s2.kp
  have hW2 := hW1.same s2
  have he2 := he1.tps s2.tps
  have hlr2 := hlr1.sq s2.sq
  have h12 := s2 _ _ h1
  have atu2 := atu1.tps s2.tps
  have ho2 := s2 _ _ ho
  clear S1 hW1 he1 hlr1 atu1
  have small := cuts_small (ok := fun i => (Pa01.spots (pts th)).contains i) u 0
  refine ⟨_, rfl, le_line (by simp), fun p3 np3 => ⟨r, p3, _, rfl, rfl, SqL.of (same_new np3 _ _ _ hr2), SqL.of upd_same, _, rfl, ite2 (fun c3 => ?_) (fun c3 => ?_)⟩⟩
  · -- holes see less
    have nz : Pa01.cuts (fun i => (Pa01.spots (pts th)).contains i) 0 u ≠ [] := by
      intro z
      rw [z] at hp2
      cases zs with
      | nil => cases c3
      | cons a l => exact hp2.elim
    have eS := solve_cut cno nz
    have s3 := same_new np3 (.lst [])
    have hW3 := hW2.same s3
    obtain ⟨lh3, lw3, ll3, hwk3, _⟩ := hW3
    refine ⟨_, rfl, r, rfl, ⟨_, SqL.of (s3 _ _ hr2)⟩, for_list (K := K) (a := r) (xs := zs) (fun i σ H' => (∃ x y, σ = [some (.ref wk), some ve, some (.ref lr), some (.ref a1), some vt, some (.ref o), some (.ref r), x, y, none, none, none, none]) ∧ Kp wk H2 H' ∧ WkIn a H' wk dx (Pa01.cutAll hs ((Pa01.cuts (fun i => (Pa01.spots (pts th)).contains i) 0 u).take i)) w l0)
      ⟨⟨_, _, rfl⟩, s3.kp, by rw [List.take_zero, cut_nil]; exact hW2.same s3⟩ (fun i σ H' _ h => ?_) ?_ ?_⟩
    · obtain ⟨lh2, lw2, ll2, hwk2, _⟩ := hW2
      exact SqL.of ((h.2.1.sq hwk2).l _ _ hr2)
    · rintro i x σ H4 hx ⟨⟨x0, y0, rfl⟩, k4, hW4⟩
      obtain ⟨pr, pb, epr, rfl, hpb⟩ := hp2.get hx
      obtain ⟨lh2, lw2, ll2, hwk2, _⟩ := hW2
      have hpb4 := (k4.tps hwk2) _ _ hpb
      obtain ⟨m, em⟩ := cuts_hole (ms := mans hs) 0 e.n u fu pr (List.mem_of_getElem? epr)
      obtain ⟨y, ey, emy⟩ := mans_at em
      refine ⟨pb, _, rfl, SqT.of hpb4, rfl, _, _, rfl, _, _, rfl, rfl, ?_⟩
      refine ⟨_, rfl, _, rfl, _, rfl, l1le _, fun p5 np5 => ?_⟩
      have s5 := same_new np5 (.lst [vn pr.2])
      have ecut : (Pa01.cutAll hs ((Pa01.cuts (fun i => (Pa01.spots (pts th)).contains i) 0 u).take i))[pr.1]? = some { y with seen := y.seen.filter fun k => !((Pa01.cuts (fun i => (Pa01.spots (pts th)).contains i) 0 u).take i).contains (pr.1, k) } := by
        rw [cut_get, ey]
        rfl
      refine ⟨wk, dx, p5, pr.1, [pr.2], _, w, l0, _, rfl, hW4.same s5, upd_same, ecut, hok.h.sm y (List.mem_of_getElem? ey), ?_, fun H6 k6 hW6 => ?_⟩
      · unfold Pa01.cutAll
        rw [List.length_mapIdx]
        exact hok.h.len
      · refine ⟨⟨_, _, rfl⟩, k4.trans (s5.kp.trans k6), ?_⟩
        rw [take_more epr, cut_more]
        exact hW6
    · rintro σ H4 ⟨⟨x0, y0, rfl⟩, k4, hW4⟩
      rw [hp2.length, List.take_length] at hW4
      obtain ⟨lh2, lw2, ll2, hwk2, _⟩ := hW2
      have sq4 := k4.sq hwk2
      obtain ⟨vr, hlr4, hpr4⟩ := hlr2.sq sq4
      refine ⟨_, rfl, _, rfl, l1le _, fun p5 np5 => ⟨_, rfl, p5, lr, _, vr, rfl, rfl, upd_same, same_new np5 _ _ _ hlr4, ?_, fun p6 np6 => ?_⟩⟩
      · have := hok.cnt
        rw [List.length_append, List.length_cons] at this
        rw [hpr4.length]
        exact le_line (by show 1 + rest.length ≤ _; omega)
      have s6 := (same_new np5 (.lst [ve])).trans (same_new np6 (.lst ([ve] ++ vr)))
      have ho' : stepO hs e rest w (Pa01.solve (nm th) (pts th) u) = tid (Pa01.cutAll hs (Pa01.cuts (fun i => (Pa01.spots (pts th)).contains i) 0 u)) (e :: rest ++ w) := by
        rw [eS]
        rfl
      obtain ⟨q1, q2⟩ := (S2.kp (k4.trans s6.kp)).tidC ho'
      refine ⟨wk, dx, p6, _, w, l0, e :: rest, rfl, hW4.same s6, ⟨_, upd_same, ?_⟩, cut_tok _ hok hB, q1, q2⟩
      exact .cons ((he2.tps sq4.t).tps s6.tps) (p2_imp hpr4 fun v x q => q.tps s6.tps)
  -- no cuts
  have ez : Pa01.cuts (fun i => (Pa01.spots (pts th)).contains i) 0 u = [] := by
    cases zs with
    | nil =>
      cases z : Pa01.cuts (fun i => (Pa01.spots (pts th)).contains i) 0 u with
      | nil => rfl
      | cons a l => rw [z] at hp2; exact hp2.elim
    | cons a l => exact absurd rfl c3
  have s3 := same_new np3 (.lst [])
  have S3 := S2.kp s3.kp
  have hW3 := hW2.same s3
  have he3 := he2.tps s3.tps
  have hlr3 := hlr2.sq s3.sq
  have h13 := s3 _ _ h12
  have atu3 := atu2.tps s3.tps
  have ho3 := s3 _ _ ho2
  clear S2 hW2 he2 hlr2 atu2
  generalize upd H2 p3 (.lst []) = H3 at *
  have wait : (Pa01.within (nm th) u = true ∨ Pa01.badIn (fun i => (Pa01.spots (pts th)).contains i) 0 u = true) → spPB a [.ref wk, ve, .ref lr] H3 Q E := fun d =>
    ⟨wk, dx, lr, ve, hs, w, l0, rest, e, rfl, hW3, he3, hlr3, by have := hok.cnt; rw [List.length_append] at this; omega, fun H' k' hW' => S3.2.2 hs rest (w ++ [e]) (by rw [solve_wait cno ez d]; rfl) H' k' hW'⟩
  refine ⟨_, rfl, _, rfl, _, _, _, _, rfl, rfl, SqT.of h13, rfl, vt, u, nm th, true, rfl, atu3, du, _, rfl, ite2 (fun d => ⟨_, rfl, _, rfl, _, rfl, wait (.inl d)⟩) (fun d => ?_)⟩
  refine ⟨_, rfl, _, rfl, vt, u, o, ownL (pts th), 0, true, rfl, atu3, SqL.of ho3, du, _, rfl, ite2 (fun d2 => ?_) (fun d2 => ?_)⟩
  · have d2' : Pa01.badIn (okO (ownL (pts th))) 0 u = true := d2
    rw [eo] at d2'
    exact ⟨_, rfl, _, rfl, _, rfl, wait (.inr d2')⟩
  have dno : ¬ (Pa01.within (nm th) u = true ∨ Pa01.badIn (fun i => (Pa01.spots (pts th)).contains i) 0 u = true) := by
    rintro (z | z)
    · exact d z
    · refine d2 ?_
      show Pa01.badIn (okO (ownL (pts th))) 0 u = true
      rw [eo]
      exact z
  have eF := solve_fill cno ez dno
  have hbad : Pa01.badIn (fun i => (Pa01.spots (pts th)).contains i) 0 u = false := Bool.eq_false_iff.mpr fun z => dno (.inr z)
  have hwin : Pa01.within (nm th) u = false := Bool.eq_false_iff.mpr fun z => dno (.inl z)
  obtain ⟨lh, lw, ll, hwk, ⟨vvh, hlh, hph⟩, hw, hl⟩ := hW3
  obtain ⟨x, ex, em⟩ := hole_len hk fth
  obtain ⟨hv, ehv, bh, sh, bv, rfl, g1, g2, g3⟩ := p2_at hph ex
  refine ⟨_, rfl, wk, _, dx, _, _, rfl, hwk, T.wk.c, T.wk.n "holes" (by simp), lk_holes', _, rfl, _, _, _, _, rfl, rfl, SqT.of h13, rfl, lh, vvh, _, _, rfl, rfl, SqL.of hlh, atI_nat ehv, ?_⟩
  refine ⟨bh, _, rfl, SqT.of g1, rfl, _, _, rfl, _, _, rfl, _, _, rfl, rfl, ?_⟩
  refine ⟨_, rfl, _, rfl, _, rfl, _, rfl, vt, u, o, pts th, 0, rfl, atu3, ho3, hpl, hbad, du, by omega, fun H4 v4 s4 t4 => ⟨l3le _ _ _, fun pf npf => ?_⟩⟩
  have sf := same_new npf (.tup [vn x.many, .ref sh, v4])
  have s5 := s4.trans sf
  refine ⟨_, rfl, wk, _, dx, _, _, rfl, s5 _ _ hwk, T.wk.c, T.wk.n "holes" (by simp), lk_holes', _, rfl, _, _, _, _, rfl, rfl, SqT.of (s5 _ _ h13), rfl, _, rfl, lh, vvh, rfl, SqL.of (s5 _ _ hlh), fun q1 nq1 => ?_⟩
  rw [cut_take]
  have t1 := same_new nq1 (.lst (vvh.take (nm th)))
  refine ⟨_, rfl, l1le _, fun q3 nq3 => ?_⟩
  have t3 := same_new nq3 (.lst [V.ref pf])
  have hvl := hph.length
  have hlen := hok.h.len
  refine ⟨q1, q3, _, _, rfl, rfl, t3 _ _ upd_same, upd_same, ?_, fun q4 nq4 => ?_⟩
  · rw [List.length_take]
    exact le_line (by show min (nm th) vvh.length + 1 ≤ _; omega)
  have t4' := same_new nq4 (.lst (vvh.take (nm th) ++ [V.ref pf]))
  have s6 := s5.trans (t1.trans (t3.trans t4'))
  refine ⟨_, rfl, wk, _, dx, _, _, rfl, s6 _ _ hwk, T.wk.c, T.wk.n "holes" (by simp), lk_holes', _, rfl, _, _, _, _, rfl, rfl, SqT.of (s6 _ _ h13), rfl, _, _, rfl, rfl, _, rfl, lh, vvh, rfl, SqL.of (s6 _ _ hlh), fun q5 nq5 => ?_⟩
  have ed : cutV vvh (some (((nm th : Nat) : Int) + 1)) none = vvh.drop (nm th + 1) := cut_drop vvh (nm th + 1)
  rw [ed]
  have t5 := same_new nq5 (.lst (vvh.drop (nm th + 1)))
  refine ⟨q4, q5, _, _, rfl, rfl, t5 _ _ upd_same, upd_same, ?_, fun q6 nq6 => ?_⟩
  · rw [List.length_append, List.length_take, List.length_drop]
    exact le_line (by show min (nm th) vvh.length + 1 + (vvh.length - (nm th + 1)) ≤ _; omega)
  have t6 := same_new nq6 (.lst (vvh.take (nm th) ++ [V.ref pf] ++ vvh.drop (nm th + 1)))
  have s8 := s6.trans (t5.trans t6)
  refine ⟨_, rfl, wk, _, dx, _, rfl, s8 _ _ hwk, T.wk.c, T.wk.n "holes" (by simp), (by show 3 < 1000; decide), ?_⟩
  have hq6' := upd_same (H := upd (upd (upd (upd (upd H4 pf (.tup [vn x.many, .ref sh, v4])) q1 (.lst (vvh.take (nm th)))) q3 (.lst [V.ref pf])) q4 (.lst (vvh.take (nm th) ++ [V.ref pf]))) q5 (.lst (vvh.drop (nm th + 1)))) (a := q6) (o := HO.lst (vvh.take (nm th) ++ [V.ref pf] ++ vvh.drop (nm th + 1)))
  have hpf' := (t1.trans (t3.trans (t4'.trans (t5.trans t6)))) pf _ upd_same
  have t8 := t4.tps (sf.trans (t1.trans (t3.trans (t4'.trans (t5.trans t6))))).tps
  have hwk8 := s8 _ _ hwk
  have hh8 := p2_imp hph fun v x q => q.tps s8.tps
  have hw8 := hw.sq s8.sq
  have hl8 := hl.sq s8.sq
  have hsh8 := s8 _ _ g2
  have hlr8 := hlr3.sq s8.sq
  have S8 := S3.kp s8.kp
  generalize upd (upd (upd (upd (upd (upd H4 pf _) q1 _) q3 _) q4 _) q5 _) q6 _ = H8 at *
  have kp8 : Kp wk H8 (upd H8 wk (.ins a.wk dx (wkF q6 lw ll))) := kp_upd
  have sq8 := kp8.sq hwk8
  have ho' : stepO hs e rest w (Pa01.solve (nm th) (pts th) u) = tid (Pa01.fillOne hs (nm th) (Pa01.turn (pts th) 0 u)) (rest ++ w) := by
    rw [eF]
    rfl
  obtain ⟨z1, z2⟩ := (S8.kp kp8).tidC ho'
  have hok' : WOk B hs (rest ++ w) := ⟨hok.h, fun g hg => hok.eqs g (List.mem_cons_of_mem _ hg), by have := hok.tot; rw [List.cons_append, tot_cons] at this; omega⟩
  have ft := fill_tok hok' hB ⟨by rw [← hole_of hk]; exact fth, by rw [← hole_of hk]; exact cth, fu, cu, hwin, hbad⟩
  refine ⟨_, rfl, _, rfl, wk, dx, lr, Pa01.fillOne hs (nm th) (Pa01.turn (pts th) 0 u), w, l0, rest, rfl, ⟨q6, lw, ll, upd_same, ⟨_, sq8.l _ _ hq6', ?_⟩, hw8.sq sq8, hl8.sq sq8⟩, hlr8.sq sq8, ft.1, z1, z2⟩
  rw [set_fillOne ex]
  refine p2_append (p2_append (p2_take (nm th) (p2_imp hh8 fun v x q => q.tps sq8.t)) (p2_one ?_)) (p2_drop (nm th + 1) (p2_imp hh8 fun v x q => q.tps sq8.t))
  exact ⟨pf, sh, v4, rfl, sq8.t _ _ hpf', sq8.t _ _ hsh8, t8.tps sq8.t⟩
end
end HH
namespace HH
open Pa01
/-! ### a step keeps all well -/
theorem solve_cases (h : Nat) (ps : List Term) (t : Term) : solve h ps t = .no ∨ solve h ps t = .wait ∨ (∃ c, solve h ps t = .cut c) ∨ (solve h ps t = .fill h (turn ps 0 t) ∧ within h t = false ∧ badIn (fun i => (spots ps).contains i) 0 t = false) := by
  by_cases c : outside h t = true ∨ badOut (fun i => (spots ps).contains i) 0 t = true
  · exact .inl (solve_no c)
  by_cases n : cuts (fun i => (spots ps).contains i) 0 t ≠ []
  · exact .inr (.inr (.inl ⟨_, solve_cut c n⟩))
  have n : cuts (fun i => (spots ps).contains i) 0 t = [] := by simpa using n
  by_cases d : within h t = true ∨ badIn (fun i => (spots ps).contains i) 0 t = true
  · exact .inr (.inl (solve_wait c n d))
  · exact .inr (.inr (.inr ⟨solve_fill c n d, Bool.eq_false_iff.mpr fun z => d (.inl z), Bool.eq_false_iff.mpr fun z => d (.inr z)⟩))
theorem isPl_is {t : Term} (h : isPl t = true) : kd t = 3 ∧ plain (pts t) = true := by
  unfold isPl at h
  obtain ⟨h1, h2⟩ := Bool.and_eq_true_iff.mp h
  exact ⟨of_decide_eq_true h1, h2⟩
theorem withO_cases (s t : Term) : (∃ u v, (isPl u = true) ∧ ((u = s ∧ v = t) ∨ (u = t ∧ v = s)) ∧ withO s t = solve (nm u) (pts u) v) ∨ withO s t = .wait := by
  unfold withO
  by_cases h1 : isPl s = true ∧ (isPl t = false ∨ nm t < nm s)
  · rw [if_pos h1]
    exact .inl ⟨s, t, h1.1, .inl ⟨rfl, rfl⟩, rfl⟩
  · rw [if_neg h1]
    by_cases h2 : isPl t = true
    · rw [if_pos h2]
      exact .inl ⟨t, s, h2, .inr ⟨rfl, rfl⟩, rfl⟩
    · rw [if_neg h2]
      exact .inr rfl
theorem sameO_cases (s t : Term) : sameO s t = .wait ∨ ∃ c, sameO s t = .cut c := by
  unfold sameO
  cases differ (nm s) 0 (pts s) (pts t) with
  | nil => exact .inl rfl
  | cons a l => exact .inr ⟨_, rfl⟩
/-- all that may come of an equation -/
theorem take_cases (e : Eqn) : take e = .no ∨ take e = .done ∨ take e = .wait ∨ (∃ c, take e = .cut c) ∨ (un e.s = un e.t ∧ take e = .parts (pair (e.n + un e.s) (pts e.s) (pts e.t))) ∨
    (∃ u v, kd u = 3 ∧ ((u = e.s ∧ v = e.t) ∨ (u = e.t ∧ v = e.s)) ∧ take e = .fill (nm u) (turn (pts u) 0 v) ∧ within (nm u) v = false ∧ badIn (fun i => (spots (pts u)).contains i) 0 v = false) := by
  rw [take_eq]
  by_cases h1 : same e.s e.t = true
  · rw [if_pos h1]
    exact .inr (.inl rfl)
  rw [if_neg h1]
  by_cases h2 : kd e.s = 3 ∧ kd e.t = 3 ∧ nm e.s = nm e.t
  · rw [if_pos h2]
    rcases sameO_cases e.s e.t with z | ⟨c, z⟩
    · exact .inr (.inr (.inl z))
    · exact .inr (.inr (.inr (.inl ⟨c, z⟩)))
  rw [if_neg h2]
  by_cases h3 : kd e.s = 3 ∨ kd e.t = 3
  · rw [if_pos h3]
    rcases withO_cases e.s e.t with ⟨u, v, hp, huv, z⟩ | z
    · rw [z]
      rcases solve_cases (nm u) (pts u) v with y | y | ⟨c, y⟩ | ⟨y, y2, y3⟩
      · exact .inl y
      · exact .inr (.inr (.inl y))
      · exact .inr (.inr (.inr (.inl ⟨c, y⟩)))
      · exact .inr (.inr (.inr (.inr (.inr ⟨u, v, (isPl_is hp).1, huv, y, y2, y3⟩))))
    · exact .inr (.inr (.inl z))
  rw [if_neg h3]
  unfold withoutO
  by_cases h4 : kd e.s ≠ kd e.t ∨ nm e.s ≠ nm e.t ∨ (pts e.s).length ≠ (pts e.t).length ∨ ¬ (kd e.s = 1 ∨ kd e.s = 2)
  · rw [if_pos h4]
    exact .inl rfl
  · rw [if_neg h4]
    have hk : kd e.s = kd e.t := by
      by_cases z : kd e.s = kd e.t
      · exact z
      · exact absurd (.inl z) h4
    exact .inr (.inr (.inr (.inr (.inl ⟨by unfold un; rw [hk], rfl⟩))))
theorem WOk.tail {B : Nat} {hs : List Hole} {e : Eqn} {L : List Eqn} (w : WOk B hs (e :: L)) : WOk B hs L := ⟨w.h, fun g hg => w.eqs g (List.mem_cons_of_mem _ hg), by have := w.tot; rw [tot_cons] at this; omega⟩
theorem fillOk_of {B : Nat} {hs : List Hole} {e : Eqn} {L : List Eqn} {u v : Term} (w : WOk B hs (e :: L)) (hk : kd u = 3) (huv : (u = e.s ∧ v = e.t) ∨ (u = e.t ∧ v = e.s)) (h1 : within (nm u) v = false) (h2 : badIn (fun i => (spots (pts u)).contains i) 0 v = false) : FillOk hs (nm u) (pts u) e.n v := by
  have q := w.eqs e List.mem_cons_self
  rcases huv with ⟨rfl, rfl⟩ | ⟨rfl, rfl⟩
  · exact ⟨by rw [← hole_of hk]; exact q.fs, by rw [← hole_of hk]; exact q.cs, q.ft, q.ct, h1, h2⟩
  · exact ⟨by rw [← hole_of hk]; exact q.ft, by rw [← hole_of hk]; exact q.ct, q.fs, q.cs, h1, h2⟩
theorem tid_go {hs hs' : List Hole} {L l' w' : List Eqn} (h : tid hs L = .go hs' l' w') : tidy hs L = some (hs', l') ∧ w' = [] := by
  unfold tid at h
  cases e : tidy hs L with
  | none => rw [e] at h; cases h
  | some x => rw [e] at h; cases h; exact ⟨rfl, rfl⟩
theorem step_wok {B : Nat} {hs hs' : List Hole} {e : Eqn} {l w l' w' : List Eqn} (k : WOk B hs (e :: l ++ w)) (hB : B ≤ 900000) (h : stepO hs e l w (take e) = .go hs' l' w') : WOk (B + 1) hs' (l' ++ w') := by
  have k' : WOk B hs (e :: (l ++ w)) := k
  rcases take_cases e with z | z | z | ⟨c, z⟩ | ⟨hu, z⟩ | ⟨u, v, hk, huv, z, z1, z2⟩
  · rw [z] at h; cases h
  · rw [z] at h; cases h
    exact k'.tail.mono (by omega)
  · rw [z] at h; cases h
    refine ⟨k.h, fun g hg => (k.eqs g ?_).mono (by omega), ?_⟩
    · simp only [List.mem_append, List.mem_cons, List.not_mem_nil, or_false] at hg ⊢
      rcases hg with hg | hg | hg
      · exact .inl (.inr hg)
      · exact .inr hg
      · exact .inl (.inl hg)
    · have := k'.tot
      rw [tot_cons, tot_append] at this
      rw [tot_append, tot_append, tot_cons]
      have e0 : tot [] = 0 := rfl
      omega
  · rw [z] at h
    obtain ⟨h1, h2⟩ := tid_go (hs := cutAll hs c) (L := e :: l ++ w) h
    obtain ⟨r, _⟩ := tidy_wok (B := B) (cut_tok c k hB) (cut_sn c k.h.sn) (fun g hg => (k.eqs g hg).n) h1
    rw [h2, List.append_nil]
    exact r.mono (by omega)
  · rw [z] at h; cases h
    have := parts_wok k' hu
    rw [← List.append_assoc] at this
    exact this
  · rw [z] at h
    obtain ⟨h1, h2⟩ := tid_go (hs := fillOne hs (nm u) (turn (pts u) 0 v)) (L := l ++ w) h
    obtain ⟨f1, f2⟩ := fill_tok k'.tail hB (fillOk_of k' hk huv z1 z2)
    obtain ⟨r, _⟩ := tidy_wok (B := B) f1 f2 (fun g hg => (k'.tail.eqs g hg).n) h1
    rw [h2, List.append_nil]
    exact r.mono (by omega)
/-! ### what is read fits -/
theorem readParts_fit {ms : List Nat} {n : Nat} {F : List Nat → Option (Term × List Nat)} {may : Nat → Bool} (hF : ∀ r t r', F r = some (t, r') → Fit ms n t) : ∀ (k j : Nat) (r : List Nat) (ts : List Term) (r' : List Nat), readParts F may k j r = some (ts, r') → ts.length = k ∧ Fits ms n ts
  | 0, j, r, ts, r', h => by
    simp only [readParts] at h
    cases h
    exact ⟨rfl, trivial⟩
  | k + 1, j, r, ts, r', h => by
    cases o : one1 F may j r with
    | none => rw [rp_none o] at h; cases h
    | some x =>
      obtain ⟨t, rest⟩ := x
      rw [rp_some o] at h
      cases e : readParts F may k (j + 1) rest with
      | none => rw [e] at h; cases h
      | some y =>
        rw [e] at h
        cases h
        obtain ⟨h1, h2⟩ := readParts_fit hF k (j + 1) rest y.1 y.2 e
        refine ⟨by rw [List.length_cons, h1], ?_, h2⟩
        unfold one1 at o
        split at o
        · cases o; trivial
        · exact hF _ _ _ o
theorem read_fit {hs : List Hole} : ∀ (f n : Nat) (r : List Nat) (t : Term) (r' : List Nat), Pa01.read hs f n r = some (t, r') → Fit (mans hs) n t
  | 0, n, r, t, r', h => by cases h
  | f + 1, n, r, t, r', h => by
    unfold Pa01.read at h
    split at h
    · split at h
      · rename_i hi
        cases h
        exact hi
      · cases h
    · split at h
      · cases h
      · rename_i f' k r2 _
        cases e : readParts (Pa01.read hs f n) (fun _ => false) k 0 r2 with
        | none => rw [e] at h; cases h
        | some y =>
          rw [e] at h
          cases h
          exact (readParts_fit (fun r t r' => read_fit f n r t r') k 0 r2 y.1 y.2 e).2
    · rename_i r2
      cases e : Pa01.read hs f (n + 1) r2 with
      | none => rw [e] at h; cases h
      | some y =>
        rw [e] at h
        cases h
        exact read_fit f (n + 1) r2 y.1 y.2 e
    · rename_i g k r2
      split at h
      · cases h
      · rename_i x ex
        split at h
        · rename_i hk
          cases e : readParts (Pa01.read hs f n) (fun i => decide (0 < f) && (x.body.isNone && !x.seen.contains i)) k 0 r2 with
          | none => rw [e] at h; cases h
          | some y =>
            rw [e] at h
            cases h
            obtain ⟨h1, h2⟩ := readParts_fit (fun r t r' => read_fit f n r t r') k 0 r2 y.1 y.2 e
            refine ⟨?_, h2⟩
            show (hs.map Hole.many)[g]? = some y.1.length
            rw [List.getElem?_map, ex, h1, hk]
            rfl
        · cases h
    · cases h
end HH
namespace HH
open PySem PySem.Spec PyProof.Rows L2 L2Y
open Pa01 (Term Hole Eqn Out)
theorem pg_tupK {X : Cx} (K : PySem.W.Frag) (n : Nat) {es : List Expr} {k : Nat} {t : TGs} {pos : Pos} (hc : X.calm = true) (h : PGs X es t) (hK : X.K = K := by rfl) (hn : (assignEach es X.env).length = n := by rfl) (hst : (assignEach es X.env).findIdx? (·.1) = none := by rfl) : PG X (.Tuple es k pos) (gTup K n t) := hK ▸ pg_tup hc h hn hst
theorem in12 (k : Nat) : (if true = true then !inV (.int (k : Nat)) [.int 1, .int 2] else inV (.int (k : Nat)) [.int 1, .int 2]) = decide (¬ (k = 1 ∨ k = 2)) := by
  show (!inV (.int (k : Nat)) ([(1 : Int), 2].map V.int)) = _
  rw [inV_ints, Bool.eq_iff_iff]
  simp
  omega
section
variable {P : Program} {W0 : World} {K : PySem.W.Frag} {mg : Str → Option Value} {base : Heap} {a : Ad}
abbrev spWith (a : Ad) : Sp := spStep a (fun e => withO e.s e.t) fun e => kd e.s = 3 ∨ kd e.t = 3
theorem sc_with_hole : FnScope ["work", "equation", "rest", "places", "one", "other"] ["work", "equation", "rest"] (defScope s_with_hole) := ⟨rfl, rfl, rfl, by decide +kernel, rfl, by decide +kernel, by decide +kernel⟩
theorem ok_with_hole (T : Txt K mg a) : Cal P W0 K mg base (L2N.CX P W0) 129 "with_hole" ["work", "equation", "rest"] (spWith a) := by
  have c_is_plain : Cal P W0 K mg base CX0 1 "is_plain" ["term"] spPlain := ok_is_plain T
  have c_put_by : Cal P W0 K mg base CX0 1 "put_by" ["work", "equation", "rest"] (spPB a) := ok_put_by T
  have c_to_fill : Cal P W0 K mg base (L2N.CX P W0) 128 "to_fill" ["work", "equation", "rest", "hole", "term"] (spFill a) := ok_to_fill T
  refine T.d_with_hole.okN sc_with_hole (fun vs H Q E h => ?_) (fun f cdv A outer s H vs Q E hr h => ?_)
  · obtain ⟨wk, dx, lr, ve, hs, w, l0, rest, e, B, rfl, _⟩ := h
    rfl
  obtain ⟨wk, dx, lr, ve, hs, w, l0, rest, e, B, rfl, hW, he, hlr, hok, hB, hkk, S⟩ := h
  have tkd : L2N.Takes (cxOf (L2N.CX P W0) P W0 K mg base ["work", "equation", "rest", "places", "one", "other"] "with_hole" (defScope s_with_hole) f cdv A outer s H E) (fun cls d _ H => E cls d H) := L2N.takes_of rfl rfl rfl rfl
  have he' := he
  obtain ⟨ae, v1, v2, rfl, hae, at1, at2⟩ := he
  have qe := hok.eqs e List.mem_cons_self
  have sz := tot_mem (L := e :: rest ++ w) (e := e) List.mem_cons_self
  have tt := hok.tot
  have z1 := pts_len (t := e.s) (m := 5000) (by omega)
  have z2 := pts_len (t := e.t) (m := 5000) (by omega)
  refine ⟨_, (pss_cons (ps_asg (pv 1) (pg_tup rfl (pgs_cons (pg_name (i := 3) sc_with_hole.nd rfl (Or.inl rfl)) (pgs_cons (pg_name (i := 4) sc_with_hole.nd rfl (Or.inl rfl)) (pgs_cons (pg_name (i := 5) sc_with_hole.nd rfl (Or.inl rfl)) pgs_nil)))))
      (pss_one (ps_if (PW.pt (pw_and (pt_val (pe_callC c_is_plain (hr.mono (by omega)) rfl pass0 (pa_cons (pv 4) pa_nil))) (pw_and1 (PW.pt (pw_or (pt_not (pt_val (pe_callC c_is_plain (hr.mono (by omega)) rfl pass0 (pa_cons (pv 5) pa_nil)))) (pw_or1 (pt_cmpR op_gt (pe_ix ix_tup (pv 4) pe_int (fun _ _ => rfl)) (pe_ix ix_tup (pv 5) pe_int (fun _ _ => rfl)) (nomark _)))))))) (pss_one (ps_expr (pe_callC c_to_fill (hr.mono (by omega)) rfl (passN tkd) (pa_cons (pv 0) (pa_cons (pv 1) (pa_cons (pv 2) (pa_cons (pv 4) (pa_cons (pv 5) pa_nil)))))))) (pss_one (ps_if (pt_val (pe_callC c_is_plain (hr.mono (by omega)) rfl pass0 (pa_cons (pv 5) pa_nil))) (pss_one (ps_expr (pe_callC c_to_fill (hr.mono (by omega)) rfl (passN tkd) (pa_cons (pv 0) (pa_cons (pv 1) (pa_cons (pv 2) (pa_cons (pv 5) (pa_cons (pv 4) pa_nil)))))))) (pss_one (ps_expr (pe_callC c_put_by (hr.mono (by omega)) rfl pass0 (pa_cons (pv 0) (pa_cons (pv 1) (pa_cons (pv 2) pa_nil))))))))))), ?_⟩
  refine ⟨_, rfl, ae, _, rfl, SqT.of hae, rfl, _, _, rfl, _, _, rfl, _, _, rfl, rfl, ?_⟩
  -- the two ways into to_fill
  have f1 : ∀ H', Same H H' → isPl e.s = true → withO e.s e.t = Pa01.solve (nm e.s) (pts e.s) e.t → spFill a [.ref wk, .ref ae, .ref lr, v1, v2] H' Q E := fun H' s' hp ho =>
    ⟨wk, dx, lr, .ref ae, v1, v2, hs, w, l0, rest, e, B, e.s, e.t, rfl, hW.same s', he'.tps s'.tps, hlr.sq s'.sq, hok, hB, at1.tps s'.tps, at2.tps s'.tps, (isPl_is hp).1, (isPl_is hp).2, qe.fs, qe.cs, qe.ft, qe.ct, qe.dt, by omega, by rw [← ho]; exact S.kp s'.kp⟩
  have f2 : ∀ H', Same H H' → isPl e.t = true → withO e.s e.t = Pa01.solve (nm e.t) (pts e.t) e.s → spFill a [.ref wk, .ref ae, .ref lr, v2, v1] H' Q E := fun H' s' hp ho =>
    ⟨wk, dx, lr, .ref ae, v2, v1, hs, w, l0, rest, e, B, e.t, e.s, rfl, hW.same s', he'.tps s'.tps, hlr.sq s'.sq, hok, hB, at2.tps s'.tps, at1.tps s'.tps, (isPl_is hp).1, (isPl_is hp).2, qe.ft, qe.ct, qe.fs, qe.cs, qe.ds, by omega, by rw [← ho]; exact S.kp s'.kp⟩
  have els : ∀ H', Same H H' → ¬ (isPl e.s = true ∧ (isPl e.t = false ∨ nm e.t < nm e.s)) →
      tIfS (tB (tCl spPlain E0 (tCons (tVar 5) tNil))) (tDrop (tCl (spFill a) E (tCons (tVar 0) (tCons (tVar 1) (tCons (tVar 2) (tCons (tVar 5) (tCons (tVar 4) tNil))))))) (tDrop (tCl (spPB a) E0 (tCons (tVar 0) (tCons (tVar 1) (tCons (tVar 2) tNil))))) { nx := fun _ H' => Q .non H', rt := Q } [some (.ref wk), some (.ref ae), some (.ref lr), some (vn e.n), some v1, some v2] H' := by
    intro H' s' hn
    refine ⟨_, rfl, v2, e.t, rfl, at2.tps s'.tps, z2, fun H2 s2 => ⟨_, rfl, ite2 (fun c => ?_) (fun c => ?_)⟩⟩
    · refine ⟨_, rfl, _, rfl, _, rfl, _, rfl, _, rfl, f2 H2 (s'.trans s2) c ?_⟩
      unfold withO
      rw [if_neg hn, if_pos c]
    · have s3 := s'.trans s2
      have ho : withO e.s e.t = .wait := by
        unfold withO
        rw [if_neg hn, if_neg c]
      refine ⟨_, rfl, _, rfl, _, rfl, wk, dx, lr, .ref ae, hs, w, l0, rest, e, rfl, hW.same s3, he'.tps s3.tps, hlr.sq s3.sq, ?_, fun H4 k4 hW4 => ?_⟩
      · have := hok.cnt
        rw [List.length_append] at this
        omega
      · refine S.2.2 hs rest (w ++ [e]) ?_ H4 (s3.kp.trans k4) hW4
        show stepO hs e rest w (withO e.s e.t) = _
        rw [ho]
        rfl
  obtain ⟨a1, p1, vs1, ea1, h1, k1, l1⟩ := at1.open
  obtain ⟨a2, p2, vs2, ea2, h2, k2, l2⟩ := at2.open
  refine ⟨_, rfl, v1, e.s, rfl, at1, z1, fun H1 s1 => ⟨_, rfl, ite2 (fun c => ?_) (fun c => els H1 s1 fun z => c z.1)⟩⟩
  refine ⟨_, rfl, v2, e.t, rfl, at2.tps s1.tps, z2, fun H2 s2 => ⟨_, rfl, ite2 (fun c2 => ?_) (fun c2 => ?_)⟩⟩
  · have hp2 : isPl e.t = false := by simpa using c2
    refine ⟨_, rfl, _, rfl, _, rfl, _, rfl, _, rfl, f1 H2 (s1.trans s2) c ?_⟩
    unfold withO
    rw [if_pos ⟨c, .inl hp2⟩]
  have hp2 : isPl e.t = true := by simpa using c2
  have s12 := s1.trans s2
  subst ea1 ea2
  refine ⟨_, rfl, _, _, _, _, rfl, rfl, SqT.of (s12 _ _ h1), rfl, _, rfl, _, _, _, _, rfl, rfl, SqT.of (s12 _ _ h2), rfl, _, _, rfl, rfl, _, rfl, ite2 (fun c3 => ?_) (fun c3 => ?_)⟩
  · have c3' : ((nm e.t : Nat) : Int) < ((nm e.s : Nat) : Int) := of_decide_eq_true c3
    refine ⟨_, rfl, _, rfl, _, rfl, _, rfl, _, rfl, f1 H2 s12 c ?_⟩
    unfold withO
    rw [if_pos ⟨c, .inr (by omega)⟩]
  · have c3' : ¬ ((nm e.t : Nat) : Int) < ((nm e.s : Nat) : Int) := fun z => c3 (decide_eq_true z)
    refine els H2 s12 ?_
    rintro ⟨_, z | z⟩
    · rw [hp2] at z
      cases z
    · omega
/-! ### without_hole -/
abbrev spWo (a : Ad) : Sp := spStep a (fun e => withoutO e.n e.s e.t) fun _ => True
theorem sc_without_hole : FnScope ["work", "equation", "rest", "places", "one", "other", "inner", "part", "twin"] ["work", "equation", "rest"] (defScope s_without_hole) := ⟨rfl, rfl, rfl, by decide +kernel, rfl, by decide +kernel, by decide +kernel⟩
theorem ok_without_hole (T : Txt K mg a) : Cal P W0 K mg base (L2N.CX P W0) 1 "without_hole" ["work", "equation", "rest"] (spWo a) := by
  refine T.d_without_hole.okN sc_without_hole (fun vs H Q E h => ?_) (fun f cdv A outer s H vs Q E hr h => ?_)
  · obtain ⟨wk, dx, lr, ve, hs, w, l0, rest, e, B, rfl, _⟩ := h
    rfl
  obtain ⟨wk, dx, lr, ve, hs, w, l0, rest, e, B, rfl, hW, he, hlr, hok, hB, hkk, S⟩ := h
  have tkd : L2N.Takes (cxOf (L2N.CX P W0) P W0 K mg base ["work", "equation", "rest", "places", "one", "other", "inner", "part", "twin"] "without_hole" (defScope s_without_hole) f cdv A outer s H E) (fun cls d _ H => E cls d H) := L2N.takes_of rfl rfl rfl rfl
  obtain ⟨ae, v1, v2, rfl, hae, at1, at2⟩ := he
  have sz := tot_mem (L := e :: rest ++ w) (e := e) List.mem_cons_self
  have tt := hok.tot
  have z1 := pts_len (t := e.s) (m := 5000) (by omega)
  have z2 := pts_len (t := e.t) (m := 5000) (by omega)
  have cnt := hok.cnt
  obtain ⟨a1, p1, vs1, rfl, h1, k1, l1⟩ := at1.open
  obtain ⟨a2, p2, vs2, rfl, h2, k2, l2⟩ := at2.open
  refine ⟨_, (pss_cons (ps_asg (pv 1) (pg_tup rfl (pgs_cons (pg_name (i := 3) sc_without_hole.nd rfl (Or.inl rfl)) (pgs_cons (pg_name (i := 4) sc_without_hole.nd rfl (Or.inl rfl)) (pgs_cons (pg_name (i := 5) sc_without_hole.nd rfl (Or.inl rfl)) pgs_nil)))))
      (pss_cons (ps_if (PW.pt (pw_or (pt_cmpR (op_neW (u200 hr)) (pe_slice sl_tup (pv 4) po_none (po_some pe_int)) (pe_slice sl_tup (pv 5) po_none (po_some pe_int)) (nomark _)) (pw_or (pt_cmpR op_ne (pe_callB call_len_seq rfl T.b_len (by decide +kernel) (pa_cons (pe_ix ix_tup (pv 4) pe_int (fun _ _ => rfl)) pa_nil)) (pe_callB call_len_seq rfl T.b_len (by decide +kernel) (pa_cons (pe_ix ix_tup (pv 5) pe_int (fun _ _ => rfl)) pa_nil)) (nomark _)) (pw_or1 (pt_cmpR op_notIn_seq (pe_ix ix_tup (pv 4) pe_int (fun _ _ => rfl)) (pe_tup (pa_cons (pe_k T.k_SIGN) (pa_cons (pe_k T.k_BINDER) pa_nil))) (by rfl)))))) (pss_one (L2N.ps_raise rfl tkd (pmk_own0 PySem.F.excBase_ValueError T.ch.x T.ch.g T.ch.k (raises_own T.ch.b T.ch.t) rfl))) pss_nil)
      (pss_cons (ps_set (i := 6) sc_without_hole.nd rfl (Or.inr rfl) (pe_op op_add (pv 3) (pe_callTy call_int1 rfl T.b_int (by decide +kernel) (pa_cons (pe_cmpR op_eq (pe_ix ix_tup (pv 4) pe_int (fun _ _ => rfl)) (pe_k T.k_BINDER) (nomark _)) pa_nil))))
      (pss_one (ps_fld (pv 0) (pe_op op_cat (pe_lc (own := [("part", 7), ("twin", 8)])  rfl sc_without_hole.nd (RZ.pi_zipA rfl T.b_zip (pa_cons (pe_ix ix_tup (pv 4) pe_int (fun _ _ => rfl)) (pa_cons (pe_ix ix_tup (pv 5) pe_int (fun _ _ => rfl)) pa_nil))) (blkOk_by (own := [("part", 7), ("twin", 8)]) (N := ["work", "equation", "rest", "places", "one", "other", "inner", "part", "twin"]) (sc := defScope s_without_hole) (by decide +kernel)) (fun _ _ _ _ _ => (by exact pg_tupK K 2 rfl (pgs_cons (pg_name (i := 7) sc_without_hole.nd rfl (Or.inl rfl)) (pgs_cons (pg_name (i := 8) sc_without_hole.nd rfl (Or.inl rfl)) pgs_nil)))) (fun _ _ _ _ _ => pts_nil) (fun _ _ _ _ _ => (pe_tup (pa_cons (pv 6) (pa_cons (pv 7) (pa_cons (pv 8) pa_nil)))))) (pv 2)) rfl))))), ?_⟩
  refine ⟨_, rfl, ae, _, rfl, SqT.of hae, rfl, _, _, rfl, _, _, rfl, _, _, rfl, rfl, ?_⟩
  have no : (kd e.s ≠ kd e.t ∨ nm e.s ≠ nm e.t ∨ (pts e.s).length ≠ (pts e.t).length ∨ ¬ (kd e.s = 1 ∨ kd e.s = 2)) → ∀ H', Same H H' → E (.ref a.ch) none H' := fun c H' s' => S.1 (by
    show stepO hs e rest w (withoutO e.n e.s e.t) = _
    unfold withoutO
    rw [if_pos c]
    rfl) H' s'.kp
  refine ⟨_, rfl, _, rfl, _, _, rfl, SqT.of h1, sq3, fun q3 n3 => ?_⟩
  have s3 := same_new n3 (.tup [.int (kd e.s : Nat), .int (nm e.s : Nat)])
  refine ⟨_, rfl, _, rfl, _, _, rfl, SqT.of (s3 _ _ h2), sq3, fun q4 n4 => ?_⟩
  have s4 := s3.trans (same_new n4 (.tup [.int (kd e.t : Nat), .int (nm e.t : Nat)]))
  refine ⟨_, _, dp2 (same_new n4 _ _ _ upd_same), dp2 upd_same, rfl, rfl, (by show 1 ≤ 199; decide), _, rfl, ?_⟩
  refine ite2 (fun c2 => ?_) (fun c2 => ?_)
  · have c2' : (!decide (kd e.s = kd e.t ∧ nm e.s = nm e.t)) = true := by rw [← eqv2]; exact c2
    refine no ?_ _ s4
    simp at c2'
    omega
  have c2' : kd e.s = kd e.t ∧ nm e.s = nm e.t := by
    have z : (!decide (kd e.s = kd e.t ∧ nm e.s = nm e.t)) = false := by rw [← eqv2]; exact Bool.eq_false_iff.mpr c2
    simpa using z
  refine ⟨_, rfl, _, _, _, _, rfl, rfl, SqT.of (s4 _ _ h1), rfl, p1, _, rfl, .inr (SqT.of (s4 _ _ k1)), _, rfl, _, _, _, _, rfl, rfl, SqT.of (s4 _ _ h2), rfl, p2, _, rfl, .inr (SqT.of (s4 _ _ k2)), rfl, _, rfl, ?_⟩
  rw [dec_nat, l1.length, l2.length]
  refine ite2 (fun c3 => ?_) (fun c3 => ?_)
  · refine no (.inr (.inr (.inl ?_))) _ s4
    simpa using c3
  have c3' : (pts e.s).length = (pts e.t).length := by simpa using c3
  refine ⟨_, rfl, _, _, _, _, rfl, rfl, SqT.of (s4 _ _ h1), rfl, two_le, fun q5 n5 => ?_⟩
  have s5 := s4.trans (same_new n5 (.tup [.int 1, .int 2]))
  refine ⟨q5, _, rfl, .inr (SqT.of upd_same), rfl, rfl, _, rfl, ?_⟩
  rw [in12]
  refine ite2 (fun c4 => ?_) (fun c4 => ?_)
  · exact no (.inr (.inr (.inr (of_decide_eq_true c4)))) _ s5
  have c4' : kd e.s = 1 ∨ kd e.s = 2 := Decidable.of_not_not fun z => c4 (decide_eq_true z)
  have ho : stepO hs e rest w (withoutO e.n e.s e.t) = .go hs (Pa01.pair (e.n + un e.s) (pts e.s) (pts e.t) ++ rest) w := by
    unfold withoutO
    rw [if_neg (by omega)]
    rfl
  refine ⟨_, rfl, _, rfl, _, _, _, _, rfl, rfl, SqT.of (s5 _ _ h1), rfl, rfl, .inr ⟨_, rfl, _, _, rfl, rfl, ?_⟩⟩
  have ei : V.int ((e.n : Int) + (if decide (V.int (kd e.s : Nat) = V.int 2) = true then 1 else 0)) = vn (e.n + un e.s) := congrArg V.int (un_int e.n e.s)
  refine ⟨_, rfl, _, _, _, _, rfl, rfl, SqT.of (s5 _ _ h1), rfl, _, rfl, _, _, _, _, rfl, rfl, SqT.of (s5 _ _ h2), rfl, p1, p2, vs1, vs2, rfl, .inr ⟨SqT.of (s5 _ _ k1), SqT.of (s5 _ _ k2), fun D nD => ?_⟩⟩
  have hll : vs1.length = vs2.length := by rw [l1.length, l2.length]; exact c3'
  refine lc_it (walk_zipT (n := vs1.length) (xs := vs1) (ys := vs2) (by omega)) (fun i H' => Same H H' ∧ ∃ zs, H' D = some (.lst zs) ∧ Paired (EqnAt H') zs (Pa01.pair (e.n + un e.s) ((pts e.s).take i) ((pts e.t).take i))) ⟨s5.trans (same_new nD _), [], upd_same, .nil⟩ (fun i H' _ h => ⟨SqT.of (h.1 _ _ k1), SqT.of (h.1 _ _ k2)⟩) ?_ ?_
  · rintro i x H1 H2 hi ⟨sH, zs, hD, hP⟩ ⟨Tt, u1, u2, rfl, nT, rfl, e1, e2⟩
    obtain ⟨t1, et1, at1'⟩ := l1.get e1
    obtain ⟨t2, et2, at2'⟩ := l2.get e2
    have sT := same_new nT (.tup [u1, u2])
    refine ⟨Tt, _, rfl, SqT.of upd_same, rfl, _, _, rfl, _, _, rfl, rfl, rfl, _, rfl, _, rfl, _, rfl, l3le _ _ _, fun p np => ?_⟩
    have sp := same_new np (.tup [V.int ((e.n : Int) + (if decide (V.int (kd e.s : Nat) = V.int 2) = true then 1 else 0)), u1, u2])
    have sA := sH.trans (sT.trans sp)
    have hD3 := (sT.trans sp) _ _ hD
    have nDH : H D = none := by
      cases z : H D with
      | none => rfl
      | some o => rw [s5 _ _ z] at nD; cases nD
    refine ⟨zs, hD3, ?_, same_upd nDH sA, zs ++ [.ref p], upd_same, ?_⟩
    · have h3 := hP.length
      have h4 : (Pa01.pair (e.n + un e.s) ((pts e.s).take i) ((pts e.t).take i)).length ≤ i := by
        unfold Pa01.pair
        rw [List.length_map, List.length_zip, List.length_take, List.length_take]
        omega
      have h5 := l1.length
      exact lt_line (by omega)
    · have ep : Pa01.pair (e.n + un e.s) ((pts e.s).take (i + 1)) ((pts e.t).take (i + 1)) = Pa01.pair (e.n + un e.s) ((pts e.s).take i) ((pts e.t).take i) ++ [⟨e.n + un e.s, t1, t2⟩] := by
        unfold Pa01.pair
        rw [take_more et1, take_more et2, List.zip_append (by rw [List.length_take, List.length_take, c3']), List.map_append]
        rfl
      rw [ep]
      exact p2_imp (p2_append (p2_imp hP fun v x q => q.tps (sT.trans sp).tps) (p2_one ⟨p, u1, u2, rfl, by rw [← ei]; exact upd_same, at1'.tps sA.tps, at2'.tps sA.tps⟩)) fun v x q => q.tps (tps_lst hD3)
  rintro H1 ⟨sH, zs, hD, hP⟩
  have tk1 : (pts e.s).take vs1.length = pts e.s := by rw [l1.length, List.take_length]
  have tk2 : (pts e.t).take vs1.length = pts e.t := by rw [l1.length, c3', List.take_length]
  rw [tk1, tk2] at hP
  obtain ⟨vr, hlr1, hpr1⟩ := hlr.sq sH.sq
  obtain ⟨lh, lw, ll, hwk, hh, hw, hl⟩ := hW.same sH
  refine ⟨_, rfl, D, lr, zs, vr, rfl, rfl, hD, hlr1, ?_, fun p np => ?_⟩
  · have h3 := hP.length
    have h4 : (Pa01.pair (e.n + un e.s) (pts e.s) (pts e.t)).length ≤ (pts e.s).length := by
      unfold Pa01.pair
      rw [List.length_map, List.length_zip]
      omega
    rw [List.length_append, List.length_cons] at cnt
    rw [hpr1.length]
    exact le_line (by omega)
  have sp := same_new np (.lst (zs ++ vr))
  refine ⟨_, rfl, wk, _, dx, _, rfl, sp _ _ hwk, T.wk.c, T.wk.n "left" (by simp), (by show 3 < 1000; decide), ?_⟩
  have kp8 : Kp wk (upd H1 p (.lst (zs ++ vr))) (upd (upd H1 p (.lst (zs ++ vr))) wk (.ins a.wk dx (wkF lh lw p))) := kp_upd
  have sq8 := kp8.sq (sp _ _ hwk)
  have hpw : p ≠ wk := Ne.symm (ne_of_none hwk np)
  refine S.2.2 _ _ _ ho _ ((sH.trans sp).kp.trans kp8) ⟨lh, lw, p, upd_same, (hh.sq sp.sq).sq sq8, (hw.sq sp.sq).sq sq8, ⟨_, sq8.l _ _ upd_same, ?_⟩⟩
  exact p2_imp (p2_append hP hpr1) fun v x q => (q.tps sp.tps).tps sq8.t
end
end HH
namespace HH
open PySem PySem.Spec PyProof.Rows L2 L2Y
open Pa01 (Term Hole Eqn Out)
theorem cut_tail (v : V) (vs : List V) : cutV (v :: vs) (some 1) none = vs := cut_drop (v :: vs) 1
section
variable {P : Program} {W0 : World} {K : PySem.W.Frag} {mg : Str → Option Value} {base : Heap} {a : Ad}
def spTake (a : Ad) : Sp := fun vs H Q E => ∃ (wk dx : Addr) (hs : List Hole) (w rest : List Eqn) (e : Eqn) (B : Nat), vs = [.ref wk] ∧ WkIn a H wk dx hs w (e :: rest) ∧ WOk B hs (e :: rest ++ w) ∧ B ≤ 900000 ∧ StepP a H wk dx hs e rest w (Pa01.take e) Q E
theorem sc_take_up : FnScope ["work", "equation", "rest", "places", "one", "other"] ["work"] (defScope s_take_up) := ⟨rfl, rfl, rfl, by decide +kernel, rfl, by decide +kernel, by decide +kernel⟩
theorem ok_take_up (T : Txt K mg a) : Cal P W0 K mg base (L2N.CX P W0) 130 "take_up" ["work"] (spTake a) := by
  have c_same_hole : Cal P W0 K mg base (L2N.CX P W0) 128 "same_hole" ["work", "equation", "rest"] (spSame a) := ok_same_hole T
  have c_with_hole : Cal P W0 K mg base (L2N.CX P W0) 129 "with_hole" ["work", "equation", "rest"] (spWith a) := ok_with_hole T
  have c_without_hole : Cal P W0 K mg base (L2N.CX P W0) 1 "without_hole" ["work", "equation", "rest"] (spWo a) := ok_without_hole T
  refine T.d_take_up.okN sc_take_up (fun vs H Q E h => ?_) (fun f cdv A outer s H vs Q E hr h => ?_)
  · obtain ⟨wk, dx, hs, w, rest, e, B, rfl, _⟩ := h
    rfl
  obtain ⟨wk, dx, hs, w, rest, e, B, rfl, hW, hok, hB, S⟩ := h
  have tkd : L2N.Takes (cxOf (L2N.CX P W0) P W0 K mg base ["work", "equation", "rest", "places", "one", "other"] "take_up" (defScope s_take_up) f cdv A outer s H E) (fun cls d _ H => E cls d H) := L2N.takes_of rfl rfl rfl rfl
  have hW0 := hW
  obtain ⟨lh, lw, ll, hwk, hh, hw, ⟨vl, hll, hpl⟩⟩ := hW
  obtain ⟨ve, vr, evl, he, hpr⟩ : ∃ ve vr, vl = ve :: vr ∧ EqnAt H ve e ∧ Paired (EqnAt H) vr rest := by
    cases hpl with
    | cons h1 h2 => exact ⟨_, _, rfl, h1, h2⟩
  subst evl
  have qe := hok.eqs e List.mem_cons_self
  have sz := tot_mem (L := e :: rest ++ w) (e := e) List.mem_cons_self
  have tt := hok.tot
  have he' := he
  obtain ⟨ae, v1, v2, rfl, hae, at1, at2⟩ := he
  obtain ⟨a1, p1, vs1, rfl, h1, k1, l1⟩ := at1.open
  obtain ⟨a2, p2, vs2, rfl, h2, k2, l2⟩ := at2.open
  refine ⟨_, (pss_cons (ps_set (i := 1) sc_take_up.nd rfl (Or.inl rfl) (pe_ix ix_list (pe_fld (pv 0) rfl) pe_int (fun _ _ => rfl)))
      (pss_cons (ps_set (i := 2) sc_take_up.nd rfl (Or.inl rfl) (pe_slice sl_list (pe_fld (pv 0) rfl) (po_some pe_int) po_none))
      (pss_cons (ps_asg (pv 1) (pg_tup rfl (pgs_cons (pg_name (i := 3) sc_take_up.nd rfl (Or.inl rfl)) (pgs_cons (pg_name (i := 4) sc_take_up.nd rfl (Or.inl rfl)) (pgs_cons (pg_name (i := 5) sc_take_up.nd rfl (Or.inl rfl)) pgs_nil)))))
      (pss_one (ps_if (pt_cmpR (op_eqW (u200 hr)) (pv 4) (pv 5) (nomark _)) (pss_one (ps_fld (pv 0) (pv 2) rfl)) (pss_one (ps_if (PW.pt (pw_and (pt_cmpR op_eq (pe_ix ix_tup (pv 4) pe_int (fun _ _ => rfl)) (pe_k T.k_HOLE) (nomark _)) (pw_and (pt_cmpR op_eq (pe_ix ix_tup (pv 5) pe_int (fun _ _ => rfl)) (pe_k T.k_HOLE) (nomark _)) (pw_and1 (pt_cmpR op_eq (pe_ix ix_tup (pv 4) pe_int (fun _ _ => rfl)) (pe_ix ix_tup (pv 5) pe_int (fun _ _ => rfl)) (nomark _)))))) (pss_one (ps_expr (pe_callC c_same_hole (hr.mono (by omega)) rfl (passN tkd) (pa_cons (pv 0) (pa_cons (pv 1) (pa_cons (pv 2) pa_nil)))))) (pss_one (ps_if (PW.pt (pw_or (pt_cmpR op_eq (pe_ix ix_tup (pv 4) pe_int (fun _ _ => rfl)) (pe_k T.k_HOLE) (nomark _)) (pw_or1 (pt_cmpR op_eq (pe_ix ix_tup (pv 5) pe_int (fun _ _ => rfl)) (pe_k T.k_HOLE) (nomark _))))) (pss_one (ps_expr (pe_callC c_with_hole (hr.mono (by omega)) rfl (passN tkd) (pa_cons (pv 0) (pa_cons (pv 1) (pa_cons (pv 2) pa_nil)))))) (pss_one (ps_expr (pe_callC c_without_hole (hr.mono (by omega)) rfl (passN tkd) (pa_cons (pv 0) (pa_cons (pv 1) (pa_cons (pv 2) pa_nil))))))))))))))), ?_⟩
  refine ⟨_, rfl, wk, _, dx, _, _, rfl, hwk, T.wk.c, T.wk.n "left" (by simp), lk_left', ll, _, _, _, rfl, rfl, SqL.of hll, atI_nat (j := 0) (List.getElem?_cons_zero), ?_⟩
  refine ⟨_, rfl, wk, _, dx, _, _, rfl, hwk, T.wk.c, T.wk.n "left" (by simp), lk_left', _, rfl, ll, _, rfl, SqL.of hll, fun lr nlr => ?_⟩
  rw [cut_tail]
  have s1 := same_new nlr (.lst vr)
  have hlr : EqnsL (upd H lr (.lst vr)) lr rest := ⟨vr, upd_same, p2_imp hpr fun v x q => q.tps s1.tps⟩
  have S1 := S.kp s1.kp
  have hW1 := hW0.same s1
  refine ⟨_, rfl, ae, _, rfl, SqT.of (s1 _ _ hae), rfl, _, _, rfl, _, _, rfl, _, _, rfl, rfl, ?_⟩
  have te := take_eq e
  refine ⟨_, rfl, _, rfl, toD e.s, toD e.t, (at1.tps s1.tps).dp, (at2.tps s1.tps).dp, toD_lay _, toD_lay _, ?_, _, rfl, ?_⟩
  · have := toD_depth e.s
    have := qe.ds
    omega
  show (if PyData.eqv (toD e.s) (toD e.t) = true then _ else _)
  rw [toD_eqv]
  refine ite2 (fun c => ?_) (fun c => ?_)
  · rw [if_pos c] at te
    obtain ⟨lh1, lw1, ll1, hwk1, hh1, hw1, hl1⟩ := hW1
    refine ⟨_, rfl, _, rfl, wk, _, dx, _, rfl, hwk1, T.wk.c, T.wk.n "left" (by simp), (by show 3 < 1000; decide), ?_⟩
    have kp8 : Kp wk (upd H lr (.lst vr)) (upd (upd H lr (.lst vr)) wk (.ins a.wk dx (wkF lh1 lw1 lr))) := kp_upd
    have sq8 := kp8.sq hwk1
    exact S1.2.2 hs rest w (by rw [te]; rfl) _ kp8 ⟨lh1, lw1, lr, upd_same, hh1.sq sq8, hw1.sq sq8, hlr.sq sq8⟩
  rw [if_neg c] at te
  have he1 := he'.tps s1.tps
  have h11 := s1 _ _ h1
  have h21 := s1 _ _ h2
  have wth : ∀ {o : Eqn → Out} {C : Eqn → Prop}, Pa01.take e = o e → C e → spStep a o C [.ref wk, .ref ae, .ref lr] (upd H lr (.lst vr)) Q E := fun {o C} z hc =>
    ⟨wk, dx, lr, .ref ae, hs, w, e :: rest, rest, e, B, rfl, hW1, he1, hlr, hok, hB, hc, by rw [← z]; exact S1⟩
  clear S S1 hW1 hW0
  generalize upd H lr (.lst vr) = H1 at *
  -- neither or one is a hole
  have rest1 : ¬ (kd e.s = 3 ∧ kd e.t = 3 ∧ nm e.s = nm e.t) →
      tIfS (tOr (tB (tOp rEq (tOp (rIxT K) (tVar 4) (tC (.int 0))) (tC (.int 3)))) (tB (tOp rEq (tOp (rIxT K) (tVar 5) (tC (.int 0))) (tC (.int 3))))) (tDrop (tCl (spWith a) E (tCons (tVar 0) (tCons (tVar 1) (tCons (tVar 2) tNil))))) (tDrop (tCl (spWo a) E (tCons (tVar 0) (tCons (tVar 1) (tCons (tVar 2) tNil))))) { nx := fun _ H' => Q .non H', rt := Q } [some (.ref wk), some (.ref ae), some (.ref lr), some (vn e.n), some (.ref a1), some (.ref a2)] H1 := by
    intro hn
    rw [if_neg hn] at te
    refine ⟨_, rfl, _, _, _, _, rfl, rfl, SqT.of h11, rfl, rfl, _, rfl, ite2 (fun c2 => ?_) (fun c2 => ?_)⟩
    · have c2' := litT c2
      have hk : kd e.s = 3 := by omega
      rw [if_pos (.inl hk)] at te
      exact ⟨_, rfl, _, rfl, _, rfl, wth te (.inl hk)⟩
    have c2' := litF c2
    refine ⟨_, rfl, _, _, _, _, rfl, rfl, SqT.of h21, rfl, rfl, _, rfl, ite2 (fun c3 => ?_) (fun c3 => ?_)⟩
    · have c3' := litT c3
      have hk : kd e.t = 3 := by omega
      rw [if_pos (.inr hk)] at te
      exact ⟨_, rfl, _, rfl, _, rfl, wth te (.inr hk)⟩
    have c3' := litF c3
    rw [if_neg (by omega)] at te
    exact ⟨_, rfl, _, rfl, _, rfl, wth te trivial⟩
  refine ⟨_, rfl, _, _, _, _, rfl, rfl, SqT.of h11, rfl, rfl, _, rfl, ite2 (fun c2 => ?_) (fun c2 => ?_)⟩
  · have c2' := litT c2
    refine ⟨_, rfl, _, _, _, _, rfl, rfl, SqT.of h21, rfl, rfl, _, rfl, ite2 (fun c3 => ?_) (fun c3 => ?_)⟩
    · have c3' := litT c3
      refine ⟨_, rfl, _, _, _, _, rfl, rfl, SqT.of h11, rfl, _, rfl, _, _, _, _, rfl, rfl, SqT.of h21, rfl, rfl, _, rfl, ite2 (fun c4 => ?_) (fun c4 => ?_)⟩
      · have c4' := litT c4
        have hn : kd e.s = 3 ∧ kd e.t = 3 ∧ nm e.s = nm e.t := by omega
        rw [if_pos hn] at te
        exact ⟨_, rfl, _, rfl, _, rfl, wth te hn⟩
      · have c4' := litF c4
        exact rest1 (by omega)
    · have c3' := litF c3
      exact rest1 (by omega)
  · have c2' := litF c2
    exact rest1 (by omega)
/-! ### taken_up -/
def spTU (a : Ad) : Sp := fun vs H Q E => ∃ (lh lw : Addr) (ve : V) (hs : List Hole) (w : List Eqn) (e : Eqn) (ms : List (List Hole × List Eqn)) (B : Nat), vs = [.ref lh, .ref lw, ve] ∧ HolesL H lh hs ∧ EqnsL H lw w ∧ EqnAt H ve e ∧ TOk hs (w ++ [e]) ∧ (∀ x ∈ hs, x.seen = (List.range x.many).filter fun k => x.seen.contains k) ∧ (∀ g ∈ w ++ [e], g.n ≤ B) ∧ B + 2001 ≤ 900000 ∧
  (Pa01.equated ⟨hs, w, ms⟩ e = .no → ∀ H', Same H H' → E (.ref a.ch) none H') ∧ (Pa01.equated ⟨hs, w, ms⟩ e = .over → ∀ H', Same H H' → E (.ref a.tl) none H') ∧
  (∀ hs' w', Pa01.equated ⟨hs, w, ms⟩ e = .ok hs' w' → WOk (B + 2000) hs' w' → ∀ H' wk dx, Same H H' → WkIn a H' wk dx hs' w' [] → Q (.ref wk) H')
theorem sc_taken_up : FnScope ["holes", "waits", "equation", "work", "taken"] ["holes", "waits", "equation"] (defScope s_taken_up) := ⟨rfl, rfl, rfl, by decide +kernel, rfl, by decide +kernel, by decide +kernel⟩
theorem ok_taken_up (T : Txt K mg a) : Cal P W0 K mg base (L2N.CX P W0) 131 "taken_up" ["holes", "waits", "equation"] (spTU a) := by
  have c_Work : Mak P W0 K mg base 1 "Work" a.wk ["self", "holes", "waits", "left"] (spWkI a) := ok_Work T
  have c_write_all : Cal P W0 K mg base (L2N.CX P W0) 126 "write_all" ["work"] (spWA a) := ok_write_all T
  have c_take_up : Cal P W0 K mg base (L2N.CX P W0) 130 "take_up" ["work"] (spTake a) := ok_take_up T
  refine T.d_taken_up.okN sc_taken_up (fun vs H Q E h => ?_) (fun f cdv A outer s H vs Q E hr h => ?_)
  · obtain ⟨lh, lw, ve, hs, w, e, ms, B, rfl, _⟩ := h
    rfl
  obtain ⟨lh, lw, ve, hs, w, e, ms, B, rfl, ⟨vh, hlh, hph⟩, ⟨vw, hlw, hpw⟩, he, t, sn, hn, hB, qN, qO, q⟩ := h
  have tkd : L2N.Takes (cxOf (L2N.CX P W0) P W0 K mg base ["holes", "waits", "equation", "work", "taken"] "taken_up" (defScope s_taken_up) f cdv A outer s H E) (fun cls d _ H => E cls d H) := L2N.takes_of rfl rfl rfl rfl
  refine ⟨_, (pss_cons (ps_set (i := 3) sc_taken_up.nd rfl (Or.inl rfl) (pe_makeC c_Work (hr.mono (by omega)) rfl (pa_cons (pe_callTy call_list_of rfl T.b_list (by decide +kernel) (pa_cons (pv 0) pa_nil)) (pa_cons (pe_callTy call_list_of rfl T.b_list (by decide +kernel) (pa_cons (pv 1) pa_nil)) (pa_cons (pe_lst (pa_cons (pv 2) pa_nil)) pa_nil)))))
      (pss_cons (ps_expr (pe_callC c_write_all (hr.mono (by omega)) rfl (passN tkd) (pa_cons (pv 3) pa_nil)))
      (pss_cons (ps_set (i := 4) sc_taken_up.nd rfl (Or.inl rfl) pe_int)
      (pss_cons (ps_while (L2.passes_of rfl) (pt_cmpR (op_neNil (u0 hr)) (pe_fld (pv 3) rfl) (pe_lst pa_nil) (nomark _)) (pss_cons (ps_aug (i := 4) sc_taken_up.nd rfl (.inl rfl) pe_int ip_add)
      (pss_cons (ps_if (pt_cmpR op_gt (pv 4) (pe_k T.k_MOST_TAKEN) (nomark _)) (pss_one (L2N.ps_raise rfl tkd (pmk_own0 PySem.F.excBase_ValueError T.tl.x T.tl.g T.tl.k (raises_own T.tl.b T.tl.t) rfl))) pss_nil)
      (pss_one (ps_expr (pe_callC c_take_up (hr.mono (by omega)) rfl (passN tkd) (pa_cons (pv 3) pa_nil)))))))
      (pss_one (ps_ret (pv 3))))))), ?_⟩
  have hvl := hph.length
  have hwl := hpw.length
  have tc := t.cnt
  rw [List.length_append] at tc
  refine ⟨_, rfl, lh, vh, rfl, .inl (SqL.of hlh), fun p1 np1 => ?_⟩
  have s1 := same_new np1 (.lst vh)
  refine ⟨_, rfl, lw, vw, rfl, .inl (SqL.of (s1 _ _ hlw)), fun p2 np2 => ?_⟩
  have s2 := same_new np2 (.lst vw)
  refine ⟨_, rfl, l1le _, fun p3 np3 => fun wk dx nwk ndx hne => ?_⟩
  have s3 := same_new np3 (.lst [ve])
  have s03 := s1.trans (s2.trans s3)
  have hp1 := (s2.trans s3) p1 _ upd_same
  have hp2 := s3 p2 _ upd_same
  have hp3 : upd (upd (upd H p1 (.lst vh)) p2 (.lst vw)) p3 (.lst [ve]) p3 = some (.lst [ve]) := upd_same
  generalize upd (upd (upd H p1 (.lst vh)) p2 (.lst vw)) p3 (.lst [ve]) = H3 at *
  have sm : Same H3 (upd (upd H3 dx (.own wk)) wk (.ins a.wk dx [])) := (same_new ndx _).trans (same_new (by rw [upd_ne (Ne.symm hne)]; exact nwk) _)
  refine ⟨wk, dx, p1, p2, p3, rfl, upd_same, fun H1 k1 hwk1 => ⟨rfl, ?_⟩⟩
  have k31 : Kp wk H3 H1 := sm.kp.trans k1
  have s31 : Same H3 H1 := k31.back nwk
  have s01 := s03.trans s31
  have nw : H wk = none := by
    cases z : H wk with
    | none => rfl
    | some o => rw [s03 _ _ z] at nwk; cases nwk
  have k01 : Kp wk H H1 := s03.kp.trans k31
  have hW1 : WkIn a H1 wk dx hs w [e] := ⟨p1, p2, p3, hwk1, ⟨vh, s31 _ _ hp1, p2_imp hph fun v x q => q.tps s01.tps⟩, ⟨vw, s31 _ _ hp2, p2_imp hpw fun v x q => q.tps s01.tps⟩, ⟨[ve], s31 _ _ hp3, p2_one (he.tps s01.tps)⟩⟩
  refine ⟨_, rfl, wk, dx, hs, w, [e], rfl, hW1, t, fun z H' k' => qO (by unfold Pa01.equated; rw [z]) H' ((k01.trans k').back nw), fun x z H2 k2 hW2 => ?_⟩
  obtain ⟨wok, _, ex⟩ := tidy_wok t sn hn z
  have eqd : Pa01.equated ⟨hs, w, ms⟩ e = Pa01.work 2000 (hs.map (fullH hs)) [fullE hs e] (w.map (fullE hs)) := by
    unfold Pa01.equated
    rw [z, ex]
    show Pa01.work 2000 _ (((w ++ [e]).map (fullE hs)).drop w.length) (((w ++ [e]).map (fullE hs)).take w.length) = _
    have el : w.length = (w.map (fullE hs)).length := by rw [List.length_map]
    rw [List.map_append, el, List.drop_left, List.take_left]
    rfl
  rw [ex] at wok
  have wok' : WOk B (hs.map (fullH hs)) ([fullE hs e] ++ w.map (fullE hs)) := by
    have w0 : WOk B (hs.map (fullH hs)) (w.map (fullE hs) ++ [fullE hs e]) := by
      have := wok
      rw [List.map_append] at this
      exact this
    refine ⟨w0.h, fun g hg => w0.eqs g ?_, ?_⟩
    · rcases List.mem_append.mp hg with hg | hg
      · exact List.mem_append_right _ hg
      · exact List.mem_append_left _ hg
    · have := w0.tot
      rw [tot_append] at this ⊢
      omega
  have k02 : Kp wk H H2 := k01.trans k2
  refine ⟨fun m σ H' => ∃ tk hs' l' w', σ = [some (.ref lh), some (.ref lw), some ve, some (.ref wk), some (vn tk)] ∧ tk + m = 2000 ∧ Kp wk H H' ∧ WkIn a H' wk dx hs' w' l' ∧ WOk (B + tk) hs' (l' ++ w') ∧ Pa01.equated ⟨hs, w, ms⟩ e = Pa01.work m hs' l' w',
    ⟨2000, 0, _, _, _, rfl, rfl, k02, hW2, wok', eqd⟩, ?_⟩
  rintro m σ H' ⟨tk, hs', l', w', rfl, hm, k', hW', hok', heq⟩
  have hW'' := hW'
  obtain ⟨lh', lw', ll', hwk', hh', hw', ⟨vl, hll, hpl⟩⟩ := hW'
  refine ⟨_, rfl, wk, _, dx, _, _, rfl, hwk', T.wk.c, T.wk.n "left" (by simp), lk_left', le_line (by simp), fun p np => ⟨ll', p, vl, rfl, rfl, SqL.of (same_new np _ _ _ hll), SqL.of upd_same, _, rfl, ite2 (fun c => ?_) (fun c => ?_)⟩⟩
  · obtain ⟨e', r', el⟩ : ∃ e' r', l' = e' :: r' := by
      cases hpl with
      | nil => exact absurd c (by decide)
      | cons h1 h2 => exact ⟨_, _, rfl⟩
    subst el
    have sp := same_new np (.lst [])
    refine ⟨_, fun σ' H'' h => h, ?_⟩
    refine ⟨_, rfl, _, _, rfl, rfl, ?_⟩
    refine ⟨_, rfl, _, _, rfl, rfl, _, rfl, ite2 (fun c2 => ?_) (fun c2 => ?_)⟩
    · have c2' : (2000 : Int) < (tk : Int) + 1 := of_decide_eq_true c2
      have em : m = 0 := by omega
      subst em
      exact qO heq _ ((k'.trans sp.kp).back nw)
    · have c2' : ¬ (2000 : Int) < (tk : Int) + 1 := fun z => c2 (decide_eq_true z)
      obtain ⟨m', em⟩ : ∃ m', m = m' + 1 := ⟨m - 1, by omega⟩
      subst em
      rw [work_step] at heq
      have hok2 : WOk (B + tk) hs' (e' :: r' ++ w') := hok'
      refine ⟨_, rfl, wk, dx, hs', w', r', e', B + tk, rfl, hW''.same sp, hok2, by omega, fun z H4 k4 => ?_, fun z H4 k4 => ?_, fun hs2 l2 w2 z H4 k4 hW4 => ?_⟩
      · rw [z] at heq
        exact qN heq _ ((k'.trans (sp.kp.trans k4)).back nw)
      · rw [z] at heq
        exact qO heq _ ((k'.trans (sp.kp.trans k4)).back nw)
      · have wk2 := step_wok hok2 (by omega) z
        rw [z] at heq
        exact ⟨m', Nat.lt_succ_self _, tk + 1, hs2, l2, w2, rfl, by omega, k'.trans (sp.kp.trans k4), hW4, wk2, heq⟩
  · have el : l' = [] := by
      cases hpl with
      | nil => rfl
      | cons h1 h2 => exact absurd rfl c
    subst el
    have sp := same_new np (.lst [])
    refine ⟨_, rfl, q hs' w' ?_ (hok'.mono (by omega)) _ wk dx ((k'.trans sp.kp).back nw) (hW''.same sp)⟩
    rw [heq]
    cases m <;> rfl
end
end HH
namespace HH
open Pa01
mutual
theorem fit_more {ms l : List Nat} : ∀ (n : Nat) (t : Term), Fit ms n t → Fit (ms ++ l) n t
  | n, .place i, h => h
  | n, .sign f ps, h => fits_more n ps h
  | n, .bind t, h => fit_more (n + 1) t h
  | n, .hole k ps, h => ⟨by
      have := (List.getElem?_eq_some_iff.mp h.1).1
      rw [List.getElem?_append_left this]
      exact h.1, fits_more n ps h.2⟩
  | n, .gone, _ => trivial
theorem fits_more {ms l : List Nat} : ∀ (n : Nat) (ts : List Term), Fits ms n ts → Fits (ms ++ l) n ts
  | n, [], _ => trivial
  | n, t :: ts, h => ⟨fit_more n t h.1, fits_more n ts h.2⟩
end
theorem alike_more (hs : List Hole) (x : Hole) : Alike hs (hs ++ [x]) := fun h y e eb => ⟨y, by
  have := (List.getElem?_eq_some_iff.mp e).1
  rw [List.getElem?_append_left this]
  exact e, eb, rfl⟩
theorem range_contains (m k : Nat) : (List.range m).contains k = decide (k < m) := by
  rw [Bool.eq_iff_iff]
  simp
theorem wok_more {B m : Nat} {hs : List Hole} {L : List Eqn} (w : WOk B hs L) (hl : hs.length < 24) (hm : m ≤ 6) : WOk B (hs ++ [⟨m, List.range m, none⟩]) L := by
  have em : mans (hs ++ [⟨m, List.range m, none⟩]) = mans hs ++ [m] := by
    show List.map _ (hs ++ [_]) = _
    rw [List.map_append]
    rfl
  have al := alike_more hs ⟨m, List.range m, none⟩
  have mem : ∀ x ∈ hs ++ [(⟨m, List.range m, none⟩ : Hole)], x ∈ hs ∨ x = ⟨m, List.range m, none⟩ := fun x hx => by
    rcases List.mem_append.mp hx with h | h
    · exact .inl h
    · exact .inr (by simpa using h)
  refine ⟨⟨by rw [List.length_append]; show hs.length + 1 ≤ 24; omega, fun x hx => ?_, fun x hx b eb => ?_, fun x hx b eb => ?_, fun x hx b eb => ?_, fun x hx => ?_⟩, fun e he => ?_, w.tot⟩
  · rcases mem x hx with h | rfl
    · exact w.h.sm x h
    · exact hm
  · rcases mem x hx with h | rfl
    · show Fit (mans _) _ _
      rw [em]
      exact fit_more _ _ (w.h.bod x h b eb)
    · cases eb
  · rcases mem x hx with h | rfl
    · exact cl_alike al _ (w.h.bcl x h b eb)
    · cases eb
  · rcases mem x hx with h | rfl
    · exact w.h.bsz x h b eb
    · cases eb
  · rcases mem x hx with h | rfl
    · exact w.h.sn x h
    · show List.range m = (List.range m).filter fun k => (List.range m).contains k
      refine (List.filter_eq_self.mpr fun k hk => ?_).symm
      rw [range_contains]
      simpa using hk
  · have q := w.eqs e he
    exact ⟨q.n, by rw [em]; exact fit_more _ _ q.fs, by rw [em]; exact fit_more _ _ q.ft, cl_alike al _ q.cs, cl_alike al _ q.ct, q.ds, q.dt⟩
/-! ### the state is well -/
structure SOK (B : Nat) (s : State) : Prop where
  w : WOk B s.holes s.waits
  m : ∀ x ∈ s.marks, WOk B x.1 x.2
  k : s.marks.length ≤ 16
theorem SOK.mono {B B' : Nat} {s : State} (h : SOK B s) (hB : B ≤ B') : SOK B' s := ⟨h.w.mono hB, fun x hx => (h.m x hx).mono hB, h.k⟩
theorem wok_nil {B : Nat} : WOk B [] [] := ⟨⟨Nat.zero_le _, fun x hx => (by cases hx), fun x hx => (by cases hx), fun x hx => (by cases hx), fun x hx => (by cases hx), fun x hx => (by cases hx)⟩, fun x hx => (by cases hx), Nat.zero_le _⟩
theorem sok_init {B : Nat} : SOK B init := ⟨wok_nil, fun x hx => (by cases hx), Nat.zero_le _⟩
end HH
namespace HH
open PySem PySem.Spec PyProof.Rows L2 L2Y
open Pa01 (Term Hole Eqn Out State)
/-! ### Refused -/
/-- a refusal's own dict: what is told -/
def RefAt (H : Hp) (d : Addr) (l : List Int) : Prop := ∃ r, H d = some (.xd [("told", .ref r)]) ∧ H r = some (.lst (l.map V.int))
def spRfI (a : Ad) : Sp := fun vs H Q _ => ∃ (e : Addr) (v : V), vs = [.ref e, v] ∧ H e = some (exo e a.rf none) ∧ ∀ dx, H dx = none → dx ≠ e → Q .non (upd (upd H dx (exd dx [("told", v)])) e (exo e a.rf (some dx)))
theorem sc_Refused_init : FnScope ["self", "told"] ["self", "told"] (defScope s_Refused_init) := ⟨rfl, rfl, rfl, by decide +kernel, rfl, by decide +kernel, by decide +kernel⟩
section
variable {P : Program} {W0 : World} {K : PySem.W.Frag} {mg : Str → Option Value} {base : Heap} {a : Ad}
def RfMk (P : Program) (W0 : World) (K : PySem.W.Frag) (mg : Str → Option Value) (base : Heap) (a : Ad) : Prop :=
  ∃ f fd, PySem.W.findIn K (.ref a.rf) "__init__" = some (some (.ref f)) ∧ PySem.W.typeIn K (.ref f) = some (.type "function") ∧ FnOk P W0 K mg base CX0 1 f fd ["self", "told"] (spRfI a) ∧ L2H.FnH P W0 K mg base CX0 1 f fd ["self", "told"] (spRfI a) ∧ Binds K fd ["self", "told"] []
theorem ok_Refused (T : Txt K mg a) : RfMk P W0 K mg base a := by
  obtain ⟨f, fd, iC, tI, F, b⟩ := T.rf.i
  have rd : ∀ {H : Hp} {vs : List V} {Q : VK} {E : XK}, spRfI a vs H Q E → tOst K "told" (tVar 0) (tVar 1) { nx := fun _ H' => Q .non H', rt := Q } (start ["self", "told"] vs) H := by
    rintro H vs Q E ⟨e, v, rfl, he, q⟩
    exact ⟨_, rfl, _, rfl, e, a.rf, rfl, T.rf.o, T.rf.n, .inl ⟨he, q⟩⟩
  refine ⟨f, fd, iC, tI, ?_, ?_, b⟩
  · refine F.ok sc_Refused_init (fun vs H Q E h => ?_) (fun cdv A outer s H vs Q E hr h => ⟨_, pss_one (ps_ost (pv 0) (pv 1)), rd h⟩)
    obtain ⟨e, v, rfl, _⟩ := h
    rfl
  · refine okH F sc_Refused_init (fun vs H Q E h => ?_) (fun cdv A outer s H vs Q E p hot hr h => ⟨_, pss_one (ps_ost (pv 0) (pv 1)), rd h⟩)
    obtain ⟨e, v, rfl, _⟩ := h
    rfl
end
/-- what a refusal that is made comes to -/
theorem rf_made {a : Ad} {H : Hp} {r : Addr} {l : List Int} {Q : XK} (h : H r = some (.lst (l.map V.int))) (q : ∀ H' d, Same H H' → RefAt H' d l → Q (.ref a.rf) (some d) H') :
    ([V.ref r] : List V).length ≤ 1000 ∧ ∀ e, H e = none → spRfI a (.ref e :: ([V.ref r] ++ [])) (upd H e (exo e a.rf none)) (fun v H2 => v = .non ∧ ∃ (d : Addr) (fs : List (Str × V)), H2 e = some (exo e a.rf (some d)) ∧ H2 d = some (exd d fs) ∧ H d = none ∧ Q (.ref a.rf) (some d) (upd (L2.del H2 e) d (.xd fs))) (fun _ _ _ => False) := by
  refine ⟨by show 1 ≤ 1000; decide, fun e ne => ⟨e, .ref r, rfl, upd_same, fun d nd hde => ⟨rfl, d, [("told", .ref r)], upd_same, ?_, ?_, ?_⟩⟩⟩
  · rw [upd_ne hde, upd_same]
  · rw [upd_ne hde] at nd
    exact nd
  · rw [upd_ne hde] at nd
    refine q _ d (fun b o hb => ?_) ⟨r, upd_same, ?_⟩
    · have hbe : b ≠ e := fun z => by rw [z, ne] at hb; cases hb
      have hbd : b ≠ d := fun z => by rw [z, nd] at hb; cases hb
      rw [upd_ne hbd, L2.del_ne hbe, upd_ne hbe, upd_ne hbd, upd_ne hbe]
      exact hb
    · have hre : r ≠ e := fun z => by rw [z, ne] at h; cases h
      have hrd : r ≠ d := fun z => by rw [z, nd] at h; cases h
      rw [upd_ne hrd, L2.del_ne hre, upd_ne hre, upd_ne hrd, upd_ne hre]
      exact h
section
variable {X : Cx} {a : Ad} {p pos rpos : Pos} {e : Expr} {es : List Expr} {ta : TA} {W : WX} {st : Stmt}
/-- raise Refused(..) where nothing is handled -/
theorem ps_refuse (T : RfC X.K X.mg st a.rf) (R : RfMk X.prog X.w X.K X.mg X.base a) (hc : X.calm = true) (tk : L2.Takes X W) (hr : Room 2 X.A) (hg : Gl X "Refused") (ha : PA X (e :: es) ta)
    (he : starEach (e :: es) X.env = (false, eval e X.env) :: starEach es X.env := by rfl) (hpl : (backTo pos (starEach es X.env)).any (·.1) = false := by rfl) :
    PS X (.Raise (some (.Call (.Name "Refused" p) (e :: es) [] pos)) none rpos) (fun _ σ H => tMkO a.rf (spRfI a) [] ta σ H fun cls d H' => W cls d σ H') := by
  obtain ⟨f, fd, iC, tI, F, FH, b⟩ := R
  exact L2.ps_raise hc tk (pmk_oex T.o iC tI F hr b .nil pass0 hg T.g ha (by decide) he hpl)
/-- .. in an except suite -/
theorem ps_refuseH (T : RfC X.K X.mg st a.rf) (R : RfMk X.prog X.w X.K X.mg X.base a) (hc : L2H.HotC X) (tk : L2.Takes X W) (hr : L2H.RoomH 2 X.A) (hg : Gl X "Refused") (ha : PA X (e :: es) ta)
    (he : starEach (e :: es) X.env = (false, eval e X.env) :: starEach es X.env := by rfl) (hpl : (backTo pos (starEach es X.env)).any (·.1) = false := by rfl) :
    PS X (.Raise (some (.Call (.Name "Refused" p) (e :: es) [] pos)) none rpos) (fun _ σ H => tMkO a.rf (spRfI a) [] ta σ H fun cls d H' => W cls d σ H') := by
  obtain ⟨f, fd, iC, tI, F, FH, b⟩ := R
  exact L2H.ps_raiseH hc tk (L2H.pmk5_oexH T.o iC tI FH hr hc b pass0 hg T.g ha (by decide) he hpl).pmk
end
/-! ### the desk in the heap -/
def dkF (lh lw lm : Addr) : List (Str × V) := [("holes", .ref lh), ("waits", .ref lw), ("marks", .ref lm)]
section
variable {lh lw lm x : Addr}
theorem dk_holes : List.lookup ("holes" : Str) (dkF lh lw lm) = some (.ref lh) := rfl
theorem dk_waits : List.lookup ("waits" : Str) (dkF lh lw lm) = some (.ref lw) := rfl
theorem dk_marks : List.lookup ("marks" : Str) (dkF lh lw lm) = some (.ref lm) := rfl
end
def MarkAt (H : Hp) (v : V) (m : List Hole × List Eqn) : Prop := ∃ b lh lw, v = .ref b ∧ H b = some (.tup [.ref lh, .ref lw]) ∧ HolesL H lh m.1 ∧ EqnsL H lw m.2
theorem MarkAt.sq {H H' : Hp} (k : Sq H H') {v : V} {m : List Hole × List Eqn} (h : MarkAt H v m) : MarkAt H' v m := by
  obtain ⟨b, lh, lw, e, h1, h2, h3⟩ := h
  exact ⟨b, lh, lw, e, k.t _ _ h1, h2.sq k, h3.sq k⟩
def MarksL (H : Hp) (l : Addr) (ms : List (List Hole × List Eqn)) : Prop := ∃ vs, H l = some (.lst vs) ∧ Paired (MarkAt H) vs ms.reverse
theorem MarksL.sq {H H' : Hp} (k : Sq H H') {l : Addr} {ms : List (List Hole × List Eqn)} (h : MarksL H l ms) : MarksL H' l ms := by
  obtain ⟨vs, h1, h2⟩ := h
  exact ⟨vs, k.l _ _ h1, p2_imp h2 fun v x q => q.sq k⟩
def DkAt (a : Ad) (H : Hp) (dk dx : Addr) (s : State) : Prop := ∃ lh lw lm, H dk = some (.ins a.dk dx (dkF lh lw lm)) ∧ HolesL H lh s.holes ∧ EqnsL H lw s.waits ∧ MarksL H lm s.marks
theorem DkAt.same {a : Ad} {H H' : Hp} {dk dx : Addr} {s : State} (h : DkAt a H dk dx s) (k : Same H H') : DkAt a H' dk dx s := by
  obtain ⟨lh, lw, lm, h1, h2, h3, h4⟩ := h
  exact ⟨lh, lw, lm, k _ _ h1, h2.sq k.sq, h3.sq k.sq, h4.sq k.sq⟩
/-- an answer: told or refused with -/
structure AnsP (a : Ad) (B : Nat) (H : Hp) (dk dx : Addr) (x : State × Pa01.Ans) (Q : VK) (E : XK) : Prop where
  ok : ∀ H' r, Kp dk H H' → DkAt a H' dk dx x.1 → SOK B x.1 → H' r = some (.lst ((Pa01Neutral.out x.2).map V.int)) → Q (.ref r) H'
  no : ∀ H' d, Kp dk H H' → DkAt a H' dk dx x.1 → SOK B x.1 → RefAt H' d (Pa01Neutral.out x.2) → E (.ref a.rf) (some d) H'
theorem outL (v : Int) (l : List Nat) : (Pa01Neutral.out ⟨v, l⟩).map V.int = V.int v :: vns l := by
  show V.int v :: (l.map _).map V.int = _
  rw [List.map_map]
  rfl
section
variable {P : Program} {W0 : World} {K : PySem.W.Frag} {mg : Str → Option Value} {base : Heap} {a : Ad}
def spDkI (a : Ad) : Sp := fun vs H Q _ => ∃ (p dx : Addr), vs = [.ref p] ∧ H p = some (.ins a.dk dx []) ∧ ∀ H', Kp p H H' → DkAt a H' p dx Pa01.init → Q .non H'
theorem sc_Desk_init : FnScope ["self"] ["self"] (defScope s_Desk_init) := ⟨rfl, rfl, rfl, by decide +kernel, rfl, by decide +kernel, by decide +kernel⟩
theorem ok_Desk (T : Txt K mg a) : Mak P W0 K mg base 1 "Desk" a.dk ["self"] (spDkI a) := by
  obtain ⟨f, fd, M, F, b⟩ := T.dk.i
  refine ⟨f, fd, M, ?_, T.dk.g, b⟩
  refine F.ok sc_Desk_init (fun vs H Q E h => ?_) (fun cdv A outer s H vs Q E hr h => ?_)
  · obtain ⟨p, dx, rfl, _⟩ := h
    rfl
  obtain ⟨p, dx, rfl, hp, q⟩ := h
  refine ⟨_, (pss_cons (ps_fld (pv 0) (pe_lst pa_nil) rfl)
      (pss_cons (ps_fld (pv 0) (pe_lst pa_nil) rfl)
      (pss_one (ps_fld (pv 0) (pe_lst pa_nil) rfl)))), ?_⟩
  refine ⟨le_line (by simp), fun p1 np1 => ⟨_, rfl, p, _, dx, _, rfl, same_new np1 _ _ _ hp, T.dk.c, T.dk.n "holes" (by simp), (by show 0 < 1000; decide), ?_⟩⟩
  have k1 : ∀ o, Kp p H (upd (upd H p1 (.lst [])) p o) := fun o => (same_new np1 _).kp.trans kp_upd
  have d1 : p1 ≠ p := Ne.symm (ne_of_none hp np1)
  have h1 : ∀ o, upd (upd H p1 (.lst [])) p o p1 = some (.lst []) := fun o => by rw [upd_ne d1, upd_same]
  refine ⟨le_line (by simp), fun p2 np2 => ⟨_, rfl, p, _, dx, _, rfl, same_new np2 _ _ _ upd_same, T.dk.c, T.dk.n "waits" (by simp), (by show 1 < 1000; decide), ?_⟩⟩
  have d2 : p2 ≠ p := fun z => by rw [z, upd_same] at np2; cases np2
  refine ⟨le_line (by simp), fun p3 np3 => ⟨_, rfl, p, _, dx, _, rfl, same_new np3 _ _ _ upd_same, T.dk.c, T.dk.n "marks" (by simp), (by show 2 < 1000; decide), ?_⟩⟩
  have d3 : p3 ≠ p := fun z => by rw [z, upd_same] at np3; cases np3
  have k2 := (same_new np2 (.lst [])).kp (x := p)
  have k3 := (same_new np3 (.lst [])).kp (x := p)
  refine q _ ((k1 _).trans ((k2.trans kp_upd).trans (k3.trans kp_upd))) ⟨p1, p2, p3, upd_same, ⟨[], ?_, .nil⟩, ⟨[], ?_, .nil⟩, ⟨[], ?_, .nil⟩⟩
  · exact ((k2.trans kp_upd).trans (k3.trans kp_upd)) _ _ (h1 _) d1
  · refine (k3.trans kp_upd) _ _ ?_ d2
    rw [upd_ne d2, upd_same]
  · rw [upd_ne d3, upd_same]
def spRef (a : Ad) : Sp := fun vs H Q E => ∃ (c : Bool) (i : Int), vs = [.bl c, .int i] ∧ (c = true → ∀ H' d, Same H H' → RefAt H' d [i] → E (.ref a.rf) (some d) H') ∧ (c = false → Q .non H)
theorem sc_refuse_where : FnScope ["truth", "code"] ["truth", "code"] (defScope s_refuse_where) := ⟨rfl, rfl, rfl, by decide +kernel, rfl, by decide +kernel, by decide +kernel⟩
theorem ok_refuse_where (T : Txt K mg a) : Cal P W0 K mg base (L2.CX P W0) 3 "refuse_where" ["truth", "code"] (spRef a) := by
  refine T.d_refuse_where.okX sc_refuse_where (fun vs H Q E h => ?_) (fun f cdv A outer s H vs Q E hr h => ?_)
  · obtain ⟨c, i, rfl, _⟩ := h
    rfl
  obtain ⟨c, i, rfl, qE, q⟩ := h
  have tkd : L2.Takes (cxOf (L2.CX P W0) P W0 K mg base ["truth", "code"] "refuse_where" (defScope s_refuse_where) f cdv A outer s H E) (fun cls d _ H => E cls d H) := L2.takes_of rfl rfl rfl rfl
  refine ⟨_, (pss_one (ps_if (pt_val (pv 0)) (pss_one (ps_refuse T.rf (ok_Refused T) rfl tkd (hr.mono (by omega)) rfl (pa_cons (pe_lst (pa_cons (pv 1) pa_nil)) pa_nil))) pss_nil)), ?_⟩
  cases c with
  | false => exact ⟨_, rfl, _, rfl, if_f rfl (q rfl)⟩
  | true =>
    refine ⟨_, rfl, _, rfl, if_t rfl ?_⟩
    refine ⟨_, rfl, l1le _, fun r nr => rf_made (l := [i]) upd_same fun H' d s' hr' => qE rfl H' d ((same_new nr _).trans s') hr'⟩
end
end HH
namespace HH
open PySem PySem.Spec PyProof.Rows L2 L2Y
open Pa01 (Term Hole Eqn Out State Call)
theorem p2_snoc {α : Type} {R : V → α → Prop} : ∀ {vs : List V} {xs : List α} {x : α}, Paired R vs (xs ++ [x]) → ∃ vs0 v, vs = vs0 ++ [v] ∧ Paired R vs0 xs ∧ R v x
  | _, [], _, .cons r .nil => ⟨[], _, rfl, .nil, r⟩
  | _, y :: ys, x, .cons r t => by
    obtain ⟨vs0, v, e, p, q⟩ := p2_snoc (xs := ys) t
    exact ⟨_ :: vs0, v, by rw [e]; rfl, .cons r p, q⟩
theorem cut_init (vs : List V) (v : V) : cutV (vs ++ [v]) none (some (-1)) = vs := by
  unfold cutV
  rw [HT.sIx_none]
  have e : HT.sIx (vs ++ [v]).length (vs ++ [v]).length (some (-1)) = vs.length := by
    show (if (-1 : Int) < 0 then ((-1) + ((vs ++ [v]).length : Int)).toNat else min (-1 : Int).toNat (vs ++ [v]).length) = _
    rw [if_pos (by decide), List.length_append]
    show ((-1) + ((vs.length + 1 : Nat) : Int)).toNat = _
    omega
  rw [e, List.drop_zero, Nat.sub_zero, List.take_left]
def spD0 (a : Ad) (c : Call) : Sp := fun vs H Q E => ∃ (dk dx : Addr) (s : State) (B : Nat), vs = [.ref dk] ∧ DkAt a H dk dx s ∧ SOK B s ∧ 12 ≤ B ∧ B + 2001 ≤ 900000 ∧ AnsP a (B + 2000) H dk dx (Pa01.step s c) Q E
def spD1 (a : Ad) (c : Nat → Call) : Sp := fun vs H Q E => ∃ (dk dx : Addr) (s : State) (B n : Nat), vs = [.ref dk, vn n] ∧ DkAt a H dk dx s ∧ SOK B s ∧ 12 ≤ B ∧ B + 2001 ≤ 900000 ∧ AnsP a (B + 2000) H dk dx (Pa01.step s (c n)) Q E
theorem AnsP.refuse {a : Ad} {B : Nat} {H : Hp} {dk dx : Addr} {s : State} {i : Int} {Q : VK} {E : XK} (S : AnsP a (B + 2000) H dk dx (s, Pa01.ok i) Q E) (hD : DkAt a H dk dx s) (hs : SOK B s) : ∀ H' d, Same H H' → RefAt H' d [i] → E (.ref a.rf) (some d) H' :=
  fun H' d s' h => S.no H' d s'.kp (hD.same s') (hs.mono (by omega)) h
theorem AnsP.kp {a : Ad} {B : Nat} {H H1 : Hp} {dk dx : Addr} {x : State × Pa01.Ans} {Q : VK} {E : XK} (S : AnsP a B H dk dx x Q E) (k : Kp dk H H1) : AnsP a B H1 dk dx x Q E :=
  ⟨fun H' r k' => S.ok H' r (k.trans k'), fun H' d k' => S.no H' d (k.trans k')⟩
section
variable {P : Program} {W0 : World} {K : PySem.W.Frag} {mg : Str → Option Value} {base : Heap} {a : Ad}
def spBeg (a : Ad) : Sp := fun vs H Q _ => ∃ (dk dx : Addr) (s : State), vs = [.ref dk] ∧ DkAt a H dk dx s ∧ ∀ H' r, Kp dk H H' → DkAt a H' dk dx Pa01.init → H' r = some (.lst [.int 0]) → Q (.ref r) H'
theorem sc_begin : FnScope ["desk"] ["desk"] (defScope s_begin) := ⟨rfl, rfl, rfl, by decide +kernel, rfl, by decide +kernel, by decide +kernel⟩
theorem ok_begin (T : Txt K mg a) : Cal P W0 K mg base CX0 1 "begin" ["desk"] (spBeg a) := by
  refine T.d_begin.ok0 sc_begin (fun vs H Q E h => ?_) (fun f cdv A outer sh0 H vs Q E hr h => ?_)
  · obtain ⟨dk, dx, s, rfl, _⟩ := h
    rfl
  obtain ⟨p, dx, s, rfl, ⟨lh, lw, lm, hp, _⟩, q⟩ := h
  refine ⟨_, (pss_cons (ps_fld (pv 0) (pe_lst pa_nil) rfl)
      (pss_cons (ps_fld (pv 0) (pe_lst pa_nil) rfl)
      (pss_cons (ps_fld (pv 0) (pe_lst pa_nil) rfl)
      (pss_one (ps_ret (pe_lst (pa_cons pe_int pa_nil))))))), ?_⟩
  refine ⟨le_line (by simp), fun p1 np1 => ⟨_, rfl, p, _, dx, _, rfl, same_new np1 _ _ _ hp, T.dk.c, T.dk.n "holes" (by simp), (by show 3 < 1000; decide), ?_⟩⟩
  have k1 : ∀ o, Kp p H (upd (upd H p1 (.lst [])) p o) := fun o => (same_new np1 _).kp.trans kp_upd
  have d1 : p1 ≠ p := Ne.symm (ne_of_none hp np1)
  have h1 : ∀ o, upd (upd H p1 (.lst [])) p o p1 = some (.lst []) := fun o => by rw [upd_ne d1, upd_same]
  refine ⟨le_line (by simp), fun p2 np2 => ⟨_, rfl, p, _, dx, _, rfl, same_new np2 _ _ _ upd_same, T.dk.c, T.dk.n "waits" (by simp), (by show 3 < 1000; decide), ?_⟩⟩
  have d2 : p2 ≠ p := fun z => by rw [z, upd_same] at np2; cases np2
  refine ⟨le_line (by simp), fun p3 np3 => ⟨_, rfl, p, _, dx, _, rfl, same_new np3 _ _ _ upd_same, T.dk.c, T.dk.n "marks" (by simp), (by show 3 < 1000; decide), ?_⟩⟩
  have d3 : p3 ≠ p := fun z => by rw [z, upd_same] at np3; cases np3
  have k2 := (same_new np2 (.lst [])).kp (x := p)
  have k3 := (same_new np3 (.lst [])).kp (x := p)
  refine ⟨l1le _, fun r nr => ?_⟩
  have sr := same_new nr (.lst [V.int 0])
  refine q _ r ((k1 _).trans (((k2.trans kp_upd).trans (k3.trans kp_upd)).trans sr.kp)) ⟨p1, p2, p3, sr _ _ upd_same, ⟨[], sr _ _ ?_, .nil⟩, ⟨[], sr _ _ ?_, .nil⟩, ⟨[], sr _ _ ?_, .nil⟩⟩ upd_same
  · exact ((k2.trans kp_upd).trans (k3.trans kp_upd)) _ _ (h1 _) d1
  · refine (k3.trans kp_upd) _ _ ?_ d2
    rw [upd_ne d2, upd_same]
  · rw [upd_ne d3, upd_same]
theorem sc_make_hole : FnScope ["desk", "places", "k"] ["desk", "places"] (defScope s_make_hole) := ⟨rfl, rfl, rfl, by decide +kernel, rfl, by decide +kernel, by decide +kernel⟩
theorem ok_make_hole (T : Txt K mg a) : Cal P W0 K mg base (L2.CX P W0) 4 "make_hole" ["desk", "places"] (spD1 a Call.hole) := by
  have c_refuse_where : Cal P W0 K mg base (L2.CX P W0) 3 "refuse_where" ["truth", "code"] (spRef a) := ok_refuse_where T
  refine T.d_make_hole.okX sc_make_hole (fun vs H Q E h => ?_) (fun f cdv A outer sh0 H vs Q E hr h => ?_)
  · obtain ⟨dk, dx, s, B, n, rfl, _⟩ := h
    rfl
  obtain ⟨dk, dx, s, B, m, rfl, hD, hs, hB1, hB2, S⟩ := h
  have tkd : L2.Takes (cxOf (L2.CX P W0) P W0 K mg base ["desk", "places", "k"] "make_hole" (defScope s_make_hole) f cdv A outer sh0 H E) (fun cls d _ H => E cls d H) := L2.takes_of rfl rfl rfl rfl
  refine ⟨_, (pss_cons (ps_expr (pe_callC c_refuse_where (hr.mono (by omega)) rfl (passX tkd) (pa_cons (pe_cmpR op_gt (pv 1) (pe_k T.k_MOST_OWN) (nomark _)) (pa_cons (pe_k T.k_NOT_RIGHT) pa_nil))))
      (pss_cons (ps_expr (pe_callC c_refuse_where (hr.mono (by omega)) rfl (passX tkd) (pa_cons (pe_cmpR op_eq (pe_callB call_len_seq rfl T.b_len (by decide +kernel) (pa_cons (pe_fld (pv 0) rfl) pa_nil)) (pe_k T.k_MOST_HOLES) (nomark _)) (pa_cons (pe_k T.k_FULL) pa_nil))))
      (pss_cons (ps_fld (pv 0) (pe_op op_cat (pe_fld (pv 0) rfl) (pe_lst (pa_cons (pe_tup (pa_cons (pv 1) (pa_cons (pe_callTy call_tuple_of rfl T.b_tuple (by decide +kernel) (pa_cons (pe_lc (own := [("k", 2)])  rfl sc_make_hole.nd (pi_range1 rfl T.b_range (pa_cons (pv 1) pa_nil)) (blkOk_by (own := [("k", 2)]) (N := ["desk", "places", "k"]) (sc := defScope s_make_hole) (by decide +kernel)) (fun _ _ _ _ _ => (pg_name (i := 2) sc_make_hole.nd rfl (Or.inl rfl))) (fun _ _ _ _ _ => pts_nil) (fun _ _ _ _ _ => pe_bl)) pa_nil)) (pa_cons pe_non pa_nil)))) pa_nil))) rfl)
      (pss_one (ps_ret (pe_lst (pa_cons (pe_op op_sub (pe_callB call_len_seq rfl T.b_len (by decide +kernel) (pa_cons (pe_fld (pv 0) rfl) pa_nil)) pe_int) pa_nil))))))), ?_⟩
  have est : Pa01.step s (.hole m) = if 6 < m then (s, Pa01.ok (-1)) else if 24 ≤ s.holes.length then (s, Pa01.ok (-5)) else ({ s with holes := s.holes ++ [⟨m, List.range m, none⟩] }, Pa01.ok (s.holes.length : Nat)) := rfl
  rw [est] at S
  refine ⟨_, rfl, _, _, rfl, rfl, _, _, rfl, fun c => ?_, fun c => ?_⟩
  · have c' : (6 : Int) < (m : Int) := of_decide_eq_true c
    rw [if_pos (by omega)] at S
    exact S.refuse hD hs
  have c' : ¬ (6 : Int) < (m : Int) := of_decide_eq_false c
  rw [if_neg (by omega)] at S
  have hD0 := hD
  obtain ⟨lh, lw, lm, hdk, ⟨vh, hlh, hph⟩, hw, hmk⟩ := hD
  have hvl := hph.length
  refine ⟨_, rfl, dk, _, dx, _, _, rfl, hdk, T.dk.c, T.dk.n "holes" (by simp), dk_holes, lh, _, rfl, .inl (SqL.of hlh), rfl, _, _, rfl, fun c2 => ?_, fun c2 => ?_⟩
  · have c2' := litT c2
    rw [if_pos (by omega)] at S
    exact S.refuse hD0 hs
  have c2' : ¬ vh.length = 24 := by
    have z : V.int (vh.length : Nat) ≠ V.int 24 := of_decide_eq_false c2
    intro e
    exact z (by rw [e]; rfl)
  have hl := hs.w.h.len
  rw [if_neg (by omega)] at S
  refine ⟨_, rfl, dk, _, dx, _, _, rfl, hdk, T.dk.c, T.dk.n "holes" (by simp), dk_holes, _, rfl, _, rfl, (m : Int), rfl, by omega, by omega, fun D nD => ?_⟩
  refine lc_range (lo := 0) (n := m) (fun i H' => Same H H' ∧ H' D = some (.lst ((List.range i).map fun _ => V.bl true))) ⟨same_new nD _, upd_same⟩ ?_ ?_
  · rintro i H' hi ⟨sH, hD'⟩
    refine ⟨rfl, _, hD', ?_, same_upd nD sH, ?_⟩
    · rw [List.length_map, List.length_range]
      exact lt_line (by omega)
    · rw [upd_same, List.range_succ, List.map_append]
      rfl
  rintro H1 ⟨s1, hD1⟩
  refine ⟨D, _, rfl, .inl ⟨SqL.of hD1, fun pt npt => ⟨l3le _ _ _, fun p2 np2 => ⟨l1le _, fun p3 np3 => ?_⟩⟩⟩⟩
  have t1 := same_new npt (.tup ((List.range m).map fun _ => V.bl true))
  have t2 := same_new np2 (.tup [vn m, .ref pt, .non])
  have t3 := same_new np3 (.lst [V.ref p2])
  have s4 := s1.trans (t1.trans (t2.trans t3))
  refine ⟨lh, p3, vh, _, rfl, rfl, s4 _ _ hlh, upd_same, ?_, fun p4 np4 => ?_⟩
  · exact le_line (by show vh.length + 1 ≤ _; omega)
  have t4 := same_new np4 (.lst (vh ++ [V.ref p2]))
  have s5 := s4.trans t4
  refine ⟨_, rfl, dk, _, dx, _, rfl, s5 _ _ hdk, T.dk.c, T.dk.n "holes" (by simp), (by show 3 < 1000; decide), ?_⟩
  have hpt5 := (t2.trans (t3.trans t4)) pt _ upd_same
  have hp25 := (t3.trans t4) p2 _ upd_same
  have hp45 : upd (upd (upd (upd H1 pt (.tup ((List.range m).map fun _ => V.bl true))) p2 (.tup [vn m, .ref pt, .non])) p3 (.lst [V.ref p2])) p4 (.lst (vh ++ [V.ref p2])) p4 = some (.lst (vh ++ [V.ref p2])) := upd_same
  generalize upd (upd (upd (upd H1 pt _) p2 _) p3 _) p4 _ = H5 at *
  have k6 : Kp dk H5 (upd H5 dk (.ins a.dk dx (dkF p4 lw lm))) := kp_upd
  have sq6 := s5.sq.trans (k6.sq (s5 _ _ hdk))
  have sq56 := k6.sq (s5 _ _ hdk)
  have hD6 : DkAt a (upd H5 dk (.ins a.dk dx (dkF p4 lw lm))) dk dx { s with holes := s.holes ++ [⟨m, List.range m, none⟩] } := by
    refine ⟨p4, lw, lm, upd_same, ⟨_, sq56.l _ _ hp45, p2_append (p2_imp hph fun v x q => q.tps sq6.t) (p2_one ⟨p2, pt, .non, rfl, sq56.t _ _ hp25, ?_, rfl⟩)⟩, hw.sq sq6, hmk.sq sq6⟩
    have e : (seesL ⟨m, List.range m, none⟩).map V.bl = (List.range m).map fun _ => V.bl true := by
      unfold seesL
      rw [List.map_map]
      refine List.map_congr_left fun k hk => ?_
      show V.bl ((List.range m).contains k) = _
      rw [range_contains, decide_eq_true (by simpa using hk)]
    rw [e]
    exact sq56.t _ _ hpt5
  refine ⟨_, rfl, dk, _, dx, _, _, rfl, upd_same, T.dk.c, T.dk.n "holes" (by simp), dk_holes, p4, _, rfl, .inl (SqL.of (sq56.l _ _ hp45)), _, _, rfl, rfl, l1le _, fun r nr => ?_⟩
  have sr := same_new nr (.lst [V.int (((vh ++ [V.ref p2]).length : Int) - 1)])
  refine S.ok _ r ((s5.kp.trans k6).trans sr.kp) (hD6.same sr) ⟨(wok_more hs.w (by omega) (by omega)).mono (by omega), fun x hx => (hs.m x hx).mono (by omega), hs.k⟩ ?_
  rw [upd_same]
  show some (HO.lst [V.int (((vh ++ [V.ref p2]).length : Int) - 1)]) = some (HO.lst [V.int (s.holes.length : Nat)])
  rw [List.length_append, show (((vh.length + [V.ref p2].length : Nat) : Int) - 1) = ((s.holes.length : Nat) : Int) by show (((vh.length + 1 : Nat) : Int) - 1) = _; omega]
theorem lt_dec {i j : Nat} (c : ¬ decide ((j : Int) ≤ (i : Int)) = true) : i < j := by
  have : ¬ (j : Int) ≤ (i : Int) := fun z => c (decide_eq_true z)
  omega
theorem sc_look : FnScope ["desk", "number", "places", "sees", "term", "k"] ["desk", "number"] (defScope s_look) := ⟨rfl, rfl, rfl, by decide +kernel, rfl, by decide +kernel, by decide +kernel⟩
theorem ok_look (T : Txt K mg a) : Cal P W0 K mg base (L2.CX P W0) 62 "look" ["desk", "number"] (spD1 a Call.look) := by
  have c_refuse_where : Cal P W0 K mg base (L2.CX P W0) 3 "refuse_where" ["truth", "code"] (spRef a) := ok_refuse_where T
  have c_row_of : Cal P W0 K mg base CX0 60 "row_of" ["term"] (spRow 60) := ok_row_of T 60
  refine T.d_look.okX sc_look (fun vs H Q E h => ?_) (fun f cdv A outer sh0 H vs Q E hr h => ?_)
  · obtain ⟨dk, dx, s, B, n, rfl, _⟩ := h
    rfl
  obtain ⟨dk, dx, s, B, m, rfl, hD, hs, hB1, hB2, S⟩ := h
  have tkd : L2.Takes (cxOf (L2.CX P W0) P W0 K mg base ["desk", "number", "places", "sees", "term", "k"] "look" (defScope s_look) f cdv A outer sh0 H E) (fun cls d _ H => E cls d H) := L2.takes_of rfl rfl rfl rfl
  refine ⟨_, (pss_cons (ps_expr (pe_callC c_refuse_where (hr.mono (by omega)) rfl (passX tkd) (pa_cons (pe_cmpR op_ge (pv 1) (pe_callB call_len_seq rfl T.b_len (by decide +kernel) (pa_cons (pe_fld (pv 0) rfl) pa_nil)) (nomark _)) (pa_cons (pe_k T.k_NONE_SUCH) pa_nil))))
      (pss_cons (ps_asg (pe_ix ix_list (pe_fld (pv 0) rfl) (pv 1) (fun _ _ => rfl)) (pg_tup rfl (pgs_cons (pg_name (i := 2) sc_look.nd rfl (Or.inl rfl)) (pgs_cons (pg_name (i := 3) sc_look.nd rfl (Or.inr rfl)) (pgs_cons (pg_name (i := 4) sc_look.nd rfl (Or.inl rfl)) pgs_nil)))))
      (pss_cons (ps_if (pt_cmpR op_isN (pv 4) pe_non (nomark _)) (pss_one (ps_ret (pe_op op_cat (pe_lst (pa_cons pe_int pa_nil)) (pe_lc (own := [("k", 5)])  rfl sc_look.nd (pi_range1 rfl T.b_range (pa_cons (pv 2) pa_nil)) (blkOk_by (own := [("k", 5)]) (N := ["desk", "number", "places", "sees", "term", "k"]) (sc := defScope s_look) (by decide +kernel)) (fun _ _ _ _ _ => (pg_name (i := 5) sc_look.nd rfl (Or.inl rfl))) (fun _ _ _ _ _ => pts_one (pt_val (pe_ix (ix_tupK K) (pv 3) (pv 5) (fun _ _ => rfl)))) (fun _ _ _ _ _ => (pv 5)))))) pss_nil)
      (pss_one (ps_ret (pe_op op_cat (pe_lst (pa_cons pe_int pa_nil)) (pe_callC c_row_of (hr.mono (by omega)) rfl pass0 (pa_cons (pv 4) pa_nil)))))))), ?_⟩
  have est : Pa01.step s (.look m) = (s, match s.holes[m]? with
      | none => Pa01.ok (-2)
      | some x => match x.body with
        | none => ⟨0, x.seen⟩
        | some b => ⟨1, Pa01.told b⟩) := rfl
  rw [est] at S
  have hD0 := hD
  obtain ⟨lh, lw, lm, hdk, ⟨vh, hlh, hph⟩, hw, hmk⟩ := hD
  have hvl := hph.length
  refine ⟨_, rfl, _, rfl, dk, _, dx, _, _, rfl, hdk, T.dk.c, T.dk.n "holes" (by simp), dk_holes, lh, _, rfl, .inl (SqL.of hlh), _, _, rfl, rfl, _, _, rfl, fun c => ?_, fun c => ?_⟩
  · have c' : (vh.length : Int) ≤ (m : Int) := of_decide_eq_true c
    rw [List.getElem?_eq_none_iff.mpr (by omega : s.holes.length ≤ m)] at S
    exact S.refuse hD0 hs
  have c' := lt_dec (Bool.eq_false_iff.mp c)
  obtain ⟨x, ex⟩ : ∃ x, s.holes[m]? = some x := ⟨_, List.getElem?_eq_getElem (by omega)⟩
  rw [ex] at S
  have xm := List.mem_of_getElem? ex
  obtain ⟨hv, ehv, bh, sh, bv, rfl, g1, g2, g3⟩ := p2_at hph ex
  refine ⟨_, rfl, dk, _, dx, _, _, rfl, hdk, T.dk.c, T.dk.n "holes" (by simp), dk_holes, _, rfl, lh, vh, _, _, rfl, rfl, SqL.of hlh, atI_nat ehv, ?_⟩
  refine ⟨bh, _, rfl, SqT.of g1, rfl, _, _, rfl, _, _, rfl, _, _, rfl, rfl, ?_⟩
  have h6 := hs.w.h.sm x xm
  cases eb : x.body with
  | none =>
    rw [eb] at g3
    have g3' : bv = .non := g3
    subst g3'
    have S' : AnsP a (B + 2000) H dk dx (s, ⟨0, x.seen⟩) Q E := by
      have := S
      simp only [eb] at this
      exact this
    refine ⟨_, rfl, rfl, _, rfl, if_t rfl ?_⟩
    refine ⟨l1le _, fun p1 np1 => ⟨_, rfl, (x.many : Int), rfl, by omega, by omega, fun D nD => ?_⟩⟩
    have t1 := same_new np1 (.lst [V.int 0])
    refine lc_range (lo := 0) (n := x.many) (fun i H' => Same (upd H p1 (.lst [V.int 0])) H' ∧ H' D = some (.lst (vns ((List.range i).filter fun k => x.seen.contains k)))) ⟨same_new nD _, upd_same⟩ ?_ ?_
    · rintro i H' hi ⟨sH, hD'⟩
      rw [Int.zero_add]
      have hlf : ((List.range i).filter fun k => x.seen.contains k).length ≤ i := by
        have := List.length_filter_le (fun k => x.seen.contains k) (List.range i)
        rw [List.length_range] at this
        exact this
      refine ⟨rfl, _, rfl, _, rfl, sh, _, _, _, rfl, rfl, SqT.of (sH _ _ (t1 _ _ g2)), sees_at hi, _, rfl, ite2 (fun c2 => ?_) (fun c2 => ?_)⟩
      · refine ⟨_, rfl, _, hD', ?_, same_upd nD sH, ?_⟩
        · rw [List.length_map]
          exact lt_line (by omega)
        · rw [upd_same, List.range_succ, List.filter_append]
          show some (HO.lst (vns _ ++ [vn i])) = some (HO.lst ((_ ++ List.filter _ [i]).map vn))
          rw [List.map_append]
          have c2' : i ∈ x.seen := by simpa using c2
          simp [c2']
      · refine ⟨sH, ?_⟩
        rw [hD', List.range_succ, List.filter_append]
        have c2' : i ∉ x.seen := by simpa using c2
        simp [c2']
    rintro H1 ⟨s1, hD1⟩
    have e : ((List.range x.many).filter fun k => x.seen.contains k) = x.seen := (hs.w.h.sn x xm).symm
    rw [e] at hD1
    have hl : x.seen.length ≤ 6 := by
      rw [← e]
      have := List.length_filter_le (fun k => x.seen.contains k) (List.range x.many)
      rw [List.length_range] at this
      omega
    refine ⟨p1, D, _, _, rfl, rfl, s1 _ _ upd_same, hD1, ?_, fun r nr => ?_⟩
    · rw [List.length_map]
      exact le_line (by show 1 + x.seen.length ≤ _; omega)
    have sr := same_new nr (.lst ([V.int 0] ++ vns x.seen))
    have sA := t1.trans (s1.trans sr)
    refine S'.ok _ r sA.kp (hD0.same sA) (hs.mono (by omega)) ?_
    rw [upd_same, outL]
    rfl
  | some bt =>
    rw [eb] at g3
    have g3' : TermAt H bv bt := g3
    have S' : AnsP a (B + 2000) H dk dx (s, ⟨1, Pa01.told bt⟩) Q E := by
      have := S
      simp only [eb] at this
      exact this
    obtain ⟨ab, pb, vsb, rfl, _⟩ := g3'.open
    obtain ⟨z1, z2⟩ := hs.w.h.bsz x xm bt eb
    refine ⟨_, rfl, rfl, _, rfl, if_f rfl ?_⟩
    refine ⟨l1le _, fun p1 np1 => ?_⟩
    have t1 := same_new np1 (.lst [V.int 1])
    refine ⟨_, rfl, _, bt, rfl, g3'.tps t1.tps, z1, by omega, fun H1 r1 s1 hr1 => ?_⟩
    refine ⟨p1, r1, _, _, rfl, rfl, s1 _ _ upd_same, hr1, ?_, fun r nr => ?_⟩
    · have := told_len bt
      rw [List.length_map]
      exact le_line (by show 1 + (Pa01.told bt).length ≤ _; omega)
    have sr := same_new nr (.lst ([V.int 1] ++ vns (Pa01.told bt)))
    have sA := t1.trans (s1.trans sr)
    refine S'.ok _ r sA.kp (hD0.same sA) (hs.mono (by omega)) ?_
    rw [upd_same, outL]
    rfl
theorem sc_wait : FnScope ["desk", "number", "places", "one", "other"] ["desk", "number"] (defScope s_wait) := ⟨rfl, rfl, rfl, by decide +kernel, rfl, by decide +kernel, by decide +kernel⟩
theorem ok_wait (T : Txt K mg a) : Cal P W0 K mg base (L2.CX P W0) 62 "wait" ["desk", "number"] (spD1 a Call.wait) := by
  have c_refuse_where : Cal P W0 K mg base (L2.CX P W0) 3 "refuse_where" ["truth", "code"] (spRef a) := ok_refuse_where T
  have c_row_of : Cal P W0 K mg base CX0 60 "row_of" ["term"] (spRow 60) := ok_row_of T 60
  refine T.d_wait.okX sc_wait (fun vs H Q E h => ?_) (fun f cdv A outer sh0 H vs Q E hr h => ?_)
  · obtain ⟨dk, dx, s, B, n, rfl, _⟩ := h
    rfl
  obtain ⟨dk, dx, s, B, m, rfl, hD, hs, hB1, hB2, S⟩ := h
  have tkd : L2.Takes (cxOf (L2.CX P W0) P W0 K mg base ["desk", "number", "places", "one", "other"] "wait" (defScope s_wait) f cdv A outer sh0 H E) (fun cls d _ H => E cls d H) := L2.takes_of rfl rfl rfl rfl
  refine ⟨_, (pss_cons (ps_expr (pe_callC c_refuse_where (hr.mono (by omega)) rfl (passX tkd) (pa_cons (pe_cmpR op_ge (pv 1) (pe_callB call_len_seq rfl T.b_len (by decide +kernel) (pa_cons (pe_fld (pv 0) rfl) pa_nil)) (nomark _)) (pa_cons (pe_k T.k_NONE_SUCH) pa_nil))))
      (pss_cons (ps_asg (pe_ix ix_list (pe_fld (pv 0) rfl) (pv 1) (fun _ _ => rfl)) (pg_tup rfl (pgs_cons (pg_name (i := 2) sc_wait.nd rfl (Or.inl rfl)) (pgs_cons (pg_name (i := 3) sc_wait.nd rfl (Or.inl rfl)) (pgs_cons (pg_name (i := 4) sc_wait.nd rfl (Or.inl rfl)) pgs_nil)))))
      (pss_one (ps_ret (pe_op op_cat (pe_op op_cat (pe_lst (pa_cons (pv 2) pa_nil)) (pe_callC c_row_of (hr.mono (by omega)) rfl pass0 (pa_cons (pv 3) pa_nil))) (pe_callC c_row_of (hr.mono (by omega)) rfl pass0 (pa_cons (pv 4) pa_nil))))))), ?_⟩
  have est : Pa01.step s (.wait m) = (s, match s.waits[m]? with
      | none => Pa01.ok (-2)
      | some e => ⟨(e.n : Nat), Pa01.told e.s ++ Pa01.told e.t⟩) := rfl
  rw [est] at S
  have hD0 := hD
  obtain ⟨lh, lw, lm, hdk, hh, ⟨vw, hlw, hpw⟩, hmk⟩ := hD
  have hvl := hpw.length
  refine ⟨_, rfl, _, rfl, dk, _, dx, _, _, rfl, hdk, T.dk.c, T.dk.n "waits" (by simp), dk_waits, lw, _, rfl, .inl (SqL.of hlw), _, _, rfl, rfl, _, _, rfl, fun c => ?_, fun c => ?_⟩
  · have c' : (vw.length : Int) ≤ (m : Int) := of_decide_eq_true c
    rw [List.getElem?_eq_none_iff.mpr (by omega : s.waits.length ≤ m)] at S
    exact S.refuse hD0 hs
  have c' := lt_dec (Bool.eq_false_iff.mp c)
  obtain ⟨e, ee⟩ : ∃ x, s.waits[m]? = some x := ⟨_, List.getElem?_eq_getElem (by omega)⟩
  rw [ee] at S
  have S' : AnsP a (B + 2000) H dk dx (s, ⟨(e.n : Nat), Pa01.told e.s ++ Pa01.told e.t⟩) Q E := S
  have em := List.mem_of_getElem? ee
  have qe := hs.w.eqs e em
  have sz := tot_mem em
  have tt := hs.w.tot
  obtain ⟨hv, ehv, ae, v1, v2, rfl, hae, at1, at2⟩ := p2_at hpw ee
  refine ⟨_, rfl, dk, _, dx, _, _, rfl, hdk, T.dk.c, T.dk.n "waits" (by simp), dk_waits, _, rfl, lw, vw, _, _, rfl, rfl, SqL.of hlw, atI_nat ehv, ?_⟩
  refine ⟨ae, _, rfl, SqT.of hae, rfl, _, _, rfl, _, _, rfl, _, _, rfl, rfl, ?_⟩
  refine ⟨_, rfl, l1le _, fun p1 np1 => ?_⟩
  have t1 := same_new np1 (.lst [vn e.n])
  have l1 := told_len e.s
  have l2 := told_len e.t
  refine ⟨_, rfl, v1, e.s, rfl, at1.tps t1.tps, qe.ds, by omega, fun H1 r1 s1 hr1 => ?_⟩
  refine ⟨p1, r1, _, _, rfl, rfl, s1 _ _ upd_same, hr1, ?_, fun p2 np2 => ?_⟩
  · rw [List.length_map]
    exact le_line (by show 1 + (Pa01.told e.s).length ≤ _; omega)
  have t2 := same_new np2 (.lst ([vn e.n] ++ vns (Pa01.told e.s)))
  have sB := t1.trans (s1.trans t2)
  refine ⟨_, rfl, v2, e.t, rfl, at2.tps sB.tps, qe.dt, by omega, fun H2 r2 s2 hr2 => ?_⟩
  refine ⟨p2, r2, _, _, rfl, rfl, s2 _ _ upd_same, hr2, ?_, fun r nr => ?_⟩
  · rw [List.length_append, List.length_map, List.length_map]
    exact le_line (by show 1 + (Pa01.told e.s).length + (Pa01.told e.t).length ≤ _; omega)
  have sr := same_new nr (.lst ([vn e.n] ++ vns (Pa01.told e.s) ++ vns (Pa01.told e.t)))
  have sA := sB.trans (s2.trans sr)
  refine S'.ok _ r sA.kp (hD0.same sA) (hs.mono (by omega)) ?_
  rw [upd_same, outL]
  show some (HO.lst (V.int (e.n : Nat) :: (vns (Pa01.told e.s) ++ vns (Pa01.told e.t)))) = _
  rw [← List.map_append]
theorem sc_mark : FnScope ["desk"] ["desk"] (defScope s_mark) := ⟨rfl, rfl, rfl, by decide +kernel, rfl, by decide +kernel, by decide +kernel⟩
theorem ok_mark (T : Txt K mg a) : Cal P W0 K mg base (L2.CX P W0) 4 "mark" ["desk"] (spD0 a Call.mark) := by
  have c_refuse_where : Cal P W0 K mg base (L2.CX P W0) 3 "refuse_where" ["truth", "code"] (spRef a) := ok_refuse_where T
  refine T.d_mark.okX sc_mark (fun vs H Q E h => ?_) (fun f cdv A outer sh0 H vs Q E hr h => ?_)
  · obtain ⟨dk, dx, s, B, rfl, _⟩ := h
    rfl
  obtain ⟨dk, dx, s, B, rfl, hD, hs, hB1, hB2, S⟩ := h
  have tkd : L2.Takes (cxOf (L2.CX P W0) P W0 K mg base ["desk"] "mark" (defScope s_mark) f cdv A outer sh0 H E) (fun cls d _ H => E cls d H) := L2.takes_of rfl rfl rfl rfl
  refine ⟨_, (pss_cons (ps_expr (pe_callC c_refuse_where (hr.mono (by omega)) rfl (passX tkd) (pa_cons (pe_cmpR op_eq (pe_callB call_len_seq rfl T.b_len (by decide +kernel) (pa_cons (pe_fld (pv 0) rfl) pa_nil)) (pe_k T.k_MOST_MARKS) (nomark _)) (pa_cons (pe_k T.k_FULL) pa_nil))))
      (pss_cons (ps_fld (pv 0) (pe_op op_cat (pe_fld (pv 0) rfl) (pe_lst (pa_cons (pe_tup (pa_cons (pe_fld (pv 0) rfl) (pa_cons (pe_fld (pv 0) rfl) pa_nil))) pa_nil))) rfl)
      (pss_one (ps_ret (pe_lst (pa_cons (pe_callB call_len_seq rfl T.b_len (by decide +kernel) (pa_cons (pe_fld (pv 0) rfl) pa_nil)) pa_nil)))))), ?_⟩
  have est : Pa01.step s .mark = if 16 ≤ s.marks.length then (s, Pa01.ok (-5)) else ({ s with marks := (s.holes, s.waits) :: s.marks }, Pa01.ok (s.marks.length + 1 : Nat)) := rfl
  rw [est] at S
  have hD0 := hD
  obtain ⟨lh, lw, lm, hdk, hh, hw, ⟨vm, hlm, hpm⟩⟩ := hD
  have hvl := hpm.length
  rw [List.length_reverse] at hvl
  have hk := hs.k
  refine ⟨_, rfl, dk, _, dx, _, _, rfl, hdk, T.dk.c, T.dk.n "marks" (by simp), dk_marks, lm, _, rfl, .inl (SqL.of hlm), rfl, _, _, rfl, fun c2 => ?_, fun c2 => ?_⟩
  · have c2' := litT c2
    rw [if_pos (by omega)] at S
    exact S.refuse hD0 hs
  have c2' : ¬ vm.length = 16 := by
    have z : V.int (vm.length : Nat) ≠ V.int 16 := of_decide_eq_false c2
    intro e
    exact z (by rw [e]; rfl)
  rw [if_neg (by omega)] at S
  refine ⟨_, rfl, dk, _, dx, _, _, rfl, hdk, T.dk.c, T.dk.n "marks" (by simp), dk_marks, _, rfl, dk, _, dx, _, _, rfl, hdk, T.dk.c, T.dk.n "holes" (by simp), dk_holes, _, rfl, dk, _, dx, _, _, rfl, hdk, T.dk.c, T.dk.n "waits" (by simp), dk_waits, l2le _ _, fun p2 np2 => ⟨l1le _, fun p3 np3 => ?_⟩⟩
  have t2 := same_new np2 (.tup [.ref lh, .ref lw])
  have t3 := same_new np3 (.lst [V.ref p2])
  refine ⟨lm, p3, vm, _, rfl, rfl, (t2.trans t3) _ _ hlm, upd_same, ?_, fun p4 np4 => ?_⟩
  · exact le_line (by show vm.length + 1 ≤ _; omega)
  have t4 := same_new np4 (.lst (vm ++ [V.ref p2]))
  have s5 := t2.trans (t3.trans t4)
  refine ⟨_, rfl, dk, _, dx, _, rfl, s5 _ _ hdk, T.dk.c, T.dk.n "marks" (by simp), (by show 3 < 1000; decide), ?_⟩
  have hp25 := (t3.trans t4) p2 _ upd_same
  have hp45 : upd (upd (upd H p2 (.tup [.ref lh, .ref lw])) p3 (.lst [V.ref p2])) p4 (.lst (vm ++ [V.ref p2])) p4 = some (.lst (vm ++ [V.ref p2])) := upd_same
  generalize upd (upd (upd H p2 _) p3 _) p4 _ = H5 at *
  have k6 : Kp dk H5 (upd H5 dk (.ins a.dk dx (dkF lh lw p4))) := kp_upd
  have sq6 := s5.sq.trans (k6.sq (s5 _ _ hdk))
  have sq56 := k6.sq (s5 _ _ hdk)
  have hD6 : DkAt a (upd H5 dk (.ins a.dk dx (dkF lh lw p4))) dk dx { s with marks := (s.holes, s.waits) :: s.marks } := by
    refine ⟨lh, lw, p4, upd_same, hh.sq sq6, hw.sq sq6, ⟨_, sq56.l _ _ hp45, ?_⟩⟩
    show Paired _ _ (List.reverse ((s.holes, s.waits) :: s.marks))
    rw [List.reverse_cons]
    exact p2_append (p2_imp hpm fun v x q => q.sq sq6) (p2_one ⟨p2, lh, lw, rfl, sq56.t _ _ hp25, hh.sq sq6, hw.sq sq6⟩)
  refine ⟨_, rfl, dk, _, dx, _, _, rfl, upd_same, T.dk.c, T.dk.n "marks" (by simp), dk_marks, p4, _, rfl, .inl (SqL.of (sq56.l _ _ hp45)), l1le _, fun r nr => ?_⟩
  have sr := same_new nr (.lst [V.int ((vm ++ [V.ref p2]).length : Int)])
  refine S.ok _ r ((s5.kp.trans k6).trans sr.kp) (hD6.same sr) ⟨hs.w.mono (by omega), fun x hx => ?_, ?_⟩ ?_
  · rcases List.mem_cons.mp hx with rfl | hx
    · exact hs.w.mono (by omega)
    · exact (hs.m x hx).mono (by omega)
  · show s.marks.length + 1 ≤ 16
    omega
  · rw [upd_same]
    show some (HO.lst [V.int ((vm ++ [V.ref p2]).length : Nat)]) = some (HO.lst [V.int (s.marks.length + 1 : Nat)])
    rw [List.length_append, hvl]
    rfl
theorem sc_back : FnScope ["desk"] ["desk"] (defScope s_back) := ⟨rfl, rfl, rfl, by decide +kernel, rfl, by decide +kernel, by decide +kernel⟩
theorem ok_back (T : Txt K mg a) : Cal P W0 K mg base (L2.CX P W0) 4 "back" ["desk"] (spD0 a Call.back) := by
  have c_refuse_where : Cal P W0 K mg base (L2.CX P W0) 3 "refuse_where" ["truth", "code"] (spRef a) := ok_refuse_where T
  refine T.d_back.okX sc_back (fun vs H Q E h => ?_) (fun f cdv A outer sh0 H vs Q E hr h => ?_)
  · obtain ⟨dk, dx, s, B, rfl, _⟩ := h
    rfl
  obtain ⟨dk, dx, s, B, rfl, hD, hs, hB1, hB2, S⟩ := h
  have tkd : L2.Takes (cxOf (L2.CX P W0) P W0 K mg base ["desk"] "back" (defScope s_back) f cdv A outer sh0 H E) (fun cls d _ H => E cls d H) := L2.takes_of rfl rfl rfl rfl
  refine ⟨_, (pss_cons (ps_expr (pe_callC c_refuse_where (hr.mono (by omega)) rfl (passX tkd) (pa_cons (pe_cmpR (op_eqNil (u0 hr)) (pe_fld (pv 0) rfl) (pe_lst pa_nil) (nomark _)) (pa_cons (pe_k T.k_NO_MARK) pa_nil))))
      (pss_cons (ps_asg (pe_ix ix_list (pe_fld (pv 0) rfl) (pe_un un_neg pe_int) (fun _ _ => rfl)) (pg_tup rfl (pgs_cons (pg_fld (pv 0)) (pgs_cons (pg_fld (pv 0)) pgs_nil))))
      (pss_cons (ps_fld (pv 0) (pe_slice sl_list (pe_fld (pv 0) rfl) po_none (po_some (pe_un un_neg pe_int))) rfl)
      (pss_one (ps_ret (pe_lst (pa_cons (pe_callB call_len_seq rfl T.b_len (by decide +kernel) (pa_cons (pe_fld (pv 0) rfl) pa_nil)) pa_nil))))))), ?_⟩
  have hD0 := hD
  obtain ⟨lh, lw, lm, hdk, hh, hw, ⟨vm, hlm, hpm⟩⟩ := hD
  refine ⟨_, rfl, dk, _, dx, _, _, rfl, hdk, T.dk.c, T.dk.n "marks" (by simp), dk_marks, le_line (by simp), fun p1 np1 => ⟨lm, p1, vm, rfl, rfl, SqL.of (same_new np1 _ _ _ hlm), SqL.of upd_same, ?_⟩⟩
  have t1 := same_new np1 (.lst [])
  refine ⟨_, _, rfl, fun c => ?_, fun c => ?_⟩
  · have em : s.marks = [] := by
      have : vm.isEmpty = true := c
      have e : vm = [] := by simpa using this
      rw [e] at hpm
      have := hpm.length
      rw [List.length_reverse] at this
      exact List.length_eq_zero_iff.mp this.symm
    have est : Pa01.step s .back = (s, Pa01.ok (-4)) := by
      simp only [Pa01.step, em]
    rw [est] at S
    exact (S.kp t1.kp).refuse (hD0.same t1) hs
  obtain ⟨m, l, em⟩ : ∃ m l, s.marks = m :: l := by
    cases e : s.marks with
    | nil =>
      rw [e] at hpm
      cases hpm
      cases c
    | cons m l => exact ⟨m, l, rfl⟩
  have est : Pa01.step s .back = (⟨m.1, m.2, l⟩, Pa01.ok (l.length : Nat)) := by
    simp only [Pa01.step, em]
  rw [est] at S
  rw [em, List.reverse_cons] at hpm
  obtain ⟨vm0, vv, rfl, hpm0, bm, lh2, lw2, rfl, hbm, hh2, hw2⟩ := p2_snoc hpm
  refine ⟨_, rfl, dk, _, dx, _, _, rfl, t1 _ _ hdk, T.dk.c, T.dk.n "marks" (by simp), dk_marks, _, rfl, lm, _, _, _, rfl, rfl, SqL.of (t1 _ _ hlm), L2.atI_last _ _, ?_⟩
  refine ⟨bm, _, rfl, SqT.of (t1 _ _ hbm), rfl, _, _, rfl, _, rfl, dk, _, dx, _, rfl, t1 _ _ hdk, T.dk.c, T.dk.n "holes" (by simp), (by show 3 < 1000; decide), _, _, rfl, _, rfl, dk, _, dx, _, rfl, upd_same, T.dk.c, T.dk.n "waits" (by simp), (by show 3 < 1000; decide), rfl, ?_⟩
  have k2 : ∀ {o1 o2 : HO}, Kp dk H (upd (upd (upd H p1 (.lst [])) dk o1) dk o2) := fun {o1 o2} => t1.kp.trans (kp_upd.trans kp_upd)
  have hlm2 : ∀ {o1 o2 : HO}, (upd (upd (upd H p1 (.lst [])) dk o1) dk o2) lm = some (.lst (vm0 ++ [V.ref bm])) := fun {o1 o2} => (k2.sq hdk).l _ _ hlm
  refine ⟨_, rfl, dk, _, dx, _, _, rfl, upd_same, T.dk.c, T.dk.n "marks" (by simp), dk_marks, _, rfl, _, rfl, lm, _, rfl, SqL.of hlm2, fun p3 np3 => ?_⟩
  rw [cut_init]
  have t3 := same_new np3 (.lst vm0)
  refine ⟨_, rfl, dk, _, dx, _, rfl, t3 _ _ upd_same, T.dk.c, T.dk.n "marks" (by simp), (by show 3 < 1000; decide), ?_⟩
  have hd3 : p3 ≠ dk := fun z => by rw [z, upd_same] at np3; cases np3
  have k4 := k2.trans (t3.kp.trans (kp_upd (o := .ins a.dk dx (dkF lh2 lw2 p3))))
  have sq4 := k4.sq hdk
  have hp3 : upd (upd (upd (upd (upd H p1 (.lst [])) dk (.ins a.dk dx (dkF lh2 lw lm))) dk (.ins a.dk dx (dkF lh2 lw2 lm))) p3 (.lst vm0)) dk (.ins a.dk dx (dkF lh2 lw2 p3)) p3 = some (.lst vm0) := by rw [upd_ne hd3, upd_same]
  refine ⟨_, rfl, dk, _, dx, _, _, rfl, upd_same, T.dk.c, T.dk.n "marks" (by simp), dk_marks, p3, _, rfl, .inl (SqL.of hp3), l1le _, fun r nr => ?_⟩
  have sr := same_new nr (.lst [V.int (vm0.length : Int)])
  refine S.ok _ r (k4.trans sr.kp) (DkAt.same ⟨lh2, lw2, p3, upd_same, hh2.sq sq4, hw2.sq sq4, ⟨_, hp3, p2_imp hpm0 fun v x q => q.sq sq4⟩⟩ sr) ⟨?_, fun x hx => ?_, ?_⟩ ?_
  · exact (hs.m m (by rw [em]; exact List.mem_cons_self)).mono (by omega)
  · exact (hs.m x (by rw [em]; exact List.mem_cons_of_mem _ hx)).mono (by omega)
  · have := hs.k
    rw [em, List.length_cons] at this
    show l.length ≤ 16
    omega
  · rw [upd_same, hpm0.length, List.length_reverse]
    rfl
end
end HH
namespace HH
open Pa01
theorem rp_two {F : List Nat → Option (Term × List Nat)} {r : List Nat} : readParts F (fun _ => false) 2 0 r = match F r with
    | none => none
    | some x => match F x.2 with
      | none => none
      | some y => some ([x.1, y.1], y.2) := by
  have one : ∀ j r, one1 F (fun _ => false) j r = F r := fun j r => by unfold one1; exact if_neg (by simp)
  cases e : F r with
  | none => exact rp_none (k := 1) (by rw [one]; exact e)
  | some x =>
    obtain ⟨x1, x2⟩ := x
    rw [rp_some (k := 1) (t := x1) (rest := x2) (by rw [one]; exact e)]
    show Option.map _ (readParts F _ 1 1 x2) = match F x2 with
      | none => none
      | some y => some ([x1, y.1], y.2)
    cases e2 : F x2 with
    | none =>
      rw [rp_none (k := 0) (by rw [one]; exact e2)]
      rfl
    | some y =>
      obtain ⟨y1, y2⟩ := y
      rw [rp_some (k := 0) (t := y1) (rest := y2) (by rw [one]; exact e2)]
      rfl
theorem readOne_many (hs : List Hole) (n : Nat) (r : List Nat) : readMany hs n 1 r = (readOne hs n r).map fun t => [t] := by
  unfold readMany readOne
  by_cases h : 12 < n
  · rw [if_pos h]
    show none = Option.map _ (if 12 < n then none else _)
    rw [if_pos h]
    rfl
  · rw [if_neg h]
    show _ = Option.map _ (if 12 < n then none else _)
    rw [if_neg h, rp_1]
    show _ = Option.map _ (match Pa01.read hs 30 n r with
      | some (t, []) => some t
      | _ => none)
    cases Pa01.read hs 30 n r with
    | none => rfl
    | some x =>
      obtain ⟨t, q⟩ := x
      cases q <;> rfl
theorem readTwo_many (hs : List Hole) (n : Nat) (r : List Nat) : readMany hs n 2 r = (readTwo hs n r).map fun x => [x.1, x.2] := by
  unfold readMany readTwo readOne
  by_cases h : 12 < n
  · rw [if_pos h]
    show none = Option.map _ (if 12 < n then none else _)
    rw [if_pos h]
    rfl
  · rw [if_neg h]
    show _ = Option.map _ (if 12 < n then none else match Pa01.read hs 30 n r with
      | some (s, q) => (if 12 < n then none else match Pa01.read hs 30 n q with
        | some (t, []) => some t
        | _ => none).map fun t => (s, t)
      | none => none)
    rw [if_neg h, rp_two]
    cases Pa01.read hs 30 n r with
    | none => rfl
    | some x =>
      obtain ⟨s, q⟩ := x
      show _ = Option.map _ (Option.map _ (if 12 < n then none else match Pa01.read hs 30 n q with
        | some (t, []) => some t
        | _ => none))
      rw [if_neg h]
      cases e2 : Pa01.read hs 30 n q with
      | none => simp [e2]
      | some y =>
        obtain ⟨t, q2⟩ := y
        cases q2 <;> simp [e2]
theorem readMany_fit {hs : List Hole} {n k : Nat} {r : List Nat} {ts : List Term} (h : readMany hs n k r = some ts) : n ≤ 12 ∧ ts.length = k ∧ ∀ t ∈ ts, Fit (mans hs) n t := by
  unfold readMany at h
  by_cases hn : 12 < n
  · rw [if_pos hn] at h; cases h
  rw [if_neg hn] at h
  cases e : readParts (Pa01.read hs 30 n) (fun _ => false) k 0 r with
  | none => rw [e] at h; cases h
  | some x =>
    obtain ⟨x1, x2⟩ := x
    rw [e] at h
    cases x2 with
    | cons a l => cases h
    | nil =>
      cases h
      obtain ⟨h1, h2⟩ := readParts_fit (ms := mans hs) (n := n) (fun r t r' => read_fit 30 n r t r') k 0 r ts [] e
      exact ⟨by omega, h1, fits_iff.mp h2⟩
theorem eq_tok {B : Nat} {hs : List Hole} {w : List Eqn} {e : Eqn} (k : WOk B hs w) (hB : B ≤ 900000) (hn : e.n ≤ 12) (fs : Fit (mans hs) e.n e.s) (ft : Fit (mans hs) e.n e.t) : TOk hs (w ++ [e]) := by
  refine ⟨k.h.bod, k.h.sm, fun x hx t ht => ok2_all k.h.bcl t, k.h.len, fun g hg => ?_, by have := k.cnt; rw [List.length_append]; show w.length + 1 ≤ 10000; omega⟩
  rcases List.mem_append.mp hg with hg | hg
  · have q := k.eqs g hg
    exact ⟨Nat.le_trans q.n hB, q.fs, q.ft, ok2_cl _ q.cs, ok2_cl _ q.ct⟩
  · have : g = e := by simpa using hg
    rw [this]
    exact ⟨by omega, fs, ft, ok2_all k.h.bcl _, ok2_all k.h.bcl _⟩
theorem out_some {hs : List Hole} {l us : List Term} (h : out hs l = some us) : us = l.map (full hs) ∧ sizes us ≤ 2000 ∧ deeps us ≤ 60 ∧ ∃ m, pays 1 (l.map (full hs)) 2000 = some m := by
  rw [out_pays] at h
  cases e : pays 1 (l.map (full hs)) 2000 with
  | none => rw [e] at h; cases h
  | some m =>
    rw [e] at h
    cases h
    refine ⟨rfl, ?_, ?_, m, rfl⟩ <;>
    · rw [pays_is _ _ _ (by omega)] at e
      split at e
      · omega
      · cases e
end HH
namespace HH
open PySem PySem.Spec PyProof.Rows L2 L2Y
open Pa01 (Term Hole Eqn Out State Call)
theorem pi_listK {X : Cx} (K : PySem.W.Frag) {tg e : Expr} {te : TE} (h : PE X e te) (hK : X.K = K := by rfl) : PI X tg e (iList K te) := hK ▸ pi_list h
section
variable {P : Program} {W0 : World} {K : PySem.W.Frag} {mg : Str → Option Value} {base : Heap} {a : Ad}
def spTerms (a : Ad) : Sp := fun vs H Q E => ∃ (dk dx ln : Addr) (s : State) (ns : List Nat) (n k : Nat), vs = [.ref dk, .ref ln, vn n, vn k] ∧ DkAt a H dk dx s ∧ H ln = some (.lst (vns ns)) ∧ Sm s.holes ∧ k ≤ 8 ∧
  (readMany s.holes n k ns = none → ∀ H' d, Same H H' → RefAt H' d [-1] → E (.ref a.rf) (some d) H') ∧ (∀ ts, readMany s.holes n k ns = some ts → ∀ H' r us, Same H H' → H' r = some (.lst us) → TermsAt H' us ts → Q (.ref r) H')
theorem sc_terms_of : FnScope ["desk", "numbers", "places", "many"] ["desk", "numbers", "places", "many"] (defScope s_terms_of) := ⟨rfl, rfl, rfl, by decide +kernel, rfl, by decide +kernel, by decide +kernel⟩
theorem ok_terms_of (T : Txt K mg a) : Cal P W0 K mg base (L2.CX P W0) 95 "terms_of" ["desk", "numbers", "places", "many"] (spTerms a) := by
  have c_read_terms : Cal P W0 K mg base (L2N.CX P W0) 94 "read_terms" ["numbers", "holes", "places", "many"] (spRTs a) := ok_read_terms T
  refine T.d_terms_of.okX sc_terms_of (fun vs H Q E h => ?_) (fun f cdv A outer sh0 H vs Q E hr h => ?_)
  · obtain ⟨dk, dx, ln, s, ns, n, k, rfl, _⟩ := h
    rfl
  obtain ⟨dk, dx, ln, s, ns, n, k, rfl, hD, hn, hsm, hk, qE, q⟩ := h
  have tkd : L2.Takes (cxOf (L2.CX P W0) P W0 K mg base ["desk", "numbers", "places", "many"] "terms_of" (defScope s_terms_of) f cdv A outer sh0 H E) (fun cls d _ H => E cls d H) := L2.takes_of rfl rfl rfl rfl
  refine ⟨_, pss_one (L2H.ps_try_onlyX rfl rfl (c := .ref a.nr) ⟨rfl, by decide, .inl T.nr.g⟩ (L2H.passesAt_of rfl) tkd
    (fun W pn xe tk tk2 po => pss_one (ps_ret (pe_callSC c_read_terms (hr.mono (by omega)) rfl (fun σ => L2N.passAt tk σ) (by exact (pa_cons (pv 1) (pa_cons (pe_fldK K (pv 0) rfl) (pa_cons (pv 2) (pa_cons (pv 3) pa_nil))))))))
    (fun ad oe cls d pn hz hf tkS hot => pss_one (ps_refuseH T.rf (ok_Refused T) hot tkS (L2H.roomH_mark (hr.mono (by omega)) _) rfl (pa_cons (pe_lst (pa_cons (pe_k T.k_NOT_RIGHT) pa_nil)) pa_nil)))), ?_⟩
  obtain ⟨lh, lw, lm, hdk, hh, hw, hmk⟩ := hD
  refine ⟨_, rfl, _, rfl, dk, _, dx, _, _, rfl, hdk, T.dk.c, T.dk.n "holes" (by simp), dk_holes, _, rfl, _, rfl, ln, lh, ns, s.holes, n, k, rfl, hn, hh, hsm, hk, fun z H' s' => ?_, q⟩
  refine ⟨true, T.nr.e, fun _ ad na => ?_, fun z => absurd z (by decide)⟩
  exact ⟨l1le _, fun r nr => rf_made (l := [-1]) upd_same fun H2 d s2 h2 => qE z H2 d (s'.trans ((same_new nr _).trans s2)) h2⟩
def spWR (a : Ad) : Sp := fun vs H Q E => ∃ (lh lt : Addr) (hs : List Hole) (us : List V) (ts : List Term) (n : Nat), vs = [.ref lh, vn n, .ref lt] ∧ HolesL H lh hs ∧ H lt = some (.lst us) ∧ TermsAt H us ts ∧ Bodies hs ∧ Sm hs ∧ (∀ t ∈ ts, Fit (mans hs) n t ∧ Ok2 hs t) ∧ n ≤ 900000 ∧ ts.length ≤ 8 ∧
  (Pa01.out hs ts = none → ∀ H' d, Same H H' → RefAt H' d [-8] → E (.ref a.rf) (some d) H') ∧ (∀ ws, Pa01.out hs ts = some ws → ∀ H' r us', Same H H' → H' r = some (.lst us') → TermsAt H' us' ws → Q (.ref r) H')
theorem sc_written_or_refused : FnScope ["holes", "places", "terms", "budget", "term"] ["holes", "places", "terms"] (defScope s_written_or_refused) := ⟨rfl, rfl, rfl, by decide +kernel, rfl, by decide +kernel, by decide +kernel⟩
theorem ok_written_or_refused (T : Txt K mg a) : Cal P W0 K mg base (L2.CX P W0) 125 "written_or_refused" ["holes", "places", "terms"] (spWR a) := by
  have c_written : Cal P W0 K mg base (L2N.CX P W0) 124 "written" ["holes", "budget", "term", "places"] (spW a) := ok_written T
  have c_Budget : Mak P W0 K mg base 1 "Budget" a.bg ["self"] (spBgI a) := ok_Budget T
  refine T.d_written_or_refused.okX sc_written_or_refused (fun vs H Q E h => ?_) (fun f cdv A outer sh0 H vs Q E hr h => ?_)
  · obtain ⟨lh, lt, hs, us, ts, n, rfl, _⟩ := h
    rfl
  obtain ⟨lh, lt, hs, us, ts, n, rfl, hh, hlt, hT, hbod, hsm, hfo, hn, hl8, qE, q⟩ := h
  have tkd : L2.Takes (cxOf (L2.CX P W0) P W0 K mg base ["holes", "places", "terms", "budget", "term"] "written_or_refused" (defScope s_written_or_refused) f cdv A outer sh0 H E) (fun cls d _ H => E cls d H) := L2.takes_of rfl rfl rfl rfl
  refine ⟨_, (pss_cons (ps_set (i := 3) sc_written_or_refused.nd rfl (Or.inr rfl) (pe_makeC0 c_Budget (hr.mono (by omega)) rfl))
      (pss_one (L2H.ps_try_onlyX rfl rfl (c := .ref a.tl) ⟨rfl, by decide, .inl T.tl.g⟩ (L2H.passesAt_of rfl) tkd
        (fun W pn xe tk tk2 po => pss_one (ps_ret (pe_lcX (E := fun σ cls d H => W cls d σ H) (own := [("term", 4)]) rfl rfl tk (fun _ _ _ _ h => h) rfl sc_written_or_refused.nd (by exact (pi_listK K (pv 2))) (blkOk_by (own := [("term", 4)]) (N := ["holes", "places", "terms", "budget", "term"]) (sc := defScope s_written_or_refused) (by decide +kernel)) (fun _ _ _ _ _ => (pg_name (i := 4) sc_written_or_refused.nd rfl (Or.inl rfl))) (fun _ _ _ _ _ => pts_nil)
          (fun _ _ _ _ _ _ => (by exact (pe_callC c_written (hr.mono (by omega)) rfl passB (pa_cons (pv 0) (pa_cons (pv 3) (pa_cons (pv 4) (pa_cons (pv 1) pa_nil))))))))))
        (fun ad oe cls d pn hz hf tkS hot => pss_one (ps_refuseH T.rf (ok_Refused T) hot tkS (L2H.roomH_mark (hr.mono (by omega)) _) rfl (pa_cons (pe_lst (pa_cons (pe_k T.k_TOO_LARGE) pa_nil)) pa_nil)))))), ?_⟩
  rw [out_pays] at qE q
  refine fun b dxb nb ndb hne => ⟨b, dxb, rfl, upd_same, rfl, ?_⟩
  have k1 : Kp b H (upd (upd (upd H dxb (.own b)) b (.ins a.bg dxb [])) b (.ins a.bg dxb [("left", vn 2000)])) := (same_new ndb _).kp.trans (kp_upd.trans kp_upd)
  have s1 := k1.back nb
  have hb1 : BgAt a.bg (upd (upd (upd H dxb (.own b)) b (.ins a.bg dxb [])) b (.ins a.bg dxb [("left", vn 2000)])) b dxb 2000 := upd_same
  generalize upd (upd (upd H dxb (.own b)) b (.ins a.bg dxb [])) b (.ins a.bg dxb [("left", vn 2000)]) = H1 at *
  refine ⟨_, rfl, lt, rfl, ⟨_, SqL.of (s1 _ _ hlt)⟩, fun D nD => ?_⟩
  have s0 := same_new nD (.lst [])
  have hDb : D ≠ b := fun z => by rw [z] at nD; rw [hb1] at nD; cases nD
  refine lc_list (K := K) (a := lt) (xs := us) (fun j H' => ∃ m1 zs, pays 1 ((ts.map (Pa01.full hs)).take j) 2000 = some m1 ∧ Kp b H1 H' ∧ BgAt a.bg H' b dxb m1 ∧ H' D = some (.lst zs) ∧ TermsAt H' zs ((ts.map (Pa01.full hs)).take j))
    ⟨2000, [], rfl, s0.kp, s0 _ _ hb1, upd_same, .nil⟩ (fun j H' _ ⟨_, _, _, kp, _⟩ => SqL.of ((kp.sq hb1).l _ _ (s1 _ _ hlt))) ?_ ?_
  · rintro j x H2 hx ⟨m1, zs, hp, kp, hb2, hD, hTz⟩
    obtain ⟨t, et, at1⟩ := hT.get hx
    have sq1 := kp.sq hb1
    have hm1 := pays_le hp
    have eu : (ts.map (Pa01.full hs))[j]? = some (Pa01.full hs t) := by rw [List.getElem?_map, et]; rfl
    obtain ⟨f1, f2⟩ := hfo t (List.mem_of_getElem? et)
    refine ⟨rfl, _, rfl, _, rfl, _, rfl, _, rfl, lh, b, dxb, x, hs, t, n, m1, rfl, (hh.sq s1.sq).sq sq1, hb2, (at1.tps s1.tps).tps sq1.t, hbod, hsm, f1, f2, hn, by omega, fun z H' k' => ?_, fun m2 z H3 v3 k3 b3 t3 => ?_⟩
    · have en : pays 1 (ts.map (Pa01.full hs)) 2000 = none := by
        refine pays_none (i := j + 1) ?_
        rw [← pays_take eu, hp]
        exact z
      rw [en] at qE
      refine ⟨true, T.tl.e, fun _ ad na => ?_, fun z => absurd z (by decide)⟩
      exact ⟨l1le _, fun r nr => rf_made (l := [-8]) upd_same fun H4 d s4 h4 => qE rfl H4 d (((k1.trans (kp.trans k')).back nb).trans ((same_new nr _).trans s4)) h4⟩
    have hD3 := k3 _ _ hD hDb
    refine ⟨zs, hD3, ?_, m2, zs ++ [v3], ?_, kp_new (kp.trans k3) nD, ?_, upd_same, ?_⟩
    · have h1 := hTz.length
      rw [List.length_take, List.length_map] at h1
      exact lt_line (by omega)
    · rw [← pays_take eu, hp]
      exact z
    · show upd _ _ _ _ = _
      rw [upd_ne (Ne.symm hDb)]
      exact b3
    · rw [take_more eu]
      exact ((hTz.tps (k3.tps hb2)).append (.cons t3 .nil)).tps (tps_lst hD3)
  · rintro H2 ⟨m1, zs, hp, kp, hb2, hD, hTz⟩
    have e : us.length = (ts.map (Pa01.full hs)).length := by rw [List.length_map]; exact hT.length
    rw [e, List.take_length] at hp hTz
    rw [hp] at q
    exact q _ rfl H2 D zs ((k1.trans kp).back nb) hD hTz
end
end HH
namespace HH
open PySem PySem.Spec PyProof.Rows L2 L2Y
open Pa01 (Term Hole Eqn Out State Call)
def spD2 (a : Ad) (c : Nat → List Nat → Call) : Sp := fun vs H Q E => ∃ (dk dx ln : Addr) (s : State) (B n : Nat) (r : List Nat), vs = [.ref dk, vn n, .ref ln] ∧ DkAt a H dk dx s ∧ H ln = some (.lst (vns r)) ∧ SOK B s ∧ 12 ≤ B ∧ B + 2001 ≤ 900000 ∧ AnsP a (B + 2000) H dk dx (Pa01.step s (c n r)) Q E
theorem AnsP.refuse1 {a : Ad} {B : Nat} {H : Hp} {dk dx : Addr} {s : State} {x : State × Pa01.Ans} {i : Int} {Q : VK} {E : XK} (S : AnsP a (B + 2000) H dk dx x Q E) (hx : x = (s, Pa01.ok i)) (hD : DkAt a H dk dx s) (hs : SOK B s) : ∀ H' d, Same H H' → RefAt H' d [i] → E (.ref a.rf) (some d) H' := by
  subst hx
  exact S.refuse hD hs
theorem TermsAt.two {H : Hp} {us : List V} {s t : Term} (h : TermsAt H us [s, t]) : ∃ u v, us = [u, v] ∧ TermAt H u s ∧ TermAt H v t := by
  cases h with
  | cons h1 h2 =>
    cases h2 with
    | cons h2 h3 =>
      cases h3
      exact ⟨_, _, rfl, h1, h2⟩
theorem TermsAt.one' {H : Hp} {us : List V} {s : Term} (h : TermsAt H us [s]) : ∃ u, us = [u] ∧ TermAt H u s := by
  cases h with
  | cons h1 h2 =>
    cases h2
    exact ⟨_, rfl, h1⟩
section
variable {P : Program} {W0 : World} {K : PySem.W.Frag} {mg : Str → Option Value} {base : Heap} {a : Ad}
theorem sc_equate : FnScope ["desk", "places", "numbers", "one", "other", "work"] ["desk", "places", "numbers"] (defScope s_equate) := ⟨rfl, rfl, rfl, by decide +kernel, rfl, by decide +kernel, by decide +kernel⟩
theorem ok_equate (T : Txt K mg a) : Cal P W0 K mg base (L2.CX P W0) 132 "equate" ["desk", "places", "numbers"] (spD2 a Call.equate) := by
  have c_terms_of : Cal P W0 K mg base (L2.CX P W0) 95 "terms_of" ["desk", "numbers", "places", "many"] (spTerms a) := ok_terms_of T
  have c_taken_up : Cal P W0 K mg base (L2N.CX P W0) 131 "taken_up" ["holes", "waits", "equation"] (spTU a) := ok_taken_up T
  refine T.d_equate.okX sc_equate (fun vs H Q E h => ?_) (fun f cdv A outer sh0 H vs Q E hr h => ?_)
  · obtain ⟨dk, dx, ln, s, B, n, r, rfl, _⟩ := h
    rfl
  obtain ⟨dk, dx, ln, s, B, n, r, rfl, hD, hln, hs, hB1, hB2, S⟩ := h
  have tkd : L2.Takes (cxOf (L2.CX P W0) P W0 K mg base ["desk", "places", "numbers", "one", "other", "work"] "equate" (defScope s_equate) f cdv A outer sh0 H E) (fun cls d _ H => E cls d H) := L2.takes_of rfl rfl rfl rfl
  refine ⟨_, (pss_cons (ps_asg (pe_callC c_terms_of (hr.mono (by omega)) rfl (passX tkd) (pa_cons (pv 0) (pa_cons (pv 2) (pa_cons (pv 1) (pa_cons pe_int pa_nil))))) (pg_lst rfl (pgs_cons (pg_name (i := 3) sc_equate.nd rfl (Or.inl rfl)) (pgs_cons (pg_name (i := 4) sc_equate.nd rfl (Or.inl rfl)) pgs_nil))))
      (pss_cons (ps_try_manyX rfl rfl (L2H.passesAt_of rfl) tkd
        (fun W pn xe tk po => pss_one (ps_set (i := 5) sc_equate.nd rfl (Or.inl rfl) (pe_callSC c_taken_up (hr.mono (by omega)) rfl (fun σ => L2N.passAt tk σ) (by exact (pa_cons (pe_fldK K (pv 0) rfl) (pa_cons (pe_fldK K (pv 0) rfl) (pa_cons (pe_tup (pa_cons (pv 1) (pa_cons (pv 3) (pa_cons (pv 4) pa_nil)))) pa_nil)))))))
        (.cons (c := .ref a.tl) ⟨rfl, by decide, .inl T.tl.g⟩ (fun ad oe cls d pn hz hf tkS hot => pss_one (ps_refuseH T.rf (ok_Refused T) hot tkS (L2H.roomH_mark (hr.mono (by omega)) _) rfl (pa_cons (pe_lst (pa_cons (pe_k T.k_TOO_LARGE) pa_nil)) pa_nil)))
        (.cons (c := .ref a.ch) ⟨rfl, by decide, .inl T.ch.g⟩ (fun ad oe cls d pn hz hf tkS hot => pss_one (ps_refuseH T.rf (ok_Refused T) hot tkS (L2H.roomH_mark (hr.mono (by omega)) _) rfl (pa_cons (pe_lst (pa_cons (pe_k T.k_NOT_HOLDING) pa_nil)) pa_nil))) .nil)))
      (pss_cons (ps_fld (pv 0) (pe_fld (pv 5) rfl) rfl)
      (pss_cons (ps_fld (pv 0) (pe_fld (pv 5) rfl) rfl)
      (pss_one (ps_ret (pe_lst (pa_cons (pe_callB call_len_seq rfl T.b_len (by decide +kernel) (pa_cons (pe_fld (pv 0) rfl) pa_nil)) pa_nil)))))))), ?_⟩
  have est : Pa01.step s (.equate n r) = match Pa01.readTwo s.holes n r with
      | none => (s, Pa01.ok (-1))
      | some x => match Pa01.equated s ⟨n, x.1, x.2⟩ with
        | .no => (s, Pa01.ok (-7))
        | .over => (s, Pa01.ok (-8))
        | .ok hs w => ({ s with holes := hs, waits := w }, Pa01.ok (w.length : Nat)) := rfl
  rw [est] at S
  refine ⟨_, rfl, _, rfl, _, rfl, dk, dx, ln, s, r, n, 2, rfl, hD, hln, hs.w.h.sm, by decide, fun z => ?_, fun ts z H1 r1 us s1 hr1 hT => ?_⟩
  · rw [readTwo_many] at z
    cases e : Pa01.readTwo s.holes n r with
    | some x => rw [e] at z; cases z
    | none =>
      rw [e] at S
      exact S.refuse hD hs
  obtain ⟨f1, f2, f3⟩ := readMany_fit z
  rw [readTwo_many] at z
  cases e : Pa01.readTwo s.holes n r with
  | none => rw [e] at z; cases z
  | some x =>
  obtain ⟨x1, x2⟩ := x
  rw [e] at z S
  have ets : [x1, x2] = ts := Option.some.inj z
  subst ets
  obtain ⟨u1, u2, rfl, at1, at2⟩ := hT.two
  have S1 : AnsP a (B + 2000) H1 dk dx (match Pa01.equated s ⟨n, x1, x2⟩ with
        | .no => (s, Pa01.ok (-7))
        | .over => (s, Pa01.ok (-8))
        | .ok hs w => ({ s with holes := hs, waits := w }, Pa01.ok (w.length : Nat))) Q E := S.kp s1.kp
  clear S
  have hD1 := hD.same s1
  refine ⟨r1, _, rfl, SqL.of hr1, rfl, _, _, rfl, _, _, rfl, rfl, ?_⟩
  have hD1' := hD1
  obtain ⟨lh, lw, lm, hdk, hh, hw, hmk⟩ := hD1'
  refine ⟨_, rfl, dk, _, dx, _, _, rfl, hdk, T.dk.c, T.dk.n "holes" (by simp), dk_holes, _, rfl, dk, _, dx, _, _, rfl, hdk, T.dk.c, T.dk.n "waits" (by simp), dk_waits, _, rfl, _, rfl, _, rfl, l3le _ _ _, fun pe npe => ?_⟩
  have t2 := same_new npe (.tup [vn n, u1, u2])
  have hD2 := hD1.same t2
  refine ⟨lh, lw, .ref pe, s.holes, s.waits, ⟨n, x1, x2⟩, s.marks, B, rfl, hh.sq t2.sq, hw.sq t2.sq, ⟨pe, u1, u2, rfl, upd_same, at1.tps t2.tps, at2.tps t2.tps⟩, eq_tok hs.w (by omega) f1 (f3 x1 (by simp)) (f3 x2 (by simp)), hs.w.h.sn, fun g hg => ?_, by omega, fun z2 H3 s3 => ?_, fun z2 H3 s3 => ?_, fun hs' w' z2 hok' H3 wk dxw s3 hW => ?_⟩
  · rcases List.mem_append.mp hg with hg | hg
    · exact (hs.w.eqs g hg).n
    · have : g = ⟨n, x1, x2⟩ := by simpa using hg
      rw [this]
      show n ≤ B
      omega
  · -- it can't hold
    have z2' : Pa01.equated s ⟨n, x1, x2⟩ = .no := z2
    rw [z2'] at S1
    have S2 : AnsP a (B + 2000) H1 dk dx (s, Pa01.ok (-7)) Q E := S1
    refine ⟨false, T.chtl, fun z => absurd z (by decide), fun _ => ⟨true, T.ch.e, fun _ ad na => ?_, fun z => absurd z (by decide)⟩⟩
    exact ⟨l1le _, fun rr nrr => rf_made (l := [-7]) upd_same fun H4 d s4 h4 => S2.refuse hD1 hs H4 d (t2.trans (s3.trans ((same_new nrr _).trans s4))) h4⟩
  · have z2' : Pa01.equated s ⟨n, x1, x2⟩ = .over := z2
    rw [z2'] at S1
    have S2 : AnsP a (B + 2000) H1 dk dx (s, Pa01.ok (-8)) Q E := S1
    refine ⟨true, T.tl.e, fun _ ad na => ?_, fun z => absurd z (by decide)⟩
    exact ⟨l1le _, fun rr nrr => rf_made (l := [-8]) upd_same fun H4 d s4 h4 => S2.refuse hD1 hs H4 d (t2.trans (s3.trans ((same_new nrr _).trans s4))) h4⟩
  · have z2' : Pa01.equated s ⟨n, x1, x2⟩ = .ok hs' w' := z2
    rw [z2'] at S1
    have S2 : AnsP a (B + 2000) H1 dk dx ({ s with holes := hs', waits := w' }, Pa01.ok (w'.length : Nat)) Q E := S1
    obtain ⟨lh3, lw3, ll3, hwk, hh3, ⟨vw3, hlw3, hpw3⟩, hl3⟩ := hW
    have s13 := t2.trans s3
    have hdk3 := s13 _ _ hdk
    have hwd : wk ≠ dk := fun z => by
      rw [z, hdk3] at hwk
      have := Option.some.inj hwk
      injection this with h1 h2 h3
      injection h3 with h4 h5
      cases h5
    refine ⟨_, rfl, wk, _, dxw, _, _, rfl, hwk, T.wk.c, T.wk.n "holes" (by simp), lk_holes', _, rfl, dk, _, dx, _, rfl, hdk3, T.dk.c, T.dk.n "holes" (by simp), (by show 3 < 1000; decide), ?_⟩
    have hwk4 : ∀ o, upd H3 dk o wk = some (.ins a.wk dxw (wkF lh3 lw3 ll3)) := fun o => by rw [upd_ne hwd]; exact hwk
    refine ⟨_, rfl, wk, _, dxw, _, _, rfl, hwk4 _, T.wk.c, T.wk.n "waits" (by simp), lk_waits, _, rfl, dk, _, dx, _, rfl, upd_same, T.dk.c, T.dk.n "waits" (by simp), (by show 3 < 1000; decide), ?_⟩
    have k5 : ∀ {o1 o2 : HO}, Kp dk H3 (upd (upd H3 dk o1) dk o2) := fun {o1 o2} => kp_upd.trans kp_upd
    have sq5 := fun {o1 o2 : HO} => (k5 (o1 := o1) (o2 := o2)).sq hdk3
    refine ⟨_, rfl, dk, _, dx, _, _, rfl, upd_same, T.dk.c, T.dk.n "waits" (by simp), dk_waits, lw3, _, rfl, .inl (SqL.of (sq5.l _ _ hlw3)), l1le _, fun rr nrr => ?_⟩
    have sr := same_new nrr (.lst [V.int (vw3.length : Int)])
    refine S2.ok _ rr (s13.kp.trans (k5.trans sr.kp)) (DkAt.same ⟨lh3, lw3, lm, upd_same, hh3.sq sq5, EqnsL.sq ⟨vw3, hlw3, hpw3⟩ sq5, (hmk.sq s13.sq).sq sq5⟩ sr) ⟨hok', fun x hx => (hs.m x hx).mono (by omega), hs.k⟩ ?_
    rw [upd_same, hpw3.length]
    rfl
theorem sc_full : FnScope ["desk", "places", "numbers", "terms", "term"] ["desk", "places", "numbers"] (defScope s_full) := ⟨rfl, rfl, rfl, by decide +kernel, rfl, by decide +kernel, by decide +kernel⟩
theorem ok_full (T : Txt K mg a) : Cal P W0 K mg base (L2.CX P W0) 126 "full" ["desk", "places", "numbers"] (spD2 a Call.full) := by
  have c_terms_of : Cal P W0 K mg base (L2.CX P W0) 95 "terms_of" ["desk", "numbers", "places", "many"] (spTerms a) := ok_terms_of T
  have c_written_or_refused : Cal P W0 K mg base (L2.CX P W0) 125 "written_or_refused" ["holes", "places", "terms"] (spWR a) := ok_written_or_refused T
  have c_size_of : Cal P W0 K mg base CX0 60 "size_of" ["term"] (spSize 60) := ok_size_of T 60
  have c_row_of : Cal P W0 K mg base CX0 60 "row_of" ["term"] (spRow 60) := ok_row_of T 60
  refine T.d_full.okX sc_full (fun vs H Q E h => ?_) (fun f cdv A outer sh0 H vs Q E hr h => ?_)
  · obtain ⟨dk, dx, ln, s, B, n, r, rfl, _⟩ := h
    rfl
  obtain ⟨dk, dx, ln, s, B, n, r, rfl, hD, hln, hs, hB1, hB2, S⟩ := h
  have tkd : L2.Takes (cxOf (L2.CX P W0) P W0 K mg base ["desk", "places", "numbers", "terms", "term"] "full" (defScope s_full) f cdv A outer sh0 H E) (fun cls d _ H => E cls d H) := L2.takes_of rfl rfl rfl rfl
  refine ⟨_, (pss_cons (ps_set (i := 3) sc_full.nd rfl (Or.inl rfl) (pe_callC c_terms_of (hr.mono (by omega)) rfl (passX tkd) (pa_cons (pv 0) (pa_cons (pv 2) (pa_cons (pv 1) (pa_cons pe_int pa_nil))))))
      (pss_cons (ps_set (i := 4) sc_full.nd rfl (Or.inl rfl) (pe_ix ix_list (pe_callC c_written_or_refused (hr.mono (by omega)) rfl (passX tkd) (pa_cons (pe_fld (pv 0) rfl) (pa_cons (pv 1) (pa_cons (pv 3) pa_nil)))) pe_int (fun _ _ => rfl)))
      (pss_one (ps_ret (pe_op op_cat (pe_lst (pa_cons (pe_callC c_size_of (hr.mono (by omega)) rfl pass0 (pa_cons (pv 4) pa_nil)) pa_nil)) (pe_callC c_row_of (hr.mono (by omega)) rfl pass0 (pa_cons (pv 4) pa_nil))))))), ?_⟩
  have est : Pa01.step s (.full n r) = (s, match Pa01.readOne s.holes n r with
      | none => Pa01.ok (-1)
      | some t => match Pa01.out s.holes [t] with
        | some [u] => ⟨(Pa01.size u : Nat), Pa01.told u⟩
        | _ => Pa01.ok (-8)) := rfl
  rw [est] at S
  refine ⟨_, rfl, _, rfl, _, rfl, dk, dx, ln, s, r, n, 1, rfl, hD, hln, hs.w.h.sm, by decide, fun z => ?_, fun ts z H1 r1 us s1 hr1 hT => ?_⟩
  · rw [readOne_many] at z
    cases e : Pa01.readOne s.holes n r with
    | some x => rw [e] at z; cases z
    | none =>
      rw [e] at S
      exact S.refuse hD hs
  obtain ⟨f1, f2, f3⟩ := readMany_fit z
  rw [readOne_many] at z
  cases e : Pa01.readOne s.holes n r with
  | none => rw [e] at z; cases z
  | some t =>
  rw [e] at z S
  have ets : [t] = ts := Option.some.inj z
  subst ets
  have S1 : AnsP a (B + 2000) H dk dx (s, match Pa01.out s.holes [t] with
        | some [u] => ⟨(Pa01.size u : Nat), Pa01.told u⟩
        | _ => Pa01.ok (-8)) Q E := S
  clear S
  have hD1 := hD.same s1
  obtain ⟨lh, lw, lm, hdk, hh, hw, hmk⟩ := hD1
  refine ⟨_, rfl, dk, _, dx, _, _, rfl, hdk, T.dk.c, T.dk.n "holes" (by simp), dk_holes, _, rfl, _, rfl, lh, r1, s.holes, us, [t], n, rfl, hh, hr1, hT, hs.w.h.bod, hs.w.h.sm, fun u hu => ⟨f3 u hu, ok2_all hs.w.h.bcl u⟩, by omega, by simp, fun z2 => ?_, fun ws z2 H2 r2 us2 s2 hr2 hT2 => ?_⟩
  · rw [z2] at S1
    exact fun H2 d s2 h2 => S1.refuse hD hs H2 d (s1.trans s2) h2
  obtain ⟨e1, e2, e3, _⟩ := out_some z2
  have ew : ws = [Pa01.full s.holes t] := e1
  subst ew
  rw [z2] at S1
  have S2 : AnsP a (B + 2000) H dk dx (s, ⟨(Pa01.size (Pa01.full s.holes t) : Nat), Pa01.told (Pa01.full s.holes t)⟩) Q E := S1
  have z3 : Pa01.size (Pa01.full s.holes t) ≤ 2000 := by simpa [Pa01.sizes] using e2
  have z4 : Pa01.deep (Pa01.full s.holes t) ≤ 60 := by simpa [Pa01.deeps] using e3
  obtain ⟨u, rfl, au⟩ := hT2.one'
  refine ⟨r2, _, _, _, rfl, rfl, SqL.of hr2, atI_nat (j := 0) List.getElem?_cons_zero, ?_⟩
  refine ⟨_, rfl, u, _, rfl, au, z4, by omega, fun H3 s3 => ⟨l1le _, fun p1 np1 => ?_⟩⟩
  have t1 := same_new np1 (.lst [vn (Pa01.size (Pa01.full s.holes t))])
  refine ⟨_, rfl, u, _, rfl, (au.tps s3.tps).tps t1.tps, z4, by omega, fun H4 r4 s4 hr4 => ?_⟩
  have tl := told_len (Pa01.full s.holes t)
  refine ⟨p1, r4, _, _, rfl, rfl, s4 _ _ upd_same, hr4, ?_, fun rr nrr => ?_⟩
  · rw [List.length_map]
    exact le_line (by show 1 + (Pa01.told (Pa01.full s.holes t)).length ≤ _; omega)
  have sr := same_new nrr (.lst ([vn (Pa01.size (Pa01.full s.holes t))] ++ vns (Pa01.told (Pa01.full s.holes t))))
  have sA := s1.trans (s2.trans (s3.trans (t1.trans (s4.trans sr))))
  refine S2.ok _ rr sA.kp (hD.same sA) (hs.mono (by omega)) ?_
  rw [upd_same, outL]
  rfl
theorem sc_compared : FnScope ["desk", "places", "numbers", "terms", "one", "other"] ["desk", "places", "numbers"] (defScope s_compared) := ⟨rfl, rfl, rfl, by decide +kernel, rfl, by decide +kernel, by decide +kernel⟩
theorem ok_compared (T : Txt K mg a) : Cal P W0 K mg base (L2.CX P W0) 126 "compared" ["desk", "places", "numbers"] (spD2 a Call.same) := by
  have c_terms_of : Cal P W0 K mg base (L2.CX P W0) 95 "terms_of" ["desk", "numbers", "places", "many"] (spTerms a) := ok_terms_of T
  have c_written_or_refused : Cal P W0 K mg base (L2.CX P W0) 125 "written_or_refused" ["holes", "places", "terms"] (spWR a) := ok_written_or_refused T
  have c_are_apart : Cal P W0 K mg base CX0 60 "are_apart" ["one", "other"] (spApart 60) := ok_are_apart T 60
  refine T.d_compared.okX sc_compared (fun vs H Q E h => ?_) (fun f cdv A outer sh0 H vs Q E hr h => ?_)
  · obtain ⟨dk, dx, ln, s, B, n, r, rfl, _⟩ := h
    rfl
  obtain ⟨dk, dx, ln, s, B, n, r, rfl, hD, hln, hs, hB1, hB2, S⟩ := h
  have tkd : L2.Takes (cxOf (L2.CX P W0) P W0 K mg base ["desk", "places", "numbers", "terms", "one", "other"] "compared" (defScope s_compared) f cdv A outer sh0 H E) (fun cls d _ H => E cls d H) := L2.takes_of rfl rfl rfl rfl
  refine ⟨_, (pss_cons (ps_set (i := 3) sc_compared.nd rfl (Or.inl rfl) (pe_callC c_terms_of (hr.mono (by omega)) rfl (passX tkd) (pa_cons (pv 0) (pa_cons (pv 2) (pa_cons (pv 1) (pa_cons pe_int pa_nil))))))
      (pss_cons (ps_asg (pe_callC c_written_or_refused (hr.mono (by omega)) rfl (passX tkd) (pa_cons (pe_fld (pv 0) rfl) (pa_cons (pv 1) (pa_cons (pv 3) pa_nil)))) (pg_lst rfl (pgs_cons (pg_name (i := 4) sc_compared.nd rfl (Or.inl rfl)) (pgs_cons (pg_name (i := 5) sc_compared.nd rfl (Or.inl rfl)) pgs_nil))))
      (pss_cons (ps_if (pt_cmpR (op_eqW (u200 hr)) (pv 4) (pv 5) (nomark _)) (pss_one (ps_ret (pe_lst (pa_cons pe_int pa_nil)))) pss_nil)
      (pss_cons (ps_if (pt_val (pe_callC c_are_apart (hr.mono (by omega)) rfl pass0 (pa_cons (pv 4) (pa_cons (pv 5) pa_nil)))) (pss_one (ps_ret (pe_lst (pa_cons pe_int pa_nil)))) pss_nil)
      (pss_one (ps_ret (pe_lst (pa_cons pe_int pa_nil)))))))), ?_⟩
  have est : Pa01.step s (.same n r) = (s, match Pa01.readTwo s.holes n r with
      | none => Pa01.ok (-1)
      | some x => match Pa01.out s.holes [x.1, x.2] with
        | some [a, b] => Pa01.ok (if Pa01.same a b = true then 1 else if Pa01.apart a b = true then 2 else 0)
        | _ => Pa01.ok (-8)) := rfl
  rw [est] at S
  refine ⟨_, rfl, _, rfl, _, rfl, dk, dx, ln, s, r, n, 2, rfl, hD, hln, hs.w.h.sm, by decide, fun z => ?_, fun ts z H1 r1 us s1 hr1 hT => ?_⟩
  · rw [readTwo_many] at z
    cases e : Pa01.readTwo s.holes n r with
    | some x => rw [e] at z; cases z
    | none =>
      rw [e] at S
      exact S.refuse hD hs
  obtain ⟨f1, f2, f3⟩ := readMany_fit z
  rw [readTwo_many] at z
  cases e : Pa01.readTwo s.holes n r with
  | none => rw [e] at z; cases z
  | some x =>
  obtain ⟨x1, x2⟩ := x
  rw [e] at z S
  have ets : [x1, x2] = ts := Option.some.inj z
  subst ets
  have S1 : AnsP a (B + 2000) H dk dx (s, match Pa01.out s.holes [x1, x2] with
        | some [a, b] => Pa01.ok (if Pa01.same a b = true then 1 else if Pa01.apart a b = true then 2 else 0)
        | _ => Pa01.ok (-8)) Q E := S
  clear S
  have hD1 := hD.same s1
  obtain ⟨lh, lw, lm, hdk, hh, hw, hmk⟩ := hD1
  refine ⟨_, rfl, dk, _, dx, _, _, rfl, hdk, T.dk.c, T.dk.n "holes" (by simp), dk_holes, _, rfl, _, rfl, lh, r1, s.holes, us, [x1, x2], n, rfl, hh, hr1, hT, hs.w.h.bod, hs.w.h.sm, fun u hu => ⟨f3 u hu, ok2_all hs.w.h.bcl u⟩, by omega, by simp, fun z2 => ?_, fun ws z2 H2 r2 us2 s2 hr2 hT2 => ?_⟩
  · rw [z2] at S1
    exact fun H2 d s2 h2 => S1.refuse hD hs H2 d (s1.trans s2) h2
  obtain ⟨e1, e2, e3, _⟩ := out_some z2
  have ew : ws = [Pa01.full s.holes x1, Pa01.full s.holes x2] := e1
  subst ew
  rw [z2] at S1
  have S2 : AnsP a (B + 2000) H dk dx (s, Pa01.ok (if Pa01.same (Pa01.full s.holes x1) (Pa01.full s.holes x2) = true then 1 else if Pa01.apart (Pa01.full s.holes x1) (Pa01.full s.holes x2) = true then 2 else 0)) Q E := S1
  have z4 : Pa01.deep (Pa01.full s.holes x1) ≤ 60 := Nat.le_trans (deeps_le (by simp)) e3
  have z5 : Pa01.deep (Pa01.full s.holes x2) ≤ 60 := Nat.le_trans (deeps_le (by simp)) e3
  obtain ⟨u1, u2, rfl, au1, au2⟩ := hT2.two
  refine ⟨r2, _, rfl, SqL.of hr2, rfl, _, _, rfl, _, _, rfl, rfl, ?_⟩
  have sB := s1.trans s2
  have fin : ∀ (H3 : Hp) (i : Int), Same H H3 → i = (if Pa01.same (Pa01.full s.holes x1) (Pa01.full s.holes x2) = true then 1 else if Pa01.apart (Pa01.full s.holes x1) (Pa01.full s.holes x2) = true then 2 else 0) → ∀ rr, H3 rr = none → Q (.ref rr) (upd H3 rr (.lst [.int i])) := by
    intro H3 i s3 ei rr nrr
    have sr := same_new nrr (.lst [V.int i])
    refine S2.ok _ rr (s3.trans sr).kp (hD.same (s3.trans sr)) (hs.mono (by omega)) ?_
    rw [upd_same, ei]
    rfl
  refine ⟨_, rfl, _, rfl, toD (Pa01.full s.holes x1), toD (Pa01.full s.holes x2), au1.dp, au2.dp, toD_lay _, toD_lay _, ?_, _, rfl, ?_⟩
  · have := toD_depth (Pa01.full s.holes x1)
    omega
  show (if PyData.eqv (toD (Pa01.full s.holes x1)) (toD (Pa01.full s.holes x2)) = true then _ else _)
  rw [toD_eqv]
  refine ite2 (fun c => ?_) (fun c => ?_)
  · exact ⟨l1le _, fun rr nrr => fin H2 1 sB (by rw [if_pos c]) rr nrr⟩
  refine ⟨_, rfl, _, rfl, u1, u2, _, _, rfl, au1, au2, z4, fun H3 s3 => ⟨_, rfl, ite2 (fun c2 => ?_) (fun c2 => ?_)⟩⟩
  · exact ⟨l1le _, fun rr nrr => fin H3 2 (sB.trans s3) (by rw [if_neg c, if_pos c2]) rr nrr⟩
  · exact ⟨l1le _, fun rr nrr => fin H3 0 (sB.trans s3) (by rw [if_neg c, if_neg c2]) rr nrr⟩
end
end HH
namespace HH
open Pa01
/-! ### terms for the open holes -/
def isOpen (hs : List Hole) (h : Nat) : Bool := match hs[h]? with
  | some x => x.body.isNone
  | none => false
def opens (hs : List Hole) : List Nat := (List.range hs.length).filter (isOpen hs)
def opsOf (hs : List Hole) : List Nat := (hs.filter fun x => x.body.isNone).map Hole.many
theorem opens_cons (x : Hole) (l : List Hole) : opens (x :: l) = (if x.body.isNone = true then [0] else []) ++ (opens l).map (· + 1) := by
  unfold opens
  rw [List.length_cons, List.range_succ_eq_map, List.filter_cons, List.filter_map]
  have e0 : isOpen (x :: l) 0 = x.body.isNone := rfl
  have e1 : (isOpen (x :: l) ∘ Nat.succ) = isOpen l := by
    funext h
    simp [isOpen]
  rw [e0, e1]
  by_cases hb : x.body.isNone = true
  · rw [if_pos hb, if_pos hb]
    rfl
  · rw [if_neg hb, if_neg hb]
    rfl
theorem opsOf_eq : ∀ hs : List Hole, opsOf hs = (opens hs).map fun h => match hs[h]? with
    | some x => x.many
    | none => 0
  | [] => rfl
  | x :: l => by
    rw [opens_cons, List.map_append, List.map_map]
    have ih := opsOf_eq l
    have e : ((fun h => match (x :: l)[h]? with
        | some x => x.many
        | none => 0) ∘ (· + 1)) = fun h => match l[h]? with
        | some x => x.many
        | none => 0 := by
      funext h
      simp
    rw [e, ← ih]
    unfold opsOf
    rw [List.filter_cons]
    by_cases hb : x.body.isNone = true
    · rw [if_pos hb, if_pos hb]
      rfl
    · rw [if_neg hb, if_neg hb]
      rfl
def weave : List Hole → List Term → List (Option Term)
  | [], _ => []
  | x :: l, ts => match x.body with
    | some _ => none :: weave l ts
    | none => match ts with
      | t :: r => some t :: weave l r
      | [] => none :: weave l []
theorem readFor_len : ∀ (ps r : List Nat) (ts : List Term) (r' : List Nat), readFor ps r = some (ts, r') → ts.length = ps.length
  | [], r, ts, r', h => by
    simp only [readFor] at h
    cases h
    rfl
  | p :: l, r, ts, r', h => by
    simp only [readFor] at h
    cases e : Pa01.read [] 30 p r with
    | none => rw [e] at h; cases h
    | some x =>
      rw [e] at h
      have h : (readFor l x.2).map (fun y => (x.1 :: y.1, y.2)) = some (ts, r') := h
      cases e2 : readFor l x.2 with
      | none => rw [e2] at h; cases h
      | some y =>
        rw [e2] at h
        cases h
        simp [readFor_len l x.2 y.1 y.2 e2]
theorem readFill_for : ∀ (hs : List Hole) (r : List Nat), readFill hs r = match readFor (opsOf hs) r with
    | some (ts, []) => some (weave hs ts)
    | _ => none
  | [], r => by
    show (if r = [] then some [] else none) = match (some ([], r) : Option (List Term × List Nat)) with
      | some (ts, []) => some (weave [] ts)
      | _ => none
    cases r <;> rfl
  | x :: l, r => by
    simp only [readFill]
    cases eb : x.body with
    | some b =>
      have e : opsOf (x :: l) = opsOf l := by
        unfold opsOf
        rw [List.filter_cons, if_neg (by simp [eb])]
      rw [e, readFill_for l r]
      show Option.map _ _ = _
      cases readFor (opsOf l) r with
      | none => rfl
      | some y =>
        obtain ⟨ts, q⟩ := y
        cases q with
        | nil =>
          show some (none :: weave l ts) = some (weave (x :: l) ts)
          simp only [weave, eb]
        | cons a b => rfl
    | none =>
      have e : opsOf (x :: l) = x.many :: opsOf l := by
        unfold opsOf
        rw [List.filter_cons, if_pos (by simp [eb])]
        rfl
      rw [e]
      simp only [readFor]
      show (match Pa01.read [] 30 x.many r with
        | none => none
        | some z => (readFill l z.2).map fun y => some z.1 :: y) = _
      cases er : Pa01.read [] 30 x.many r with
      | none => rfl
      | some z =>
        show Option.map (fun y => some z.1 :: y) (readFill l z.2) = match Option.map (fun y : List Term × List Nat => (z.1 :: y.1, y.2)) (readFor (opsOf l) z.2) with
          | some (ts, []) => some (weave (x :: l) ts)
          | _ => none
        rw [readFill_for l z.2]
        cases readFor (opsOf l) z.2 with
        | none => rfl
        | some y =>
          obtain ⟨ts, q⟩ := y
          cases q with
          | nil =>
            show some (some z.1 :: weave l ts) = some (weave (x :: l) (z.1 :: ts))
            simp only [weave, eb]
          | cons a b => rfl
theorem readFill_fills (hs : List Hole) (r : List Nat) : readFill hs r = (readFills (opsOf hs) r).map (weave hs) := by
  rw [readFill_for]
  unfold readFills
  cases readFor (opsOf hs) r with
  | none => rfl
  | some y =>
    obtain ⟨ts, q⟩ := y
    cases q <;> rfl
theorem opens_len (hs : List Hole) : (opens hs).length = (opsOf hs).length := by rw [opsOf_eq, List.length_map]
theorem weave_at : ∀ (hs : List Hole) (ts : List Term) (j h : Nat) (t : Term), (opens hs)[j]? = some h → ts[j]? = some t → (weave hs ts).getD h none = some t
  | [], ts, j, h, t, e, _ => by
    have : opens ([] : List Hole) = [] := rfl
    rw [this] at e
    cases e
  | x :: l, ts, j, h, t, e, e2 => by
    rw [opens_cons] at e
    cases eb : x.body with
    | some b =>
      rw [eb] at e
      have e' : ((opens l).map (· + 1))[j]? = some h := e
      rw [List.getElem?_map] at e'
      cases e3 : (opens l)[j]? with
      | none => rw [e3] at e'; cases e'
      | some k =>
        rw [e3] at e'
        have : k + 1 = h := Option.some.inj e'
        subst this
        simp only [weave, eb]
        exact weave_at l ts j k t e3 e2
    | none =>
      rw [eb] at e
      have e' : (0 :: (opens l).map (· + 1))[j]? = some h := e
      cases ts with
      | nil => cases e2
      | cons u r =>
        simp only [weave, eb]
        cases j with
        | zero =>
          have h0 : 0 = h := by simpa using e'
          subst h0
          have : u = t := by simpa using e2
          rw [this]
          rfl
        | succ j =>
          rw [List.getElem?_cons_succ, List.getElem?_map] at e'
          cases e3 : (opens l)[j]? with
          | none => rw [e3] at e'; cases e'
          | some k =>
            rw [e3] at e'
            have : k + 1 = h := Option.some.inj e'
            subst this
            exact weave_at l r j k t e3 (by simpa using e2)
theorem weave_none : ∀ (hs : List Hole) (ts : List Term) (h : Nat), isOpen hs h = false → (weave hs ts).getD h none = none
  | [], ts, h, _ => rfl
  | x :: l, ts, h, e => by
    cases h with
    | zero =>
      have e' : x.body.isNone = false := e
      cases eb : x.body with
      | none => rw [eb] at e'; cases e'
      | some b => simp only [weave, eb]; rfl
    | succ h =>
      have e' : isOpen l h = false := by simpa [isOpen] using e
      simp only [weave]
      cases eb : x.body with
      | some b => exact weave_none l ts h e'
      | none =>
        cases ts with
        | nil => exact weave_none l [] h e'
        | cons u r => exact weave_none l r h e'
/-- one hole filled from a row -/
def fillAt (l : List (Option Term)) (h : Nat) (x : Hole) : Hole := match l.getD h none with
  | some t => { x with body := some t }
  | none => x
theorem filled_eq (hs : List Hole) (l : List (Option Term)) : filled hs l = hs.mapIdx (fillAt l) := rfl
def hsJ (hs : List Hole) (l : List (Option Term)) (os : List Nat) : List Hole := hs.mapIdx fun h x => if h ∈ os then fillAt l h x else x
theorem hsJ_get (hs : List Hole) (l : List (Option Term)) (os : List Nat) (h : Nat) : (hsJ hs l os)[h]? = (hs[h]?).map fun x => if h ∈ os then fillAt l h x else x := by
  unfold hsJ
  rw [List.getElem?_mapIdx]
theorem hsJ_nil (hs : List Hole) (l : List (Option Term)) : hsJ hs l [] = hs := by
  apply List.ext_getElem?
  intro h
  rw [hsJ_get]
  cases hs[h]? <;> simp
theorem hsJ_len (hs : List Hole) (l : List (Option Term)) (os : List Nat) : (hsJ hs l os).length = hs.length := by
  unfold hsJ
  rw [List.length_mapIdx]
theorem hsJ_more {hs : List Hole} {l : List (Option Term)} {os : List Nat} {h : Nat} {x : Hole} (e : hs[h]? = some x) : hsJ hs l (os ++ [h]) = (hsJ hs l os).set h (fillAt l h x) := by
  apply List.ext_getElem?
  intro k
  rw [hsJ_get, List.getElem?_set]
  by_cases hk : h = k
  · subst hk
    have hl := (List.getElem?_eq_some_iff.mp e).1
    rw [if_pos rfl, if_pos (by rw [hsJ_len]; exact hl), e]
    show some (if h ∈ os ++ [h] then _ else _) = _
    rw [if_pos (by simp)]
  · rw [if_neg hk, hsJ_get]
    cases hs[k]? with
    | none => rfl
    | some y =>
      show some (if k ∈ os ++ [h] then _ else _) = some (if k ∈ os then _ else _)
      by_cases hm : k ∈ os
      · rw [if_pos hm, if_pos (List.mem_append_left _ hm)]
      · rw [if_neg hm, if_neg (by simp [hm]; exact fun z => hk z.symm)]
theorem hsJ_end (hs : List Hole) (ts : List Term) : hsJ hs (weave hs ts) (opens hs) = filled hs (weave hs ts) := by
  apply List.ext_getElem?
  intro h
  rw [hsJ_get, filled_eq, List.getElem?_mapIdx]
  cases e : hs[h]? with
  | none => rfl
  | some x =>
    show some (if h ∈ opens hs then _ else _) = some _
    by_cases hm : h ∈ opens hs
    · rw [if_pos hm]
    · rw [if_neg hm]
      have hl := (List.getElem?_eq_some_iff.mp e).1
      have ho : isOpen hs h = false := by
        cases z : isOpen hs h with
        | false => rfl
        | true => exact absurd (List.mem_filter.mpr ⟨List.mem_range.mpr hl, z⟩) hm
      unfold fillAt
      rw [weave_none hs ts h ho]
/-! ### the first that sees too little -/
def badAt (hs : List Hole) (l : List (Option Term)) (h : Nat) : Bool := match hs[h]?, l.getD h none with
  | some x, some t => !only x.seen t
  | _, _ => false
theorem blind_opens (hs : List Hole) (ts : List Term) : blind hs (weave hs ts) = (opens hs).find? (badAt hs (weave hs ts)) := by
  unfold opens
  rw [List.find?_filter]
  show (List.range hs.length).find? (badAt hs (weave hs ts)) = _
  congr 1
  funext h
  cases ho : isOpen hs h with
  | true => simp
  | false =>
    have : badAt hs (weave hs ts) h = false := by
      unfold badAt
      rw [weave_none hs ts h ho]
      cases hs[h]? <;> rfl
    rw [this]
    rfl
theorem find_none_take {p : Nat → Bool} {l : List Nat} {j h : Nat} (e : l[j]? = some h) (hp : (l.take j).find? p = none) (hb : p h = true) : l.find? p = some h := by
  have : l = l.take j ++ h :: l.drop (j + 1) := by
    rw [← drop_at e, List.take_append_drop]
  rw [this, List.find?_append, hp]
  simp [hb]
theorem find_none_more {p : Nat → Bool} {l : List Nat} {j h : Nat} (e : l[j]? = some h) (hp : (l.take j).find? p = none) (hb : p h = false) : (l.take (j + 1)).find? p = none := by
  rw [take_more e, List.find?_append, hp]
  simp [hb]
/-! ### what is read is not deep -/
theorem readParts_deep {m : Nat} {F : List Nat → Option (Term × List Nat)} {may : Nat → Bool} (hm : ∀ i, may i = true → 1 ≤ m) (hF : ∀ r t r', F r = some (t, r') → deep t ≤ m) : ∀ (k j : Nat) (r : List Nat) (ts : List Term) (r' : List Nat), readParts F may k j r = some (ts, r') → deeps ts ≤ m
  | 0, j, r, ts, r', h => by
    simp only [readParts] at h
    cases h
    exact Nat.zero_le _
  | k + 1, j, r, ts, r', h => by
    cases o : one1 F may j r with
    | none => rw [rp_none o] at h; cases h
    | some x =>
      obtain ⟨t, rest⟩ := x
      rw [rp_some o] at h
      cases e : readParts F may k (j + 1) rest with
      | none => rw [e] at h; cases h
      | some y =>
        rw [e] at h
        cases h
        have h2 := readParts_deep hm hF k (j + 1) rest y.1 y.2 e
        have h1 : deep t ≤ m := by
          unfold one1 at o
          split at o
          · rename_i hc
            cases o
            exact hm j hc.2
          · exact hF _ _ _ o
        show max (deep t) (deeps y.1) ≤ m
        omega
theorem read_deep {hs : List Hole} : ∀ (f n : Nat) (r : List Nat) (t : Term) (r' : List Nat), Pa01.read hs f n r = some (t, r') → deep t ≤ f
  | 0, n, r, t, r', h => by cases h
  | f + 1, n, r, t, r', h => by
    unfold Pa01.read at h
    split at h
    · split at h
      · cases h
        show 1 ≤ f + 1
        omega
      · cases h
    · split at h
      · cases h
      · rename_i f' k r2 _
        cases e : readParts (Pa01.read hs f n) (fun _ => false) k 0 r2 with
        | none => rw [e] at h; cases h
        | some y =>
          rw [e] at h
          cases h
          have := readParts_deep (m := f) (may := fun _ => false) (fun i z => (by cases z)) (fun r t r' => read_deep f n r t r') k 0 r2 y.1 y.2 e
          show 1 + deeps y.1 ≤ f + 1
          omega
    · rename_i r2
      cases e : Pa01.read hs f (n + 1) r2 with
      | none => rw [e] at h; cases h
      | some y =>
        rw [e] at h
        cases h
        have := read_deep f (n + 1) r2 y.1 y.2 e
        show 1 + deep y.1 ≤ f + 1
        omega
    · rename_i g k r2
      split at h
      · cases h
      · rename_i x ex
        split at h
        · rename_i hk
          cases e : readParts (Pa01.read hs f n) (fun i => decide (0 < f) && (x.body.isNone && !x.seen.contains i)) k 0 r2 with
          | none => rw [e] at h; cases h
          | some y =>
            rw [e] at h
            cases h
            have := readParts_deep (m := f) (may := fun i => decide (0 < f) && (x.body.isNone && !x.seen.contains i)) (fun i z => of_decide_eq_true (Bool.and_eq_true_iff.mp z).1) (fun r t r' => read_deep f n r t r') k 0 r2 y.1 y.2 e
            show 1 + deeps y.1 ≤ f + 1
            omega
        · cases h
    · cases h
/-! ### terms without holes -/
mutual
theorem fit_none {ms : List Nat} : ∀ (n : Nat) (t : Term), Fit [] n t → Fit ms n t
  | n, .place i, h => h
  | n, .sign f ps, h => fits_none n ps h
  | n, .bind t, h => fit_none (n + 1) t h
  | n, .hole k ps, h => by cases h.1
  | n, .gone, _ => trivial
theorem fits_none {ms : List Nat} : ∀ (n : Nat) (l : List Term), Fits [] n l → Fits ms n l
  | n, [], _ => trivial
  | n, t :: l, h => ⟨fit_none n t h.1, fits_none n l h.2⟩
end
mutual
theorem cl_none {hs : List Hole} : ∀ (n : Nat) (t : Term), Fit [] n t → Cl hs t
  | n, .place i, h => trivial
  | n, .sign f ps, h => cls_none n ps h
  | n, .bind t, h => cl_none (n + 1) t h
  | n, .hole k ps, h => by cases h.1
  | n, .gone, _ => trivial
theorem cls_none {hs : List Hole} : ∀ (n : Nat) (l : List Term), Fits [] n l → Cls hs l
  | n, [], _ => trivial
  | n, t :: l, h => ⟨cl_none n t h.1, cls_none n l h.2⟩
end
theorem readFor_fit : ∀ (ps r : List Nat) (ts : List Term) (r' : List Nat), readFor ps r = some (ts, r') → ∀ (j p : Nat) (t : Term), ps[j]? = some p → ts[j]? = some t → Fit [] p t ∧ deep t ≤ 30
  | [], r, ts, r', h, j, p, t, e, _ => by cases e
  | q :: l, r, ts, r', h, j, p, t, e, e2 => by
    simp only [readFor] at h
    cases er : Pa01.read [] 30 q r with
    | none => rw [er] at h; cases h
    | some x =>
      obtain ⟨x1, x2⟩ := x
      rw [er] at h
      have h : (readFor l x2).map (fun y => (x1 :: y.1, y.2)) = some (ts, r') := h
      cases e3 : readFor l x2 with
      | none => rw [e3] at h; cases h
      | some y =>
        rw [e3] at h
        cases h
        cases j with
        | zero =>
          have : q = p := by simpa using e
          subst this
          have : x1 = t := by simpa using e2
          subst this
          exact ⟨read_fit 30 q r x1 x2 er, read_deep 30 q r x1 x2 er⟩
        | succ j => exact readFor_fit l x2 y.1 y.2 e3 j p t (by simpa using e) (by simpa using e2)
theorem readFills_for {ps r : List Nat} {ts : List Term} (h : readFills ps r = some ts) : readFor ps r = some (ts, []) := by
  unfold readFills at h
  cases e : readFor ps r with
  | none => rw [e] at h; cases h
  | some y =>
    obtain ⟨u, q⟩ := y
    rw [e] at h
    cases q with
    | nil => cases h; rfl
    | cons a b => cases h
/-! ### the holes filled -/
theorem filled_get (hs : List Hole) (l : List (Option Term)) (h : Nat) : (filled hs l)[h]? = (hs[h]?).map (fillAt l h) := by
  rw [filled_eq, List.getElem?_mapIdx]
theorem fillAt_many (l : List (Option Term)) (h : Nat) (x : Hole) : (fillAt l h x).many = x.many := by
  unfold fillAt
  cases l.getD h none <;> rfl
theorem filled_mans (hs : List Hole) (l : List (Option Term)) : mans (filled hs l) = mans hs := by
  apply List.ext_getElem?
  intro h
  rw [List.getElem?_map, List.getElem?_map, filled_get]
  cases hs[h]? with
  | none => rfl
  | some x =>
    show some (fillAt l h x).many = some x.many
    rw [fillAt_many]
theorem filled_mem {hs : List Hole} {l : List (Option Term)} {y : Hole} (hy : y ∈ filled hs l) : ∃ i x, hs[i]? = some x ∧ y = fillAt l i x := by
  obtain ⟨i, hi, e⟩ := List.getElem_of_mem hy
  have e2 : (filled hs l)[i]? = some y := by rw [List.getElem?_eq_getElem hi, e]
  rw [filled_get] at e2
  cases q : hs[i]? with
  | none => rw [q] at e2; cases e2
  | some x => rw [q] at e2; exact ⟨i, x, q, (Option.some.inj e2).symm⟩
/-- each term that is put in is without holes and fits -/
def Gr (hs : List Hole) (l : List (Option Term)) : Prop := ∀ h x t, hs[h]? = some x → l.getD h none = some t → Fit [] x.many t
theorem gr_weave {hs : List Hole} {r : List Nat} {ts : List Term} (h : readFills (opsOf hs) r = some ts) : Gr hs (weave hs ts) := by
  intro k x t ex et
  have hf := readFills_for h
  have hl := readFor_len _ _ _ _ hf
  have ho : isOpen hs k = true := by
    cases z : isOpen hs k with
    | true => rfl
    | false => rw [weave_none hs ts k z] at et; cases et
  have hk := (List.getElem?_eq_some_iff.mp ex).1
  have hm : k ∈ opens hs := List.mem_filter.mpr ⟨List.mem_range.mpr hk, ho⟩
  obtain ⟨j, hj⟩ := List.mem_iff_getElem?.mp hm
  have hjl : j < ts.length := by
    rw [hl, ← opens_len]
    exact (List.getElem?_eq_some_iff.mp hj).1
  have e2 : ts[j]? = some ts[j] := List.getElem?_eq_getElem hjl
  have e3 := weave_at hs ts j k ts[j] hj e2
  rw [et] at e3
  have e4 : ts[j] = t := (Option.some.inj e3).symm
  rw [e4] at e2
  have e5 : (opsOf hs)[j]? = some x.many := by
    rw [opsOf_eq, List.getElem?_map, hj]
    show some (match hs[k]? with | some x => x.many | none => 0) = _
    rw [ex]
  exact (readFor_fit _ _ _ _ hf j x.many t e5 e2).1
mutual
theorem ok2_filled {hs : List Hole} {l : List (Option Term)} (g : Gr hs l) : ∀ t : Term, Cl hs t → Ok2 (filled hs l) t
  | .place _, _ => trivial
  | .sign _ ps, c => ok2s_filled g ps c
  | .bind t, c => ok2_filled g t c
  | .hole k ps, c => by
    obtain ⟨⟨x, e, eb, em⟩, c2⟩ := c
    refine ⟨fun y d e' eb' => ?_, ok2s_filled g ps c2⟩
    rw [filled_get, e] at e'
    have e'' : fillAt l k x = y := Option.some.inj e'
    subst e''
    unfold fillAt at eb'
    cases q : l.getD k none with
    | none =>
      rw [q] at eb'
      have : x.body = some d := eb'
      rw [eb] at this
      cases this
    | some t =>
      rw [q] at eb'
      have ed : t = d := Option.some.inj eb'
      rw [← ed]
      exact cl_none x.many t (g k x t e q)
  | .gone, _ => trivial
theorem ok2s_filled {hs : List Hole} {l : List (Option Term)} (g : Gr hs l) : ∀ ts : List Term, Cls hs ts → Ok2s (filled hs l) ts
  | [], _ => trivial
  | t :: ts, c => ⟨ok2_filled g t c.1, ok2s_filled g ts c.2⟩
end
theorem filled_bod {hs : List Hole} {l : List (Option Term)} (hb : Bodies hs) (g : Gr hs l) : Bodies (filled hs l) := by
  intro y hy b eb
  obtain ⟨i, x, ex, rfl⟩ := filled_mem hy
  show Fit (mans _) _ _
  rw [filled_mans, fillAt_many]
  unfold fillAt at eb
  cases q : l.getD i none with
  | none =>
    rw [q] at eb
    exact hb x (List.mem_of_getElem? ex) b eb
  | some t =>
    rw [q] at eb
    have ed : t = b := Option.some.inj eb
    rw [← ed]
    exact fit_none _ _ (g i x t ex q)
theorem filled_sm {hs : List Hole} {l : List (Option Term)} (h : Sm hs) : Sm (filled hs l) := by
  intro y hy
  obtain ⟨i, x, ex, rfl⟩ := filled_mem hy
  rw [fillAt_many]
  exact h x (List.mem_of_getElem? ex)
theorem sees_getD {x : Hole} (sn : x.seen = (List.range x.many).filter fun k => x.seen.contains k) (i : Nat) : (seesL x).getD i false = x.seen.contains i := by
  unfold seesL
  rw [List.getD, List.getElem?_map]
  by_cases h : i < x.many
  · rw [List.getElem?_range h]
    rfl
  · rw [List.getElem?_eq_none_iff.mpr (by rw [List.length_range]; omega)]
    show false = _
    cases z : x.seen.contains i with
    | false => rfl
    | true =>
      have z' : i ∈ x.seen := by simpa using z
      rw [sn] at z'
      have := List.mem_range.mp (List.mem_filter.mp z').1
      exact absurd this h
end HH
namespace HH
open PySem PySem.Spec PyProof.Rows L2 L2Y
open Pa01 (Term Hole Eqn Out State Call)
theorem p2_set {α : Type} {R : V → α → Prop} : ∀ {vs : List V} {xs : List α} (i : Nat) {v : V} {x : α}, Paired R vs xs → R v x → Paired R (vs.set i v) (xs.set i x)
  | _, _, _, _, _, .nil, _ => .nil
  | _, _, 0, _, _, .cons _ t, h => .cons h t
  | _, _, i + 1, _, _, .cons r t, h => .cons r (p2_set i t h)
theorem ixN_at {n j : Nat} (hj : j < n) : ixN n (j : Int) = some j := by
  unfold ixN
  rw [if_pos (by omega), if_pos (by omega)]
  simp
theorem vns_get {ns : List Nat} {i : Nat} {v : V} (h : (vns ns)[i]? = some v) : ∃ n, ns[i]? = some n ∧ v = vn n := by
  have h' : (ns.map vn)[i]? = some v := h
  rw [List.getElem?_map] at h'
  cases e : ns[i]? with
  | none => rw [e] at h'; cases h'
  | some n => rw [e] at h'; exact ⟨n, rfl, (Option.some.inj h').symm⟩
def spFl (a : Ad) : Sp := fun vs H Q E => ∃ (dk dx ln : Addr) (s : State) (r : List Nat), vs = [.ref dk, .ref ln] ∧ DkAt a H dk dx s ∧ H ln = some (.lst (vns r)) ∧ HOk s.holes ∧
  (Pa01.readFill s.holes r = none → ∀ H' d, Same H H' → RefAt H' d [-1] → E (.ref a.rf) (some d) H') ∧
  (∀ l h, Pa01.readFill s.holes r = some l → Pa01.blind s.holes l = some h → ∀ H' d, Same H H' → RefAt H' d [-6, (h : Int)] → E (.ref a.rf) (some d) H') ∧
  (∀ l, Pa01.readFill s.holes r = some l → Pa01.blind s.holes l = none → Gr s.holes l → ∀ H' rr, Same H H' → HolesL H' rr (Pa01.filled s.holes l) → Q (.ref rr) H')
section
variable {P : Program} {W0 : World} {K : PySem.W.Frag} {mg : Str → Option Value} {base : Heap} {a : Ad}
theorem sc_fillings_of : FnScope ["desk", "numbers", "open_ones", "number", "hole", "terms", "holes", "term", "places", "sees", "empty"] ["desk", "numbers"] (defScope s_fillings_of) := ⟨rfl, rfl, rfl, by decide +kernel, rfl, by decide +kernel, by decide +kernel⟩
theorem ok_fillings_of (T : Txt K mg a) : Cal P W0 K mg base (L2.CX P W0) 95 "fillings_of" ["desk", "numbers"] (spFl a) := by
  have c_read_fillings : Cal P W0 K mg base (L2N.CX P W0) 94 "read_fillings" ["numbers", "all_places"] (spRF a) := ok_read_fillings T
  have c_names_unseen : Cal P W0 K mg base CX0 30 "names_unseen" ["term", "sees", "depth"] (spUns 30) := ok_names_unseen T 30
  refine T.d_fillings_of.okX sc_fillings_of (fun vs H Q E h => ?_) (fun f cdv A outer sh0 H vs Q E hr h => ?_)
  · obtain ⟨dk, dx, ln, s, r, rfl, _⟩ := h
    rfl
  obtain ⟨dk, dx, ln, s, r, rfl, ⟨lh, lw, lm, hdk, ⟨vh, hlh, hph⟩, hw, hmk⟩, hln, hok, qE, qB, q⟩ := h
  have tkd : L2.Takes (cxOf (L2.CX P W0) P W0 K mg base ["desk", "numbers", "open_ones", "number", "hole", "terms", "holes", "term", "places", "sees", "empty"] "fillings_of" (defScope s_fillings_of) f cdv A outer sh0 H E) (fun cls d _ H => E cls d H) := L2.takes_of rfl rfl rfl rfl
  refine ⟨_, (pss_cons (ps_setLc (i := 2) (own := [("number", 3), ("hole", 4)])  rfl sc_fillings_of.nd rfl rfl (sw_true rfl rfl rfl (by decide +kernel)) (pi_enum rfl T.b_enumerate (pa_cons (pe_fld (pv 0) rfl) pa_nil)) (blkOk_by (own := [("number", 3), ("hole", 4)]) (N := ["desk", "numbers", "open_ones", "number", "hole", "terms", "holes", "term", "places", "sees", "empty"]) (sc := defScope s_fillings_of) (by decide +kernel)) (fun _ _ _ _ _ => (by exact pg_tupK K 2 rfl (pgs_cons (pg_name (i := 3) sc_fillings_of.nd rfl (Or.inl rfl)) (pgs_cons (pg_name (i := 4) sc_fillings_of.nd rfl (Or.inl rfl)) pgs_nil)))) (fun _ _ _ _ _ => pts_one (pt_cmpR op_isN (pe_ix (ix_tupK K) (pv 4) pe_int (fun _ _ => rfl)) pe_non (nomark _))) (fun _ _ _ _ _ => (pv 3)))
      (pss_cons (L2H.ps_try_onlyX rfl rfl (c := .ref a.nr) ⟨rfl, by decide, .inl T.nr.g⟩ (L2H.passesAt_of rfl) tkd
        (fun W pn xe tk tk2 po => pss_one (ps_set (i := 5) sc_fillings_of.nd rfl (Or.inl rfl) (pe_callSC c_read_fillings (hr.mono (by omega)) rfl (fun σ => L2N.passAt tk σ) (by exact (pa_cons (pv 1) (pa_cons (pe_lc (own := [("number", 3)]) rfl sc_fillings_of.nd (by exact (pi_listK K (pv 2))) (blkOk_by (own := [("number", 3)]) (N := ["desk", "numbers", "open_ones", "number", "hole", "terms", "holes", "term", "places", "sees", "empty"]) (sc := defScope s_fillings_of) (by decide +kernel)) (fun _ _ _ _ _ => (pg_name (i := 3) sc_fillings_of.nd rfl (Or.inl rfl))) (fun _ _ _ _ _ => pts_nil)
          (fun _ _ _ _ _ => (pe_ix (ix_tupK K) (pe_ix (ix_listK K) (pe_fldK K (pv 0) rfl) (pv 3) (fun _ _ => rfl)) pe_int (fun _ _ => rfl)))) pa_nil))))))
        (fun ad oe cls d pn hz hf tkS hot => pss_one (ps_refuseH T.rf (ok_Refused T) hot tkS (L2H.roomH_mark (hr.mono (by omega)) _) rfl (pa_cons (pe_lst (pa_cons (pe_k T.k_NOT_RIGHT) pa_nil)) pa_nil))))
      (pss_cons (ps_set (i := 6) sc_fillings_of.nd rfl (Or.inl rfl) (pe_callTy call_list_of rfl T.b_list (by decide +kernel) (pa_cons (pe_fld (pv 0) rfl) pa_nil)))
      (pss_cons (ps_for (L2.passes_of rfl) rfl (pi_zip rfl T.b_zip (pa_cons (pv 2) (pa_cons (pv 5) pa_nil))) (pg_tup rfl (pgs_cons (pg_name (i := 3) sc_fillings_of.nd rfl (Or.inl rfl)) (pgs_cons (pg_name (i := 7) sc_fillings_of.nd rfl (Or.inl rfl)) pgs_nil))) (pss_cons (ps_asg (pe_ix ix_list (pv 6) (pv 3) (fun _ _ => rfl)) (pg_tup rfl (pgs_cons (pg_name (i := 8) sc_fillings_of.nd rfl (Or.inl rfl)) (pgs_cons (pg_name (i := 9) sc_fillings_of.nd rfl (Or.inl rfl)) (pgs_cons (pg_name (i := 10) sc_fillings_of.nd rfl (Or.inl rfl)) pgs_nil)))))
      (pss_cons (ps_if (pt_val (pe_callC c_names_unseen (hr.mono (by omega)) rfl pass0 (pa_cons (pv 7) (pa_cons (pv 9) (pa_cons pe_int pa_nil))))) (pss_one (ps_refuse T.rf (ok_Refused T) rfl tkd (hr.mono (by omega)) rfl (pa_cons (pe_lst (pa_cons (pe_k T.k_UNSEEN) (pa_cons (pv 3) pa_nil))) pa_nil))) pss_nil)
      (pss_one (ps_asg (pe_tup (pa_cons (pv 8) (pa_cons (pv 9) (pa_cons (pv 7) pa_nil)))) (pg_sub (pv 6) (pv 3) set_list))))))
      (pss_one (ps_ret (pv 6))))))), ?_⟩
  have hvl := hph.length
  have hlen := hok.len
  -- the open ones
  refine ⟨_, rfl, dk, _, dx, _, _, rfl, hdk, T.dk.c, T.dk.n "holes" (by simp), dk_holes, lh, vh, rfl, SqL.of hlh, fun D nD => ?_⟩
  refine lc_it (walk_enum (xs := vh)) (fun i H' => Same H H' ∧ H' D = some (.lst (vns ((List.range i).filter (isOpen s.holes))))) ⟨same_new nD _, upd_same⟩ (fun i H' _ h => SqL.of (h.1 _ _ hlh)) ?_ ?_
  · rintro i x H1 H2 hi ⟨sH, hD⟩ ⟨Tt, u1, u2, rfl, nT, rfl, e1, hx⟩
    cases e1
    obtain ⟨xh, exh, bh, sh, bv, rfl, g1, g2, g3⟩ := p2_get hph hx
    have sT := same_new nT (.tup [vn i, .ref bh])
    have sA := sH.trans sT
    have hlf : ((List.range i).filter (isOpen s.holes)).length ≤ i := by
      have := List.length_filter_le (isOpen s.holes) (List.range i)
      rw [List.length_range] at this
      exact this
    refine ⟨Tt, _, rfl, SqT.of upd_same, rfl, _, _, rfl, _, _, rfl, rfl, rfl, _, rfl, bh, _, _, _, rfl, rfl, SqT.of (sA _ _ g1), rfl, rfl, _, rfl, ?_⟩
    cases eb : xh.body with
    | none =>
      rw [eb] at g3
      have g3' : bv = .non := g3
      subst g3'
      have ho : isOpen s.holes i = true := by unfold isOpen; rw [exh]; simp [eb]
      refine if_t rfl ?_
      refine ⟨_, rfl, _, sT _ _ hD, ?_, same_upd nD sA, ?_⟩
      · rw [List.length_map]
        exact lt_line (by omega)
      · rw [upd_same, List.range_succ, List.filter_append]
        show some (HO.lst (vns _ ++ [vn i])) = some (HO.lst ((_ ++ List.filter _ [i]).map vn))
        rw [List.map_append]
        simp [ho]
    | some bt =>
      rw [eb] at g3
      have g3' : TermAt H bv bt := g3
      obtain ⟨ab, pb, vsb, rfl, _⟩ := g3'.open
      have ho : isOpen s.holes i = false := by unfold isOpen; rw [exh]; simp [eb]
      refine if_f rfl ⟨sA, ?_⟩
      rw [sT _ _ hD, List.range_succ, List.filter_append]
      simp [ho]
  rintro H1 ⟨s1, hD⟩
  rw [hvl] at hD
  have hD' : H1 D = some (.lst (vns (opens s.holes))) := hD
  have hol : (opens s.holes).length ≤ 24 := by
    have := List.length_filter_le (isOpen s.holes) (List.range s.holes.length)
    rw [List.length_range] at this
    exact Nat.le_trans this hlen
  -- their places
  refine ⟨_, rfl, _, rfl, D, rfl, ⟨_, SqL.of hD'⟩, fun D2 nD2 => ?_⟩
  refine lc_list (K := K) (a := D) (xs := vns (opens s.holes)) (fun j H' => Same H1 H' ∧ H' D2 = some (.lst (vns ((opsOf s.holes).take j)))) ⟨same_new nD2 _, upd_same⟩ (fun j H' _ h => SqL.of (h.1 _ _ hD')) ?_ ?_
  · rintro j x H2 hx ⟨sH, hD2⟩
    obtain ⟨h, eh, rfl⟩ := vns_get hx
    have hm := List.mem_filter.mp (List.mem_of_getElem? eh)
    obtain ⟨xh, exh⟩ : ∃ x, s.holes[h]? = some x := ⟨_, List.getElem?_eq_getElem (List.mem_range.mp hm.1)⟩
    obtain ⟨hv, ehv, bh, sh, bv, rfl, g1, g2, g3⟩ := p2_at hph exh
    have sA := s1.trans sH
    have e5 : (opsOf s.holes)[j]? = some xh.many := by
      rw [opsOf_eq, List.getElem?_map, eh]
      show some (match s.holes[h]? with | some x => x.many | none => 0) = _
      rw [exh]
    refine ⟨rfl, _, rfl, dk, _, dx, _, _, rfl, sA _ _ hdk, T.dk.c, T.dk.n "holes" (by simp), dk_holes, _, rfl, lh, vh, _, _, rfl, rfl, SqL.of (sA _ _ hlh), atI_nat ehv, bh, _, _, _, rfl, rfl, SqT.of (sA _ _ g1), rfl, _, hD2, ?_, same_upd nD2 sH, ?_⟩
    · rw [List.length_map, List.length_take, ← opens_len]
      exact lt_line (by omega)
    · rw [upd_same, take_more e5]
      show _ = some (HO.lst ((_ ++ [xh.many]).map vn))
      rw [List.map_append]
      rfl
  rintro H2 ⟨s2, hD2⟩
  have etk : (opsOf s.holes).take (vns (opens s.holes)).length = opsOf s.holes := by
    rw [List.length_map, opens_len, List.take_length]
  rw [etk] at hD2
  have s12 := s1.trans s2
  refine ⟨ln, D2, r, opsOf s.holes, rfl, s12 _ _ hln, hD2, by rw [← opens_len]; omega, fun z H3 s3 => ?_, fun ts z H3 r3 us s3 hr3 hT => ?_⟩
  · have er : Pa01.readFill s.holes r = none := by rw [readFill_fills, z]; rfl
    refine ⟨true, T.nr.e, fun _ ad na => ?_, fun z => absurd z (by decide)⟩
    exact ⟨l1le _, fun rr nr => rf_made (l := [-1]) upd_same fun H4 d s4 h4 => qE er H4 d (s12.trans (s3.trans ((same_new nr _).trans s4))) h4⟩
  have er : Pa01.readFill s.holes r = some (weave s.holes ts) := by rw [readFill_fills, z]; rfl
  have hgr := gr_weave z
  have hfor := readFills_for z
  have htl := readFor_len _ _ _ _ hfor
  have hul := hT.length
  have s13 := s12.trans s3
  have hD3 := (s2.trans s3) _ _ hD'
  refine ⟨_, rfl, dk, _, dx, _, _, rfl, s13 _ _ hdk, T.dk.c, T.dk.n "holes" (by simp), dk_holes, lh, vh, rfl, .inl (SqL.of (s13 _ _ hlh)), fun lz nlz => ?_⟩
  have s4 := same_new nlz (.lst vh)
  have hn1 : (vns (opens s.holes)).length = us.length := by rw [List.length_map, opens_len, hul, htl]
  refine ⟨_, rfl, _, rfl, D, r3, _, us, rfl, SqL.of (s4 _ _ hD3), SqL.of (s4 _ _ hr3), for_it (walk_zip (n := us.length) (xs := vns (opens s.holes)) (ys := us) (by omega)) (fun j σ H' => (∃ x1 x2 x3 x4 x5 x6, σ = [some (.ref dk), some (.ref ln), some (.ref D), x1, x2, some (.ref r3), some (.ref lz), x3, x4, x5, x6]) ∧ Same H3 H' ∧
      (∃ vz, H' lz = some (.lst vz) ∧ Paired (HoleAt H') vz (hsJ s.holes (weave s.holes ts) ((opens s.holes).take j))) ∧ ((opens s.holes).take j).find? (badAt s.holes (weave s.holes ts)) = none)
    ⟨⟨_, _, _, _, _, _, rfl⟩, s4, ⟨vh, upd_same, by rw [List.take_zero, hsJ_nil]; exact p2_imp hph fun v x q => q.tps (s13.trans s4).tps⟩, rfl⟩ (fun j σ H' _ h => ⟨SqL.of (h.2.1 _ _ hD3), SqL.of (h.2.1 _ _ hr3)⟩) ?_ ?_⟩
  · rintro j x σ H4 H5 hi ⟨⟨x1, x2, x3, x4, x5, x6, rfl⟩, sH, ⟨vz, hvz, hpz⟩, hfi⟩ ⟨Tt, u1, u2, rfl, nT, rfl, e1, hx⟩
    obtain ⟨h, eh, rfl⟩ := vns_get e1
    obtain ⟨t, et, att⟩ := hT.get hx
    have sT := same_new nT (.tup [vn h, u2])
    have hm := List.mem_filter.mp (List.mem_of_getElem? eh)
    have hhl := List.mem_range.mp hm.1
    obtain ⟨xh, exh⟩ : ∃ x, s.holes[h]? = some x := ⟨_, List.getElem?_eq_getElem hhl⟩
    have xm := List.mem_of_getElem? exh
    have ew := weave_at s.holes ts j h t eh et
    have hnot : h ∉ (opens s.holes).take j := by
      have nd : (opens s.holes).Nodup := List.Pairwise.filter _ List.nodup_range
      exact nodup_take.mp nd j h eh
    have ehj : (hsJ s.holes (weave s.holes ts) ((opens s.holes).take j))[h]? = some xh := by
      rw [hsJ_get, exh]
      show some (if h ∈ _ then _ else _) = _
      rw [if_neg hnot]
    obtain ⟨hv, ehv, bh, sh, bv, rfl, g1, g2, g3⟩ := p2_at hpz ehj
    have e5 : (opsOf s.holes)[j]? = some xh.many := by
      rw [opsOf_eq, List.getElem?_map, eh]
      show some (match s.holes[h]? with | some x => x.many | none => 0) = _
      rw [exh]
    obtain ⟨ff1, ff2⟩ := readFor_fit _ _ _ _ hfor j xh.many t e5 et
    have hsl : (seesL xh).length = xh.many := by unfold seesL; rw [List.length_map, List.length_range]
    have eok : (fun i => (seesL xh).getD i false) = fun i => xh.seen.contains i := by
      funext i
      exact sees_getD (hok.sn xh xm) i
    have ebad : badAt s.holes (weave s.holes ts) h = Pa01.badIn (fun i => (seesL xh).getD i false) 0 t := by
      unfold badAt
      rw [exh, ew, eok]
      show (!(!Pa01.badIn (fun i => xh.seen.contains i) 0 t)) = _
      rw [Bool.not_not]
    refine ⟨Tt, _, rfl, SqT.of upd_same, rfl, _, _, rfl, _, _, rfl, rfl, ?_⟩
    refine ⟨_, rfl, _, rfl, lz, vz, _, _, rfl, rfl, SqL.of (sT _ _ hvz), atI_nat ehv, ?_⟩
    refine ⟨bh, _, rfl, SqT.of (sT _ _ g1), rfl, _, _, rfl, _, _, rfl, _, _, rfl, rfl, ?_⟩
    refine ⟨_, rfl, _, rfl, u2, t, sh, seesL xh, 0, [], rfl, (att.tps sH.tps).tps sT.tps, sT _ _ g2, by rw [hsl, Nat.add_zero]; exact ff1, ff2, _, rfl, ite2 (fun c => ?_) (fun c => ?_)⟩
    · have hb : badAt s.holes (weave s.holes ts) h = true := ebad.trans c
      have hbl : Pa01.blind s.holes (weave s.holes ts) = some h := by
        rw [blind_opens]
        exact find_none_take eh hfi hb
      refine ⟨_, rfl, l2le _ _, fun rr nrr => rf_made (l := [-6, (h : Int)]) upd_same fun H6 d s6 h6 => qB _ h er hbl H6 d (s13.trans (sH.trans (sT.trans ((same_new nrr _).trans s6)))) h6⟩
    · have hb : badAt s.holes (weave s.holes ts) h = false := ebad.trans (Bool.eq_false_iff.mpr c)
      refine ⟨_, rfl, _, rfl, _, rfl, l3le _ _ _, fun p np => ?_⟩
      have sp := same_new np (.tup [vn xh.many, .ref sh, u2])
      have hvz6 := sp _ _ (sT _ _ hvz)
      have hvl2 : h < vz.length := at_lt ehv
      refine ⟨_, rfl, _, rfl, lz, vz, _, h, rfl, rfl, hvz6, ixN_at hvl2, ?_⟩
      have nlz3 : H3 lz = none := nlz
      refine ⟨⟨_, _, _, _, _, _, rfl⟩, same_upd nlz3 (sH.trans (sT.trans sp)), ⟨vz.set h (.ref p), upd_same, ?_⟩, find_none_more eh hfi hb⟩
      rw [take_more eh, hsJ_more exh]
      have ef : fillAt (weave s.holes ts) h xh = { xh with body := some t } := by
        unfold fillAt
        rw [ew]
      rw [ef]
      have tl : Tps (upd (upd H4 Tt (.tup [vn h, u2])) p (.tup [vn xh.many, .ref sh, u2])) (upd (upd (upd H4 Tt (.tup [vn h, u2])) p (.tup [vn xh.many, .ref sh, u2])) lz (.lst (vz.set h (.ref p)))) := tps_lst hvz6
      refine p2_imp (p2_set h (p2_imp hpz fun v x q => (q.tps sT.tps).tps sp.tps) ?_) fun v x q => q.tps tl
      exact ⟨p, sh, u2, rfl, upd_same, sp _ _ (sT _ _ g2), ((att.tps sH.tps).tps sT.tps).tps sp.tps⟩
  · rintro σ H4 ⟨⟨x1, x2, x3, x4, x5, x6, rfl⟩, sH, ⟨vz, hvz, hpz⟩, hfi⟩
    have ej : (opens s.holes).take us.length = opens s.holes := by
      rw [← hn1, List.length_map, List.take_length]
    rw [ej] at hpz hfi
    rw [hsJ_end] at hpz
    have hbl : Pa01.blind s.holes (weave s.holes ts) = none := by rw [blind_opens]; exact hfi
    exact ⟨_, rfl, q _ er hbl hgr H4 lz (s13.trans sH) ⟨vz, hvz, hpz⟩⟩
end
end HH
namespace HH
open PySem PySem.Spec PyProof.Rows L2 L2Y
open Pa01 (Term Hole Eqn Out State Call)
def spD9 (a : Ad) : Sp := fun vs H Q E => ∃ (dk dx ln : Addr) (s : State) (B : Nat) (r : List Nat), vs = [.ref dk, .ref ln] ∧ DkAt a H dk dx s ∧ H ln = some (.lst (vns r)) ∧ SOK B s ∧ 12 ≤ B ∧ B + 2001 ≤ 900000 ∧ AnsP a (B + 2000) H dk dx (Pa01.step s (.fill r)) Q E
/-- the answer when all open holes are filled -/
def fillAns (hs : List Hole) (w : List Eqn) : Pa01.Ans := match Pa01.out hs (w.flatMap Eqn.terms) with
  | none => Pa01.ok (-8)
  | some _ => match Pa01.fails hs w with
    | none => Pa01.ok 1
    | some i => ⟨0, [i]⟩
def failAt (hs : List Hole) (w : List Eqn) (i : Nat) : Bool := match w[i]? with
  | some e => !Pa01.same (Pa01.full hs e.s) (Pa01.full hs e.t)
  | none => false
section
variable {P : Program} {W0 : World} {K : PySem.W.Frag} {mg : Str → Option Value} {base : Heap} {a : Ad}
theorem sc_fill : FnScope ["desk", "numbers", "holes", "budget", "found", "equation", "number", "places", "one", "other"] ["desk", "numbers"] (defScope s_fill) := ⟨rfl, rfl, rfl, by decide +kernel, rfl, by decide +kernel, by decide +kernel⟩
theorem ok_fill (T : Txt K mg a) : Cal P W0 K mg base (L2.CX P W0) 126 "fill" ["desk", "numbers"] (spD9 a) := by
  have c_fillings_of : Cal P W0 K mg base (L2.CX P W0) 95 "fillings_of" ["desk", "numbers"] (spFl a) := ok_fillings_of T
  have c_Budget : Mak P W0 K mg base 1 "Budget" a.bg ["self"] (spBgI a) := ok_Budget T
  have c_equation_written : Cal P W0 K mg base (L2N.CX P W0) 125 "equation_written" ["holes", "budget", "equation"] (spEW a) := ok_equation_written T
  refine T.d_fill.okX sc_fill (fun vs H Q E h => ?_) (fun f cdv A outer sh0 H vs Q E hr h => ?_)
  · obtain ⟨dk, dx, ln, s, B, r, rfl, _⟩ := h
    rfl
  obtain ⟨dk, dx, ln, s, B, r, rfl, hD, hln, hs, hB1, hB2, S⟩ := h
  have tkd : L2.Takes (cxOf (L2.CX P W0) P W0 K mg base ["desk", "numbers", "holes", "budget", "found", "equation", "number", "places", "one", "other"] "fill" (defScope s_fill) f cdv A outer sh0 H E) (fun cls d _ H => E cls d H) := L2.takes_of rfl rfl rfl rfl
  refine ⟨_, (pss_cons (ps_set (i := 2) sc_fill.nd rfl (Or.inr rfl) (pe_callC c_fillings_of (hr.mono (by omega)) rfl (passX tkd) (pa_cons (pv 0) (pa_cons (pv 1) pa_nil))))
      (pss_cons (ps_set (i := 3) sc_fill.nd rfl (Or.inr rfl) (pe_makeC0 c_Budget (hr.mono (by omega)) rfl))
      (pss_cons (L2H.ps_try_onlyX rfl rfl (c := .ref a.tl) ⟨rfl, by decide, .inl T.tl.g⟩ (L2H.passesAt_of rfl) tkd
        (fun W pn xe tk tk2 po => pss_one (ps_setLcX (i := 4) (E := fun σ cls d H => W cls d σ H) (own := [("equation", 5)]) rfl rfl tk (fun _ _ _ _ h => h) rfl sc_fill.nd rfl rfl (sw_true rfl rfl rfl (by decide +kernel)) (by exact (pi_listK K (pe_fldK K (pv 0) rfl))) (blkOk_by (own := [("equation", 5)]) (N := ["desk", "numbers", "holes", "budget", "found", "equation", "number", "places", "one", "other"]) (sc := defScope s_fill) (by decide +kernel)) (fun _ _ _ _ _ => (pg_name (i := 5) sc_fill.nd rfl (Or.inl rfl))) (fun _ _ _ _ _ => pts_nil)
          (fun _ _ _ _ _ _ => (by exact (pe_callC c_equation_written (hr.mono (by omega)) rfl passB (pa_cons (pv 2) (pa_cons (pv 3) (pa_cons (pv 5) pa_nil))))))))
        (fun ad oe cls d pn hz hf tkS hot => pss_one (ps_refuseH T.rf (ok_Refused T) hot tkS (L2H.roomH_mark (hr.mono (by omega)) _) rfl (pa_cons (pe_lst (pa_cons (pe_k T.k_TOO_LARGE) pa_nil)) pa_nil))))
      (pss_cons (ps_for (L2.passes_of rfl) rfl (pi_enum rfl T.b_enumerate (pa_cons (pv 4) pa_nil)) (pg_tup rfl (pgs_cons (pg_name (i := 6) sc_fill.nd rfl (Or.inl rfl)) (pgs_cons (pg_tup rfl (pgs_cons (pg_name (i := 7) sc_fill.nd rfl (Or.inl rfl)) (pgs_cons (pg_name (i := 8) sc_fill.nd rfl (Or.inl rfl)) (pgs_cons (pg_name (i := 9) sc_fill.nd rfl (Or.inl rfl)) pgs_nil)))) pgs_nil))) (pss_one (ps_if (pt_cmpR (op_neW (u200 hr)) (pv 8) (pv 9) (nomark _)) (pss_one (ps_ret (pe_lst (pa_cons pe_int (pa_cons (pv 6) pa_nil))))) pss_nil)))
      (pss_one (ps_ret (pe_lst (pa_cons pe_int pa_nil)))))))), ?_⟩
  have est : Pa01.step s (.fill r) = (s, match Pa01.readFill s.holes r with
      | none => Pa01.ok (-1)
      | some l => match Pa01.blind s.holes l with
        | some h => ⟨-6, [h]⟩
        | none => fillAns (Pa01.filled s.holes l) s.waits) := rfl
  rw [est] at S
  refine ⟨_, rfl, _, rfl, dk, dx, ln, s, r, rfl, hD, hln, hs.w.h, fun z => ?_, fun l h z zb => ?_, fun l z zb hgr H1 lf s1 hlf => ?_⟩
  · rw [z] at S
    exact S.refuse hD hs
  · rw [z] at S
    have S1 : AnsP a (B + 2000) H dk dx (s, match Pa01.blind s.holes l with
        | some h => ⟨-6, [h]⟩
        | none => fillAns (Pa01.filled s.holes l) s.waits) Q E := S
    rw [zb] at S1
    exact fun H' d s' h' => S1.no H' d s'.kp (hD.same s') (hs.mono (by omega)) h'
  rw [z] at S
  have S1 : AnsP a (B + 2000) H dk dx (s, match Pa01.blind s.holes l with
        | some h => ⟨-6, [h]⟩
        | none => fillAns (Pa01.filled s.holes l) s.waits) Q E := S
  rw [zb] at S1
  have S2 : AnsP a (B + 2000) H dk dx (s, fillAns (Pa01.filled s.holes l) s.waits) Q E := S1
  clear S S1
  have fin : ∀ (H3 : Hp) (ans : Pa01.Ans) (zs : List V), Same H H3 → fillAns (Pa01.filled s.holes l) s.waits = ans → (Pa01Neutral.out ans).map V.int = zs → ∀ rr, H3 rr = none → Q (.ref rr) (upd H3 rr (.lst zs)) := by
    intro H3 ans zs s3 ea ez rr nrr
    have sr := same_new nrr (.lst zs)
    refine S2.ok _ rr (s3.trans sr).kp (hD.same (s3.trans sr)) (hs.mono (by omega)) ?_
    rw [upd_same]
    show some (HO.lst zs) = some (HO.lst ((Pa01Neutral.out (fillAns (Pa01.filled s.holes l) s.waits)).map V.int))
    rw [ea, ez]
  have bad : Pa01.out (Pa01.filled s.holes l) (s.waits.flatMap Eqn.terms) = none → ∀ H' d, Same H H' → RefAt H' d [-8] → E (.ref a.rf) (some d) H' := by
    intro zo
    have ea : fillAns (Pa01.filled s.holes l) s.waits = Pa01.ok (-8) := by unfold fillAns; rw [zo]
    rw [ea] at S2
    exact S2.refuse hD hs
  generalize e2 : Pa01.filled s.holes l = hs2 at *
  have em : mans hs2 = mans s.holes := by rw [← e2]; exact filled_mans _ _
  have hbod2 : Bodies hs2 := by rw [← e2]; exact filled_bod hs.w.h.bod hgr
  have hsm2 : Sm hs2 := by rw [← e2]; exact filled_sm hs.w.h.sm
  have heq : ∀ e ∈ s.waits, EqOk hs2 e := fun e he => by
    have q := hs.w.eqs e he
    refine ⟨by have := q.n; omega, by rw [em]; exact q.fs, by rw [em]; exact q.ft, ?_, ?_⟩
    · rw [← e2]; exact ok2_filled hgr _ q.cs
    · rw [← e2]; exact ok2_filled hgr _ q.ct
  have hcnt := hs.w.cnt
  have outp : Pa01.out hs2 (s.waits.flatMap Eqn.terms) = if (wpay hs2 s.waits 2000).isSome then some ((s.waits.flatMap Eqn.terms).map (Pa01.full hs2)) else none := out_pays _ _
  refine fun b dxb nb ndb hne => ⟨b, dxb, rfl, upd_same, rfl, ?_⟩
  have k1 : Kp b H1 (upd (upd (upd H1 dxb (.own b)) b (.ins a.bg dxb [])) b (.ins a.bg dxb [("left", vn 2000)])) := (same_new ndb _).kp.trans (kp_upd.trans kp_upd)
  have t2 := k1.back nb
  have hb2 : BgAt a.bg (upd (upd (upd H1 dxb (.own b)) b (.ins a.bg dxb [])) b (.ins a.bg dxb [("left", vn 2000)])) b dxb 2000 := upd_same
  generalize upd (upd (upd H1 dxb (.own b)) b (.ins a.bg dxb [])) b (.ins a.bg dxb [("left", vn 2000)]) = H2 at *
  have s2 := s1.trans t2
  have hD2 := hD.same s2
  obtain ⟨lh, lw, lm, hdk, hh, ⟨vw, hlw, hpw⟩, hmk⟩ := hD2
  have hlf2 := hlf.sq t2.sq
  refine ⟨_, rfl, dk, _, dx, _, _, rfl, hdk, T.dk.c, T.dk.n "waits" (by simp), dk_waits, lw, rfl, ⟨_, SqL.of hlw⟩, fun D nD => ?_⟩
  have s0 := same_new nD (.lst [])
  have hDb : D ≠ b := fun z => by rw [z] at nD; rw [hb2] at nD; cases nD
  refine lc_list (K := K) (a := lw) (xs := vw) (fun j H' => ∃ m1 zs, wpay hs2 (s.waits.take j) 2000 = some m1 ∧ Kp b H2 H' ∧ BgAt a.bg H' b dxb m1 ∧ H' D = some (.lst zs) ∧ Paired (EqnAt H') zs ((s.waits.take j).map (fullE hs2)))
    ⟨2000, [], rfl, s0.kp, s0 _ _ hb2, upd_same, .nil⟩ (fun j H' _ ⟨_, _, _, kp, _⟩ => SqL.of ((kp.sq hb2).l _ _ hlw)) ?_ ?_
  · rintro j x H3 hx ⟨m1, zs, hp, kp, hb3, hD3, hTz⟩
    obtain ⟨e, ee, ae⟩ := p2_get hpw hx
    have sq1 := kp.sq hb2
    have hm1 := pays_le hp
    refine ⟨rfl, _, rfl, _, rfl, _, rfl, lf, b, dxb, x, hs2, e, m1, rfl, hlf2.sq sq1, hb3, ae.tps sq1.t, hbod2, hsm2, heq e (List.mem_of_getElem? ee), by omega, fun z H' k' => ?_, fun m2 z H4 v4 k4 b4 e4 => ?_⟩
    · have en : Pa01.out hs2 (s.waits.flatMap Eqn.terms) = none := by
        rw [outp, wpay_none ee hp z]
        rfl
      refine ⟨true, T.tl.e, fun _ ad na => ?_, fun z => absurd z (by decide)⟩
      exact ⟨l1le _, fun rr nr => rf_made (l := [-8]) upd_same fun H5 d s5 h5 => bad en H5 d (s1.trans (((k1.trans (kp.trans k')).back nb).trans ((same_new nr _).trans s5))) h5⟩
    have hD4 := k4 _ _ hD3 hDb
    refine ⟨zs, hD4, ?_, m2, zs ++ [v4], (wpay_more ee hp).trans z, kp_new (kp.trans k4) nD, ?_, upd_same, ?_⟩
    · have h1 := hTz.length
      rw [List.length_map, List.length_take] at h1
      exact lt_line (by omega)
    · show upd _ _ _ _ = _
      rw [upd_ne (Ne.symm hDb)]
      exact b4
    · rw [take_more ee, List.map_append]
      exact p2_imp (p2_append (p2_imp hTz fun v x q => q.tps (k4.tps hb3)) (p2_one e4)) fun v x q => q.tps (tps_lst hD4)
  rintro H3 ⟨m1, zs, hp, kp, hb3, hD3, hTz⟩
  rw [hpw.length, List.take_length] at hp hTz
  have s3 : Same H H3 := s1.trans ((k1.trans kp).back nb)
  have eo : Pa01.out hs2 (s.waits.flatMap Eqn.terms) = some ((s.waits.flatMap Eqn.terms).map (Pa01.full hs2)) := by
    rw [outp, hp]
    rfl
  obtain ⟨_, _, dd, _⟩ := out_some eo
  have eans : fillAns hs2 s.waits = match Pa01.fails hs2 s.waits with
    | none => Pa01.ok 1
    | some i => ⟨0, [i]⟩ := by unfold fillAns; rw [eo]
  have hzl : zs.length = s.waits.length := by have := hTz.length; rw [List.length_map] at this; exact this
  have efl : Pa01.fails hs2 s.waits = (List.range s.waits.length).find? (failAt hs2 s.waits) := rfl
  refine ⟨_, rfl, D, zs, rfl, SqL.of hD3, for_it (walk_enum (xs := zs)) (fun i σ H' => (∃ x0 x1 x2 x3 x4, σ = [some (.ref dk), some (.ref ln), some (.ref lf), some (.ref b), some (.ref D), x0, x1, x2, x3, x4]) ∧ Same H3 H' ∧ ((List.range s.waits.length).take i).find? (failAt hs2 s.waits) = none)
    ⟨⟨_, _, _, _, _, rfl⟩, Same.refl _, rfl⟩ (fun i σ H' _ h => SqL.of (h.2.1 _ _ hD3)) ?_ ?_⟩
  · rintro i x σ H4 H5 hi ⟨⟨x0, x1, x2, x3, x4, rfl⟩, sH, hfi⟩ ⟨Tt, u1, u2, rfl, nT, rfl, e1, hx⟩
    cases e1
    obtain ⟨g, eg, ae, v1, v2, rfl, hae, at1, at2⟩ := p2_get hTz hx
    rw [List.getElem?_map] at eg
    obtain ⟨e, ee, rfl⟩ : ∃ e, s.waits[i]? = some e ∧ fullE hs2 e = g := by
      cases q : s.waits[i]? with
      | none => rw [q] at eg; cases eg
      | some e => rw [q] at eg; exact ⟨e, rfl, Option.some.inj eg⟩
    have sT := same_new nT (.tup [vn i, .ref ae])
    have sA := sH.trans sT
    have er : (List.range s.waits.length)[i]? = some i := List.getElem?_range (at_lt ee)
    have m1' : Pa01.full hs2 e.s ∈ (s.waits.flatMap Eqn.terms).map (Pa01.full hs2) := List.mem_map.mpr ⟨e.s, List.mem_flatMap.mpr ⟨e, List.mem_of_getElem? ee, by simp [Eqn.terms]⟩, rfl⟩
    have dd1 := Nat.le_trans (deeps_le m1') dd
    refine ⟨Tt, _, rfl, SqT.of upd_same, rfl, _, _, rfl, _, _, rfl, ae, _, rfl, SqT.of (sA _ _ hae), rfl, _, _, rfl, _, _, rfl, _, _, rfl, rfl, rfl, ?_⟩
    refine ⟨_, rfl, _, rfl, toD (Pa01.full hs2 e.s), toD (Pa01.full hs2 e.t), (at1.tps sA.tps).dp, (at2.tps sA.tps).dp, toD_lay _, toD_lay _, ?_, _, rfl, ?_⟩
    · have := toD_depth (Pa01.full hs2 e.s)
      omega
    show (if (!PyData.eqv (toD (Pa01.full hs2 e.s)) (toD (Pa01.full hs2 e.t))) = true then _ else _)
    rw [toD_eqv]
    have efa : failAt hs2 s.waits i = !Pa01.same (Pa01.full hs2 e.s) (Pa01.full hs2 e.t) := by unfold failAt; rw [ee]
    refine ite2 (fun c => ?_) (fun c => ?_)
    · have hf : Pa01.fails hs2 s.waits = some i := by
        rw [efl]
        exact find_none_take er hfi (efa.trans c)
      refine ⟨_, rfl, l2le _ _, fun rr nrr => fin _ ⟨0, [i]⟩ _ (s3.trans sA) (by rw [eans, hf]) rfl rr nrr⟩
    · exact ⟨⟨_, _, _, _, _, rfl⟩, sA, find_none_more er hfi (efa.trans (Bool.eq_false_iff.mpr c))⟩
  · rintro σ H4 ⟨⟨x0, x1, x2, x3, x4, rfl⟩, sH, hfi⟩
    have et : (List.range s.waits.length).take zs.length = List.range s.waits.length := by rw [hzl]; exact List.take_of_length_le (by rw [List.length_range]; exact Nat.le_refl _)
    rw [et] at hfi
    exact ⟨l1le _, fun rr nrr => fin _ (Pa01.ok 1) _ (s3.trans sH) (by rw [eans, efl, hfi]) rfl rr nrr⟩
end
end HH
namespace HH
open Pa01
def mkCall (w : Nat) (ss r : List Nat) : Option Call :=
  if w = 0 then (match ss with | [] => some .begin | _ => none)
  else if w = 1 then (match ss with | [m] => some (.hole m) | _ => none)
  else if w = 2 then (match ss with | [n] => some (.equate n r) | _ => none)
  else if w = 3 then (match ss with | [n] => some (.full n r) | _ => none)
  else if w = 4 then (match ss with | [n] => some (.same n r) | _ => none)
  else if w = 5 then (match ss with | [h] => some (.look h) | _ => none)
  else if w = 6 then (match ss with | [i] => some (.wait i) | _ => none)
  else if w = 7 then (match ss with | [] => some .mark | _ => none)
  else if w = 8 then (match ss with | [] => some .back | _ => none)
  else if w = 9 then (match ss with | [] => some (.fill r) | _ => none)
  else none
def numsL : List Int := [0, 1, 1, 1, 1, 1, 1, 0, 0, 0]
def rowsL : List Int := [0, 0, 1, 1, 1, 0, 0, 0, 0, 1]
abbrev ofN (l : List Nat) : List Int := l.map fun n : Nat => (n : Int)
theorem ofN_toNat : ∀ {l : List Int}, l.all Pa01Neutral.nat = true → ofN (l.map Int.toNat) = l
  | [], _ => rfl
  | a :: l, h => by
    simp only [List.all_cons, Bool.and_eq_true] at h
    have ha : 0 ≤ a := by
      have := h.1
      unfold Pa01Neutral.nat at this
      exact of_decide_eq_true (Bool.and_eq_true_iff.mp this).1
    show ((a.toNat : Nat) : Int) :: ofN (l.map Int.toNat) = a :: l
    rw [ofN_toNat h.2, Int.toNat_of_nonneg ha]
/-- what one call's numbers say -/
structure Parsed (l : List Int) (i : Nat) (raws : List (List (List Int))) (w n k : Nat) (ss rr : List Nat) (c : Call) (c0 : List (List Int)) (cs : List (List (List Int))) (f' e : Nat) : Prop where
  p_raws : raws = c0 :: cs
  p_call : Pa01Neutral.callOf ((PyPa01.whole c0).headD []) = some c
  p_mkc : mkCall w ss rr = some c
  p_w : l[i]? = some (w : Int)
  p_w9 : w ≤ 9
  p_n : numsL[w]? = some (n : Int)
  p_k : rowsL[w]? = some (k : Int)
  p_k1 : k ≤ 1
  p_len : i + 1 + n ≤ l.length
  p_ss : (l.drop (i + 1)).take n = ofN ss
  p_r0 : k = 0 → rr = [] ∧ e = i + 1 + n
  p_r1 : k = 1 → l[i + 1 + n]? = some (rr.length : Int) ∧ (l.drop (i + 1 + n + 1)).take rr.length = ofN rr ∧ e = i + 1 + n + 1 + rr.length
  p_e : e ≤ l.length
  p_rest : PyFlat.calls PyPa01.shape f' (l.drop e) = some cs
theorem shape_cases {p : Int} {n k : Nat} (h : PyPa01.shape p = some (n, k)) : ∃ w : Nat, p = (w : Int) ∧ w ≤ 9 ∧ numsL[w]? = some (n : Int) ∧ rowsL[w]? = some (k : Int) ∧ k ≤ 1 ∧ n ≤ 1 := by
  unfold PyPa01.shape at h
  repeat' split at h
  all_goals first
    | cases h; done
    | (rename_i hp; cases h; subst hp; first
        | exact ⟨0, rfl, by decide, rfl, rfl, by decide, by decide⟩
        | exact ⟨1, rfl, by decide, rfl, rfl, by decide, by decide⟩
        | exact ⟨2, rfl, by decide, rfl, rfl, by decide, by decide⟩
        | exact ⟨3, rfl, by decide, rfl, rfl, by decide, by decide⟩
        | exact ⟨4, rfl, by decide, rfl, rfl, by decide, by decide⟩
        | exact ⟨5, rfl, by decide, rfl, rfl, by decide, by decide⟩
        | exact ⟨6, rfl, by decide, rfl, rfl, by decide, by decide⟩
        | exact ⟨7, rfl, by decide, rfl, rfl, by decide, by decide⟩
        | exact ⟨8, rfl, by decide, rfl, rfl, by decide, by decide⟩
        | exact ⟨9, rfl, by decide, rfl, rfl, by decide, by decide⟩)
/-- the numbers of a call, all nat -/
theorem callOf_some {l : List Int} {c : Call} (h : Pa01Neutral.callOf l = some c) : l.all Pa01Neutral.nat = true ∧ Pa01Neutral.callIn (l.map Int.toNat) = some c := by
  unfold Pa01Neutral.callOf at h
  split at h
  · cases h
  · rename_i hn
    exact ⟨by simpa using hn, h⟩
/-- by its place, its numbers and its row -/
theorem mk_of (w : Nat) (xs : List Int) (row : List (List Int)) (c : Call) (hw : w ≤ 9) (hn : numsL[w]? = some (xs.length : Int)) (hk : rowsL[w]? = some (row.length : Int)) (h : Pa01Neutral.callOf ((PyPa01.whole ((((w : Nat) : Int) :: xs) :: row)).headD []) = some c) :
    ∃ ss rr : List Nat, xs = ofN ss ∧ row = (if row.length = 0 then [] else [ofN rr]) ∧ (row.length = 0 → rr = []) ∧ mkCall w ss rr = some c := by
  have hc : w = 0 ∨ w = 1 ∨ w = 2 ∨ w = 3 ∨ w = 4 ∨ w = 5 ∨ w = 6 ∨ w = 7 ∨ w = 8 ∨ w = 9 := by omega
  rcases hc with rfl | rfl | rfl | rfl | rfl | rfl | rfl | rfl | rfl | rfl
  · -- 0
    obtain rfl : xs = [] := List.length_eq_zero_iff.mp (by have : ((0 : Int)) = (xs.length : Int) := Option.some.inj hn; omega)
    obtain rfl : row = [] := List.length_eq_zero_iff.mp (by have : ((0 : Int)) = (row.length : Int) := Option.some.inj hk; omega)
    have h' : Pa01Neutral.callOf [(0 : Int)] = some c := h
    obtain ⟨h1, h2⟩ := callOf_some h'
    have h4 : some Call.begin = some c := h2
    exact ⟨[], [], rfl, rfl, fun _ => rfl, h4⟩
  · -- 1
    obtain ⟨x0, rfl⟩ : ∃ x0, xs = [x0] := List.length_eq_one_iff.mp (by have : ((1 : Int)) = (xs.length : Int) := Option.some.inj hn; omega)
    obtain rfl : row = [] := List.length_eq_zero_iff.mp (by have : ((0 : Int)) = (row.length : Int) := Option.some.inj hk; omega)
    have h' : Pa01Neutral.callOf [(1 : Int), x0] = some c := h
    obtain ⟨h1, h2⟩ := callOf_some h'
    have h3 := ofN_toNat h1
    have h4 : some (Call.hole x0.toNat) = some c := h2
    refine ⟨[x0.toNat], [], ?_, rfl, fun _ => rfl, h4⟩
    exact (List.cons.inj h3).2.symm
  · -- 2
    obtain ⟨x0, rfl⟩ : ∃ x0, xs = [x0] := List.length_eq_one_iff.mp (by have : ((1 : Int)) = (xs.length : Int) := Option.some.inj hn; omega)
    obtain ⟨r0, rfl⟩ : ∃ r0, row = [r0] := List.length_eq_one_iff.mp (by have : ((1 : Int)) = (row.length : Int) := Option.some.inj hk; omega)
    have h' : Pa01Neutral.callOf ((2 : Int) :: x0 :: r0) = some c := h
    obtain ⟨h1, h2⟩ := callOf_some h'
    have h3 := ofN_toNat h1
    have h4 : (if (r0.map Int.toNat).length ≤ 400 then some (Call.equate x0.toNat (r0.map Int.toNat)) else none) = some c := h2
    split at h4
    · have h5 := (List.cons.inj (List.cons.inj h3).2)
      refine ⟨[x0.toNat], r0.map Int.toNat, ?_, ?_, fun z => absurd z (by simp), h4⟩
      · show [x0] = [((x0.toNat : Nat) : Int)]
        rw [show ((x0.toNat : Nat) : Int) = x0 from h5.1]
      · show [r0] = [ofN (r0.map Int.toNat)]
        rw [show ofN (r0.map Int.toNat) = r0 from h5.2]
    · cases h4
  · -- 3
    obtain ⟨x0, rfl⟩ : ∃ x0, xs = [x0] := List.length_eq_one_iff.mp (by have : ((1 : Int)) = (xs.length : Int) := Option.some.inj hn; omega)
    obtain ⟨r0, rfl⟩ : ∃ r0, row = [r0] := List.length_eq_one_iff.mp (by have : ((1 : Int)) = (row.length : Int) := Option.some.inj hk; omega)
    have h' : Pa01Neutral.callOf ((3 : Int) :: x0 :: r0) = some c := h
    obtain ⟨h1, h2⟩ := callOf_some h'
    have h3 := ofN_toNat h1
    have h4 : (if (r0.map Int.toNat).length ≤ 400 then some (Call.full x0.toNat (r0.map Int.toNat)) else none) = some c := h2
    split at h4
    · have h5 := (List.cons.inj (List.cons.inj h3).2)
      refine ⟨[x0.toNat], r0.map Int.toNat, ?_, ?_, fun z => absurd z (by simp), h4⟩
      · show [x0] = [((x0.toNat : Nat) : Int)]
        rw [show ((x0.toNat : Nat) : Int) = x0 from h5.1]
      · show [r0] = [ofN (r0.map Int.toNat)]
        rw [show ofN (r0.map Int.toNat) = r0 from h5.2]
    · cases h4
  · -- 4
    obtain ⟨x0, rfl⟩ : ∃ x0, xs = [x0] := List.length_eq_one_iff.mp (by have : ((1 : Int)) = (xs.length : Int) := Option.some.inj hn; omega)
    obtain ⟨r0, rfl⟩ : ∃ r0, row = [r0] := List.length_eq_one_iff.mp (by have : ((1 : Int)) = (row.length : Int) := Option.some.inj hk; omega)
    have h' : Pa01Neutral.callOf ((4 : Int) :: x0 :: r0) = some c := h
    obtain ⟨h1, h2⟩ := callOf_some h'
    have h3 := ofN_toNat h1
    have h4 : (if (r0.map Int.toNat).length ≤ 400 then some (Call.same x0.toNat (r0.map Int.toNat)) else none) = some c := h2
    split at h4
    · have h5 := (List.cons.inj (List.cons.inj h3).2)
      refine ⟨[x0.toNat], r0.map Int.toNat, ?_, ?_, fun z => absurd z (by simp), h4⟩
      · show [x0] = [((x0.toNat : Nat) : Int)]
        rw [show ((x0.toNat : Nat) : Int) = x0 from h5.1]
      · show [r0] = [ofN (r0.map Int.toNat)]
        rw [show ofN (r0.map Int.toNat) = r0 from h5.2]
    · cases h4
  · -- 5
    obtain ⟨x0, rfl⟩ : ∃ x0, xs = [x0] := List.length_eq_one_iff.mp (by have : ((1 : Int)) = (xs.length : Int) := Option.some.inj hn; omega)
    obtain rfl : row = [] := List.length_eq_zero_iff.mp (by have : ((0 : Int)) = (row.length : Int) := Option.some.inj hk; omega)
    have h' : Pa01Neutral.callOf [(5 : Int), x0] = some c := h
    obtain ⟨h1, h2⟩ := callOf_some h'
    have h3 := ofN_toNat h1
    have h4 : some (Call.look x0.toNat) = some c := h2
    refine ⟨[x0.toNat], [], ?_, rfl, fun _ => rfl, h4⟩
    exact (List.cons.inj h3).2.symm
  · -- 6
    obtain ⟨x0, rfl⟩ : ∃ x0, xs = [x0] := List.length_eq_one_iff.mp (by have : ((1 : Int)) = (xs.length : Int) := Option.some.inj hn; omega)
    obtain rfl : row = [] := List.length_eq_zero_iff.mp (by have : ((0 : Int)) = (row.length : Int) := Option.some.inj hk; omega)
    have h' : Pa01Neutral.callOf [(6 : Int), x0] = some c := h
    obtain ⟨h1, h2⟩ := callOf_some h'
    have h3 := ofN_toNat h1
    have h4 : some (Call.wait x0.toNat) = some c := h2
    refine ⟨[x0.toNat], [], ?_, rfl, fun _ => rfl, h4⟩
    exact (List.cons.inj h3).2.symm
  · -- 7
    obtain rfl : xs = [] := List.length_eq_zero_iff.mp (by have : ((0 : Int)) = (xs.length : Int) := Option.some.inj hn; omega)
    obtain rfl : row = [] := List.length_eq_zero_iff.mp (by have : ((0 : Int)) = (row.length : Int) := Option.some.inj hk; omega)
    have h' : Pa01Neutral.callOf [(7 : Int)] = some c := h
    obtain ⟨h1, h2⟩ := callOf_some h'
    have h4 : some Call.mark = some c := h2
    exact ⟨[], [], rfl, rfl, fun _ => rfl, h4⟩
  · -- 8
    obtain rfl : xs = [] := List.length_eq_zero_iff.mp (by have : ((0 : Int)) = (xs.length : Int) := Option.some.inj hn; omega)
    obtain rfl : row = [] := List.length_eq_zero_iff.mp (by have : ((0 : Int)) = (row.length : Int) := Option.some.inj hk; omega)
    have h' : Pa01Neutral.callOf [(8 : Int)] = some c := h
    obtain ⟨h1, h2⟩ := callOf_some h'
    have h4 : some Call.back = some c := h2
    exact ⟨[], [], rfl, rfl, fun _ => rfl, h4⟩
  · -- 9
    obtain rfl : xs = [] := List.length_eq_zero_iff.mp (by have : ((0 : Int)) = (xs.length : Int) := Option.some.inj hn; omega)
    obtain ⟨r0, rfl⟩ : ∃ r0, row = [r0] := List.length_eq_one_iff.mp (by have : ((1 : Int)) = (row.length : Int) := Option.some.inj hk; omega)
    have h' : Pa01Neutral.callOf ((9 : Int) :: r0) = some c := h
    obtain ⟨h1, h2⟩ := callOf_some h'
    have h3 := ofN_toNat h1
    have h4 : (if (r0.map Int.toNat).length ≤ 400 then some (Call.fill (r0.map Int.toNat)) else none) = some c := h2
    split at h4
    · have h5 := (List.cons.inj h3).2
      refine ⟨[], r0.map Int.toNat, rfl, ?_, fun z => absurd z (by simp), h4⟩
      show [r0] = [ofN (r0.map Int.toNat)]
      rw [show ofN (r0.map Int.toNat) = r0 from h5]
    · cases h4
theorem parse {l : List Int} {i f : Nat} {raws : List (List (List Int))} (hi : i < l.length) (h : PyFlat.calls PyPa01.shape f (l.drop i) = some raws) (ha : ∀ c ∈ raws, (Pa01Neutral.callOf ((PyPa01.whole c).headD [])).isSome = true) :
    ∃ (w n k : Nat) (ss rr : List Nat) (c : Call) (c0 : List (List Int)) (cs : List (List (List Int))) (f' e : Nat), Parsed l i raws w n k ss rr c c0 cs f' e := by
  have ed : l.drop i = l[i] :: l.drop (i + 1) := List.drop_eq_getElem_cons hi
  rw [ed] at h
  cases f with
  | zero => simp only [PyFlat.calls] at h; cases h
  | succ f =>
  simp only [PyFlat.calls, PyFlat.call] at h
  cases es : PyPa01.shape l[i] with
  | none => rw [es] at h; cases h
  | some nk =>
  obtain ⟨n, k⟩ := nk
  rw [es] at h
  obtain ⟨w, ew, w9, en, ek, k1, n1⟩ := shape_cases es
  by_cases hlen : (l.drop (i + 1)).length < n
  · simp only [hlen, if_true] at h
    cases h
  simp only [hlen, if_false, List.drop_drop] at h
  rw [List.length_drop] at hlen
  cases er : PyFlat.rows k (l.drop (i + 1 + n)) with
  | none => rw [er] at h; cases h
  | some xt =>
  obtain ⟨xs, t⟩ := xt
  rw [er] at h
  cases ec : PyFlat.calls PyPa01.shape f t with
  | none => simp only [ec] at h; cases h
  | some cs =>
  simp only [ec] at h
  have eraw : raws = ((l[i] :: (l.drop (i + 1)).take n) :: xs) :: cs := (Option.some.inj h).symm
  have hc0 := ha ((l[i] :: (l.drop (i + 1)).take n) :: xs) (by rw [eraw]; exact List.mem_cons_self)
  obtain ⟨c, hc⟩ := Option.isSome_iff_exists.mp hc0
  have hxl : ((l.drop (i + 1)).take n).length = n := by rw [List.length_take, List.length_drop]; omega
  have hrl : xs.length = k := by
    rcases Nat.lt_or_ge k 1 with hk | hk
    · obtain rfl : k = 0 := by omega
      simp only [PyFlat.rows] at er
      cases er
      rfl
    · obtain rfl : k = 1 := by omega
      simp only [PyFlat.rows] at er
      cases e1 : PyFlat.row (l.drop (i + 1 + n)) with
      | none => rw [e1] at er; cases er
      | some y => rw [e1] at er; cases er; rfl
  rw [ew] at hc
  obtain ⟨ss, rr, e1, e2, e3, e4⟩ := mk_of w _ xs c w9 (by rw [hxl]; exact en) (by rw [hrl]; exact ek) hc
  have hwi : l[i]? = some (w : Int) := by rw [List.getElem?_eq_getElem hi, ew]
  rcases Nat.lt_or_ge k 1 with hk | hk
  · obtain rfl : k = 0 := by omega
    simp only [PyFlat.rows] at er
    cases er
    exact ⟨w, n, 0, ss, rr, c, _, cs, f, i + 1 + n, ⟨eraw, by rw [ew]; exact hc, e4, hwi, w9, en, ek, k1, by omega, e1, fun _ => ⟨e3 rfl, rfl⟩, fun z => absurd z (by decide), by omega, ec⟩⟩
  · obtain rfl : k = 1 := by omega
    simp only [PyFlat.rows] at er
    cases e5 : PyFlat.row (l.drop (i + 1 + n)) with
    | none => rw [e5] at er; cases er
    | some y =>
    obtain ⟨y1, y2⟩ := y
    rw [e5] at er
    cases er
    have ey : y1 = ofN rr := by
      have : [y1] = [ofN rr] := e2
      exact (List.cons.inj this).1
    have hl : i + 1 + n < l.length := by
      rcases Nat.lt_or_ge (i + 1 + n) l.length with hl | hl
      · exact hl
      · rw [List.drop_eq_nil_of_le hl] at e5
        cases e5
    rw [List.drop_eq_getElem_cons hl] at e5
    simp only [PyFlat.row] at e5
    split at e5
    · rename_i hm
      have e6 := Option.some.inj e5
      have e7 : (l.drop (i + 1 + n + 1)).take l[i + 1 + n].toNat = y1 := congrArg Prod.fst e6
      have e8 : (l.drop (i + 1 + n + 1)).drop l[i + 1 + n].toNat = t := congrArg Prod.snd e6
      have e9 : l[i + 1 + n].toNat = rr.length := by
        have := congrArg List.length e7
        rw [ey, List.length_map, List.length_take, Nat.min_eq_left hm.2] at this
        exact this
      have hm2 := hm.2
      rw [List.length_drop] at hm2
      rw [e9] at e7 e8
      refine ⟨w, n, 1, ss, rr, c, _, cs, f, i + 1 + n + 1 + rr.length, ⟨eraw, by rw [ew]; exact hc, e4, hwi, w9, en, ek, k1, by omega, e1, fun z => absurd z (by decide), fun _ => ⟨?_, by rw [e7]; exact ey, rfl⟩, by omega, ?_⟩⟩
      · rw [List.getElem?_eq_getElem hl, ← e9, Int.toNat_of_nonneg hm.1]
      · rw [List.drop_drop] at e8
        rw [e8]
        exact ec
    · cases e5
end HH
namespace HH
open PySem PySem.Spec PyProof.Rows L2 L2Y
open Pa01 (Term Hole Eqn Out State Call)
def spTold (a : Ad) (C : Nat → Prop) : Sp := fun vs H Q E => ∃ (dk dx ls lr : Addr) (w : Nat) (ss r : List Nat) (c : Call) (s : State) (B : Nat), vs = [.ref dk, vn w, .ref ls, .ref lr] ∧ C w ∧ DkAt a H dk dx s ∧ H ls = some (.lst (vns ss)) ∧ H lr = some (.lst (vns r)) ∧ mkCall w ss r = some c ∧ SOK B s ∧ 12 ≤ B ∧ B + 2001 ≤ 900000 ∧ AnsP a (B + 2000) H dk dx (Pa01.step s c) Q E
theorem mkCall_le {w : Nat} {ss r : List Nat} {c : Call} (h : mkCall w ss r = some c) : w ≤ 9 := by
  unfold mkCall at h
  rcases Nat.lt_or_ge 9 w with hw | hw
  · rw [if_neg (by omega), if_neg (by omega), if_neg (by omega), if_neg (by omega), if_neg (by omega), if_neg (by omega), if_neg (by omega), if_neg (by omega), if_neg (by omega), if_neg (by omega)] at h
    cases h
  · exact hw
section
variable {P : Program} {W0 : World} {K : PySem.W.Frag} {mg : Str → Option Value} {base : Heap} {a : Ad}
theorem sc_told_of_terms : FnScope ["desk", "which", "some", "row"] ["desk", "which", "some", "row"] (defScope s_told_of_terms) := ⟨rfl, rfl, rfl, by decide +kernel, rfl, by decide +kernel, by decide +kernel⟩
theorem ok_told_of_terms (T : Txt K mg a) : Cal P W0 K mg base (L2.CX P W0) 133 "told_of_terms" ["desk", "which", "some", "row"] (spTold a fun w => w = 2 ∨ w = 3 ∨ w = 4 ∨ w = 9) := by
  have c_equate : Cal P W0 K mg base (L2.CX P W0) 132 "equate" ["desk", "places", "numbers"] (spD2 a Call.equate) := ok_equate T
  have c_full : Cal P W0 K mg base (L2.CX P W0) 126 "full" ["desk", "places", "numbers"] (spD2 a Call.full) := ok_full T
  have c_compared : Cal P W0 K mg base (L2.CX P W0) 126 "compared" ["desk", "places", "numbers"] (spD2 a Call.same) := ok_compared T
  have c_fill : Cal P W0 K mg base (L2.CX P W0) 126 "fill" ["desk", "numbers"] (spD9 a) := ok_fill T
  refine T.d_told_of_terms.okX sc_told_of_terms (fun vs H Q E h => ?_) (fun f cdv A outer sh0 H vs Q E hr h => ?_)
  · obtain ⟨dk, dx, ls, lr, w, ss, r, c, s, B, rfl, _⟩ := h
    rfl
  obtain ⟨dk, dx, ls, lr, w, ss, r, c, s, B, rfl, hC, hD, hls, hlr, hc, hs, hB1, hB2, S⟩ := h
  have tkd : L2.Takes (cxOf (L2.CX P W0) P W0 K mg base ["desk", "which", "some", "row"] "told_of_terms" (defScope s_told_of_terms) f cdv A outer sh0 H E) (fun cls d _ H => E cls d H) := L2.takes_of rfl rfl rfl rfl
  refine ⟨_, (pss_cons (ps_if (pt_cmpR op_eq (pv 1) pe_int (nomark _)) (pss_one (ps_ret (pe_callC c_equate (hr.mono (by omega)) rfl (passX tkd) (pa_cons (pv 0) (pa_cons (pe_ix ix_list (pv 2) pe_int (fun _ _ => rfl)) (pa_cons (pv 3) pa_nil)))))) pss_nil)
      (pss_cons (ps_if (pt_cmpR op_eq (pv 1) pe_int (nomark _)) (pss_one (ps_ret (pe_callC c_full (hr.mono (by omega)) rfl (passX tkd) (pa_cons (pv 0) (pa_cons (pe_ix ix_list (pv 2) pe_int (fun _ _ => rfl)) (pa_cons (pv 3) pa_nil)))))) pss_nil)
      (pss_cons (ps_if (pt_cmpR op_eq (pv 1) pe_int (nomark _)) (pss_one (ps_ret (pe_callC c_compared (hr.mono (by omega)) rfl (passX tkd) (pa_cons (pv 0) (pa_cons (pe_ix ix_list (pv 2) pe_int (fun _ _ => rfl)) (pa_cons (pv 3) pa_nil)))))) pss_nil)
      (pss_one (ps_ret (pe_callC c_fill (hr.mono (by omega)) rfl (passX tkd) (pa_cons (pv 0) (pa_cons (pv 3) pa_nil)))))))), ?_⟩
  refine ⟨_, rfl, rfl, _, rfl, ite2 (fun c2 => ?_) (fun c2 => ?_)⟩
  · have c' := litT c2
    obtain rfl : w = 2 := by omega
    obtain ⟨n, rfl, rfl⟩ : ∃ n, ss = [n] ∧ c = Call.equate n r := by
      cases ss with
      | nil => cases hc
      | cons n l =>
        cases l with
        | nil => exact ⟨n, rfl, (Option.some.inj hc).symm⟩
        | cons _ _ => cases hc
    exact ⟨_, rfl, _, rfl, ls, _, _, _, rfl, rfl, SqL.of hls, atI_nat (j := 0) List.getElem?_cons_zero, _, rfl, dk, dx, lr, s, B, n, r, rfl, hD, hlr, hs, hB1, hB2, S⟩
  have c2' := litF c2
  refine ⟨_, rfl, rfl, _, rfl, ite2 (fun c3 => ?_) (fun c3 => ?_)⟩
  · have c' := litT c3
    obtain rfl : w = 3 := by omega
    obtain ⟨n, rfl, rfl⟩ : ∃ n, ss = [n] ∧ c = Call.full n r := by
      cases ss with
      | nil => cases hc
      | cons n l =>
        cases l with
        | nil => exact ⟨n, rfl, (Option.some.inj hc).symm⟩
        | cons _ _ => cases hc
    exact ⟨_, rfl, _, rfl, ls, _, _, _, rfl, rfl, SqL.of hls, atI_nat (j := 0) List.getElem?_cons_zero, _, rfl, dk, dx, lr, s, B, n, r, rfl, hD, hlr, hs, hB1, hB2, S⟩
  have c3' := litF c3
  refine ⟨_, rfl, rfl, _, rfl, ite2 (fun c4 => ?_) (fun c4 => ?_)⟩
  · have c' := litT c4
    obtain rfl : w = 4 := by omega
    obtain ⟨n, rfl, rfl⟩ : ∃ n, ss = [n] ∧ c = Call.same n r := by
      cases ss with
      | nil => cases hc
      | cons n l =>
        cases l with
        | nil => exact ⟨n, rfl, (Option.some.inj hc).symm⟩
        | cons _ _ => cases hc
    exact ⟨_, rfl, _, rfl, ls, _, _, _, rfl, rfl, SqL.of hls, atI_nat (j := 0) List.getElem?_cons_zero, _, rfl, dk, dx, lr, s, B, n, r, rfl, hD, hlr, hs, hB1, hB2, S⟩
  have c4' := litF c4

  obtain rfl : w = 9 := by omega
  obtain ⟨rfl, rfl⟩ : ss = [] ∧ c = Call.fill r := by
    cases ss with
    | nil => exact ⟨rfl, (Option.some.inj hc).symm⟩
    | cons n l => cases hc
  exact ⟨_, rfl, _, rfl, dk, dx, lr, s, B, r, rfl, hD, hlr, hs, hB1, hB2, S⟩
theorem sc_told : FnScope ["desk", "which", "some", "row"] ["desk", "which", "some", "row"] (defScope s_told) := ⟨rfl, rfl, rfl, by decide +kernel, rfl, by decide +kernel, by decide +kernel⟩
theorem ok_told (T : Txt K mg a) : Cal P W0 K mg base (L2.CX P W0) 134 "told" ["desk", "which", "some", "row"] (spTold a fun _ => True) := by
  have c_begin : Cal P W0 K mg base CX0 1 "begin" ["desk"] (spBeg a) := ok_begin T
  have c_make_hole : Cal P W0 K mg base (L2.CX P W0) 4 "make_hole" ["desk", "places"] (spD1 a Call.hole) := ok_make_hole T
  have c_look : Cal P W0 K mg base (L2.CX P W0) 62 "look" ["desk", "number"] (spD1 a Call.look) := ok_look T
  have c_wait : Cal P W0 K mg base (L2.CX P W0) 62 "wait" ["desk", "number"] (spD1 a Call.wait) := ok_wait T
  have c_mark : Cal P W0 K mg base (L2.CX P W0) 4 "mark" ["desk"] (spD0 a Call.mark) := ok_mark T
  have c_back : Cal P W0 K mg base (L2.CX P W0) 4 "back" ["desk"] (spD0 a Call.back) := ok_back T
  have c_told_of_terms : Cal P W0 K mg base (L2.CX P W0) 133 "told_of_terms" ["desk", "which", "some", "row"] (spTold a fun w => w = 2 ∨ w = 3 ∨ w = 4 ∨ w = 9) := ok_told_of_terms T
  refine T.d_told.okX sc_told (fun vs H Q E h => ?_) (fun f cdv A outer sh0 H vs Q E hr h => ?_)
  · obtain ⟨dk, dx, ls, lr, w, ss, r, c, s, B, rfl, _⟩ := h
    rfl
  obtain ⟨dk, dx, ls, lr, w, ss, r, c, s, B, rfl, hC, hD, hls, hlr, hc, hs, hB1, hB2, S⟩ := h
  have tkd : L2.Takes (cxOf (L2.CX P W0) P W0 K mg base ["desk", "which", "some", "row"] "told" (defScope s_told) f cdv A outer sh0 H E) (fun cls d _ H => E cls d H) := L2.takes_of rfl rfl rfl rfl
  have hw9 := mkCall_le hc
  refine ⟨_, (pss_cons (ps_if (pt_cmpR op_eq (pv 1) pe_int (nomark _)) (pss_one (ps_ret (pe_callC c_begin (hr.mono (by omega)) rfl pass0 (pa_cons (pv 0) pa_nil)))) pss_nil)
      (pss_cons (ps_if (pt_cmpR op_eq (pv 1) pe_int (nomark _)) (pss_one (ps_ret (pe_callC c_make_hole (hr.mono (by omega)) rfl (passX tkd) (pa_cons (pv 0) (pa_cons (pe_ix ix_list (pv 2) pe_int (fun _ _ => rfl)) pa_nil))))) pss_nil)
      (pss_cons (ps_if (pt_cmpR op_eq (pv 1) pe_int (nomark _)) (pss_one (ps_ret (pe_callC c_look (hr.mono (by omega)) rfl (passX tkd) (pa_cons (pv 0) (pa_cons (pe_ix ix_list (pv 2) pe_int (fun _ _ => rfl)) pa_nil))))) pss_nil)
      (pss_cons (ps_if (pt_cmpR op_eq (pv 1) pe_int (nomark _)) (pss_one (ps_ret (pe_callC c_wait (hr.mono (by omega)) rfl (passX tkd) (pa_cons (pv 0) (pa_cons (pe_ix ix_list (pv 2) pe_int (fun _ _ => rfl)) pa_nil))))) pss_nil)
      (pss_cons (ps_if (pt_cmpR op_eq (pv 1) pe_int (nomark _)) (pss_one (ps_ret (pe_callC c_mark (hr.mono (by omega)) rfl (passX tkd) (pa_cons (pv 0) pa_nil)))) pss_nil)
      (pss_cons (ps_if (pt_cmpR op_eq (pv 1) pe_int (nomark _)) (pss_one (ps_ret (pe_callC c_back (hr.mono (by omega)) rfl (passX tkd) (pa_cons (pv 0) pa_nil)))) pss_nil)
      (pss_one (ps_ret (pe_callC c_told_of_terms (hr.mono (by omega)) rfl (passX tkd) (pa_cons (pv 0) (pa_cons (pv 1) (pa_cons (pv 2) (pa_cons (pv 3) pa_nil))))))))))))), ?_⟩
  refine ⟨_, rfl, rfl, _, rfl, ite2 (fun c0 => ?_) (fun c0 => ?_)⟩
  · have c' := litT c0
    obtain rfl : w = 0 := by omega
    obtain ⟨rfl, rfl⟩ : ss = [] ∧ c = Call.begin := by
      cases ss with
      | nil => exact ⟨rfl, (Option.some.inj hc).symm⟩
      | cons n l => cases hc
    exact ⟨_, rfl, dk, dx, s, rfl, hD, fun H' rr k' hD' hr' => S.ok H' rr k' hD' sok_init hr'⟩
  have c0' := litF c0
  refine ⟨_, rfl, rfl, _, rfl, ite2 (fun c1 => ?_) (fun c1 => ?_)⟩
  · have c' := litT c1
    obtain rfl : w = 1 := by omega
    obtain ⟨n, rfl, rfl⟩ : ∃ n, ss = [n] ∧ c = Call.hole n := by
      cases ss with
      | nil => cases hc
      | cons n l =>
        cases l with
        | nil => exact ⟨n, rfl, (Option.some.inj hc).symm⟩
        | cons _ _ => cases hc
    exact ⟨_, rfl, _, rfl, ls, _, _, _, rfl, rfl, SqL.of hls, atI_nat (j := 0) List.getElem?_cons_zero, dk, dx, s, B, n, rfl, hD, hs, hB1, hB2, S⟩
  have c1' := litF c1
  refine ⟨_, rfl, rfl, _, rfl, ite2 (fun c5 => ?_) (fun c5 => ?_)⟩
  · have c' := litT c5
    obtain rfl : w = 5 := by omega
    obtain ⟨n, rfl, rfl⟩ : ∃ n, ss = [n] ∧ c = Call.look n := by
      cases ss with
      | nil => cases hc
      | cons n l =>
        cases l with
        | nil => exact ⟨n, rfl, (Option.some.inj hc).symm⟩
        | cons _ _ => cases hc
    exact ⟨_, rfl, _, rfl, ls, _, _, _, rfl, rfl, SqL.of hls, atI_nat (j := 0) List.getElem?_cons_zero, dk, dx, s, B, n, rfl, hD, hs, hB1, hB2, S⟩
  have c5' := litF c5
  refine ⟨_, rfl, rfl, _, rfl, ite2 (fun c6 => ?_) (fun c6 => ?_)⟩
  · have c' := litT c6
    obtain rfl : w = 6 := by omega
    obtain ⟨n, rfl, rfl⟩ : ∃ n, ss = [n] ∧ c = Call.wait n := by
      cases ss with
      | nil => cases hc
      | cons n l =>
        cases l with
        | nil => exact ⟨n, rfl, (Option.some.inj hc).symm⟩
        | cons _ _ => cases hc
    exact ⟨_, rfl, _, rfl, ls, _, _, _, rfl, rfl, SqL.of hls, atI_nat (j := 0) List.getElem?_cons_zero, dk, dx, s, B, n, rfl, hD, hs, hB1, hB2, S⟩
  have c6' := litF c6
  refine ⟨_, rfl, rfl, _, rfl, ite2 (fun c7 => ?_) (fun c7 => ?_)⟩
  · have c' := litT c7
    obtain rfl : w = 7 := by omega
    obtain ⟨rfl, rfl⟩ : ss = [] ∧ c = Call.mark := by
      cases ss with
      | nil => exact ⟨rfl, (Option.some.inj hc).symm⟩
      | cons n l => cases hc
    exact ⟨_, rfl, dk, dx, s, B, rfl, hD, hs, hB1, hB2, S⟩
  have c7' := litF c7
  refine ⟨_, rfl, rfl, _, rfl, ite2 (fun c8 => ?_) (fun c8 => ?_)⟩
  · have c' := litT c8
    obtain rfl : w = 8 := by omega
    obtain ⟨rfl, rfl⟩ : ss = [] ∧ c = Call.back := by
      cases ss with
      | nil => exact ⟨rfl, (Option.some.inj hc).symm⟩
      | cons n l => cases hc
    exact ⟨_, rfl, dk, dx, s, B, rfl, hD, hs, hB1, hB2, S⟩
  have c8' := litF c8

  exact ⟨_, rfl, _, rfl, _, rfl, _, rfl, dk, dx, ls, lr, w, ss, r, c, s, B, rfl, by omega, hD, hls, hlr, hc, hs, hB1, hB2, S⟩
def spTR (a : Ad) : Sp := fun vs H Q _ => ∃ (dk dx ls lr : Addr) (w : Nat) (ss r : List Nat) (c : Call) (s : State) (B : Nat), vs = [.ref dk, vn w, .ref ls, .ref lr] ∧ DkAt a H dk dx s ∧ H ls = some (.lst (vns ss)) ∧ H lr = some (.lst (vns r)) ∧ mkCall w ss r = some c ∧ SOK B s ∧ 12 ≤ B ∧ B + 2001 ≤ 900000 ∧
  ∀ H' rr, Kp dk H H' → DkAt a H' dk dx (Pa01.step s c).1 → SOK (B + 2000) (Pa01.step s c).1 → H' rr = some (.lst ((Pa01Neutral.out (Pa01.step s c).2).map V.int)) → Q (.ref rr) H'
theorem call_list_ofK {X : Cx} (K : PySem.W.Frag) (h : X.K = K := by rfl) : CallR X (.type "list") (fun xs H Q => ∃ p ys, xs = [.ref p] ∧ (SqL K H p ys ∨ SqT K H p ys) ∧ ∀ l, H l = none → Q (.ref l) (upd H l (.lst ys))) := h ▸ call_list_of
theorem takes_none {X : Cx} : L2.Takes X (fun _ _ _ _ => False) := fun u s' x => by
  obtain ⟨a, B, sI, pins', σ', H', cls, d, rfl, J', nb, up, sky, na, os, ag, w⟩ := x
  exact w.elim
theorem sc_told_or_refused : FnScope ["desk", "which", "some", "row", "refusal"] ["desk", "which", "some", "row"] (defScope s_told_or_refused) := ⟨rfl, rfl, rfl, by decide +kernel, rfl, by decide +kernel, by decide +kernel⟩
theorem ok_told_or_refused (T : Txt K mg a) : Cal P W0 K mg base CX0 135 "told_or_refused" ["desk", "which", "some", "row"] (spTR a) := by
  have c_told : Cal P W0 K mg base (L2.CX P W0) 134 "told" ["desk", "which", "some", "row"] (spTold a fun _ => True) := ok_told T
  refine T.d_told_or_refused.ok0 sc_told_or_refused (fun vs H Q E h => ?_) (fun f cdv A outer sh0 H vs Q E hr h => ?_)
  · obtain ⟨dk, dx, ls, lr, w, ss, r, c, s, B, rfl, _⟩ := h
    rfl
  obtain ⟨dk, dx, ls, lr, w, ss, r, c, s, B, rfl, hD, hls, hlr, hc, hs, hB1, hB2, q⟩ := h
  refine ⟨_, pss_one (L2.ps_try_as (i := 4) rfl rfl sc_told_or_refused.nd rfl rfl (c := .ref a.rf) ⟨rfl, by decide, .inl T.rf.g⟩ takes_none
    (fun W pn xe tk po => pss_one (ps_ret (pe_callSC c_told (hr.mono (by omega)) rfl (fun σ => L2.passAt tk σ) (by exact (pa_cons (pv 0) (pa_cons (pv 1) (pa_cons (pv 2) (pa_cons (pv 3) pa_nil))))))))
    (fun ad oe cls d pn hz hf => pss_one (ps_ret (by exact (pe_callTy (T := "list") (call_list_ofK K) rfl T.b_list (by decide +kernel) (pa_cons (pe_xf T.rf.x T.rf.n hz hf (pv 4)) pa_nil)))))), ?_⟩
  refine ⟨_, rfl, _, rfl, _, rfl, _, rfl, dk, dx, ls, lr, w, ss, r, c, s, B, rfl, trivial, hD, hls, hlr, hc, hs, hB1, hB2, ⟨q, fun H' d k' hD' hs' hR => ?_⟩⟩
  obtain ⟨rr, hd, hrr⟩ := hR
  refine ⟨true, T.rf.e, fun _ ad na => ?_, fun z => absurd z (by decide)⟩
  refine ⟨_, rfl, rfl, rfl, d, _, _, rfl, hd, rfl, rr, _, rfl, .inl (SqL.of hrr), fun l nl => ?_⟩
  have sn := same_new nl (.lst ((Pa01Neutral.out (Pa01.step s c).2).map V.int))
  exact q _ l (k'.trans sn.kp) (hD'.same sn) hs' upd_same
end
end HH
namespace HH
open PySem PySem.Spec PyProof.Rows L2 L2Y
open Pa01 (Term Hole Eqn Out State Call)
/-! ### a list that a call does not touch, hidden while it is called -/
def hid (D : Addr) (xs : List V) : HO := .ext fun h => xs.length ≤ sizeLine ∧ ∃ (its : List Value) (n : Nat), Vals xs its ∧ h.get? D = some { cls := .type "list", data := .seq its.toArray n }
def tHide (te : TE) : TE := fun σ H Q => ∃ D xs, H D = some (.lst xs) ∧ te σ (upd H D (hid D xs)) fun v H' => H' D = some (hid D xs) ∧ Q v (upd H' D (.lst xs))
theorem pe_hide {X : Cx} {e : Expr} {te : TE} (he : PE X e te) : PE X e (tHide te) := by
  refine ⟨fun pins s σ H Q I h => ?_⟩
  obtain ⟨D, xs, hD, h⟩ := h
  have o1 := I.hok D _ hD
  obtain ⟨z1, its, n, r1, g1⟩ := o1
  have I1 : Inv X pins σ (upd H D (hid D xs)) s := I.write (x := D) (e := D) (h' := s.heap) (t' := s.toks) (o := hid D xs) (by rw [hD]; trivial) (.inl rfl) (fun b u _ q => q) ⟨_, g1⟩ ⟨⟨z1, its, n, r1, g1⟩, ⟨_, g1⟩, fun h1 h2 p k => by
    obtain ⟨a1, b1, c1, d1, e1⟩ := p
    exact ⟨a1, b1, c1, d1, k _ e1⟩⟩
  refine thn (he.run pins s σ _ _ I1 h) fun v s1 hh => ?_
  obtain ⟨x, H1, I2, r, hH1, q⟩ := hh
  obtain ⟨⟨a2, its2, n2, r2, g2⟩, _, _⟩ := I2.hok D _ hH1
  exact ⟨x, _, I2.write (x := D) (e := D) (h' := s1.heap) (t' := s1.toks) (o := .lst xs) (by rw [hH1]; trivial) (.inl rfl) (fun b u _ q => q) ⟨_, g2⟩ ⟨a2, its2, n2, r2, g2⟩, r, q⟩
theorem sqL_same {K : PySem.W.Frag} {H H' : Hp} {a : Addr} {xs : List V} (h : SqL K H a xs) (s : Same H H') : SqL K H' a xs := by
  rcases h with h | h
  · rcases h with h | ⟨o, h⟩
    · exact .inl (.inl (s _ _ h))
    · exact .inl (.inr ⟨o, s _ _ h⟩)
  · exact .inr h
theorem DkAt.hide {a : Ad} {H : Hp} {dk dx D : Addr} {xs : List V} {s : State} (h : DkAt a H dk dx s) (hD : H D = some (hid D xs)) : DkAt a (L2.del H D) dk dx s := by
  have sq : Sq H (L2.del H D) := ⟨fun b ys q => by rw [L2.del_ne (ne_of q hD (by intro z; cases z))]; exact q, fun b ys q => by rw [L2.del_ne (ne_of q hD (by intro z; cases z))]; exact q⟩
  obtain ⟨lh, lw, lm, h1, h2, h3, h4⟩ := h
  exact ⟨lh, lw, lm, by rw [L2.del_ne (ne_of h1 hD (by intro z; cases z))]; exact h1, h2.sq sq, h3.sq sq, h4.sq sq⟩
theorem cut_mid (xs : List V) {i j : Nat} (h1 : i ≤ j) (h2 : j ≤ xs.length) : cutV xs (some (i : Int)) (some (j : Int)) = (xs.drop i).take (j - i) := by
  unfold cutV
  rw [HT.sIx_nat, HT.sIx_nat, Nat.min_eq_left h2, Nat.min_eq_left (by omega)]
theorem vns_ofN (ns : List Nat) : (ofN ns).map V.int = vns ns := by
  show (ns.map _).map V.int = ns.map vn
  rw [List.map_map]
  rfl
theorem ints_at {l : List Int} {i : Nat} {x : Int} (h : l[i]? = some x) : atI (l.map V.int) (i : Int) = some (.int x) := atI_nat (by rw [List.getElem?_map, h]; rfl)
theorem told_played {s : State} {c : Call} {c0 : List (List Int)} {cs : List (List (List Int))} (h : Pa01Neutral.callOf ((PyPa01.whole c0).headD []) = some c) :
    PyFlat.told (PyFlat.played (fun s c => Pa01Neutral.step s (c.headD [])) s (PyPa01.whole c0 :: cs)) = (((Pa01Neutral.out (Pa01.step s c).2).length : Int) :: Pa01Neutral.out (Pa01.step s c).2) ++ PyFlat.told (PyFlat.played (fun s c => Pa01Neutral.step s (c.headD [])) (Pa01.step s c).1 cs) := by
  have estep : Pa01Neutral.step s ((PyPa01.whole c0).headD []) = ((Pa01.step s c).1, Pa01Neutral.out (Pa01.step s c).2) := by
    unfold Pa01Neutral.step
    rw [h]
  show List.flatMap (fun a : List Int => (a.length : Int) :: a) ((Pa01Neutral.step s ((PyPa01.whole c0).headD [])).2 :: PyFlat.played (fun s c => Pa01Neutral.step s (c.headD [])) (Pa01Neutral.step s ((PyPa01.whole c0).headD [])).1 cs) = _
  rw [estep, List.flatMap_cons]
  rfl
def spAns (K : PySem.W.Frag) : Sp := fun vs H Q _ => ∃ (lc : Addr) (l : List Int), vs = [.ref lc] ∧ SqL K H lc (l.map V.int) ∧ l.length ≤ 1000000 ∧ PyPa01.answers_asked l = true ∧ ∀ H' r, H' r = some (.lst ((PyPa01.answers l).map V.int)) → Q (.ref r) H'
section
variable {P : Program} {W0 : World} {K : PySem.W.Frag} {mg : Str → Option Value} {base : Heap} {a : Ad}
theorem sc_answers : FnScope ["calls", "found", "desk", "at", "which", "end", "some", "row", "answer"] ["calls"] (defScope s_answers) := ⟨rfl, rfl, rfl, by decide +kernel, rfl, by decide +kernel, by decide +kernel⟩
theorem ok_answers (T : Txt K mg a) {f : Addr} {fd : FuncData} (F : Fun K "answers" "answers" s_answers f fd) : FnOk P W0 K mg base CX0 136 f fd ["calls"] (spAns K) := by
  have c_Desk : Mak P W0 K mg base 1 "Desk" a.dk ["self"] (spDkI a) := ok_Desk T
  have c_told_or_refused : Cal P W0 K mg base CX0 135 "told_or_refused" ["desk", "which", "some", "row"] (spTR a) := ok_told_or_refused T
  refine F.ok sc_answers (fun vs H Q E h => ?_) (fun cdv A outer sh0 H vs Q E hr h => ?_)
  · obtain ⟨lc, l, rfl, _⟩ := h
    rfl
  obtain ⟨lc, l, rfl, hlc, hll, hask, q⟩ := h
  obtain ⟨an, hgn, hqn⟩ := T.numbers_of
  obtain ⟨ar, hgr, hqr⟩ := T.rows_of
  refine ⟨_, (pss_cons (ps_set (i := 1) sc_answers.nd rfl (Or.inl rfl) (pe_lst pa_nil))
      (pss_cons (ps_set (i := 2) sc_answers.nd rfl (Or.inl rfl) (pe_hide (pe_makeC0 c_Desk (hr.mono (by omega)) rfl)))
      (pss_cons (ps_set (i := 3) sc_answers.nd rfl (Or.inl rfl) pe_int)
      (pss_cons (ps_while PassesOwn.never (pt_cmpR op_lt (pv 3) (pe_callB call_len_seq rfl T.b_len (by decide +kernel) (pa_cons (pv 0) pa_nil)) (nomark _)) (pss_cons (ps_set (i := 4) sc_answers.nd rfl (Or.inl rfl) (pe_ix ix_list (pv 0) (pv 3) (fun _ _ => rfl)))
      (pss_cons (ps_set (i := 5) sc_answers.nd rfl (Or.inl rfl) (pe_op op_add (pe_op op_add (pv 3) pe_int) (pe_ix ix_tup (pe_glob (v := .ref an) rfl hgn rfl) (pv 4) (fun _ _ => rfl))))
      (pss_cons (ps_set (i := 6) sc_answers.nd rfl (Or.inl rfl) (pe_slice sl_list (pv 0) (po_some (pe_op op_add (pv 3) pe_int)) (po_some (pv 5))))
      (pss_cons (ps_set (i := 7) sc_answers.nd rfl (Or.inl rfl) (pe_lst pa_nil))
      (pss_cons (ps_if (pt_cmpR op_eq (pe_ix ix_tup (pe_glob (v := .ref ar) rfl hgr rfl) (pv 4) (fun _ _ => rfl)) pe_int (nomark _)) (pss_cons (ps_set (i := 7) sc_answers.nd rfl (Or.inl rfl) (pe_slice sl_list (pv 0) (po_some (pe_op op_add (pv 5) pe_int)) (po_some (pe_op op_add (pe_op op_add (pv 5) pe_int) (pe_ix ix_list (pv 0) (pv 5) (fun _ _ => rfl))))))
      (pss_one (ps_aug (i := 5) sc_answers.nd rfl (.inl rfl) (pe_op op_add pe_int (pe_ix ix_list (pv 0) (pv 5) (fun _ _ => rfl))) ip_add))) pss_nil)
      (pss_cons (ps_set (i := 8) sc_answers.nd rfl (Or.inl rfl) (pe_hide (pe_callC c_told_or_refused (hr.mono (by omega)) rfl pass0 (pa_cons (pv 2) (pa_cons (pv 4) (pa_cons (pv 6) (pa_cons (pv 7) pa_nil)))))))
      (pss_cons (ps_expr (pe_bm PySem.F.plainAttrs_list PySem.F.slot_list_append PySem.F.type_list_append mt_append (pv 1) (pa_cons (pe_callB call_len_seq rfl T.b_len (by decide +kernel) (pa_cons (pv 8) pa_nil)) pa_nil)))
      (pss_cons (ps_expr (pe_bm PySem.F.plainAttrs_list PySem.F.slot_list_extend PySem.F.type_list_extend mt_extend (pv 1) (pa_cons (pv 8) pa_nil)))
      (pss_one (ps_set (i := 3) sc_answers.nd rfl (Or.inl rfl) (pv 5))))))))))))
      (pss_one (ps_ret (pv 1))))))), ?_⟩
  -- what is asked
  unfold PyPa01.answers_asked at hask
  cases eraw : PyFlat.calls PyPa01.shape l.length l with
  | none => rw [eraw] at hask; cases hask
  | some raw =>
  rw [eraw] at hask
  have hask' : ((((!raw.isEmpty && PyFlat.atMost 60 raw) && PyInside.calls PyPa01.bound raw) && Pa01Neutral.asked ((raw.map PyPa01.whole).map fun c => c.headD [])) && PyFlat.short 10000000 (PyPa01.answers l)) = true := hask
  simp only [Bool.and_eq_true] at hask'
  obtain ⟨⟨⟨⟨_, h60⟩, _⟩, hasked⟩, hshort⟩ := hask'
  have h60' : raw.length ≤ 60 := of_decide_eq_true h60
  have hshort' : (PyPa01.answers l).length ≤ 10000000 := of_decide_eq_true hshort
  have hall : ∀ c ∈ raw, (Pa01Neutral.callOf ((PyPa01.whole c).headD [])).isSome = true := by
    intro c hc
    unfold Pa01Neutral.asked at hasked
    have := (Bool.and_eq_true_iff.mp hasked).1
    exact List.all_eq_true.mp this _ (List.mem_map.mpr ⟨_, List.mem_map.mpr ⟨c, hc, rfl⟩, rfl⟩)
  have hans : PyFlat.told (PyFlat.played (fun s c => Pa01Neutral.step s (c.headD [])) Pa01.init (raw.map PyPa01.whole)) = PyPa01.answers l := by
    unfold PyPa01.answers PyPa01.calls
    rw [eraw]
    rfl
  refine ⟨le_line (by simp), fun D nD => ?_⟩
  have s0 := same_new nD (.lst [])
  refine ⟨D, [], upd_same, fun dk dx ndk0 ndx0 hne => ⟨dk, dx, rfl, upd_same, fun H1 k1 hDk1 => ⟨rfl, ?_⟩⟩⟩
  have sm : Same (upd (upd H D (.lst [])) D (hid D [])) (upd (upd (upd (upd H D (.lst [])) D (hid D [])) dx (.own dk)) dk (.ins a.dk dx [])) := (same_new ndx0 _).trans (same_new (by rw [upd_ne (Ne.symm hne)]; exact ndk0) _)
  have k01 : Kp dk (upd (upd H D (.lst [])) D (hid D [])) H1 := sm.kp.trans k1
  have s01 := k01.back ndk0
  have hdkD0 : dk ≠ D := fun z => by rw [z, upd_same] at ndk0; cases ndk0
  have ndk : H dk = none := by
    rw [upd_ne hdkD0, upd_ne hdkD0] at ndk0
    exact ndk0
  have hH1 : H1 D = some (hid D []) := s01 _ _ upd_same
  refine ⟨hH1, ?_⟩
  have hDk1' : DkAt a (L2.del (upd H1 D (.lst [])) D) dk dx Pa01.init := by
    rw [del_updS]
    exact hDk1.hide hH1
  have sH1 : Same H (upd H1 D (.lst [])) := fun b o hb => by
    have hbD : b ≠ D := fun z => by rw [z, nD] at hb; cases hb
    rw [upd_ne hbD]
    refine s01 _ _ ?_
    rw [upd_ne hbD, upd_ne hbD]
    exact hb
  refine ⟨fun m σ G => ∃ i x4 x5 x6 x7 x8 raws f s pre k, σ = [some (.ref lc), some (.ref D), some (.ref dk), some (vn i), x4, x5, x6, x7, x8] ∧ Same H G ∧ G D = some (.lst (pre.map V.int)) ∧ DkAt a (L2.del G D) dk dx s ∧ SOK (12 + 2000 * k) s ∧ k + raws.length ≤ 60 ∧ PyFlat.calls PyPa01.shape f (l.drop i) = some raws ∧ i ≤ l.length ∧
      (∀ c ∈ raws, (Pa01Neutral.callOf ((PyPa01.whole c).headD [])).isSome = true) ∧ pre ++ PyFlat.told (PyFlat.played (fun s c => Pa01Neutral.step s (c.headD [])) s (raws.map PyPa01.whole)) = PyPa01.answers l ∧ m = l.length - i,
    ⟨_, 0, _, _, _, _, _, raw, l.length, Pa01.init, [], 0, rfl, sH1, upd_same, hDk1', sok_init, by omega, eraw, Nat.zero_le _, hall, hans, rfl⟩, ?_⟩
  rintro m σ G ⟨i, x4, x5, x6, x7, x8, raws, fu, s, pre, k, rfl, sG, hD, hDk, hs, hk, hcl, hi, hcs, hpre, rfl⟩
  have hlG := sqL_same hlc sG
  refine ⟨_, rfl, _, rfl, lc, _, rfl, .inl hlG, _, _, rfl, rfl, _, rfl, ite2 (fun c => ?_) (fun c => ?_)⟩
  · have c' : (i : Int) < ((l.map V.int).length : Int) := of_decide_eq_true c
    rw [List.length_map] at c'
    obtain ⟨w, n, kk, ss, rr, c, c0, cs, f', e, hp⟩ := parse (by omega) hcl hcs
    have hklt : k + 1 ≤ 60 := by
      have := congrArg List.length hp.p_raws
      rw [List.length_cons] at this
      omega
    have hlen := hp.p_len
    refine ⟨_, fun σ' H'' h => h, ?_⟩
    refine ⟨_, rfl, _, rfl, lc, _, _, _, rfl, rfl, hlG, ints_at hp.p_w, ?_⟩
    refine ⟨_, rfl, _, _, rfl, rfl, _, rfl, an, _, _, _, rfl, rfl, hqn G, ints_at hp.p_n, _, _, rfl, rfl, ?_⟩
    have eend0 : ((i : Int) + 1 + (n : Int)) = ((i + 1 + n : Nat) : Int) := by omega
    refine ⟨_, rfl, _, rfl, _, _, rfl, rfl, _, rfl, _, rfl, _, rfl, lc, _, rfl, hlG, fun p1 np1 => ?_⟩
    have ecut : cutV (l.map V.int) (some ((i : Int) + 1)) (some ((i : Int) + 1 + (n : Int))) = vns ss := by
      rw [eend0]
      rw [show ((i : Int) + 1) = ((i + 1 : Nat) : Int) by omega, cut_mid _ (by omega) (by rw [List.length_map]; omega), ← List.map_drop, ← List.map_take, show i + 1 + n - (i + 1) = n by omega, hp.p_ss, vns_ofN]
    rw [ecut]
    have t1 := same_new np1 (.lst (vns ss))
    have hp1D : p1 ≠ D := Ne.symm (ne_of_none hD np1)
    refine ⟨le_line (by simp), fun p2 np2 => ?_⟩
    have t2 := same_new np2 (.lst [])
    have hp2D : p2 ≠ D := Ne.symm (ne_of_none (t1 _ _ hD) np2)
    have t12 := t1.trans t2
    refine ⟨_, rfl, ar, _, _, _, rfl, rfl, hqr _, ints_at hp.p_k, rfl, _, rfl, ite2 (fun c2 => ?_) (fun c2 => ?_)⟩
    · have c2' := litT c2
      have ek : kk = 1 := by omega
      have h1 := hp.p_r1 ek
      have he := hp.p_e
      have hlG2 := sqL_same hlG t12
      have eat : atI (l.map V.int) ((i : Int) + 1 + (n : Int)) = some (.int (rr.length : Int)) := by rw [eend0]; exact ints_at h1.1
      refine ⟨_, rfl, _, rfl, _, _, rfl, rfl, _, rfl, _, rfl, _, _, rfl, rfl, _, rfl, _, rfl, lc, _, _, _, rfl, rfl, hlG2, eat, _, _, rfl, rfl, _, rfl, lc, _, rfl, hlG2, fun p3 np3 => ?_⟩
      have ecut2 : cutV (l.map V.int) (some ((i : Int) + 1 + (n : Int) + 1)) (some ((i : Int) + 1 + (n : Int) + 1 + (rr.length : Int))) = vns rr := by
        rw [show ((i : Int) + 1 + (n : Int) + 1) = ((i + 1 + n + 1 : Nat) : Int) by omega, show (((i + 1 + n + 1 : Nat) : Int) + (rr.length : Int)) = ((i + 1 + n + 1 + rr.length : Nat) : Int) by omega, cut_mid _ (by omega) (by rw [List.length_map]; omega), ← List.map_drop, ← List.map_take, show i + 1 + n + 1 + rr.length - (i + 1 + n + 1) = rr.length by omega, h1.2.1, vns_ofN]
      rw [ecut2]
      have t3 := same_new np3 (.lst (vns rr))
      have hp3D : p3 ≠ D := Ne.symm (ne_of_none (t12 _ _ hD) np3)
      have hlG3 := sqL_same hlG2 t3
      refine ⟨_, rfl, _, rfl, _, rfl, lc, _, _, _, rfl, rfl, hlG3, eat, _, _, rfl, rfl, _, _, rfl, rfl, ?_⟩
      have hrow1 : upd (upd (upd G p1 (.lst (vns ss))) p2 (.lst [])) p3 (.lst (vns rr)) p3 = some (.lst (vns rr)) := upd_same
      have sG1 : Same G (upd (upd (upd G p1 (.lst (vns ss))) p2 (.lst [])) p3 (.lst (vns rr))) := t12.trans t3
      have hcal : Same (L2.del G D) (upd (upd (upd (upd G p1 (.lst (vns ss))) p2 (.lst [])) p3 (.lst (vns rr))) D (hid D (pre.map V.int))) := fun b o hb => by
        have hbD : b ≠ D := fun z => by rw [z, L2.del_same] at hb; cases hb
        rw [L2.del_ne hbD] at hb
        rw [upd_ne hbD]
        exact sG1 _ _ hb
      have hne : ∀ {p : Addr} {xs : List V}, (upd (upd (upd G p1 (.lst (vns ss))) p2 (.lst [])) p3 (.lst (vns rr))) p = some (.lst xs) → p ≠ D → upd (upd (upd (upd G p1 (.lst (vns ss))) p2 (.lst [])) p3 (.lst (vns rr))) D (hid D (pre.map V.int)) p = some (.lst xs) := fun {p xs} h hp => by rw [upd_ne hp]; exact h
      refine ⟨D, _, sG1 _ _ hD, _, rfl, _, rfl, _, rfl, _, rfl, dk, dx, p1, p3, w, ss, rr, c, s, 12 + 2000 * k, rfl, hDk.same hcal, hne (t3 _ _ (t2 _ _ upd_same)) hp1D, hne hrow1 hp3D, hp.p_mkc, hs, by omega, by omega, fun H6 ra k6 hD6 hs6 hra => ?_⟩
      have hdkD : dk ≠ D := hdkD0
      have hD6' : H6 D = some (hid D (pre.map V.int)) := k6 _ _ upd_same (Ne.symm hdkD)
      refine ⟨hD6', ?_⟩
      have hraD : ra ≠ D := fun z => by rw [z, hD6'] at hra; cases hra
      have hra7 : upd H6 D (.lst (pre.map V.int)) ra = some (.lst ((Pa01Neutral.out (Pa01.step s c).2).map V.int)) := by rw [upd_ne hraD]; exact hra
      have e9 : pre ++ (((Pa01Neutral.out (Pa01.step s c).2).length : Int) :: Pa01Neutral.out (Pa01.step s c).2) ++ PyFlat.told (PyFlat.played (fun s c => Pa01Neutral.step s (c.headD [])) (Pa01.step s c).1 (cs.map PyPa01.whole)) = PyPa01.answers l := by
        rw [← hpre, hp.p_raws, List.map_cons, told_played hp.p_call, List.append_assoc]
      have hlen9 : (pre ++ (((Pa01Neutral.out (Pa01.step s c).2).length : Int) :: Pa01Neutral.out (Pa01.step s c).2)).length ≤ 10000000 := by
        have := congrArg List.length e9
        rw [List.length_append] at this
        omega
      rw [List.length_append, List.length_cons] at hlen9
      refine ⟨_, rfl, .inl ⟨rfl, _, SqL.of upd_same⟩, _, rfl, ra, _, rfl, .inl (SqL.of hra7), D, _, _, rfl, rfl, upd_same, ?_, ?_⟩
      · rw [List.length_map, sizeLine_eq]
        omega
      refine ⟨_, rfl, .inl ⟨rfl, _, SqL.of upd_same⟩, _, rfl, D, ra, _, _, rfl, rfl, upd_same, by rw [upd_ne hraD]; exact hra7, ?_, ?_⟩
      · rw [List.length_append, List.length_map, List.length_map, sizeLine_eq]
        show pre.length + 1 + _ ≤ _
        omega
      refine ⟨_, rfl, l.length - e, by omega, e, _, _, _, _, _, cs, f', (Pa01.step s c).1, pre ++ (((Pa01Neutral.out (Pa01.step s c).2).length : Int) :: Pa01Neutral.out (Pa01.step s c).2), k + 1, (congrArg (fun z : Int => ([some (V.ref lc), some (V.ref D), some (V.ref dk), some (V.int z), _, _, _, _, _] : L2.St)) (show ((i : Int) + 1 + (n : Int) + (1 + (rr.length : Int))) = (e : Int) by have := h1.2.2; omega)), ?_, ?_, ?_, ?_, by have := congrArg List.length hp.p_raws; rw [List.length_cons] at this; omega, hp.p_rest, hp.p_e, fun c1 h1 => hcs c1 (by rw [hp.p_raws]; exact List.mem_cons_of_mem _ h1), e9, rfl⟩
      · intro b o hb
        have hbD : b ≠ D := fun z => by rw [z, nD] at hb; cases hb
        have hbk : b ≠ dk := fun z => by rw [z, ndk] at hb; cases hb
        rw [upd_ne hbD, upd_ne hbD, upd_ne hbD]
        refine k6 _ _ ?_ hbk
        rw [upd_ne hbD]
        exact sG1 _ _ (sG _ _ hb)
      · rw [upd_same, List.length_map]
        rw [List.map_append, List.map_cons]
        simp
      · rw [del_updS, del_updS, del_updS]
        exact hD6.hide hD6'
      · have := hs6.mono (B' := 12 + 2000 * (k + 1)) (by omega)
        exact this
    · have c2' := litF c2
      have ek : kk = 0 := by have := hp.p_k1; omega
      have h0 := hp.p_r0 ek
      have he := hp.p_e
      have hrow0 : upd (upd G p1 (.lst (vns ss))) p2 (.lst []) p2 = some (.lst (vns rr)) := by rw [h0.1]; exact upd_same
      have sG0 : Same G (upd (upd G p1 (.lst (vns ss))) p2 (.lst [])) := t12
      have hcal : Same (L2.del G D) (upd (upd (upd G p1 (.lst (vns ss))) p2 (.lst [])) D (hid D (pre.map V.int))) := fun b o hb => by
        have hbD : b ≠ D := fun z => by rw [z, L2.del_same] at hb; cases hb
        rw [L2.del_ne hbD] at hb
        rw [upd_ne hbD]
        exact sG0 _ _ hb
      have hne : ∀ {p : Addr} {xs : List V}, (upd (upd G p1 (.lst (vns ss))) p2 (.lst [])) p = some (.lst xs) → p ≠ D → upd (upd (upd G p1 (.lst (vns ss))) p2 (.lst [])) D (hid D (pre.map V.int)) p = some (.lst xs) := fun {p xs} h hp => by rw [upd_ne hp]; exact h
      refine ⟨D, _, sG0 _ _ hD, _, rfl, _, rfl, _, rfl, _, rfl, dk, dx, p1, p2, w, ss, rr, c, s, 12 + 2000 * k, rfl, hDk.same hcal, hne (t2 _ _ upd_same) hp1D, hne hrow0 hp2D, hp.p_mkc, hs, by omega, by omega, fun H6 ra k6 hD6 hs6 hra => ?_⟩
      have hdkD : dk ≠ D := hdkD0
      have hD6' : H6 D = some (hid D (pre.map V.int)) := k6 _ _ upd_same (Ne.symm hdkD)
      refine ⟨hD6', ?_⟩
      have hraD : ra ≠ D := fun z => by rw [z, hD6'] at hra; cases hra
      have hra7 : upd H6 D (.lst (pre.map V.int)) ra = some (.lst ((Pa01Neutral.out (Pa01.step s c).2).map V.int)) := by rw [upd_ne hraD]; exact hra
      have e9 : pre ++ (((Pa01Neutral.out (Pa01.step s c).2).length : Int) :: Pa01Neutral.out (Pa01.step s c).2) ++ PyFlat.told (PyFlat.played (fun s c => Pa01Neutral.step s (c.headD [])) (Pa01.step s c).1 (cs.map PyPa01.whole)) = PyPa01.answers l := by
        rw [← hpre, hp.p_raws, List.map_cons, told_played hp.p_call, List.append_assoc]
      have hlen9 : (pre ++ (((Pa01Neutral.out (Pa01.step s c).2).length : Int) :: Pa01Neutral.out (Pa01.step s c).2)).length ≤ 10000000 := by
        have := congrArg List.length e9
        rw [List.length_append] at this
        omega
      rw [List.length_append, List.length_cons] at hlen9
      refine ⟨_, rfl, .inl ⟨rfl, _, SqL.of upd_same⟩, _, rfl, ra, _, rfl, .inl (SqL.of hra7), D, _, _, rfl, rfl, upd_same, ?_, ?_⟩
      · rw [List.length_map, sizeLine_eq]
        omega
      refine ⟨_, rfl, .inl ⟨rfl, _, SqL.of upd_same⟩, _, rfl, D, ra, _, _, rfl, rfl, upd_same, by rw [upd_ne hraD]; exact hra7, ?_, ?_⟩
      · rw [List.length_append, List.length_map, List.length_map, sizeLine_eq]
        show pre.length + 1 + _ ≤ _
        omega
      refine ⟨_, rfl, l.length - e, by omega, e, _, _, _, _, _, cs, f', (Pa01.step s c).1, pre ++ (((Pa01Neutral.out (Pa01.step s c).2).length : Int) :: Pa01Neutral.out (Pa01.step s c).2), k + 1, (congrArg (fun z : Int => ([some (V.ref lc), some (V.ref D), some (V.ref dk), some (V.int z), _, _, _, _, _] : L2.St)) (show ((i : Int) + 1 + (n : Int)) = (e : Int) by have := h0.2; omega)), ?_, ?_, ?_, ?_, by have := congrArg List.length hp.p_raws; rw [List.length_cons] at this; omega, hp.p_rest, hp.p_e, fun c1 h1 => hcs c1 (by rw [hp.p_raws]; exact List.mem_cons_of_mem _ h1), e9, rfl⟩
      · intro b o hb
        have hbD : b ≠ D := fun z => by rw [z, nD] at hb; cases hb
        have hbk : b ≠ dk := fun z => by rw [z, ndk] at hb; cases hb
        rw [upd_ne hbD, upd_ne hbD, upd_ne hbD]
        refine k6 _ _ ?_ hbk
        rw [upd_ne hbD]
        exact sG0 _ _ (sG _ _ hb)
      · rw [upd_same, List.length_map]
        rw [List.map_append, List.map_cons]
        simp
      · rw [del_updS, del_updS, del_updS]
        exact hD6.hide hD6'
      · have := hs6.mono (B' := 12 + 2000 * (k + 1)) (by omega)
        exact this
  · have c' : ¬ (i : Int) < ((l.map V.int).length : Int) := fun z => c (decide_eq_true z)
    rw [List.length_map] at c'
    have ei : i = l.length := by omega
    subst ei
    rw [List.drop_length] at hcl
    have er : raws = [] := by
      cases fu <;> simp only [PyFlat.calls] at hcl <;> exact (Option.some.inj hcl).symm
    subst er
    have hpre' : pre ++ [] = PyPa01.answers l := hpre
    rw [List.append_nil] at hpre'
    subst hpre'
    exact ⟨_, rfl, q G D hD⟩
end
end HH
namespace HH
open PySem PySem.Spec PyProof.Rows L2 L2Y
/-! ### the end: what is written, fact by fact -/
section
variable {K : PySem.W.Frag} {h : Heap} {mg : Str → Option Value}
theorem k_mk (KX : K.In h) (G : h.Ns mainGlobals mg) {x : Str} {i : Int} {tk : Tok} (n : PySem.W.nsIn K mainGlobals x = some (some (.int i tk))) : ∃ tk, mg x = some (.int i tk) := ⟨tk, PySem.W.mg_of KX G n⟩
theorem exm_of {A B : Addr} {b : Bool} (h1 : PySem.W.subIn K (.ref B) (.type "BaseException") = some true) (h2 : PySem.W.isClsIn K B = true) (h3 : PySem.W.typeIn K (.ref B) = some (.type "type")) (h4 : PySem.W.subIn K (.ref A) (.ref B) = some b) :
    PySem.W.exmOne K (.ref A) (.ref B) = some b := by
  have e1 : (PySem.W.subIn K (.ref B) (.type "BaseException") == some true) = true := by rw [h1] <;> rfl
  have e2 : ((PySem.W.clsIn K B).isSome && PySem.W.typeIn K (.ref B) == some (.type "type")) = true := by
    have h2' : (PySem.W.clsIn K B).isSome = true := h2
    rw [h2', h3] <;> rfl
  show (if (PySem.W.subIn K (.ref B) (.type "BaseException") == some true) = true then (if ((PySem.W.clsIn K B).isSome && PySem.W.typeIn K (.ref B) == some (.type "type")) = true then PySem.W.subIn K (.ref A) (.ref B) else none) else none) = some b
  rw [if_pos e1, if_pos e2]
  exact h4
theorem exc_mk (KX : K.In h) (G : h.Ns mainGlobals mg) {x : Str} {C : Addr} (n : PySem.W.nsIn K mainGlobals x = some (some (.ref C))) (q : PySem.W.excIn K C [.type "ValueError", .type "Exception", .type "BaseException", .type "object"] "ValueError.__new__" = true) (k : PySem.W.keepIn K (.ref C) = true)
    (b : PySem.W.subIn K (.ref C) (.type "BaseException") = some true) (t : PySem.W.typeIn K (.ref C) = some (.type "type")) (i : PySem.W.isClsIn K C = true) (s : PySem.W.subIn K (.ref C) (.ref C) = some true) : ExC K mg x C := ⟨PySem.W.mg_of KX G n, q, k, b, t, exm_of b i t s⟩
theorem tup_mk (KX : K.In h) (G : h.Ns mainGlobals mg) {x : Str} {a : Addr} {ns : List Int} {its : List Value} {n0 : Nat} {od : Option Addr} {sl : Array (Option Value)} (n : PySem.W.nsIn K mainGlobals x = some (some (.ref a))) (l : K.lookup a = some ⟨.type "tuple", od, .seq its.toArray n0, sl⟩) (v : Vals (ns.map V.int) its) (z : its.length ≤ 1000) : KTup K mg x ns :=
  ⟨a, PySem.W.mg_of KX G n, fun H => .inr ⟨_, _, _, l, rfl, rfl, by simpa using le_line (by omega), by simpa using v⟩⟩
theorem rf_mk (KX : K.In h) (G : h.Ns mainGlobals mg) {C f : Addr} {nm q : Str} {N : Addr} {bs : List Value} {sn : List Str} {sub : List Value} {ab : Bool} {col : Option Bool} {dd : Option Addr} {m0 m1 m2 m3 m5 : Option Value}
    {od an : Option Addr} {sl : Array (Option Value)} {oc kV dc pm cd ct : Value}
    (n : PySem.W.nsIn K mainGlobals "Refused" = some (some (.ref C)))
    (xL : K.lookup C = some (excClassObj nm q C N bs [.type "ValueError", .type "Exception", .type "BaseException", .type "object"] true sn sub ab col dd m0 m1 m2 m3 m5 "ValueError.__new__"))
    (sa : PySem.W.findIn K (.ref C) "__setattr__" = some (some (.builtin "object.__setattr__"))) (ga : PySem.W.findIn K (.ref C) "__getattribute__" = some (some (.builtin "BaseException.__getattribute__"))) (gg : PySem.W.findIn K (.ref C) "__getattr__" = some none) (nb : PySem.W.findIn K (.ref C) "told" = some none)
    (a1 : PySem.W.findIn K (.ref C) "__init__" = some (some (.ref f))) (t1 : PySem.W.typeIn K (.ref f) = some (.type "function"))
    (l : K.lookup f = some ⟨oc, od, .func (PySem.W.fnOf "__init__" "Refused.__init__" (defArgs s_Refused_init) (defBody s_Refused_init) (defScope s_Refused_init) .none kV dc pm an cd ct), sl⟩) (c : PySem.W.codeIn K cd "Refused.__init__" = true) (k1 : PySem.W.keepIn K (.ref f) = true)
    (kC : PySem.W.keepIn K (.ref C) = true) (eC : PySem.W.subIn K (.ref C) (.type "BaseException") = some true) (tC : PySem.W.typeIn K (.ref C) = some (.type "type")) (hC : PySem.W.hasDictIn K C = true) (iC : PySem.W.isClsIn K C = true) (sC : PySem.W.subIn K (.ref C) (.ref C) = some true) : RfC K mg s_Refused_init C :=
  ⟨PySem.W.mg_of KX G n, ⟨⟨nm, q, N, bs, _, sn, sub, ab, col, dd, m0, m1, m2, m3, m5, xL, by decide +kernel⟩, sa, eC, tC, kC⟩, ⟨ga, gg, eC, hC⟩, nb, exm_of eC iC tC sC,
    ⟨f, _, a1, t1, fun_mk (st := s_Refused_init) l c k1, (fun_mk (st := s_Refused_init) l c k1).binds (ps := ["self", "told"]) fun _ _ _ _ _ _ us hl => match us, hl with | [_, _], _ => rfl⟩⟩
theorem dn_check (KX : K.In h) (G : h.Ns mainGlobals mg) {f : Addr} {od an : Option Addr} {sl : Array (Option Value)} {oc kV dc pm cd ct : Value} (n : PySem.W.nsIn K mainGlobals "check" = some (some (.ref f))) (l : K.lookup f = some ⟨oc, od, .func (PySem.W.fnOf "check" "check" (defArgs s_check) (defBody s_check) (defScope s_check) .none kV dc pm an cd ct), sl⟩) (c : PySem.W.codeIn K cd "check" = true) (k : PySem.W.keepIn K (.ref f) = true) : Dn K mg "check" s_check ["truth"] :=
  ⟨f, _, fun_mk (st := s_check) l c k, PySem.W.mg_of KX G n, (fun_mk (st := s_check) l c k).binds (ps := ["truth"]) fun _ _ _ _ _ _ us hl => match us, hl with | [_], _ => rfl⟩
theorem dn_read_number (KX : K.In h) (G : h.Ns mainGlobals mg) {f : Addr} {od an : Option Addr} {sl : Array (Option Value)} {oc kV dc pm cd ct : Value} (n : PySem.W.nsIn K mainGlobals "read_number" = some (some (.ref f))) (l : K.lookup f = some ⟨oc, od, .func (PySem.W.fnOf "read_number" "read_number" (defArgs s_read_number) (defBody s_read_number) (defScope s_read_number) .none kV dc pm an cd ct), sl⟩) (c : PySem.W.codeIn K cd "read_number" = true) (k : PySem.W.keepIn K (.ref f) = true) : Dn K mg "read_number" s_read_number ["reader"] :=
  ⟨f, _, fun_mk (st := s_read_number) l c k, PySem.W.mg_of KX G n, (fun_mk (st := s_read_number) l c k).binds (ps := ["reader"]) fun _ _ _ _ _ _ us hl => match us, hl with | [_], _ => rfl⟩
theorem dn_read_parts (KX : K.In h) (G : h.Ns mainGlobals mg) {f : Addr} {od an : Option Addr} {sl : Array (Option Value)} {oc kV dc pm cd ct : Value} (n : PySem.W.nsIn K mainGlobals "read_parts" = some (some (.ref f))) (l : K.lookup f = some ⟨oc, od, .func (PySem.W.fnOf "read_parts" "read_parts" (defArgs s_read_parts) (defBody s_read_parts) (defScope s_read_parts) .none kV dc pm an cd ct), sl⟩) (c : PySem.W.codeIn K cd "read_parts" = true) (k : PySem.W.keepIn K (.ref f) = true) : Dn K mg "read_parts" s_read_parts ["reader", "places", "depth", "many"] :=
  ⟨f, _, fun_mk (st := s_read_parts) l c k, PySem.W.mg_of KX G n, (fun_mk (st := s_read_parts) l c k).binds (ps := ["reader", "places", "depth", "many"]) fun _ _ _ _ _ _ us hl => match us, hl with | [_, _, _, _], _ => rfl⟩
theorem dn_read_sign (KX : K.In h) (G : h.Ns mainGlobals mg) {f : Addr} {od an : Option Addr} {sl : Array (Option Value)} {oc kV dc pm cd ct : Value} (n : PySem.W.nsIn K mainGlobals "read_sign" = some (some (.ref f))) (l : K.lookup f = some ⟨oc, od, .func (PySem.W.fnOf "read_sign" "read_sign" (defArgs s_read_sign) (defBody s_read_sign) (defScope s_read_sign) .none kV dc pm an cd ct), sl⟩) (c : PySem.W.codeIn K cd "read_sign" = true) (k : PySem.W.keepIn K (.ref f) = true) : Dn K mg "read_sign" s_read_sign ["reader", "places", "depth"] :=
  ⟨f, _, fun_mk (st := s_read_sign) l c k, PySem.W.mg_of KX G n, (fun_mk (st := s_read_sign) l c k).binds (ps := ["reader", "places", "depth"]) fun _ _ _ _ _ _ us hl => match us, hl with | [_, _, _], _ => rfl⟩
theorem dn_is_gone_next (KX : K.In h) (G : h.Ns mainGlobals mg) {f : Addr} {od an : Option Addr} {sl : Array (Option Value)} {oc kV dc pm cd ct : Value} (n : PySem.W.nsIn K mainGlobals "is_gone_next" = some (some (.ref f))) (l : K.lookup f = some ⟨oc, od, .func (PySem.W.fnOf "is_gone_next" "is_gone_next" (defArgs s_is_gone_next) (defBody s_is_gone_next) (defScope s_is_gone_next) .none kV dc pm an cd ct), sl⟩) (c : PySem.W.codeIn K cd "is_gone_next" = true) (k : PySem.W.keepIn K (.ref f) = true) : Dn K mg "is_gone_next" s_is_gone_next ["reader", "hole", "k"] :=
  ⟨f, _, fun_mk (st := s_is_gone_next) l c k, PySem.W.mg_of KX G n, (fun_mk (st := s_is_gone_next) l c k).binds (ps := ["reader", "hole", "k"]) fun _ _ _ _ _ _ us hl => match us, hl with | [_, _, _], _ => rfl⟩
theorem dn_read_hole (KX : K.In h) (G : h.Ns mainGlobals mg) {f : Addr} {od an : Option Addr} {sl : Array (Option Value)} {oc kV dc pm cd ct : Value} (n : PySem.W.nsIn K mainGlobals "read_hole" = some (some (.ref f))) (l : K.lookup f = some ⟨oc, od, .func (PySem.W.fnOf "read_hole" "read_hole" (defArgs s_read_hole) (defBody s_read_hole) (defScope s_read_hole) .none kV dc pm an cd ct), sl⟩) (c : PySem.W.codeIn K cd "read_hole" = true) (k : PySem.W.keepIn K (.ref f) = true) : Dn K mg "read_hole" s_read_hole ["reader", "places", "depth"] :=
  ⟨f, _, fun_mk (st := s_read_hole) l c k, PySem.W.mg_of KX G n, (fun_mk (st := s_read_hole) l c k).binds (ps := ["reader", "places", "depth"]) fun _ _ _ _ _ _ us hl => match us, hl with | [_, _, _], _ => rfl⟩
theorem dn_read_term (KX : K.In h) (G : h.Ns mainGlobals mg) {f : Addr} {od an : Option Addr} {sl : Array (Option Value)} {oc kV dc pm cd ct : Value} (n : PySem.W.nsIn K mainGlobals "read_term" = some (some (.ref f))) (l : K.lookup f = some ⟨oc, od, .func (PySem.W.fnOf "read_term" "read_term" (defArgs s_read_term) (defBody s_read_term) (defScope s_read_term) .none kV dc pm an cd ct), sl⟩) (c : PySem.W.codeIn K cd "read_term" = true) (k : PySem.W.keepIn K (.ref f) = true) : Dn K mg "read_term" s_read_term ["reader", "places", "depth"] :=
  ⟨f, _, fun_mk (st := s_read_term) l c k, PySem.W.mg_of KX G n, (fun_mk (st := s_read_term) l c k).binds (ps := ["reader", "places", "depth"]) fun _ _ _ _ _ _ us hl => match us, hl with | [_, _, _], _ => rfl⟩
theorem dn_read_terms (KX : K.In h) (G : h.Ns mainGlobals mg) {f : Addr} {od an : Option Addr} {sl : Array (Option Value)} {oc kV dc pm cd ct : Value} (n : PySem.W.nsIn K mainGlobals "read_terms" = some (some (.ref f))) (l : K.lookup f = some ⟨oc, od, .func (PySem.W.fnOf "read_terms" "read_terms" (defArgs s_read_terms) (defBody s_read_terms) (defScope s_read_terms) .none kV dc pm an cd ct), sl⟩) (c : PySem.W.codeIn K cd "read_terms" = true) (k : PySem.W.keepIn K (.ref f) = true) : Dn K mg "read_terms" s_read_terms ["numbers", "holes", "places", "many"] :=
  ⟨f, _, fun_mk (st := s_read_terms) l c k, PySem.W.mg_of KX G n, (fun_mk (st := s_read_terms) l c k).binds (ps := ["numbers", "holes", "places", "many"]) fun _ _ _ _ _ _ us hl => match us, hl with | [_, _, _, _], _ => rfl⟩
theorem dn_read_fillings (KX : K.In h) (G : h.Ns mainGlobals mg) {f : Addr} {od an : Option Addr} {sl : Array (Option Value)} {oc kV dc pm cd ct : Value} (n : PySem.W.nsIn K mainGlobals "read_fillings" = some (some (.ref f))) (l : K.lookup f = some ⟨oc, od, .func (PySem.W.fnOf "read_fillings" "read_fillings" (defArgs s_read_fillings) (defBody s_read_fillings) (defScope s_read_fillings) .none kV dc pm an cd ct), sl⟩) (c : PySem.W.codeIn K cd "read_fillings" = true) (k : PySem.W.keepIn K (.ref f) = true) : Dn K mg "read_fillings" s_read_fillings ["numbers", "all_places"] :=
  ⟨f, _, fun_mk (st := s_read_fillings) l c k, PySem.W.mg_of KX G n, (fun_mk (st := s_read_fillings) l c k).binds (ps := ["numbers", "all_places"]) fun _ _ _ _ _ _ us hl => match us, hl with | [_, _], _ => rfl⟩
theorem dn_row_of (KX : K.In h) (G : h.Ns mainGlobals mg) {f : Addr} {od an : Option Addr} {sl : Array (Option Value)} {oc kV dc pm cd ct : Value} (n : PySem.W.nsIn K mainGlobals "row_of" = some (some (.ref f))) (l : K.lookup f = some ⟨oc, od, .func (PySem.W.fnOf "row_of" "row_of" (defArgs s_row_of) (defBody s_row_of) (defScope s_row_of) .none kV dc pm an cd ct), sl⟩) (c : PySem.W.codeIn K cd "row_of" = true) (k : PySem.W.keepIn K (.ref f) = true) : Dn K mg "row_of" s_row_of ["term"] :=
  ⟨f, _, fun_mk (st := s_row_of) l c k, PySem.W.mg_of KX G n, (fun_mk (st := s_row_of) l c k).binds (ps := ["term"]) fun _ _ _ _ _ _ us hl => match us, hl with | [_], _ => rfl⟩
theorem dn_size_of (KX : K.In h) (G : h.Ns mainGlobals mg) {f : Addr} {od an : Option Addr} {sl : Array (Option Value)} {oc kV dc pm cd ct : Value} (n : PySem.W.nsIn K mainGlobals "size_of" = some (some (.ref f))) (l : K.lookup f = some ⟨oc, od, .func (PySem.W.fnOf "size_of" "size_of" (defArgs s_size_of) (defBody s_size_of) (defScope s_size_of) .none kV dc pm an cd ct), sl⟩) (c : PySem.W.codeIn K cd "size_of" = true) (k : PySem.W.keepIn K (.ref f) = true) : Dn K mg "size_of" s_size_of ["term"] :=
  ⟨f, _, fun_mk (st := s_size_of) l c k, PySem.W.mg_of KX G n, (fun_mk (st := s_size_of) l c k).binds (ps := ["term"]) fun _ _ _ _ _ _ us hl => match us, hl with | [_], _ => rfl⟩
theorem dn_are_apart (KX : K.In h) (G : h.Ns mainGlobals mg) {f : Addr} {od an : Option Addr} {sl : Array (Option Value)} {oc kV dc pm cd ct : Value} (n : PySem.W.nsIn K mainGlobals "are_apart" = some (some (.ref f))) (l : K.lookup f = some ⟨oc, od, .func (PySem.W.fnOf "are_apart" "are_apart" (defArgs s_are_apart) (defBody s_are_apart) (defScope s_are_apart) .none kV dc pm an cd ct), sl⟩) (c : PySem.W.codeIn K cd "are_apart" = true) (k : PySem.W.keepIn K (.ref f) = true) : Dn K mg "are_apart" s_are_apart ["one", "other"] :=
  ⟨f, _, fun_mk (st := s_are_apart) l c k, PySem.W.mg_of KX G n, (fun_mk (st := s_are_apart) l c k).binds (ps := ["one", "other"]) fun _ _ _ _ _ _ us hl => match us, hl with | [_, _], _ => rfl⟩
theorem dn_is_plain (KX : K.In h) (G : h.Ns mainGlobals mg) {f : Addr} {od an : Option Addr} {sl : Array (Option Value)} {oc kV dc pm cd ct : Value} (n : PySem.W.nsIn K mainGlobals "is_plain" = some (some (.ref f))) (l : K.lookup f = some ⟨oc, od, .func (PySem.W.fnOf "is_plain" "is_plain" (defArgs s_is_plain) (defBody s_is_plain) (defScope s_is_plain) .none kV dc pm an cd ct), sl⟩) (c : PySem.W.codeIn K cd "is_plain" = true) (k : PySem.W.keepIn K (.ref f) = true) : Dn K mg "is_plain" s_is_plain ["term"] :=
  ⟨f, _, fun_mk (st := s_is_plain) l c k, PySem.W.mg_of KX G n, (fun_mk (st := s_is_plain) l c k).binds (ps := ["term"]) fun _ _ _ _ _ _ us hl => match us, hl with | [_], _ => rfl⟩
theorem dn_spend (KX : K.In h) (G : h.Ns mainGlobals mg) {f : Addr} {od an : Option Addr} {sl : Array (Option Value)} {oc kV dc pm cd ct : Value} (n : PySem.W.nsIn K mainGlobals "spend" = some (some (.ref f))) (l : K.lookup f = some ⟨oc, od, .func (PySem.W.fnOf "spend" "spend" (defArgs s_spend) (defBody s_spend) (defScope s_spend) .none kV dc pm an cd ct), sl⟩) (c : PySem.W.codeIn K cd "spend" = true) (k : PySem.W.keepIn K (.ref f) = true) : Dn K mg "spend" s_spend ["budget", "depth"] :=
  ⟨f, _, fun_mk (st := s_spend) l c k, PySem.W.mg_of KX G n, (fun_mk (st := s_spend) l c k).binds (ps := ["budget", "depth"]) fun _ _ _ _ _ _ us hl => match us, hl with | [_, _], _ => rfl⟩
theorem dn_places_around (KX : K.In h) (G : h.Ns mainGlobals mg) {f : Addr} {od an : Option Addr} {sl : Array (Option Value)} {oc kV dc pm cd ct : Value} (n : PySem.W.nsIn K mainGlobals "places_around" = some (some (.ref f))) (l : K.lookup f = some ⟨oc, od, .func (PySem.W.fnOf "places_around" "places_around" (defArgs s_places_around) (defBody s_places_around) (defScope s_places_around) .none kV dc pm an cd ct), sl⟩) (c : PySem.W.codeIn K cd "places_around" = true) (k : PySem.W.keepIn K (.ref f) = true) : Dn K mg "places_around" s_places_around ["many"] :=
  ⟨f, _, fun_mk (st := s_places_around) l c k, PySem.W.mg_of KX G n, (fun_mk (st := s_places_around) l c k).binds (ps := ["many"]) fun _ _ _ _ _ _ us hl => match us, hl with | [_], _ => rfl⟩
theorem dn_held (KX : K.In h) (G : h.Ns mainGlobals mg) {f : Addr} {od an : Option Addr} {sl : Array (Option Value)} {oc kV dc pm cd ct : Value} (n : PySem.W.nsIn K mainGlobals "held" = some (some (.ref f))) (l : K.lookup f = some ⟨oc, od, .func (PySem.W.fnOf "held" "held" (defArgs s_held) (defBody s_held) (defScope s_held) .none kV dc pm an cd ct), sl⟩) (c : PySem.W.codeIn K cd "held" = true) (k : PySem.W.keepIn K (.ref f) = true) : Dn K mg "held" s_held ["part", "values"] :=
  ⟨f, _, fun_mk (st := s_held) l c k, PySem.W.mg_of KX G n, (fun_mk (st := s_held) l c k).binds (ps := ["part", "values"]) fun _ _ _ _ _ _ us hl => match us, hl with | [_, _], _ => rfl⟩
theorem dn_head_of (KX : K.In h) (G : h.Ns mainGlobals mg) {f : Addr} {od an : Option Addr} {sl : Array (Option Value)} {oc kV dc pm cd ct : Value} (n : PySem.W.nsIn K mainGlobals "head_of" = some (some (.ref f))) (l : K.lookup f = some ⟨oc, od, .func (PySem.W.fnOf "head_of" "head_of" (defArgs s_head_of) (defBody s_head_of) (defScope s_head_of) .none kV dc pm an cd ct), sl⟩) (c : PySem.W.codeIn K cd "head_of" = true) (k : PySem.W.keepIn K (.ref f) = true) : Dn K mg "head_of" s_head_of ["holes", "term", "values"] :=
  ⟨f, _, fun_mk (st := s_head_of) l c k, PySem.W.mg_of KX G n, (fun_mk (st := s_head_of) l c k).binds (ps := ["holes", "term", "values"]) fun _ _ _ _ _ _ us hl => match us, hl with | [_, _, _], _ => rfl⟩
theorem dn_place_written (KX : K.In h) (G : h.Ns mainGlobals mg) {f : Addr} {od an : Option Addr} {sl : Array (Option Value)} {oc kV dc pm cd ct : Value} (n : PySem.W.nsIn K mainGlobals "place_written" = some (some (.ref f))) (l : K.lookup f = some ⟨oc, od, .func (PySem.W.fnOf "place_written" "place_written" (defArgs s_place_written) (defBody s_place_written) (defScope s_place_written) .none kV dc pm an cd ct), sl⟩) (c : PySem.W.codeIn K cd "place_written" = true) (k : PySem.W.keepIn K (.ref f) = true) : Dn K mg "place_written" s_place_written ["value", "binders"] :=
  ⟨f, _, fun_mk (st := s_place_written) l c k, PySem.W.mg_of KX G n, (fun_mk (st := s_place_written) l c k).binds (ps := ["value", "binders"]) fun _ _ _ _ _ _ us hl => match us, hl with | [_, _], _ => rfl⟩
theorem dn_parts_written (KX : K.In h) (G : h.Ns mainGlobals mg) {f : Addr} {od an : Option Addr} {sl : Array (Option Value)} {oc kV dc pm cd ct : Value} (n : PySem.W.nsIn K mainGlobals "parts_written" = some (some (.ref f))) (l : K.lookup f = some ⟨oc, od, .func (PySem.W.fnOf "parts_written" "parts_written" (defArgs s_parts_written) (defBody s_parts_written) (defScope s_parts_written) .none kV dc pm an cd ct), sl⟩) (c : PySem.W.codeIn K cd "parts_written" = true) (k : PySem.W.keepIn K (.ref f) = true) : Dn K mg "parts_written" s_parts_written ["holes", "budget", "term", "values", "binders", "depth"] :=
  ⟨f, _, fun_mk (st := s_parts_written) l c k, PySem.W.mg_of KX G n, (fun_mk (st := s_parts_written) l c k).binds (ps := ["holes", "budget", "term", "values", "binders", "depth"]) fun _ _ _ _ _ _ us hl => match us, hl with | [_, _, _, _, _, _], _ => rfl⟩
theorem dn_term_written (KX : K.In h) (G : h.Ns mainGlobals mg) {f : Addr} {od an : Option Addr} {sl : Array (Option Value)} {oc kV dc pm cd ct : Value} (n : PySem.W.nsIn K mainGlobals "term_written" = some (some (.ref f))) (l : K.lookup f = some ⟨oc, od, .func (PySem.W.fnOf "term_written" "term_written" (defArgs s_term_written) (defBody s_term_written) (defScope s_term_written) .none kV dc pm an cd ct), sl⟩) (c : PySem.W.codeIn K cd "term_written" = true) (k : PySem.W.keepIn K (.ref f) = true) : Dn K mg "term_written" s_term_written ["holes", "budget", "term", "values", "binders", "depth"] :=
  ⟨f, _, fun_mk (st := s_term_written) l c k, PySem.W.mg_of KX G n, (fun_mk (st := s_term_written) l c k).binds (ps := ["holes", "budget", "term", "values", "binders", "depth"]) fun _ _ _ _ _ _ us hl => match us, hl with | [_, _, _, _, _, _], _ => rfl⟩
theorem dn_written (KX : K.In h) (G : h.Ns mainGlobals mg) {f : Addr} {od an : Option Addr} {sl : Array (Option Value)} {oc kV dc pm cd ct : Value} (n : PySem.W.nsIn K mainGlobals "written" = some (some (.ref f))) (l : K.lookup f = some ⟨oc, od, .func (PySem.W.fnOf "written" "written" (defArgs s_written) (defBody s_written) (defScope s_written) .none kV dc pm an cd ct), sl⟩) (c : PySem.W.codeIn K cd "written" = true) (k : PySem.W.keepIn K (.ref f) = true) : Dn K mg "written" s_written ["holes", "budget", "term", "places"] :=
  ⟨f, _, fun_mk (st := s_written) l c k, PySem.W.mg_of KX G n, (fun_mk (st := s_written) l c k).binds (ps := ["holes", "budget", "term", "places"]) fun _ _ _ _ _ _ us hl => match us, hl with | [_, _, _, _], _ => rfl⟩
theorem dn_equation_written (KX : K.In h) (G : h.Ns mainGlobals mg) {f : Addr} {od an : Option Addr} {sl : Array (Option Value)} {oc kV dc pm cd ct : Value} (n : PySem.W.nsIn K mainGlobals "equation_written" = some (some (.ref f))) (l : K.lookup f = some ⟨oc, od, .func (PySem.W.fnOf "equation_written" "equation_written" (defArgs s_equation_written) (defBody s_equation_written) (defScope s_equation_written) .none kV dc pm an cd ct), sl⟩) (c : PySem.W.codeIn K cd "equation_written" = true) (k : PySem.W.keepIn K (.ref f) = true) : Dn K mg "equation_written" s_equation_written ["holes", "budget", "equation"] :=
  ⟨f, _, fun_mk (st := s_equation_written) l c k, PySem.W.mg_of KX G n, (fun_mk (st := s_equation_written) l c k).binds (ps := ["holes", "budget", "equation"]) fun _ _ _ _ _ _ us hl => match us, hl with | [_, _, _], _ => rfl⟩
theorem dn_holes_written (KX : K.In h) (G : h.Ns mainGlobals mg) {f : Addr} {od an : Option Addr} {sl : Array (Option Value)} {oc kV dc pm cd ct : Value} (n : PySem.W.nsIn K mainGlobals "holes_written" = some (some (.ref f))) (l : K.lookup f = some ⟨oc, od, .func (PySem.W.fnOf "holes_written" "holes_written" (defArgs s_holes_written) (defBody s_holes_written) (defScope s_holes_written) .none kV dc pm an cd ct), sl⟩) (c : PySem.W.codeIn K cd "holes_written" = true) (k : PySem.W.keepIn K (.ref f) = true) : Dn K mg "holes_written" s_holes_written ["holes", "budget"] :=
  ⟨f, _, fun_mk (st := s_holes_written) l c k, PySem.W.mg_of KX G n, (fun_mk (st := s_holes_written) l c k).binds (ps := ["holes", "budget"]) fun _ _ _ _ _ _ us hl => match us, hl with | [_, _], _ => rfl⟩
theorem dn_write_all (KX : K.In h) (G : h.Ns mainGlobals mg) {f : Addr} {od an : Option Addr} {sl : Array (Option Value)} {oc kV dc pm cd ct : Value} (n : PySem.W.nsIn K mainGlobals "write_all" = some (some (.ref f))) (l : K.lookup f = some ⟨oc, od, .func (PySem.W.fnOf "write_all" "write_all" (defArgs s_write_all) (defBody s_write_all) (defScope s_write_all) .none kV dc pm an cd ct), sl⟩) (c : PySem.W.codeIn K cd "write_all" = true) (k : PySem.W.keepIn K (.ref f) = true) : Dn K mg "write_all" s_write_all ["work"] :=
  ⟨f, _, fun_mk (st := s_write_all) l c k, PySem.W.mg_of KX G n, (fun_mk (st := s_write_all) l c k).binds (ps := ["work"]) fun _ _ _ _ _ _ us hl => match us, hl with | [_], _ => rfl⟩
theorem dn_changed (KX : K.In h) (G : h.Ns mainGlobals mg) {f : Addr} {od an : Option Addr} {sl : Array (Option Value)} {oc kV dc pm cd ct : Value} (n : PySem.W.nsIn K mainGlobals "changed" = some (some (.ref f))) (l : K.lookup f = some ⟨oc, od, .func (PySem.W.fnOf "changed" "changed" (defArgs s_changed) (defBody s_changed) (defScope s_changed) .none kV dc pm an cd ct), sl⟩) (c : PySem.W.codeIn K cd "changed" = true) (k : PySem.W.keepIn K (.ref f) = true) : Dn K mg "changed" s_changed ["work", "left"] :=
  ⟨f, _, fun_mk (st := s_changed) l c k, PySem.W.mg_of KX G n, (fun_mk (st := s_changed) l c k).binds (ps := ["work", "left"]) fun _ _ _ _ _ _ us hl => match us, hl with | [_, _], _ => rfl⟩
theorem dn_put_by (KX : K.In h) (G : h.Ns mainGlobals mg) {f : Addr} {od an : Option Addr} {sl : Array (Option Value)} {oc kV dc pm cd ct : Value} (n : PySem.W.nsIn K mainGlobals "put_by" = some (some (.ref f))) (l : K.lookup f = some ⟨oc, od, .func (PySem.W.fnOf "put_by" "put_by" (defArgs s_put_by) (defBody s_put_by) (defScope s_put_by) .none kV dc pm an cd ct), sl⟩) (c : PySem.W.codeIn K cd "put_by" = true) (k : PySem.W.keepIn K (.ref f) = true) : Dn K mg "put_by" s_put_by ["work", "equation", "rest"] :=
  ⟨f, _, fun_mk (st := s_put_by) l c k, PySem.W.mg_of KX G n, (fun_mk (st := s_put_by) l c k).binds (ps := ["work", "equation", "rest"]) fun _ _ _ _ _ _ us hl => match us, hl with | [_, _, _], _ => rfl⟩
theorem dn_unsee (KX : K.In h) (G : h.Ns mainGlobals mg) {f : Addr} {od an : Option Addr} {sl : Array (Option Value)} {oc kV dc pm cd ct : Value} (n : PySem.W.nsIn K mainGlobals "unsee" = some (some (.ref f))) (l : K.lookup f = some ⟨oc, od, .func (PySem.W.fnOf "unsee" "unsee" (defArgs s_unsee) (defBody s_unsee) (defScope s_unsee) .none kV dc pm an cd ct), sl⟩) (c : PySem.W.codeIn K cd "unsee" = true) (k : PySem.W.keepIn K (.ref f) = true) : Dn K mg "unsee" s_unsee ["work", "number", "gone"] :=
  ⟨f, _, fun_mk (st := s_unsee) l c k, PySem.W.mg_of KX G n, (fun_mk (st := s_unsee) l c k).binds (ps := ["work", "number", "gone"]) fun _ _ _ _ _ _ us hl => match us, hl with | [_, _, _], _ => rfl⟩
theorem dn_is_strange (KX : K.In h) (G : h.Ns mainGlobals mg) {f : Addr} {od an : Option Addr} {sl : Array (Option Value)} {oc kV dc pm cd ct : Value} (n : PySem.W.nsIn K mainGlobals "is_strange" = some (some (.ref f))) (l : K.lookup f = some ⟨oc, od, .func (PySem.W.fnOf "is_strange" "is_strange" (defArgs s_is_strange) (defBody s_is_strange) (defScope s_is_strange) .none kV dc pm an cd ct), sl⟩) (c : PySem.W.codeIn K cd "is_strange" = true) (k : PySem.W.keepIn K (.ref f) = true) : Dn K mg "is_strange" s_is_strange ["place", "own", "depth"] :=
  ⟨f, _, fun_mk (st := s_is_strange) l c k, PySem.W.mg_of KX G n, (fun_mk (st := s_is_strange) l c k).binds (ps := ["place", "own", "depth"]) fun _ _ _ _ _ _ us hl => match us, hl with | [_, _, _], _ => rfl⟩
theorem dn_has_strange (KX : K.In h) (G : h.Ns mainGlobals mg) {f : Addr} {od an : Option Addr} {sl : Array (Option Value)} {oc kV dc pm cd ct : Value} (n : PySem.W.nsIn K mainGlobals "has_strange" = some (some (.ref f))) (l : K.lookup f = some ⟨oc, od, .func (PySem.W.fnOf "has_strange" "has_strange" (defArgs s_has_strange) (defBody s_has_strange) (defScope s_has_strange) .none kV dc pm an cd ct), sl⟩) (c : PySem.W.codeIn K cd "has_strange" = true) (k : PySem.W.keepIn K (.ref f) = true) : Dn K mg "has_strange" s_has_strange ["term", "own", "depth", "deep"] :=
  ⟨f, _, fun_mk (st := s_has_strange) l c k, PySem.W.mg_of KX G n, (fun_mk (st := s_has_strange) l c k).binds (ps := ["term", "own", "depth", "deep"]) fun _ _ _ _ _ _ us hl => match us, hl with | [_, _, _, _], _ => rfl⟩
theorem dn_has_hole (KX : K.In h) (G : h.Ns mainGlobals mg) {f : Addr} {od an : Option Addr} {sl : Array (Option Value)} {oc kV dc pm cd ct : Value} (n : PySem.W.nsIn K mainGlobals "has_hole" = some (some (.ref f))) (l : K.lookup f = some ⟨oc, od, .func (PySem.W.fnOf "has_hole" "has_hole" (defArgs s_has_hole) (defBody s_has_hole) (defScope s_has_hole) .none kV dc pm an cd ct), sl⟩) (c : PySem.W.codeIn K cd "has_hole" = true) (k : PySem.W.keepIn K (.ref f) = true) : Dn K mg "has_hole" s_has_hole ["term", "own", "deep"] :=
  ⟨f, _, fun_mk (st := s_has_hole) l c k, PySem.W.mg_of KX G n, (fun_mk (st := s_has_hole) l c k).binds (ps := ["term", "own", "deep"]) fun _ _ _ _ _ _ us hl => match us, hl with | [_, _, _], _ => rfl⟩
theorem dn_blind_spots (KX : K.In h) (G : h.Ns mainGlobals mg) {f : Addr} {od an : Option Addr} {sl : Array (Option Value)} {oc kV dc pm cd ct : Value} (n : PySem.W.nsIn K mainGlobals "blind_spots" = some (some (.ref f))) (l : K.lookup f = some ⟨oc, od, .func (PySem.W.fnOf "blind_spots" "blind_spots" (defArgs s_blind_spots) (defBody s_blind_spots) (defScope s_blind_spots) .none kV dc pm an cd ct), sl⟩) (c : PySem.W.codeIn K cd "blind_spots" = true) (k : PySem.W.keepIn K (.ref f) = true) : Dn K mg "blind_spots" s_blind_spots ["term", "own", "depth"] :=
  ⟨f, _, fun_mk (st := s_blind_spots) l c k, PySem.W.mg_of KX G n, (fun_mk (st := s_blind_spots) l c k).binds (ps := ["term", "own", "depth"]) fun _ _ _ _ _ _ us hl => match us, hl with | [_, _, _], _ => rfl⟩
theorem dn_in_own_places (KX : K.In h) (G : h.Ns mainGlobals mg) {f : Addr} {od an : Option Addr} {sl : Array (Option Value)} {oc kV dc pm cd ct : Value} (n : PySem.W.nsIn K mainGlobals "in_own_places" = some (some (.ref f))) (l : K.lookup f = some ⟨oc, od, .func (PySem.W.fnOf "in_own_places" "in_own_places" (defArgs s_in_own_places) (defBody s_in_own_places) (defScope s_in_own_places) .none kV dc pm an cd ct), sl⟩) (c : PySem.W.codeIn K cd "in_own_places" = true) (k : PySem.W.keepIn K (.ref f) = true) : Dn K mg "in_own_places" s_in_own_places ["term", "own", "depth"] :=
  ⟨f, _, fun_mk (st := s_in_own_places) l c k, PySem.W.mg_of KX G n, (fun_mk (st := s_in_own_places) l c k).binds (ps := ["term", "own", "depth"]) fun _ _ _ _ _ _ us hl => match us, hl with | [_, _, _], _ => rfl⟩
theorem dn_own_places (KX : K.In h) (G : h.Ns mainGlobals mg) {f : Addr} {od an : Option Addr} {sl : Array (Option Value)} {oc kV dc pm cd ct : Value} (n : PySem.W.nsIn K mainGlobals "own_places" = some (some (.ref f))) (l : K.lookup f = some ⟨oc, od, .func (PySem.W.fnOf "own_places" "own_places" (defArgs s_own_places) (defBody s_own_places) (defScope s_own_places) .none kV dc pm an cd ct), sl⟩) (c : PySem.W.codeIn K cd "own_places" = true) (k : PySem.W.keepIn K (.ref f) = true) : Dn K mg "own_places" s_own_places ["hole"] :=
  ⟨f, _, fun_mk (st := s_own_places) l c k, PySem.W.mg_of KX G n, (fun_mk (st := s_own_places) l c k).binds (ps := ["hole"]) fun _ _ _ _ _ _ us hl => match us, hl with | [_], _ => rfl⟩
theorem dn_same_hole (KX : K.In h) (G : h.Ns mainGlobals mg) {f : Addr} {od an : Option Addr} {sl : Array (Option Value)} {oc kV dc pm cd ct : Value} (n : PySem.W.nsIn K mainGlobals "same_hole" = some (some (.ref f))) (l : K.lookup f = some ⟨oc, od, .func (PySem.W.fnOf "same_hole" "same_hole" (defArgs s_same_hole) (defBody s_same_hole) (defScope s_same_hole) .none kV dc pm an cd ct), sl⟩) (c : PySem.W.codeIn K cd "same_hole" = true) (k : PySem.W.keepIn K (.ref f) = true) : Dn K mg "same_hole" s_same_hole ["work", "equation", "rest"] :=
  ⟨f, _, fun_mk (st := s_same_hole) l c k, PySem.W.mg_of KX G n, (fun_mk (st := s_same_hole) l c k).binds (ps := ["work", "equation", "rest"]) fun _ _ _ _ _ _ us hl => match us, hl with | [_, _, _], _ => rfl⟩
theorem dn_to_fill (KX : K.In h) (G : h.Ns mainGlobals mg) {f : Addr} {od an : Option Addr} {sl : Array (Option Value)} {oc kV dc pm cd ct : Value} (n : PySem.W.nsIn K mainGlobals "to_fill" = some (some (.ref f))) (l : K.lookup f = some ⟨oc, od, .func (PySem.W.fnOf "to_fill" "to_fill" (defArgs s_to_fill) (defBody s_to_fill) (defScope s_to_fill) .none kV dc pm an cd ct), sl⟩) (c : PySem.W.codeIn K cd "to_fill" = true) (k : PySem.W.keepIn K (.ref f) = true) : Dn K mg "to_fill" s_to_fill ["work", "equation", "rest", "hole", "term"] :=
  ⟨f, _, fun_mk (st := s_to_fill) l c k, PySem.W.mg_of KX G n, (fun_mk (st := s_to_fill) l c k).binds (ps := ["work", "equation", "rest", "hole", "term"]) fun _ _ _ _ _ _ us hl => match us, hl with | [_, _, _, _, _], _ => rfl⟩
theorem dn_with_hole (KX : K.In h) (G : h.Ns mainGlobals mg) {f : Addr} {od an : Option Addr} {sl : Array (Option Value)} {oc kV dc pm cd ct : Value} (n : PySem.W.nsIn K mainGlobals "with_hole" = some (some (.ref f))) (l : K.lookup f = some ⟨oc, od, .func (PySem.W.fnOf "with_hole" "with_hole" (defArgs s_with_hole) (defBody s_with_hole) (defScope s_with_hole) .none kV dc pm an cd ct), sl⟩) (c : PySem.W.codeIn K cd "with_hole" = true) (k : PySem.W.keepIn K (.ref f) = true) : Dn K mg "with_hole" s_with_hole ["work", "equation", "rest"] :=
  ⟨f, _, fun_mk (st := s_with_hole) l c k, PySem.W.mg_of KX G n, (fun_mk (st := s_with_hole) l c k).binds (ps := ["work", "equation", "rest"]) fun _ _ _ _ _ _ us hl => match us, hl with | [_, _, _], _ => rfl⟩
theorem dn_without_hole (KX : K.In h) (G : h.Ns mainGlobals mg) {f : Addr} {od an : Option Addr} {sl : Array (Option Value)} {oc kV dc pm cd ct : Value} (n : PySem.W.nsIn K mainGlobals "without_hole" = some (some (.ref f))) (l : K.lookup f = some ⟨oc, od, .func (PySem.W.fnOf "without_hole" "without_hole" (defArgs s_without_hole) (defBody s_without_hole) (defScope s_without_hole) .none kV dc pm an cd ct), sl⟩) (c : PySem.W.codeIn K cd "without_hole" = true) (k : PySem.W.keepIn K (.ref f) = true) : Dn K mg "without_hole" s_without_hole ["work", "equation", "rest"] :=
  ⟨f, _, fun_mk (st := s_without_hole) l c k, PySem.W.mg_of KX G n, (fun_mk (st := s_without_hole) l c k).binds (ps := ["work", "equation", "rest"]) fun _ _ _ _ _ _ us hl => match us, hl with | [_, _, _], _ => rfl⟩
theorem dn_take_up (KX : K.In h) (G : h.Ns mainGlobals mg) {f : Addr} {od an : Option Addr} {sl : Array (Option Value)} {oc kV dc pm cd ct : Value} (n : PySem.W.nsIn K mainGlobals "take_up" = some (some (.ref f))) (l : K.lookup f = some ⟨oc, od, .func (PySem.W.fnOf "take_up" "take_up" (defArgs s_take_up) (defBody s_take_up) (defScope s_take_up) .none kV dc pm an cd ct), sl⟩) (c : PySem.W.codeIn K cd "take_up" = true) (k : PySem.W.keepIn K (.ref f) = true) : Dn K mg "take_up" s_take_up ["work"] :=
  ⟨f, _, fun_mk (st := s_take_up) l c k, PySem.W.mg_of KX G n, (fun_mk (st := s_take_up) l c k).binds (ps := ["work"]) fun _ _ _ _ _ _ us hl => match us, hl with | [_], _ => rfl⟩
theorem dn_taken_up (KX : K.In h) (G : h.Ns mainGlobals mg) {f : Addr} {od an : Option Addr} {sl : Array (Option Value)} {oc kV dc pm cd ct : Value} (n : PySem.W.nsIn K mainGlobals "taken_up" = some (some (.ref f))) (l : K.lookup f = some ⟨oc, od, .func (PySem.W.fnOf "taken_up" "taken_up" (defArgs s_taken_up) (defBody s_taken_up) (defScope s_taken_up) .none kV dc pm an cd ct), sl⟩) (c : PySem.W.codeIn K cd "taken_up" = true) (k : PySem.W.keepIn K (.ref f) = true) : Dn K mg "taken_up" s_taken_up ["holes", "waits", "equation"] :=
  ⟨f, _, fun_mk (st := s_taken_up) l c k, PySem.W.mg_of KX G n, (fun_mk (st := s_taken_up) l c k).binds (ps := ["holes", "waits", "equation"]) fun _ _ _ _ _ _ us hl => match us, hl with | [_, _, _], _ => rfl⟩
theorem dn_refuse_where (KX : K.In h) (G : h.Ns mainGlobals mg) {f : Addr} {od an : Option Addr} {sl : Array (Option Value)} {oc kV dc pm cd ct : Value} (n : PySem.W.nsIn K mainGlobals "refuse_where" = some (some (.ref f))) (l : K.lookup f = some ⟨oc, od, .func (PySem.W.fnOf "refuse_where" "refuse_where" (defArgs s_refuse_where) (defBody s_refuse_where) (defScope s_refuse_where) .none kV dc pm an cd ct), sl⟩) (c : PySem.W.codeIn K cd "refuse_where" = true) (k : PySem.W.keepIn K (.ref f) = true) : Dn K mg "refuse_where" s_refuse_where ["truth", "code"] :=
  ⟨f, _, fun_mk (st := s_refuse_where) l c k, PySem.W.mg_of KX G n, (fun_mk (st := s_refuse_where) l c k).binds (ps := ["truth", "code"]) fun _ _ _ _ _ _ us hl => match us, hl with | [_, _], _ => rfl⟩
theorem dn_begin (KX : K.In h) (G : h.Ns mainGlobals mg) {f : Addr} {od an : Option Addr} {sl : Array (Option Value)} {oc kV dc pm cd ct : Value} (n : PySem.W.nsIn K mainGlobals "begin" = some (some (.ref f))) (l : K.lookup f = some ⟨oc, od, .func (PySem.W.fnOf "begin" "begin" (defArgs s_begin) (defBody s_begin) (defScope s_begin) .none kV dc pm an cd ct), sl⟩) (c : PySem.W.codeIn K cd "begin" = true) (k : PySem.W.keepIn K (.ref f) = true) : Dn K mg "begin" s_begin ["desk"] :=
  ⟨f, _, fun_mk (st := s_begin) l c k, PySem.W.mg_of KX G n, (fun_mk (st := s_begin) l c k).binds (ps := ["desk"]) fun _ _ _ _ _ _ us hl => match us, hl with | [_], _ => rfl⟩
theorem dn_make_hole (KX : K.In h) (G : h.Ns mainGlobals mg) {f : Addr} {od an : Option Addr} {sl : Array (Option Value)} {oc kV dc pm cd ct : Value} (n : PySem.W.nsIn K mainGlobals "make_hole" = some (some (.ref f))) (l : K.lookup f = some ⟨oc, od, .func (PySem.W.fnOf "make_hole" "make_hole" (defArgs s_make_hole) (defBody s_make_hole) (defScope s_make_hole) .none kV dc pm an cd ct), sl⟩) (c : PySem.W.codeIn K cd "make_hole" = true) (k : PySem.W.keepIn K (.ref f) = true) : Dn K mg "make_hole" s_make_hole ["desk", "places"] :=
  ⟨f, _, fun_mk (st := s_make_hole) l c k, PySem.W.mg_of KX G n, (fun_mk (st := s_make_hole) l c k).binds (ps := ["desk", "places"]) fun _ _ _ _ _ _ us hl => match us, hl with | [_, _], _ => rfl⟩
theorem dn_terms_of (KX : K.In h) (G : h.Ns mainGlobals mg) {f : Addr} {od an : Option Addr} {sl : Array (Option Value)} {oc kV dc pm cd ct : Value} (n : PySem.W.nsIn K mainGlobals "terms_of" = some (some (.ref f))) (l : K.lookup f = some ⟨oc, od, .func (PySem.W.fnOf "terms_of" "terms_of" (defArgs s_terms_of) (defBody s_terms_of) (defScope s_terms_of) .none kV dc pm an cd ct), sl⟩) (c : PySem.W.codeIn K cd "terms_of" = true) (k : PySem.W.keepIn K (.ref f) = true) : Dn K mg "terms_of" s_terms_of ["desk", "numbers", "places", "many"] :=
  ⟨f, _, fun_mk (st := s_terms_of) l c k, PySem.W.mg_of KX G n, (fun_mk (st := s_terms_of) l c k).binds (ps := ["desk", "numbers", "places", "many"]) fun _ _ _ _ _ _ us hl => match us, hl with | [_, _, _, _], _ => rfl⟩
theorem dn_equate (KX : K.In h) (G : h.Ns mainGlobals mg) {f : Addr} {od an : Option Addr} {sl : Array (Option Value)} {oc kV dc pm cd ct : Value} (n : PySem.W.nsIn K mainGlobals "equate" = some (some (.ref f))) (l : K.lookup f = some ⟨oc, od, .func (PySem.W.fnOf "equate" "equate" (defArgs s_equate) (defBody s_equate) (defScope s_equate) .none kV dc pm an cd ct), sl⟩) (c : PySem.W.codeIn K cd "equate" = true) (k : PySem.W.keepIn K (.ref f) = true) : Dn K mg "equate" s_equate ["desk", "places", "numbers"] :=
  ⟨f, _, fun_mk (st := s_equate) l c k, PySem.W.mg_of KX G n, (fun_mk (st := s_equate) l c k).binds (ps := ["desk", "places", "numbers"]) fun _ _ _ _ _ _ us hl => match us, hl with | [_, _, _], _ => rfl⟩
theorem dn_written_or_refused (KX : K.In h) (G : h.Ns mainGlobals mg) {f : Addr} {od an : Option Addr} {sl : Array (Option Value)} {oc kV dc pm cd ct : Value} (n : PySem.W.nsIn K mainGlobals "written_or_refused" = some (some (.ref f))) (l : K.lookup f = some ⟨oc, od, .func (PySem.W.fnOf "written_or_refused" "written_or_refused" (defArgs s_written_or_refused) (defBody s_written_or_refused) (defScope s_written_or_refused) .none kV dc pm an cd ct), sl⟩) (c : PySem.W.codeIn K cd "written_or_refused" = true) (k : PySem.W.keepIn K (.ref f) = true) : Dn K mg "written_or_refused" s_written_or_refused ["holes", "places", "terms"] :=
  ⟨f, _, fun_mk (st := s_written_or_refused) l c k, PySem.W.mg_of KX G n, (fun_mk (st := s_written_or_refused) l c k).binds (ps := ["holes", "places", "terms"]) fun _ _ _ _ _ _ us hl => match us, hl with | [_, _, _], _ => rfl⟩
theorem dn_full (KX : K.In h) (G : h.Ns mainGlobals mg) {f : Addr} {od an : Option Addr} {sl : Array (Option Value)} {oc kV dc pm cd ct : Value} (n : PySem.W.nsIn K mainGlobals "full" = some (some (.ref f))) (l : K.lookup f = some ⟨oc, od, .func (PySem.W.fnOf "full" "full" (defArgs s_full) (defBody s_full) (defScope s_full) .none kV dc pm an cd ct), sl⟩) (c : PySem.W.codeIn K cd "full" = true) (k : PySem.W.keepIn K (.ref f) = true) : Dn K mg "full" s_full ["desk", "places", "numbers"] :=
  ⟨f, _, fun_mk (st := s_full) l c k, PySem.W.mg_of KX G n, (fun_mk (st := s_full) l c k).binds (ps := ["desk", "places", "numbers"]) fun _ _ _ _ _ _ us hl => match us, hl with | [_, _, _], _ => rfl⟩
theorem dn_compared (KX : K.In h) (G : h.Ns mainGlobals mg) {f : Addr} {od an : Option Addr} {sl : Array (Option Value)} {oc kV dc pm cd ct : Value} (n : PySem.W.nsIn K mainGlobals "compared" = some (some (.ref f))) (l : K.lookup f = some ⟨oc, od, .func (PySem.W.fnOf "compared" "compared" (defArgs s_compared) (defBody s_compared) (defScope s_compared) .none kV dc pm an cd ct), sl⟩) (c : PySem.W.codeIn K cd "compared" = true) (k : PySem.W.keepIn K (.ref f) = true) : Dn K mg "compared" s_compared ["desk", "places", "numbers"] :=
  ⟨f, _, fun_mk (st := s_compared) l c k, PySem.W.mg_of KX G n, (fun_mk (st := s_compared) l c k).binds (ps := ["desk", "places", "numbers"]) fun _ _ _ _ _ _ us hl => match us, hl with | [_, _, _], _ => rfl⟩
theorem dn_look (KX : K.In h) (G : h.Ns mainGlobals mg) {f : Addr} {od an : Option Addr} {sl : Array (Option Value)} {oc kV dc pm cd ct : Value} (n : PySem.W.nsIn K mainGlobals "look" = some (some (.ref f))) (l : K.lookup f = some ⟨oc, od, .func (PySem.W.fnOf "look" "look" (defArgs s_look) (defBody s_look) (defScope s_look) .none kV dc pm an cd ct), sl⟩) (c : PySem.W.codeIn K cd "look" = true) (k : PySem.W.keepIn K (.ref f) = true) : Dn K mg "look" s_look ["desk", "number"] :=
  ⟨f, _, fun_mk (st := s_look) l c k, PySem.W.mg_of KX G n, (fun_mk (st := s_look) l c k).binds (ps := ["desk", "number"]) fun _ _ _ _ _ _ us hl => match us, hl with | [_, _], _ => rfl⟩
theorem dn_wait (KX : K.In h) (G : h.Ns mainGlobals mg) {f : Addr} {od an : Option Addr} {sl : Array (Option Value)} {oc kV dc pm cd ct : Value} (n : PySem.W.nsIn K mainGlobals "wait" = some (some (.ref f))) (l : K.lookup f = some ⟨oc, od, .func (PySem.W.fnOf "wait" "wait" (defArgs s_wait) (defBody s_wait) (defScope s_wait) .none kV dc pm an cd ct), sl⟩) (c : PySem.W.codeIn K cd "wait" = true) (k : PySem.W.keepIn K (.ref f) = true) : Dn K mg "wait" s_wait ["desk", "number"] :=
  ⟨f, _, fun_mk (st := s_wait) l c k, PySem.W.mg_of KX G n, (fun_mk (st := s_wait) l c k).binds (ps := ["desk", "number"]) fun _ _ _ _ _ _ us hl => match us, hl with | [_, _], _ => rfl⟩
theorem dn_mark (KX : K.In h) (G : h.Ns mainGlobals mg) {f : Addr} {od an : Option Addr} {sl : Array (Option Value)} {oc kV dc pm cd ct : Value} (n : PySem.W.nsIn K mainGlobals "mark" = some (some (.ref f))) (l : K.lookup f = some ⟨oc, od, .func (PySem.W.fnOf "mark" "mark" (defArgs s_mark) (defBody s_mark) (defScope s_mark) .none kV dc pm an cd ct), sl⟩) (c : PySem.W.codeIn K cd "mark" = true) (k : PySem.W.keepIn K (.ref f) = true) : Dn K mg "mark" s_mark ["desk"] :=
  ⟨f, _, fun_mk (st := s_mark) l c k, PySem.W.mg_of KX G n, (fun_mk (st := s_mark) l c k).binds (ps := ["desk"]) fun _ _ _ _ _ _ us hl => match us, hl with | [_], _ => rfl⟩
theorem dn_back (KX : K.In h) (G : h.Ns mainGlobals mg) {f : Addr} {od an : Option Addr} {sl : Array (Option Value)} {oc kV dc pm cd ct : Value} (n : PySem.W.nsIn K mainGlobals "back" = some (some (.ref f))) (l : K.lookup f = some ⟨oc, od, .func (PySem.W.fnOf "back" "back" (defArgs s_back) (defBody s_back) (defScope s_back) .none kV dc pm an cd ct), sl⟩) (c : PySem.W.codeIn K cd "back" = true) (k : PySem.W.keepIn K (.ref f) = true) : Dn K mg "back" s_back ["desk"] :=
  ⟨f, _, fun_mk (st := s_back) l c k, PySem.W.mg_of KX G n, (fun_mk (st := s_back) l c k).binds (ps := ["desk"]) fun _ _ _ _ _ _ us hl => match us, hl with | [_], _ => rfl⟩
theorem dn_names_unseen (KX : K.In h) (G : h.Ns mainGlobals mg) {f : Addr} {od an : Option Addr} {sl : Array (Option Value)} {oc kV dc pm cd ct : Value} (n : PySem.W.nsIn K mainGlobals "names_unseen" = some (some (.ref f))) (l : K.lookup f = some ⟨oc, od, .func (PySem.W.fnOf "names_unseen" "names_unseen" (defArgs s_names_unseen) (defBody s_names_unseen) (defScope s_names_unseen) .none kV dc pm an cd ct), sl⟩) (c : PySem.W.codeIn K cd "names_unseen" = true) (k : PySem.W.keepIn K (.ref f) = true) : Dn K mg "names_unseen" s_names_unseen ["term", "sees", "depth"] :=
  ⟨f, _, fun_mk (st := s_names_unseen) l c k, PySem.W.mg_of KX G n, (fun_mk (st := s_names_unseen) l c k).binds (ps := ["term", "sees", "depth"]) fun _ _ _ _ _ _ us hl => match us, hl with | [_, _, _], _ => rfl⟩
theorem dn_fillings_of (KX : K.In h) (G : h.Ns mainGlobals mg) {f : Addr} {od an : Option Addr} {sl : Array (Option Value)} {oc kV dc pm cd ct : Value} (n : PySem.W.nsIn K mainGlobals "fillings_of" = some (some (.ref f))) (l : K.lookup f = some ⟨oc, od, .func (PySem.W.fnOf "fillings_of" "fillings_of" (defArgs s_fillings_of) (defBody s_fillings_of) (defScope s_fillings_of) .none kV dc pm an cd ct), sl⟩) (c : PySem.W.codeIn K cd "fillings_of" = true) (k : PySem.W.keepIn K (.ref f) = true) : Dn K mg "fillings_of" s_fillings_of ["desk", "numbers"] :=
  ⟨f, _, fun_mk (st := s_fillings_of) l c k, PySem.W.mg_of KX G n, (fun_mk (st := s_fillings_of) l c k).binds (ps := ["desk", "numbers"]) fun _ _ _ _ _ _ us hl => match us, hl with | [_, _], _ => rfl⟩
theorem dn_fill (KX : K.In h) (G : h.Ns mainGlobals mg) {f : Addr} {od an : Option Addr} {sl : Array (Option Value)} {oc kV dc pm cd ct : Value} (n : PySem.W.nsIn K mainGlobals "fill" = some (some (.ref f))) (l : K.lookup f = some ⟨oc, od, .func (PySem.W.fnOf "fill" "fill" (defArgs s_fill) (defBody s_fill) (defScope s_fill) .none kV dc pm an cd ct), sl⟩) (c : PySem.W.codeIn K cd "fill" = true) (k : PySem.W.keepIn K (.ref f) = true) : Dn K mg "fill" s_fill ["desk", "numbers"] :=
  ⟨f, _, fun_mk (st := s_fill) l c k, PySem.W.mg_of KX G n, (fun_mk (st := s_fill) l c k).binds (ps := ["desk", "numbers"]) fun _ _ _ _ _ _ us hl => match us, hl with | [_, _], _ => rfl⟩
theorem dn_told_of_terms (KX : K.In h) (G : h.Ns mainGlobals mg) {f : Addr} {od an : Option Addr} {sl : Array (Option Value)} {oc kV dc pm cd ct : Value} (n : PySem.W.nsIn K mainGlobals "told_of_terms" = some (some (.ref f))) (l : K.lookup f = some ⟨oc, od, .func (PySem.W.fnOf "told_of_terms" "told_of_terms" (defArgs s_told_of_terms) (defBody s_told_of_terms) (defScope s_told_of_terms) .none kV dc pm an cd ct), sl⟩) (c : PySem.W.codeIn K cd "told_of_terms" = true) (k : PySem.W.keepIn K (.ref f) = true) : Dn K mg "told_of_terms" s_told_of_terms ["desk", "which", "some", "row"] :=
  ⟨f, _, fun_mk (st := s_told_of_terms) l c k, PySem.W.mg_of KX G n, (fun_mk (st := s_told_of_terms) l c k).binds (ps := ["desk", "which", "some", "row"]) fun _ _ _ _ _ _ us hl => match us, hl with | [_, _, _, _], _ => rfl⟩
theorem dn_told (KX : K.In h) (G : h.Ns mainGlobals mg) {f : Addr} {od an : Option Addr} {sl : Array (Option Value)} {oc kV dc pm cd ct : Value} (n : PySem.W.nsIn K mainGlobals "told" = some (some (.ref f))) (l : K.lookup f = some ⟨oc, od, .func (PySem.W.fnOf "told" "told" (defArgs s_told) (defBody s_told) (defScope s_told) .none kV dc pm an cd ct), sl⟩) (c : PySem.W.codeIn K cd "told" = true) (k : PySem.W.keepIn K (.ref f) = true) : Dn K mg "told" s_told ["desk", "which", "some", "row"] :=
  ⟨f, _, fun_mk (st := s_told) l c k, PySem.W.mg_of KX G n, (fun_mk (st := s_told) l c k).binds (ps := ["desk", "which", "some", "row"]) fun _ _ _ _ _ _ us hl => match us, hl with | [_, _, _, _], _ => rfl⟩
theorem dn_told_or_refused (KX : K.In h) (G : h.Ns mainGlobals mg) {f : Addr} {od an : Option Addr} {sl : Array (Option Value)} {oc kV dc pm cd ct : Value} (n : PySem.W.nsIn K mainGlobals "told_or_refused" = some (some (.ref f))) (l : K.lookup f = some ⟨oc, od, .func (PySem.W.fnOf "told_or_refused" "told_or_refused" (defArgs s_told_or_refused) (defBody s_told_or_refused) (defScope s_told_or_refused) .none kV dc pm an cd ct), sl⟩) (c : PySem.W.codeIn K cd "told_or_refused" = true) (k : PySem.W.keepIn K (.ref f) = true) : Dn K mg "told_or_refused" s_told_or_refused ["desk", "which", "some", "row"] :=
  ⟨f, _, fun_mk (st := s_told_or_refused) l c k, PySem.W.mg_of KX G n, (fun_mk (st := s_told_or_refused) l c k).binds (ps := ["desk", "which", "some", "row"]) fun _ _ _ _ _ _ us hl => match us, hl with | [_, _, _, _], _ => rfl⟩
theorem in_rd (KX : K.In h) (G : h.Ns mainGlobals mg) {C f : Addr} {od an : Option Addr} {sl : Array (Option Value)} {oc kV dc pm cd ct : Value} (n : PySem.W.nsIn K mainGlobals "Reader" = some (some (.ref C))) (pg : PySem.W.plainGet K C Str.empty = true) (hd : PySem.W.hasDictIn K C = true) (po : PySem.W.plainOver K C = true) (sa : PySem.W.findIn K (.ref C) "__setattr__" = some (some (.builtin "object.__setattr__")))
    (n0 : PySem.W.findIn K (.ref C) "numbers" = some none) (n1 : PySem.W.findIn K (.ref C) "at" = some none) (n2 : PySem.W.findIn K (.ref C) "holes" = some none) (n3 : PySem.W.findIn K (.ref C) "may_have_holes" = some none) (mk : PySem.W.makesIn K C = true) (kc : PySem.W.keepIn K (.ref C) = true) (a1 : PySem.W.findIn K (.ref C) "__init__" = some (some (.ref f))) (i1 : PySem.W.isFn K (.ref f) = true) (l : K.lookup f = some ⟨oc, od, .func (PySem.W.fnOf "__init__" "Reader.__init__" (defArgs s_Reader_init) (defBody s_Reader_init) (defScope s_Reader_init) .none kV dc pm an cd ct), sl⟩) (c : PySem.W.codeIn K cd "Reader.__init__" = true) (k : PySem.W.keepIn K (.ref f) = true) : InC K mg "Reader" "Reader.__init__" s_Reader_init C ["self", "numbers", "holes", "may_have_holes"] ["numbers", "at", "holes", "may_have_holes"] :=
  ⟨⟨pg, hd, po, sa⟩, PySem.W.mg_of KX G n, fun y hy => by
    simp only [List.mem_cons, List.not_mem_nil, or_false] at hy
    rcases hy with rfl | rfl | rfl | rfl
    · exact n0
    · exact n1
    · exact n2
    · exact n3, ⟨f, _, ⟨mk, a1, i1, kc⟩, fun_mk (st := s_Reader_init) l c k, (fun_mk (st := s_Reader_init) l c k).binds (ps := ["self", "numbers", "holes", "may_have_holes"]) fun _ _ _ _ _ _ us hl => match us, hl with | [_, _, _, _], _ => rfl⟩⟩
theorem in_bg (KX : K.In h) (G : h.Ns mainGlobals mg) {C f : Addr} {od an : Option Addr} {sl : Array (Option Value)} {oc kV dc pm cd ct : Value} (n : PySem.W.nsIn K mainGlobals "Budget" = some (some (.ref C))) (pg : PySem.W.plainGet K C Str.empty = true) (hd : PySem.W.hasDictIn K C = true) (po : PySem.W.plainOver K C = true) (sa : PySem.W.findIn K (.ref C) "__setattr__" = some (some (.builtin "object.__setattr__")))
    (n0 : PySem.W.findIn K (.ref C) "left" = some none) (mk : PySem.W.makesIn K C = true) (kc : PySem.W.keepIn K (.ref C) = true) (a1 : PySem.W.findIn K (.ref C) "__init__" = some (some (.ref f))) (i1 : PySem.W.isFn K (.ref f) = true) (l : K.lookup f = some ⟨oc, od, .func (PySem.W.fnOf "__init__" "Budget.__init__" (defArgs s_Budget_init) (defBody s_Budget_init) (defScope s_Budget_init) .none kV dc pm an cd ct), sl⟩) (c : PySem.W.codeIn K cd "Budget.__init__" = true) (k : PySem.W.keepIn K (.ref f) = true) : InC K mg "Budget" "Budget.__init__" s_Budget_init C ["self"] ["left"] :=
  ⟨⟨pg, hd, po, sa⟩, PySem.W.mg_of KX G n, fun y hy => by
    simp only [List.mem_cons, List.not_mem_nil, or_false] at hy
    rcases hy with rfl
    · exact n0, ⟨f, _, ⟨mk, a1, i1, kc⟩, fun_mk (st := s_Budget_init) l c k, (fun_mk (st := s_Budget_init) l c k).binds (ps := ["self"]) fun _ _ _ _ _ _ us hl => match us, hl with | [_], _ => rfl⟩⟩
theorem in_wk (KX : K.In h) (G : h.Ns mainGlobals mg) {C f : Addr} {od an : Option Addr} {sl : Array (Option Value)} {oc kV dc pm cd ct : Value} (n : PySem.W.nsIn K mainGlobals "Work" = some (some (.ref C))) (pg : PySem.W.plainGet K C Str.empty = true) (hd : PySem.W.hasDictIn K C = true) (po : PySem.W.plainOver K C = true) (sa : PySem.W.findIn K (.ref C) "__setattr__" = some (some (.builtin "object.__setattr__")))
    (n0 : PySem.W.findIn K (.ref C) "holes" = some none) (n1 : PySem.W.findIn K (.ref C) "waits" = some none) (n2 : PySem.W.findIn K (.ref C) "left" = some none) (mk : PySem.W.makesIn K C = true) (kc : PySem.W.keepIn K (.ref C) = true) (a1 : PySem.W.findIn K (.ref C) "__init__" = some (some (.ref f))) (i1 : PySem.W.isFn K (.ref f) = true) (l : K.lookup f = some ⟨oc, od, .func (PySem.W.fnOf "__init__" "Work.__init__" (defArgs s_Work_init) (defBody s_Work_init) (defScope s_Work_init) .none kV dc pm an cd ct), sl⟩) (c : PySem.W.codeIn K cd "Work.__init__" = true) (k : PySem.W.keepIn K (.ref f) = true) : InC K mg "Work" "Work.__init__" s_Work_init C ["self", "holes", "waits", "left"] ["holes", "waits", "left"] :=
  ⟨⟨pg, hd, po, sa⟩, PySem.W.mg_of KX G n, fun y hy => by
    simp only [List.mem_cons, List.not_mem_nil, or_false] at hy
    rcases hy with rfl | rfl | rfl
    · exact n0
    · exact n1
    · exact n2, ⟨f, _, ⟨mk, a1, i1, kc⟩, fun_mk (st := s_Work_init) l c k, (fun_mk (st := s_Work_init) l c k).binds (ps := ["self", "holes", "waits", "left"]) fun _ _ _ _ _ _ us hl => match us, hl with | [_, _, _, _], _ => rfl⟩⟩
theorem in_dk (KX : K.In h) (G : h.Ns mainGlobals mg) {C f : Addr} {od an : Option Addr} {sl : Array (Option Value)} {oc kV dc pm cd ct : Value} (n : PySem.W.nsIn K mainGlobals "Desk" = some (some (.ref C))) (pg : PySem.W.plainGet K C Str.empty = true) (hd : PySem.W.hasDictIn K C = true) (po : PySem.W.plainOver K C = true) (sa : PySem.W.findIn K (.ref C) "__setattr__" = some (some (.builtin "object.__setattr__")))
    (n0 : PySem.W.findIn K (.ref C) "holes" = some none) (n1 : PySem.W.findIn K (.ref C) "waits" = some none) (n2 : PySem.W.findIn K (.ref C) "marks" = some none) (mk : PySem.W.makesIn K C = true) (kc : PySem.W.keepIn K (.ref C) = true) (a1 : PySem.W.findIn K (.ref C) "__init__" = some (some (.ref f))) (i1 : PySem.W.isFn K (.ref f) = true) (l : K.lookup f = some ⟨oc, od, .func (PySem.W.fnOf "__init__" "Desk.__init__" (defArgs s_Desk_init) (defBody s_Desk_init) (defScope s_Desk_init) .none kV dc pm an cd ct), sl⟩) (c : PySem.W.codeIn K cd "Desk.__init__" = true) (k : PySem.W.keepIn K (.ref f) = true) : InC K mg "Desk" "Desk.__init__" s_Desk_init C ["self"] ["holes", "waits", "marks"] :=
  ⟨⟨pg, hd, po, sa⟩, PySem.W.mg_of KX G n, fun y hy => by
    simp only [List.mem_cons, List.not_mem_nil, or_false] at hy
    rcases hy with rfl | rfl | rfl
    · exact n0
    · exact n1
    · exact n2, ⟨f, _, ⟨mk, a1, i1, kc⟩, fun_mk (st := s_Desk_init) l c k, (fun_mk (st := s_Desk_init) l c k).binds (ps := ["self"]) fun _ _ _ _ _ _ us hl => match us, hl with | [_], _ => rfl⟩⟩
theorem all_mk {P : Program} {w : World} {fa f3 : Addr} {nr tl ch rf rd bg wk dk : Addr} (KX : K.In h) (G : h.Ns mainGlobals mg) (hfa : mg "answers" = some (.ref fa))
    {od3 an3 : Option Addr} {sl3 : Array (Option Value)} {oc3 kV3 dc3 pm3 cd3 ct3 : Value} (n3 : PySem.W.nsIn K mainGlobals "answers" = some (some (.ref f3))) (l3 : K.lookup f3 = some ⟨oc3, od3, .func (PySem.W.fnOf "answers" "answers" (defArgs s_answers) (defBody s_answers) (defScope s_answers) .none kV3 dc3 pm3 an3 cd3 ct3), sl3⟩) (c3 : PySem.W.codeIn K cd3 "answers" = true) (k3 : PySem.W.keepIn K (.ref f3) = true)
    (k_PLACE : ∃ tk, mg "PLACE" = some (.int 0 tk))
    (k_SIGN : ∃ tk, mg "SIGN" = some (.int 1 tk))
    (k_BINDER : ∃ tk, mg "BINDER" = some (.int 2 tk))
    (k_HOLE : ∃ tk, mg "HOLE" = some (.int 3 tk))
    (k_GONE : ∃ tk, mg "GONE" = some (.int 4 tk))
    (k_MOST_PARTS : ∃ tk, mg "MOST_PARTS" = some (.int 8 tk))
    (k_DEEPEST_ROW : ∃ tk, mg "DEEPEST_ROW" = some (.int 30 tk))
    (k_MOST_PLACES : ∃ tk, mg "MOST_PLACES" = some (.int 12 tk))
    (k_MOST_SIZE : ∃ tk, mg "MOST_SIZE" = some (.int 2000 tk))
    (k_DEEPEST : ∃ tk, mg "DEEPEST" = some (.int 60 tk))
    (k_BOUND : ∃ tk, mg "BOUND" = some (.int 0 tk))
    (k_AROUND : ∃ tk, mg "AROUND" = some (.int 1 tk))
    (k_HELD : ∃ tk, mg "HELD" = some (.int 2 tk))
    (k_MOST_TAKEN : ∃ tk, mg "MOST_TAKEN" = some (.int 2000 tk))
    (k_NOT_RIGHT : ∃ tk, mg "NOT_RIGHT" = some (.int (-1) tk))
    (k_NONE_SUCH : ∃ tk, mg "NONE_SUCH" = some (.int (-2) tk))
    (k_NO_MARK : ∃ tk, mg "NO_MARK" = some (.int (-4) tk))
    (k_FULL : ∃ tk, mg "FULL" = some (.int (-5) tk))
    (k_UNSEEN : ∃ tk, mg "UNSEEN" = some (.int (-6) tk))
    (k_NOT_HOLDING : ∃ tk, mg "NOT_HOLDING" = some (.int (-7) tk))
    (k_TOO_LARGE : ∃ tk, mg "TOO_LARGE" = some (.int (-8) tk))
    (k_MOST_OWN : ∃ tk, mg "MOST_OWN" = some (.int 6 tk))
    (k_MOST_HOLES : ∃ tk, mg "MOST_HOLES" = some (.int 24 tk))
    (k_MOST_MARKS : ∃ tk, mg "MOST_MARKS" = some (.int 16 tk))
    (b_len : PySem.W.nsIn K mainGlobals "len" = some none)
    (b_sum : PySem.W.nsIn K mainGlobals "sum" = some none)
    (b_int : PySem.W.nsIn K mainGlobals "int" = some none)
    (b_tuple : PySem.W.nsIn K mainGlobals "tuple" = some none)
    (b_list : PySem.W.nsIn K mainGlobals "list" = some none)
    (b_range : PySem.W.nsIn K mainGlobals "range" = some none)
    (b_zip : PySem.W.nsIn K mainGlobals "zip" = some none)
    (b_enumerate : PySem.W.nsIn K mainGlobals "enumerate" = some none)
    (d_check : Dn K mg "check" s_check ["truth"])
    (d_read_number : Dn K mg "read_number" s_read_number ["reader"])
    (d_read_parts : Dn K mg "read_parts" s_read_parts ["reader", "places", "depth", "many"])
    (d_read_sign : Dn K mg "read_sign" s_read_sign ["reader", "places", "depth"])
    (d_is_gone_next : Dn K mg "is_gone_next" s_is_gone_next ["reader", "hole", "k"])
    (d_read_hole : Dn K mg "read_hole" s_read_hole ["reader", "places", "depth"])
    (d_read_term : Dn K mg "read_term" s_read_term ["reader", "places", "depth"])
    (d_read_terms : Dn K mg "read_terms" s_read_terms ["numbers", "holes", "places", "many"])
    (d_read_fillings : Dn K mg "read_fillings" s_read_fillings ["numbers", "all_places"])
    (d_row_of : Dn K mg "row_of" s_row_of ["term"])
    (d_size_of : Dn K mg "size_of" s_size_of ["term"])
    (d_are_apart : Dn K mg "are_apart" s_are_apart ["one", "other"])
    (d_is_plain : Dn K mg "is_plain" s_is_plain ["term"])
    (d_spend : Dn K mg "spend" s_spend ["budget", "depth"])
    (d_places_around : Dn K mg "places_around" s_places_around ["many"])
    (d_held : Dn K mg "held" s_held ["part", "values"])
    (d_head_of : Dn K mg "head_of" s_head_of ["holes", "term", "values"])
    (d_place_written : Dn K mg "place_written" s_place_written ["value", "binders"])
    (d_parts_written : Dn K mg "parts_written" s_parts_written ["holes", "budget", "term", "values", "binders", "depth"])
    (d_term_written : Dn K mg "term_written" s_term_written ["holes", "budget", "term", "values", "binders", "depth"])
    (d_written : Dn K mg "written" s_written ["holes", "budget", "term", "places"])
    (d_equation_written : Dn K mg "equation_written" s_equation_written ["holes", "budget", "equation"])
    (d_holes_written : Dn K mg "holes_written" s_holes_written ["holes", "budget"])
    (d_write_all : Dn K mg "write_all" s_write_all ["work"])
    (d_changed : Dn K mg "changed" s_changed ["work", "left"])
    (d_put_by : Dn K mg "put_by" s_put_by ["work", "equation", "rest"])
    (d_unsee : Dn K mg "unsee" s_unsee ["work", "number", "gone"])
    (d_is_strange : Dn K mg "is_strange" s_is_strange ["place", "own", "depth"])
    (d_has_strange : Dn K mg "has_strange" s_has_strange ["term", "own", "depth", "deep"])
    (d_has_hole : Dn K mg "has_hole" s_has_hole ["term", "own", "deep"])
    (d_blind_spots : Dn K mg "blind_spots" s_blind_spots ["term", "own", "depth"])
    (d_in_own_places : Dn K mg "in_own_places" s_in_own_places ["term", "own", "depth"])
    (d_own_places : Dn K mg "own_places" s_own_places ["hole"])
    (d_same_hole : Dn K mg "same_hole" s_same_hole ["work", "equation", "rest"])
    (d_to_fill : Dn K mg "to_fill" s_to_fill ["work", "equation", "rest", "hole", "term"])
    (d_with_hole : Dn K mg "with_hole" s_with_hole ["work", "equation", "rest"])
    (d_without_hole : Dn K mg "without_hole" s_without_hole ["work", "equation", "rest"])
    (d_take_up : Dn K mg "take_up" s_take_up ["work"])
    (d_taken_up : Dn K mg "taken_up" s_taken_up ["holes", "waits", "equation"])
    (d_refuse_where : Dn K mg "refuse_where" s_refuse_where ["truth", "code"])
    (d_begin : Dn K mg "begin" s_begin ["desk"])
    (d_make_hole : Dn K mg "make_hole" s_make_hole ["desk", "places"])
    (d_terms_of : Dn K mg "terms_of" s_terms_of ["desk", "numbers", "places", "many"])
    (d_equate : Dn K mg "equate" s_equate ["desk", "places", "numbers"])
    (d_written_or_refused : Dn K mg "written_or_refused" s_written_or_refused ["holes", "places", "terms"])
    (d_full : Dn K mg "full" s_full ["desk", "places", "numbers"])
    (d_compared : Dn K mg "compared" s_compared ["desk", "places", "numbers"])
    (d_look : Dn K mg "look" s_look ["desk", "number"])
    (d_wait : Dn K mg "wait" s_wait ["desk", "number"])
    (d_mark : Dn K mg "mark" s_mark ["desk"])
    (d_back : Dn K mg "back" s_back ["desk"])
    (d_names_unseen : Dn K mg "names_unseen" s_names_unseen ["term", "sees", "depth"])
    (d_fillings_of : Dn K mg "fillings_of" s_fillings_of ["desk", "numbers"])
    (d_fill : Dn K mg "fill" s_fill ["desk", "numbers"])
    (d_told_of_terms : Dn K mg "told_of_terms" s_told_of_terms ["desk", "which", "some", "row"])
    (d_told : Dn K mg "told" s_told ["desk", "which", "some", "row"])
    (d_told_or_refused : Dn K mg "told_or_refused" s_told_or_refused ["desk", "which", "some", "row"])
    (e_nr : ExC K mg "NotRight" nr)
    (e_tl : ExC K mg "TooLarge" tl)
    (e_ch : ExC K mg "CannotHold" ch)
    (e_chtl : PySem.W.exmOne K (.ref ch) (.ref tl) = some false)
    (e_rf : RfC K mg s_Refused_init rf)
    (i_rd : InC K mg "Reader" "Reader.__init__" s_Reader_init rd ["self", "numbers", "holes", "may_have_holes"] ["numbers", "at", "holes", "may_have_holes"])
    (i_bg : InC K mg "Budget" "Budget.__init__" s_Budget_init bg ["self"] ["left"])
    (i_wk : InC K mg "Work" "Work.__init__" s_Work_init wk ["self", "holes", "waits", "left"] ["holes", "waits", "left"])
    (i_dk : InC K mg "Desk" "Desk.__init__" s_Desk_init dk ["self"] ["holes", "waits", "marks"])
    (t_numbers_of : KTup K mg "NUMBERS_OF" [0, 1, 1, 1, 1, 1, 1, 0, 0, 0])
    (t_rows_of : KTup K mg "ROWS_OF" [0, 0, 1, 1, 1, 0, 0, 0, 0, 1]) :
    ∃ fd : FuncData, (∀ (s : Shared) (us : List Value), us.length = (["calls"] : List Str).length → BindsTo s fd ⟨us, []⟩ ((["calls"] : List Str).zip us)) ∧ ∀ base : Heap, K.In base → base.Ns mainGlobals mg → FnOk P w K mg base CX0 136 fa fd ["calls"] (spAns K) := by
  have e := hfa.symm.trans (PySem.W.mg_of KX G n3)
  cases e
  have F3 := fun_mk (st := s_answers) l3 c3 k3
  have T : Txt K mg ⟨nr, tl, ch, rf, rd, bg, wk, dk⟩ := ⟨k_PLACE, k_SIGN, k_BINDER, k_HOLE, k_GONE, k_MOST_PARTS, k_DEEPEST_ROW, k_MOST_PLACES, k_MOST_SIZE, k_DEEPEST, k_BOUND, k_AROUND, k_HELD, k_MOST_TAKEN, k_NOT_RIGHT, k_NONE_SUCH, k_NO_MARK, k_FULL, k_UNSEEN, k_NOT_HOLDING, k_TOO_LARGE, k_MOST_OWN, k_MOST_HOLES, k_MOST_MARKS, PySem.W.mg_none_of KX G b_len, PySem.W.mg_none_of KX G b_sum, PySem.W.mg_none_of KX G b_int, PySem.W.mg_none_of KX G b_tuple, PySem.W.mg_none_of KX G b_list, PySem.W.mg_none_of KX G b_range, PySem.W.mg_none_of KX G b_zip, PySem.W.mg_none_of KX G b_enumerate, d_check, d_read_number, d_read_parts, d_read_sign, d_is_gone_next, d_read_hole, d_read_term, d_read_terms, d_read_fillings, d_row_of, d_size_of, d_are_apart, d_is_plain, d_spend, d_places_around, d_held, d_head_of, d_place_written, d_parts_written, d_term_written, d_written, d_equation_written, d_holes_written, d_write_all, d_changed, d_put_by, d_unsee, d_is_strange, d_has_strange, d_has_hole, d_blind_spots, d_in_own_places, d_own_places, d_same_hole, d_to_fill, d_with_hole, d_without_hole, d_take_up, d_taken_up, d_refuse_where, d_begin, d_make_hole, d_terms_of, d_equate, d_written_or_refused, d_full, d_compared, d_look, d_wait, d_mark, d_back, d_names_unseen, d_fillings_of, d_fill, d_told_of_terms, d_told, d_told_or_refused, ⟨_, _, F3, PySem.W.mg_of KX G n3, F3.binds (ps := ["calls"]) fun _ _ _ _ _ _ us hl => match us, hl with | [_], _ => rfl⟩, e_nr, e_tl, e_ch, e_chtl, e_rf, i_rd, i_bg, i_wk, i_dk, t_numbers_of, t_rows_of⟩
  exact ⟨_, fun s us hu => match us, hu with | [_], _ => .of_eq rfl, fun base _ _ => ok_answers T F3⟩
end
end HH
open PySem PySem.W PyProof.Rows
set_option maxRecDepth 100000 in
set_option maxHeartbeats 0 in
theorem PySem.Challenge.cw_holehouse_s01_answers_holds : PySem.Challenge.rw_holehouse_s01_answers.Holds := by
  w_on; k_headS; (case hw => exact ⟨[.list [.int 0]], by decide +kernel, by decide +kernel⟩)
  k_fillS
  refine L2.walk_specK (r := PySem.Challenge.rw_holehouse_s01_answers) (k := 136) (CX := L2.CX0) (ps := ["calls"]) (sp := HH.spAns) (by decide +kernel) rfl rfl ⟨rfl, by decide, by decide⟩ (fun w h Y => PySem.W.kIn_of Y) ?F ?S (fun _ _ _ _ z => z)
  case F =>
    intro w mg fa h Y KX G hmg
    refine' HH.all_mk KX G hmg ?n3 ?l3 ?c3 ?k3 ?k_PLACE ?k_SIGN ?k_BINDER ?k_HOLE ?k_GONE ?k_MOST_PARTS ?k_DEEPEST_ROW ?k_MOST_PLACES ?k_MOST_SIZE ?k_DEEPEST ?k_BOUND ?k_AROUND ?k_HELD ?k_MOST_TAKEN ?k_NOT_RIGHT ?k_NONE_SUCH ?k_NO_MARK ?k_FULL ?k_UNSEEN ?k_NOT_HOLDING ?k_TOO_LARGE ?k_MOST_OWN ?k_MOST_HOLES ?k_MOST_MARKS ?b_len ?b_sum ?b_int ?b_tuple ?b_list ?b_range ?b_zip ?b_enumerate ?d_check ?d_read_number ?d_read_parts ?d_read_sign ?d_is_gone_next ?d_read_hole ?d_read_term ?d_read_terms ?d_read_fillings ?d_row_of ?d_size_of ?d_are_apart ?d_is_plain ?d_spend ?d_places_around ?d_held ?d_head_of ?d_place_written ?d_parts_written ?d_term_written ?d_written ?d_equation_written ?d_holes_written ?d_write_all ?d_changed ?d_put_by ?d_unsee ?d_is_strange ?d_has_strange ?d_has_hole ?d_blind_spots ?d_in_own_places ?d_own_places ?d_same_hole ?d_to_fill ?d_with_hole ?d_without_hole ?d_take_up ?d_taken_up ?d_refuse_where ?d_begin ?d_make_hole ?d_terms_of ?d_equate ?d_written_or_refused ?d_full ?d_compared ?d_look ?d_wait ?d_mark ?d_back ?d_names_unseen ?d_fillings_of ?d_fill ?d_told_of_terms ?d_told ?d_told_or_refused ?e_nr ?e_tl ?e_ch ?e_chtl ?e_rf ?i_rd ?i_bg ?i_wk ?i_dk ?t_numbers_of ?t_rows_of
    (case n3 => k_is); (case l3 => k_is); (case c3 => k_is); (case k3 => k_is)
    (case k_PLACE => refine' HH.k_mk KX G ?n; (case n => k_is))
    (case k_SIGN => refine' HH.k_mk KX G ?n; (case n => k_is))
    (case k_BINDER => refine' HH.k_mk KX G ?n; (case n => k_is))
    (case k_HOLE => refine' HH.k_mk KX G ?n; (case n => k_is))
    (case k_GONE => refine' HH.k_mk KX G ?n; (case n => k_is))
    (case k_MOST_PARTS => refine' HH.k_mk KX G ?n; (case n => k_is))
    (case k_DEEPEST_ROW => refine' HH.k_mk KX G ?n; (case n => k_is))
    (case k_MOST_PLACES => refine' HH.k_mk KX G ?n; (case n => k_is))
    (case k_MOST_SIZE => refine' HH.k_mk KX G ?n; (case n => k_is))
    (case k_DEEPEST => refine' HH.k_mk KX G ?n; (case n => k_is))
    (case k_BOUND => refine' HH.k_mk KX G ?n; (case n => k_is))
    (case k_AROUND => refine' HH.k_mk KX G ?n; (case n => k_is))
    (case k_HELD => refine' HH.k_mk KX G ?n; (case n => k_is))
    (case k_MOST_TAKEN => refine' HH.k_mk KX G ?n; (case n => k_is))
    (case k_NOT_RIGHT => refine' HH.k_mk KX G ?n; (case n => k_is))
    (case k_NONE_SUCH => refine' HH.k_mk KX G ?n; (case n => k_is))
    (case k_NO_MARK => refine' HH.k_mk KX G ?n; (case n => k_is))
    (case k_FULL => refine' HH.k_mk KX G ?n; (case n => k_is))
    (case k_UNSEEN => refine' HH.k_mk KX G ?n; (case n => k_is))
    (case k_NOT_HOLDING => refine' HH.k_mk KX G ?n; (case n => k_is))
    (case k_TOO_LARGE => refine' HH.k_mk KX G ?n; (case n => k_is))
    (case k_MOST_OWN => refine' HH.k_mk KX G ?n; (case n => k_is))
    (case k_MOST_HOLES => refine' HH.k_mk KX G ?n; (case n => k_is))
    (case k_MOST_MARKS => refine' HH.k_mk KX G ?n; (case n => k_is))
    (case b_len => k_is)
    (case b_sum => k_is)
    (case b_int => k_is)
    (case b_tuple => k_is)
    (case b_list => k_is)
    (case b_range => k_is)
    (case b_zip => k_is)
    (case b_enumerate => k_is)
    (case d_check => refine' HH.dn_check KX G ?n ?l ?c ?k; (case n => k_is); (case l => k_is); (case c => k_is); (case k => k_is))
    (case d_read_number => refine' HH.dn_read_number KX G ?n ?l ?c ?k; (case n => k_is); (case l => k_is); (case c => k_is); (case k => k_is))
    (case d_read_parts => refine' HH.dn_read_parts KX G ?n ?l ?c ?k; (case n => k_is); (case l => k_is); (case c => k_is); (case k => k_is))
    (case d_read_sign => refine' HH.dn_read_sign KX G ?n ?l ?c ?k; (case n => k_is); (case l => k_is); (case c => k_is); (case k => k_is))
    (case d_is_gone_next => refine' HH.dn_is_gone_next KX G ?n ?l ?c ?k; (case n => k_is); (case l => k_is); (case c => k_is); (case k => k_is))
    (case d_read_hole => refine' HH.dn_read_hole KX G ?n ?l ?c ?k; (case n => k_is); (case l => k_is); (case c => k_is); (case k => k_is))
    (case d_read_term => refine' HH.dn_read_term KX G ?n ?l ?c ?k; (case n => k_is); (case l => k_is); (case c => k_is); (case k => k_is))
    (case d_read_terms => refine' HH.dn_read_terms KX G ?n ?l ?c ?k; (case n => k_is); (case l => k_is); (case c => k_is); (case k => k_is))
    (case d_read_fillings => refine' HH.dn_read_fillings KX G ?n ?l ?c ?k; (case n => k_is); (case l => k_is); (case c => k_is); (case k => k_is))
    (case d_row_of => refine' HH.dn_row_of KX G ?n ?l ?c ?k; (case n => k_is); (case l => k_is); (case c => k_is); (case k => k_is))
    (case d_size_of => refine' HH.dn_size_of KX G ?n ?l ?c ?k; (case n => k_is); (case l => k_is); (case c => k_is); (case k => k_is))
    (case d_are_apart => refine' HH.dn_are_apart KX G ?n ?l ?c ?k; (case n => k_is); (case l => k_is); (case c => k_is); (case k => k_is))
    (case d_is_plain => refine' HH.dn_is_plain KX G ?n ?l ?c ?k; (case n => k_is); (case l => k_is); (case c => k_is); (case k => k_is))
    (case d_spend => refine' HH.dn_spend KX G ?n ?l ?c ?k; (case n => k_is); (case l => k_is); (case c => k_is); (case k => k_is))
    (case d_places_around => refine' HH.dn_places_around KX G ?n ?l ?c ?k; (case n => k_is); (case l => k_is); (case c => k_is); (case k => k_is))
    (case d_held => refine' HH.dn_held KX G ?n ?l ?c ?k; (case n => k_is); (case l => k_is); (case c => k_is); (case k => k_is))
    (case d_head_of => refine' HH.dn_head_of KX G ?n ?l ?c ?k; (case n => k_is); (case l => k_is); (case c => k_is); (case k => k_is))
    (case d_place_written => refine' HH.dn_place_written KX G ?n ?l ?c ?k; (case n => k_is); (case l => k_is); (case c => k_is); (case k => k_is))
    (case d_parts_written => refine' HH.dn_parts_written KX G ?n ?l ?c ?k; (case n => k_is); (case l => k_is); (case c => k_is); (case k => k_is))
    (case d_term_written => refine' HH.dn_term_written KX G ?n ?l ?c ?k; (case n => k_is); (case l => k_is); (case c => k_is); (case k => k_is))
    (case d_written => refine' HH.dn_written KX G ?n ?l ?c ?k; (case n => k_is); (case l => k_is); (case c => k_is); (case k => k_is))
    (case d_equation_written => refine' HH.dn_equation_written KX G ?n ?l ?c ?k; (case n => k_is); (case l => k_is); (case c => k_is); (case k => k_is))
    (case d_holes_written => refine' HH.dn_holes_written KX G ?n ?l ?c ?k; (case n => k_is); (case l => k_is); (case c => k_is); (case k => k_is))
    (case d_write_all => refine' HH.dn_write_all KX G ?n ?l ?c ?k; (case n => k_is); (case l => k_is); (case c => k_is); (case k => k_is))
    (case d_changed => refine' HH.dn_changed KX G ?n ?l ?c ?k; (case n => k_is); (case l => k_is); (case c => k_is); (case k => k_is))
    (case d_put_by => refine' HH.dn_put_by KX G ?n ?l ?c ?k; (case n => k_is); (case l => k_is); (case c => k_is); (case k => k_is))
    (case d_unsee => refine' HH.dn_unsee KX G ?n ?l ?c ?k; (case n => k_is); (case l => k_is); (case c => k_is); (case k => k_is))
    (case d_is_strange => refine' HH.dn_is_strange KX G ?n ?l ?c ?k; (case n => k_is); (case l => k_is); (case c => k_is); (case k => k_is))
    (case d_has_strange => refine' HH.dn_has_strange KX G ?n ?l ?c ?k; (case n => k_is); (case l => k_is); (case c => k_is); (case k => k_is))
    (case d_has_hole => refine' HH.dn_has_hole KX G ?n ?l ?c ?k; (case n => k_is); (case l => k_is); (case c => k_is); (case k => k_is))
    (case d_blind_spots => refine' HH.dn_blind_spots KX G ?n ?l ?c ?k; (case n => k_is); (case l => k_is); (case c => k_is); (case k => k_is))
    (case d_in_own_places => refine' HH.dn_in_own_places KX G ?n ?l ?c ?k; (case n => k_is); (case l => k_is); (case c => k_is); (case k => k_is))
    (case d_own_places => refine' HH.dn_own_places KX G ?n ?l ?c ?k; (case n => k_is); (case l => k_is); (case c => k_is); (case k => k_is))
    (case d_same_hole => refine' HH.dn_same_hole KX G ?n ?l ?c ?k; (case n => k_is); (case l => k_is); (case c => k_is); (case k => k_is))
    (case d_to_fill => refine' HH.dn_to_fill KX G ?n ?l ?c ?k; (case n => k_is); (case l => k_is); (case c => k_is); (case k => k_is))
    (case d_with_hole => refine' HH.dn_with_hole KX G ?n ?l ?c ?k; (case n => k_is); (case l => k_is); (case c => k_is); (case k => k_is))
    (case d_without_hole => refine' HH.dn_without_hole KX G ?n ?l ?c ?k; (case n => k_is); (case l => k_is); (case c => k_is); (case k => k_is))
    (case d_take_up => refine' HH.dn_take_up KX G ?n ?l ?c ?k; (case n => k_is); (case l => k_is); (case c => k_is); (case k => k_is))
    (case d_taken_up => refine' HH.dn_taken_up KX G ?n ?l ?c ?k; (case n => k_is); (case l => k_is); (case c => k_is); (case k => k_is))
    (case d_refuse_where => refine' HH.dn_refuse_where KX G ?n ?l ?c ?k; (case n => k_is); (case l => k_is); (case c => k_is); (case k => k_is))
    (case d_begin => refine' HH.dn_begin KX G ?n ?l ?c ?k; (case n => k_is); (case l => k_is); (case c => k_is); (case k => k_is))
    (case d_make_hole => refine' HH.dn_make_hole KX G ?n ?l ?c ?k; (case n => k_is); (case l => k_is); (case c => k_is); (case k => k_is))
    (case d_terms_of => refine' HH.dn_terms_of KX G ?n ?l ?c ?k; (case n => k_is); (case l => k_is); (case c => k_is); (case k => k_is))
    (case d_equate => refine' HH.dn_equate KX G ?n ?l ?c ?k; (case n => k_is); (case l => k_is); (case c => k_is); (case k => k_is))
    (case d_written_or_refused => refine' HH.dn_written_or_refused KX G ?n ?l ?c ?k; (case n => k_is); (case l => k_is); (case c => k_is); (case k => k_is))
    (case d_full => refine' HH.dn_full KX G ?n ?l ?c ?k; (case n => k_is); (case l => k_is); (case c => k_is); (case k => k_is))
    (case d_compared => refine' HH.dn_compared KX G ?n ?l ?c ?k; (case n => k_is); (case l => k_is); (case c => k_is); (case k => k_is))
    (case d_look => refine' HH.dn_look KX G ?n ?l ?c ?k; (case n => k_is); (case l => k_is); (case c => k_is); (case k => k_is))
    (case d_wait => refine' HH.dn_wait KX G ?n ?l ?c ?k; (case n => k_is); (case l => k_is); (case c => k_is); (case k => k_is))
    (case d_mark => refine' HH.dn_mark KX G ?n ?l ?c ?k; (case n => k_is); (case l => k_is); (case c => k_is); (case k => k_is))
    (case d_back => refine' HH.dn_back KX G ?n ?l ?c ?k; (case n => k_is); (case l => k_is); (case c => k_is); (case k => k_is))
    (case d_names_unseen => refine' HH.dn_names_unseen KX G ?n ?l ?c ?k; (case n => k_is); (case l => k_is); (case c => k_is); (case k => k_is))
    (case d_fillings_of => refine' HH.dn_fillings_of KX G ?n ?l ?c ?k; (case n => k_is); (case l => k_is); (case c => k_is); (case k => k_is))
    (case d_fill => refine' HH.dn_fill KX G ?n ?l ?c ?k; (case n => k_is); (case l => k_is); (case c => k_is); (case k => k_is))
    (case d_told_of_terms => refine' HH.dn_told_of_terms KX G ?n ?l ?c ?k; (case n => k_is); (case l => k_is); (case c => k_is); (case k => k_is))
    (case d_told => refine' HH.dn_told KX G ?n ?l ?c ?k; (case n => k_is); (case l => k_is); (case c => k_is); (case k => k_is))
    (case d_told_or_refused => refine' HH.dn_told_or_refused KX G ?n ?l ?c ?k; (case n => k_is); (case l => k_is); (case c => k_is); (case k => k_is))
    (case e_nr => refine' HH.exc_mk KX G ?n ?zx ?k ?b ?t ?i ?s; (case n => k_is); (case zx => k_exc); (case k => k_is); (case b => k_is); (case t => k_is); (case i => k_is); (case s => first | rfl | k_is))
    (case e_tl => refine' HH.exc_mk KX G ?n ?zx ?k ?b ?t ?i ?s; (case n => k_is); (case zx => k_exc); (case k => k_is); (case b => k_is); (case t => k_is); (case i => k_is); (case s => first | rfl | k_is))
    (case e_ch => refine' HH.exc_mk KX G ?n ?zx ?k ?b ?t ?i ?s; (case n => k_is); (case zx => k_exc); (case k => k_is); (case b => k_is); (case t => k_is); (case i => k_is); (case s => first | rfl | k_is))
    (case e_chtl => refine' HH.exm_of ?b ?i ?t ?s; (case b => k_is); (case i => k_is); (case t => k_is); (case s => first | k_is | rfl))
    (case e_rf => refine' HH.rf_mk KX G ?n ?xL ?sa ?ga ?gg ?nb ?a1 ?t1 ?l ?c ?k1 ?kC ?eC ?tC ?hC ?iC ?sC; (case n => k_is); (case xL => k_is); (case sa => k_is); (case ga => k_is); (case gg => k_is); (case nb => k_is); (case a1 => k_is); (case t1 => k_is); (case l => k_is); (case c => k_is); (case k1 => k_is); (case kC => k_is); (case eC => k_is); (case tC => k_is); (case hC => k_is); (case iC => k_is); (case sC => first | rfl | k_is))
    (case i_rd => refine' HH.in_rd KX G ?n ?pg ?hd ?po ?sa ?n0 ?n1 ?n2 ?n3 ?mk ?kc ?a1 ?i1 ?l ?c ?k; (case n => k_is); (case pg => k_is); (case hd => k_is); (case po => k_is); (case sa => k_is); (case n0 => k_is); (case n1 => k_is); (case n2 => k_is); (case n3 => k_is); (case mk => k_is); (case kc => k_is); (case a1 => k_is); (case i1 => k_is); (case l => k_is); (case c => k_is); (case k => k_is))
    (case i_bg => refine' HH.in_bg KX G ?n ?pg ?hd ?po ?sa ?n0 ?mk ?kc ?a1 ?i1 ?l ?c ?k; (case n => k_is); (case pg => k_is); (case hd => k_is); (case po => k_is); (case sa => k_is); (case n0 => k_is); (case mk => k_is); (case kc => k_is); (case a1 => k_is); (case i1 => k_is); (case l => k_is); (case c => k_is); (case k => k_is))
    (case i_wk => refine' HH.in_wk KX G ?n ?pg ?hd ?po ?sa ?n0 ?n1 ?n2 ?mk ?kc ?a1 ?i1 ?l ?c ?k; (case n => k_is); (case pg => k_is); (case hd => k_is); (case po => k_is); (case sa => k_is); (case n0 => k_is); (case n1 => k_is); (case n2 => k_is); (case mk => k_is); (case kc => k_is); (case a1 => k_is); (case i1 => k_is); (case l => k_is); (case c => k_is); (case k => k_is))
    (case i_dk => refine' HH.in_dk KX G ?n ?pg ?hd ?po ?sa ?n0 ?n1 ?n2 ?mk ?kc ?a1 ?i1 ?l ?c ?k; (case n => k_is); (case pg => k_is); (case hd => k_is); (case po => k_is); (case sa => k_is); (case n0 => k_is); (case n1 => k_is); (case n2 => k_is); (case mk => k_is); (case kc => k_is); (case a1 => k_is); (case i1 => k_is); (case l => k_is); (case c => k_is); (case k => k_is))
    (case t_numbers_of => refine' HH.tup_mk KX G ?n ?l ?v ?z; (case n => k_is); (case l => k_is); (case v => exact (.cons ⟨_, rfl⟩ (.cons ⟨_, rfl⟩ (.cons ⟨_, rfl⟩ (.cons ⟨_, rfl⟩ (.cons ⟨_, rfl⟩ (.cons ⟨_, rfl⟩ (.cons ⟨_, rfl⟩ (.cons ⟨_, rfl⟩ (.cons ⟨_, rfl⟩ (.cons ⟨_, rfl⟩ .nil))))))))))); (case z => decide))
    (case t_rows_of => refine' HH.tup_mk KX G ?n ?l ?v ?z; (case n => k_is); (case l => k_is); (case v => exact (.cons ⟨_, rfl⟩ (.cons ⟨_, rfl⟩ (.cons ⟨_, rfl⟩ (.cons ⟨_, rfl⟩ (.cons ⟨_, rfl⟩ (.cons ⟨_, rfl⟩ (.cons ⟨_, rfl⟩ (.cons ⟨_, rfl⟩ (.cons ⟨_, rfl⟩ (.cons ⟨_, rfl⟩ .nil))))))))))); (case z => decide))
  case S =>
    intro K H xs a hO hwi hask hx
    cases hx with
    | cons h1 h2 =>
      cases h2
      cases h1 with
      | lst hs ha =>
        have e := L2.ints_dw a.1 _ ha
        subst e
        have q : ((Codec.inLen 0 24180 a.1 && a.1.all (Codec.inInt 0 4294967295)) && true) = true := hwi
        rw [Bool.and_eq_true, Bool.and_eq_true] at q
        exact ⟨_, a.1, rfl, hs, Nat.le_trans (Codec.inNat_iff.mp q.1.1).2 (by decide), hask, fun H' p hp => .lst (L2.SqL.of hp) (L2.dw_ints _)⟩
