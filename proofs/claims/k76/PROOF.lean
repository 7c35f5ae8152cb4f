import PyProof.Rows.All
import Wide.All
import OpenK.AllK
import Wide.FinOn
import HandS.ForMost
import HandS.AnyAll
import HandS.GenOver
import HandS.Iter
import KE.GoesMore
import PyProof.EnumMake
import HandS.Flow
import HandS.IsInst
import HandS.TupLen
import HandS.Conv
import PyProof.Rows.SortShellAny
import HandS.HeadHook4
import HandS.HeadWalk
import HandS.SetTxt0
import HandS.Set
import HandS.TupSets
import HandS.SetBool
import HandS.Head2
import HandS.HeadEnd
import PySem.Challenge.RW_sheetlines_k76_led_by_all_ways
section
set_option Elab.async false
set_option linter.all false
set_option maxRecDepth 100000
set_option maxHeartbeats 2000000
/-! any, all of a generator expression whose element may be anything (also calls). -/
namespace GX
open PySem PySem.Spec PyProof.Rows L2 GxR

/-! ### the loops of all, any by an invariant -/
section
variable {prog : Program} {w : World} {A : Around} {R : Result → Shared → Prop} {I : Addr}
theorem all_loop (J : Nat → Shared → Prop)
    (step : ∀ k s, J k s → wpAny (model prog w) A.in1 (pyNext (.ref I)) (fun r s' => match r with
      | none => R (.ok (.ret (.bool true))) s'
      | some v => ∃ b, v = .bool b ∧ (if b = true then ∃ m, m < k ∧ J m s' else R (.ok (.ret (.bool false))) s')) (fun _ _ => False) s) :
    ∀ (k : Nat) (s : Shared), J k s → codeAny (model prog w) A (.builtin "all.loop" ⟨[.ref I], []⟩) R s := by
  intro k
  induction k using Nat.strongRecOn with
  | ind k ih =>
    intro s hJ
    refine codeAny_builtin F.entry_all_loop ?_
    rw [Around.under_plainId F.plain_all_loop _]
    show wpAny _ A.in1 (pyNext (.ref I) >>= _) _ _ s
    refine wpAny_bind (wpAny_mono (step k s hJ) (fun r s' h => ?_) fun _ _ x => x.elim)
    cases r with
    | none => exact wpAny_bind (wpAny_rule (wpAny_pure h))
    | some v =>
      obtain ⟨b, rfl, h⟩ := h
      refine wpAny_bind (wpAny_holding (wpAny_truthy_bool ?_))
      refine wpAny_bind (wpAny_letGo ?_)
      cases b with
      | true =>
        obtain ⟨m, hm, hJ'⟩ := h
        simp only [if_true]
        exact wpAny_pure ⟨plainId_quiet F.plain_all_loop _, ih m hm _ hJ'⟩
      | false =>
        simp only [Bool.false_eq_true, if_false]
        first
          | exact wpAny_pure h
          | exact wpAny_bind (wpAny_rule (wpAny_pure h))
theorem any_loop (J : Nat → Shared → Prop)
    (step : ∀ k s, J k s → wpAny (model prog w) A.in1 (pyNext (.ref I)) (fun r s' => match r with
      | none => R (.ok (.ret (.bool false))) s'
      | some v => ∃ b, v = .bool b ∧ (if b = false then ∃ m, m < k ∧ J m s' else R (.ok (.ret (.bool true))) s')) (fun _ _ => False) s) :
    ∀ (k : Nat) (s : Shared), J k s → codeAny (model prog w) A (.builtin "any.loop" ⟨[.ref I], []⟩) R s := by
  intro k
  induction k using Nat.strongRecOn with
  | ind k ih =>
    intro s hJ
    refine codeAny_builtin F.entry_any_loop ?_
    rw [Around.under_plainId F.plain_any_loop _]
    show wpAny _ A.in1 (pyNext (.ref I) >>= _) _ _ s
    refine wpAny_bind (wpAny_mono (step k s hJ) (fun r s' h => ?_) fun _ _ x => x.elim)
    cases r with
    | none => exact wpAny_bind (wpAny_rule (wpAny_pure h))
    | some v =>
      obtain ⟨b, rfl, h⟩ := h
      refine wpAny_bind (wpAny_holding (wpAny_truthy_bool ?_))
      refine wpAny_bind (wpAny_letGo ?_)
      cases b with
      | false =>
        obtain ⟨m, hm, hJ'⟩ := h
        simp only [Bool.false_eq_true, if_false]
        exact wpAny_pure ⟨plainId_quiet F.plain_any_loop _, ih m hm _ hJ'⟩
      | true =>
        simp only [if_true]
        first
          | exact wpAny_pure h
          | exact wpAny_bind (wpAny_rule (wpAny_pure h))
end
end GX
end
section
set_option Elab.async false
set_option linter.all false
set_option maxRecDepth 100000
set_option maxHeartbeats 2000000
namespace GX
open PySem PySem.Spec PyProof.Rows L2 GxR

/-- the generator expression's own scope: its own names (in own, by slot), the walked thing at «.0», captured names that the def has -/
structure GexOk (N : List Str) (sc scope : Scope) (own : List (Str × Nat)) : Prop where
  kind : scope.kind = .function
  co : scope.isCoroutine = false
  uniq : ∀ y ∈ scope.names, scope.names.lookup y.1 = some y.2
  ix : ∀ p ∈ own, N[p.2]? = some p.1
  free : ∀ y ∈ scope.names, y.2 = .free → sc.names.lookup y.1 = some .cell ∨ sc.names.lookup y.1 = some .free
  own : ∀ y ∈ scope.names, y.2 = .local → y.1 ∈ own.map (·.1) ∨ y.1 ∉ N
  cell : ∀ y ∈ scope.names, y.2 ≠ .cell
  dot : scope.names.lookup (".0" : Str) = some NameKind.local

abbrev Cx.gex (X : Cx) (A' : Around) (s : Shared) (H : Hp) (cenv : Env) (fp : List Addr) : Cx :=
  { X with A := A', s_0 := s, H_0 := H, env := cenv, outer := X.stack, stack := cenv :: X.stack, ex := fp, fn := fun _ => false, calm := true, pn := [], xe := fun _ _ => False }

section
variable {X : Cx} {pins : List (Addr × Obj)} {σ : L2.St} {H : Hp} {s : Shared}

theorem gex_start {scope : Scope} {own : List (Str × Nat)} {fp : List Addr} {A' : Around} {code : Value} {cenv : Env} {s5 : Shared} {m5 : Str → Option Value}
    (I : Inv X pins σ H s) (ok : GexOk X.N X.env.scope scope own) (hN : X.N.Nodup) (hfp : ∀ b ∈ fp, FpOk X pins H b ∧ b < s.heap.objs.size)
    (hce : cenv = genEnv scope (cloFrom X.env.cells scope.names []) s.heap.objs.size code builtinsNs X.env)
    (hfr : A'.frames = some (cenv :: X.stack)) (hh : A'.handled = none)
    (hk : ∀ b o, s.heap.get? b = some o → s5.heap.get? b = some o) (hos : s5.os = s.os) (hb : AllBare s5.gens) (hns : s5.heap.Ns s.heap.objs.size m5) :
    Inv (Cx.gex X A' s H cenv fp) [] (wipe σ (own.map (·.2))) H s5 := by
  have hfree : ∀ y ∈ scope.names, y.2 = .free → ∃ c, X.env.cells.lookup y.1 = some c := fun y hy e => by
    rcases ok.free y hy e with k | k
    · exact I.ok.has _ (.inl k)
    · exact I.ok.has _ (.inr k)
  have hL : cenv.locals = s.heap.objs.size := by rw [hce]; rfl
  have hcl : cenv.cells = cloFrom X.env.cells scope.names [] := by rw [hce]; rfl
  have hsc : cenv.scope = scope := by rw [hce]; rfl
  have cm : ∀ {y c}, (y, c) ∈ cloFrom X.env.cells scope.names [] → X.env.cells.lookup y = some c ∧ c < s.heap.objs.size := fun {y c} hm => by
    rcases cloFrom_mem hm with hm | ⟨h1, rfl⟩
    · cases hm
    · obtain ⟨c, hc⟩ := hfree _ h1 rfl
      rw [hc]
      obtain ⟨w, z⟩ := I.cell _ _ hc
      exact ⟨rfl, z.lt⟩
  have mem : ∀ {y c}, cenv.cells.lookup y = some c → X.env.cells.lookup y = some c ∧ c < s.heap.objs.size := fun {y c} e => by
    rw [hcl] at e
    exact cm (PySem.mem_of_lookup e)
  have look : ∀ {y}, scope.names.lookup y = some .free → ∃ c, cenv.cells.lookup y = some c ∧ X.env.cells.lookup y = some c := fun {y} hl => by
    have hy : (y, NameKind.free) ∈ scope.names := PySem.mem_of_lookup hl
    obtain ⟨c', e'⟩ := mem_lookup (cloFrom_has (cells := X.env.cells) (acc := []) hy)
    rw [← hcl] at e'
    exact ⟨c', e', (mem e').1⟩
  have kindOf : ∀ {y}, cenv.kindOf y = scope.names.lookup y := fun {y} => by
    unfold Env.kindOf
    rw [hsc]
  have okB : (Cx.gex X A' s H cenv fp).Ok := by
    refine ⟨I.ok.mod, by show cenv.scope.kind = _; rw [hsc]; exact ok.kind, by show cenv.globals = _; rw [hce]; exact I.ok.glob, by show cenv.builtins = _; rw [hce]; rfl, by show s.heap.objs.size ≤ cenv.locals; rw [hL]; exact Nat.le_refl _,
      fun y z c e1 e2 => I.ok.inj y z c (mem e1).1 (mem e2).1, fun y hy => ?_, fun y c z e => absurd z (by simp), fun _ => hh, hfr, .inr ⟨rfl, by show cenv.frame = some cenv.locals; rw [hce]; rfl⟩, fun b hb => ⟨?_, fun y c e z => ?_⟩, I.bs, Nat.le_trans I.ok.bsz I.sz, fun b o e hb => ?_, fun b hb z => ?_, I.stack, I.stkFree⟩
    · show ∃ c, cenv.cells.lookup y = some c
      rcases hy with hy | hy
      · have hy : cenv.kindOf y = some .cell := hy
        rw [kindOf] at hy
        exact absurd rfl (ok.cell _ (PySem.mem_of_lookup hy))
      · have hy : cenv.kindOf y = some .free := hy
        rw [kindOf] at hy
        obtain ⟨c, h1, _⟩ := look hy
        exact ⟨c, h1⟩
    · show b ≠ cenv.locals
      rw [hL]; exact Nat.ne_of_lt (hfp b hb).2
    · have e : cenv.cells.lookup y = some c := e
      exact (hfp b hb).1.2.2.2.2.1 y c (mem e).1 z
    · rcases (hfp b hb).1.2.2.2.1 with z | z
      · exact I.ok.noex b o e z
      · exact absurd (Nat.lt_of_lt_of_le (Heap.lt_size e) (Nat.le_trans I.ok.bsz z)) (Nat.lt_irrefl _)
    · rcases List.mem_cons.mp (I.stkSub b z) with z | z
      · exact (hfp b hb).1.2.1 z
      · exact (hfp b hb).1.2.2.1 z
  refine ⟨okB, hos, hb, Un.kept hk, ⟨m5, ?_, fun i y av e1 e2 e3 => ?_⟩, fun y c e => ?_, ?_, fun y c e => ?_, fun p hp => absurd (show p ∈ ([] : List (Addr × Obj)) ++ [] from hp) (by simp), I.hok.kept hk, by rw [wipe_length]; exact I.len⟩
  · show Heap.Ns _ cenv.locals _
    rw [hL]
    exact hns
  · obtain ⟨e2, hne⟩ := wipe_some e2
    have e3 : Vis cenv.scope y := e3
    have hfr : scope.names.lookup y = some .free := by
      rw [hsc] at e3
      rcases e3 with e3 | e3 | e3
      · rcases ok.own _ (PySem.mem_of_lookup e3) rfl with e' | e'
        · obtain ⟨p, hp, hpy⟩ := List.mem_map.mp e'
          have e4 := ok.ix p hp
          have : p.1 = y := hpy
          rw [this] at e4
          exact absurd (List.mem_map.mpr ⟨p, hp, nodup_ix hN e4 e1⟩) hne
        · exact absurd (List.mem_of_getElem? e1) e'
      · exact absurd rfl (ok.cell _ (PySem.mem_of_lookup e3))
      · exact e3
    obtain ⟨m, hn, hl⟩ := I.loc
    have hvis : Vis X.env.scope y := (ok.free _ (PySem.mem_of_lookup hfr) rfl).elim (fun k => .inr (.inl k)) (fun k => .inr (.inr k))
    obtain ⟨w, r, q⟩ := hl i y av e1 e2 hvis
    refine ⟨w, r, .inr ⟨.inr (by show cenv.kindOf y = _; rw [kindOf]; exact hfr), ?_⟩⟩
    obtain ⟨c, h1, h2⟩ := look hfr
    rcases q with ⟨k, _⟩ | ⟨_, c', e', z⟩
    · have k : X.env.scope.names.lookup y = some .local := k
      rcases ok.free _ (PySem.mem_of_lookup hfr) rfl with k' | k' <;> rw [show X.env.scope.names.lookup y = _ from k'] at k <;> cases k
    · rw [h2] at e'; cases e'
      exact ⟨c, h1, z.keeps hk⟩
  · obtain ⟨v, z⟩ := I.cell y c (mem e).1
    exact ⟨v, z.keeps hk⟩
  · show H cenv.locals = none
    rw [hL]
    exact I.hok.fresh (Nat.le_refl _)
  · exact I.freeC y c (mem e).1
end
end GX
end
section
set_option Elab.async false
set_option linter.all false
set_option maxRecDepth 100000
set_option maxHeartbeats 4000000
namespace GX
open PySem PySem.Spec PyProof.Rows L2 GxR

theorem inv_same {X : Cx} {pins : List (Addr × Obj)} {σ : L2.St} {H : Hp} {s s' : Shared} (I : Inv X pins σ H s) (h1 : s'.heap = s.heap) (h2 : s'.os = s.os) (h3 : AllBare s'.gens) : Inv X pins σ H s' := by
  obtain ⟨h', g', d', t', o'⟩ := s'
  have e1 : h' = s.heap := h1
  have e2 : o' = s.os := h2
  subst e1 e2
  exact ⟨I.ok, I.os, h3, I.base, I.loc, I.cell, I.free, I.freeC, I.pin, I.hok, I.len⟩

/-- what the generator says at its end, at a yield -/
def RE (Xg : Cx) (pn : List (Addr × Obj)) (σw : L2.St) (QF : Hp → Prop) : GenEnd := fun _ _ r s₁ => r = .ok .next ∧ ∃ H', Inv Xg pn σw H' s₁ ∧ QF H'
def YP (Xg : Cx) (pn : List (Addr × Obj)) (σw : L2.St) (stp : Bool) (QS : Hp → Prop) : Protocol := fun _ _ v s₁ kap =>
  ∃ b H', v = .bool b ∧ Inv Xg pn σw H' s₁ ∧ (if b = stp then QS H' else ∀ s'', s''.heap = s₁.heap → s''.os = s₁.os → AllBare s''.gens → kap (.send .none) s'')

section
variable {X : Cx} {Xg : Cx} {pn : List (Addr × Obj)} {σ : L2.St} {vs : List Nat} {stp : Bool} {QF QS : Hp → Prop} {elt tg iter : Expr} {ifs : List Expr} {scope : Scope} {gpos : Pos} {it : Addr} {fp : List Addr} {tn : Nat → Heap → Prop} {J : It}
  {g : TG} {tt : TT} {te : TE} {A1 : Around}

theorem seg_gex_loop (hex : Xg.ex = fp) (hpn0 : Xg.pn = []) (hc : Xg.calm = true) (hxe : Xg.xe = fun _ _ => False)
    (hA : Xg.A = A1.over (.compLoop (.GeneratorExp elt [⟨tg, iter, ifs, 0⟩] scope gpos) 0 (.ref it) .none Xg.env) [])
    (hco : Xg.env.scope.isCoroutine = false) (hpnf : ∀ p ∈ pn, p.1 ∉ fp)
    (pg : PG Xg tg g) (pt : PTs Xg ifs tt) (pe : PE Xg elt te) (T : Turn Xg.prog Xg.w Xg.K tg J fp it tn)
    (W : Nat → Nat → Hp → Prop)
    (turn : ∀ i m H, W i m H → (J.stop i H ∧ QF H) ∨ (J.go i H ∧ ∃ Nx : Hp → Prop, (∀ H', Nx H' → ∃ m', m' < m ∧ W (i + 1) m' H') ∧ ∀ x H', J.yld i H x H' → g x (wipe σ vs) H' fun σ2 H2 => wipe σ2 vs = wipe σ vs ∧ tt σ2 H2 fun b H3 =>
      if b = true then te σ2 H3 fun y H4 => ∃ c, y = .bl c ∧ (if c = stp then QS H4 else Nx H4) else Nx H3)) :
    ∀ (k i n : Nat) (s₀ s : Shared) (H' : Hp), W i k H' → k < n → Inv Xg pn (wipe σ vs) H' s → tn i s.heap → (∀ b ∈ fp, H' b = none) →
      Seg (model Xg.prog Xg.w) A1 (RE Xg pn (wipe σ vs) QF) (YP Xg pn (wipe σ vs) stp QS) n s₀
        (.compLoop (.GeneratorExp elt [⟨tg, iter, ifs, 0⟩] scope gpos) 0 (.ref it) .none Xg.env)
        ((model Xg.prog Xg.w).den (.compLoop (.GeneratorExp elt [⟨tg, iter, ifs, 0⟩] scope gpos) 0 (.ref it) .none Xg.env)) [] s := by
  have stat : ∀ {pl : List (Addr × Obj)} {σ' : L2.St} {H' : Hp} {s' : Shared}, (∀ p ∈ pl, p.1 ∉ fp) → Inv Xg pl σ' H' s' → (∀ b ∈ fp, H' b = none) → ∀ b ∈ fp, FpOk Xg pl H' b := fun {pl σ' H' s'} hpl I' hn b hb => by
    have hb' : b ∈ Xg.ex := by rw [hex]; exact hb
    refine ⟨hn b hb, (I'.ok.exf b hb').1, I'.ok.exfs b hb', .inl hb', fun x c e => (I'.ok.exf b hb').2 x c e, fun p hp => ?_⟩
    rw [hpn0, List.nil_append] at hp
    intro z
    exact hpl p hp (z ▸ hb)
  intro k
  induction k using Nat.strongRecOn with
  | ind k ih =>
    intro i n s₀ s H' w hkn I st nf
    show Seg _ A1 _ _ _ s₀ _ ((compTurn (.GeneratorExp elt [⟨tg, iter, ifs, 0⟩] scope gpos) 0 (.ref it) .none Xg.env).onRaise (leaving Xg.env)) [] s
    rw [compTurn_gen, Sem.onRaise_eq_wrap]
    refine seg_bind_wrap (wpAny_standAt ?_)
    rcases turn i k H' w with ⟨stop, qq⟩ | ⟨go, Nx, hNx, step⟩
    · have td := T.done Xg rfl rfl rfl hc i pn s _ H' (fun _ _ => False) I (stat hpnf I nf) st stop
      rw [hA] at td
      refine seg_bind_wrap (thnF td fun r s6 ⟨hr, I6⟩ => ?_)
      subst hr
      exact seg_end (.ok .next) ⟨rfl, H', I6, qq⟩
    · have ti := T.item Xg rfl rfl rfl hc i pn s _ H' (fun _ _ => False) I (stat hpnf I nf) st go
      rw [hA] at ti
      refine seg_bind_wrap (thnF ti fun r s6 ⟨u, hr, h6⟩ => ?_)
      subst hr
      refine seg_bind_wrap (thnF h6 fun _ s7 ⟨x, H7, I7, r7, y7, st7, n7⟩ => ?_)
      have I7' := I7.pinned (stat hpnf I7 n7) (T.obj _ _ st7)
      have t1 := pg.run _ s7 _ H7 x u _ I7' r7 (step x H7 y7)
      rw [hA, hxe] at t1
      refine seg_bind_wrap (thnF t1 fun _ s8 ⟨σ8, H8, I8, hw8, q8⟩ => ?_)
      have t2 := pt.run _ s8 σ8 H8 _ I8 q8
      rw [hA, hxe] at t2
      refine seg_bind_wrap (thnF t2 fun b s9 ⟨H9, I9, q9⟩ => ?_)
      have fin : ∀ {s' : Shared} {H' : Hp}, Inv Xg (pn ++ pinsAt fp s7.heap) σ8 H' s' → Inv Xg pn (wipe σ vs) H' s' ∧ tn (i + 1) s'.heap ∧ (∀ b ∈ fp, H' b = none) := fun {s' H'} I' => by
        refine ⟨?_, ?_, ?_⟩
        · have J1 := I'.unpinned
          rw [← hw8]
          exact J1.weak (wipe_length _ _) fun j v e => (wipe_some e).1
        · refine T.keep _ _ _ st7 fun b hb o e => ?_
          exact (I'.pin (b, o) (List.mem_append_right _ (List.mem_append_right _ (mem_pinsAt hb e)))).1
        · intro b hb
          obtain ⟨o, e, _⟩ := T.obj _ _ st7 b hb
          exact (I'.pin (b, o) (List.mem_append_right _ (List.mem_append_right _ (mem_pinsAt hb e)))).2.1
      cases b with
      | false =>
        simp only [Bool.false_eq_true, if_false] at q9 ⊢
        obtain ⟨m', hm, w'⟩ := hNx _ q9
        obtain ⟨f1, f2, f3⟩ := fin I9
        exact seg_again rfl (ih m' hm (i + 1) n s₀ _ _ w' (by omega) f1 f2 f3)
      | true =>
        simp only [if_true] at q9 ⊢
        have hy : ∀ v, yieldOut Xg.env v = yieldValue v := fun v => by simp only [yieldOut, hco, Bool.false_eq_true, if_false]
        simp only [hy]
        rw [Sem.bind_eq_wrap', Sem.bind_eq_wrap', Sem.wrap_wrap, Sem.wrap_wrap]
        have t3 := pe.run _ s9 σ8 H9 _ I9 q9
        rw [hA, hxe] at t3
        refine seg_wrap (thnF t3 fun u4 s10 ⟨y, H10, I10, r10, c, hyc, q10⟩ => ?_)
        subst hyc
        cases r10
        obtain ⟨f1, f2, f3⟩ := fin I10
        by_cases hcs : c = stp
        · rw [if_pos hcs] at q10
          obtain ⟨n', rfl⟩ : ∃ n', n = n' + 1 := ⟨n - 1, by omega⟩
          exact seg_at (seg_yield rfl rfl rfl ⟨c, H10, rfl, f1, by rw [if_pos hcs]; exact q10⟩)
        · rw [if_neg hcs] at q10
          obtain ⟨m', hm, w'⟩ := hNx _ q10
          obtain ⟨n', rfl⟩ : ∃ n', n = n' + 1 := ⟨n - 1, by omega⟩
          refine seg_at (seg_yield rfl rfl rfl ⟨c, H10, rfl, f1, ?_⟩)
          rw [if_neg hcs]
          intro s'' e1 e2 e3
          refine seg_again rfl (ih m' hm (i + 1) n' s'' s'' _ w' (by omega) (inv_same f1 e1 e2 e3) (by rw [e1]; exact f2) f3)

theorem seg_gex_start {c0 : Code} (hex : Xg.ex = fp) (hpn0 : Xg.pn = []) (hc : Xg.calm = true) (hxe : Xg.xe = fun _ _ => False)
    (hA : Xg.A = A1.over (.compLoop (.GeneratorExp elt [⟨tg, iter, ifs, 0⟩] scope gpos) 0 (.ref it) .none Xg.env) [])
    (hco : Xg.env.scope.isCoroutine = false) (hpnf : ∀ p ∈ pn, p.1 ∉ fp)
    (pg : PG Xg tg g) (pt : PTs Xg ifs tt) (pe : PE Xg elt te) (T : Turn Xg.prog Xg.w Xg.K tg J fp it tn)
    (W : Nat → Nat → Hp → Prop)
    (turn : ∀ i m H, W i m H → (J.stop i H ∧ QF H) ∨ (J.go i H ∧ ∃ Nx : Hp → Prop, (∀ H', Nx H' → ∃ m', m' < m ∧ W (i + 1) m' H') ∧ ∀ x H', J.yld i H x H' → g x (wipe σ vs) H' fun σ2 H2 => wipe σ2 vs = wipe σ vs ∧ tt σ2 H2 fun b H3 =>
      if b = true then te σ2 H3 fun y H4 => ∃ c, y = .bl c ∧ (if c = stp then QS H4 else Nx H4) else Nx H3))
    (k n : Nat) (s₀ s : Shared) (H' : Hp) (w0 : W 0 k H') (hkn : k < n) (I : Inv Xg pn (wipe σ vs) H' s) (st : tn 0 s.heap) (nf : ∀ b ∈ fp, H' b = none) :
      Seg (model Xg.prog Xg.w) A1 (RE Xg pn (wipe σ vs) QF) (YP Xg pn (wipe σ vs) stp QS) n s₀
        (.compStart (.GeneratorExp elt [⟨tg, iter, ifs, 0⟩] scope gpos) 0 (.ref it) .none Xg.env)
        ((model Xg.prog Xg.w).den (.compStart (.GeneratorExp elt [⟨tg, iter, ifs, 0⟩] scope gpos) 0 (.ref it) .none Xg.env)) [] s := by
  have loop := seg_gex_loop hex hpn0 hc hxe hA hco hpnf pg pt pe T W turn k 0 n s₀ s H' w0 hkn I st nf
  show Seg _ A1 _ _ _ s₀ _ ((compStart (.GeneratorExp elt [⟨tg, iter, ifs, 0⟩] scope gpos) 0 (.ref it) .none Xg.env).onRaise (leaving Xg.env)) [] s
  unfold compStart
  rw [Sem.onRaise_eq_wrap]
  show Seg _ A1 _ _ _ s₀ _ ((ask >>= _).wrap _ _ _ _) [] s
  refine seg_bind_wrap (wpAny_askSetting ?_)
  split
  · exact seg_again rfl loop
  · first
      | exact seg_bind_wrap (wpAny_rule (seg_bind_wrap (wpAny_standAt (seg_bind_wrap (T.self _ 0 s _ _ st (seg_again rfl loop))))))
      | (refine seg_bind_wrap (wpAny_rule ?_); show Seg _ A1 _ _ _ s₀ _ ((standAt iter.pos >>= _).wrap _ _ _ _) [] s; exact seg_bind_wrap (wpAny_standAt (seg_bind_wrap (T.self _ 0 s _ _ st (seg_again rfl loop)))))
end
end GX
end
section
set_option Elab.async false
set_option linter.all false
set_option maxRecDepth 100000
set_option maxHeartbeats 4000000
namespace GX
open PySem PySem.Spec PyProof.Rows L2 GxR

theorem bare_set {gens : Array GenState} {g : Nat} {gs : GenState} (h : AllBare gens) (hb : gs.bare = true) : AllBare (gens.setIfInBounds g gs) := by
  intro y hy
  obtain ⟨i, hi, rfl⟩ := Array.mem_iff_getElem.mp hy
  have hi' : i < gens.size := by simpa using hi
  rw [Array.getElem_setIfInBounds hi']
  split
  · exact hb
  · exact h _ (Array.getElem_mem _)

/-- any, all by any element: the reading -/
def tAA (P : Addr) (stp : Bool) (wi : TI) (g : TG) (tt : TT) (te : TE) (vs : List Nat) : TE := fun σ H Q => wi σ H fun J H1 => TabG H1 P ∧ ∀ H2, Tabbed P H1 H2 → ∃ W : Nat → Nat → Hp → Prop, (∃ m, W 0 m H2) ∧ ∀ i m H, W i m H →
  (J.stop i H ∧ Q (.bl (!stp)) H) ∨ (J.go i H ∧ ∃ Nx : Hp → Prop, (∀ H', Nx H' → ∃ m', m' < m ∧ W (i + 1) m' H') ∧ ∀ x H', J.yld i H x H' → g x (wipe σ vs) H' fun σ2 H2 => wipe σ2 vs = wipe σ vs ∧ tt σ2 H2 fun b H3 =>
    if b = true then te σ2 H3 fun y H4 => ∃ c, y = .bl c ∧ (if c = stp then Q (.bl stp) H4 else Nx H4) else Nx H3)

/-- the generator of address a, number g, that may go on (at most n yields more) -/
def GReady (X : Cx) (pins : List (Addr × Obj)) (σ : L2.St) (stp : Bool) (QF QS : Hp → Prop) (a : Addr) (g n : Nat) (s : Shared) : Prop :=
  ∃ (Xg : Cx) (pn : List (Addr × Obj)) (σw : L2.St) (go : Obj) (gs : GenState), Xg.prog = X.prog ∧ Xg.w = X.w ∧ (a, go) ∈ pn ∧ (∀ h : Heap, h.get? a = some go → h.IsGen a g) ∧ (∀ H' s', Inv Xg pn σw H' s' → Inv X pins σ H' s') ∧
    s.heap.get? a = some go ∧ s.heap.NoLimit ∧ AllBare s.gens ∧ s.gens[g]? = some gs ∧
    gs.Goes (model X.prog X.w) X.A.in1.in1 (RE Xg pn σw QF) (YP Xg pn σw stp QS) n (.send .none) (s.setGen g .running)

section
variable {X : Cx} {pins : List (Addr × Obj)} {σ : L2.St} {stp : Bool} {QF QS : Hp → Prop} {a : Addr} {g : Nat}
theorem gnext (hr : Room 1 X.A) {n : Nat} {s : Shared} (h : GReady X pins σ stp QF QS a g n s) :
    wpAny (model X.prog X.w) X.A.in1 (pyNext (.ref a)) (fun r s' => match r with
      | none => ∃ H', Inv X pins σ H' s' ∧ QF H'
      | some v => ∃ b, v = .bool b ∧ (if b = stp then ∃ H', Inv X pins σ H' s' ∧ QS H' else ∃ m, m < n ∧ GReady X pins σ stp QF QS a g m s')) (fun _ _ => False) s := by
  obtain ⟨Xg, pn, σw, go, gs, hP, hw, hmem, hgen, back, ha, hl, hb, hgs, hgo⟩ := h
  have hsz : g + 1 ≤ s.gens.size := (Array.getElem?_eq_some_iff.mp hgs).1
  refine GenW.wpAny_gsz (n := g + 1) hsz (wpAny_mono (Q := fun r s' => g + 1 ≤ s'.gens.size → (match r with
      | none => ∃ H', Inv X pins σ H' s' ∧ QF H'
      | some v => ∃ b, v = .bool b ∧ (if b = stp then ∃ H', Inv X pins σ H' s' ∧ QS H' else ∃ m, m < n ∧ GReady X pins σ stp QF QS a g m s'))) ?_ (fun _ _ h => h) fun _ _ h _ => h)
  refine wpAny_pyNext_genexpQ (P := fun _ _ s₁ => ∃ H', Inv Xg pn σw H' s₁ ∧ QF H') (Y := YP Xg pn σw stp QS) (n := n) (g := g) (gs := gs) (by show X.A.handled = none; exact hr.hd) hl (by show X.A.depth < recursionLimit; exact hr.depth) (hgen _ ha) hgs hgo (fun v s₁ gs' hbare hv hsz' => ?_) (fun s₁ hp h' hk' hsz' => ?_)
  · obtain ⟨b, H', rfl, I', hif⟩ := hv
    have IX := back _ _ I'
    have hbr : AllBare (s₁.setGen g gs').gens := bare_set I'.bare hbare
    refine ⟨b, rfl, ?_⟩
    by_cases hbs : b = stp
    · rw [if_pos hbs] at hif ⊢
      exact ⟨H', inv_same IX rfl rfl hbr, hif⟩
    · rw [if_neg hbs] at hif ⊢
      cases n with
      | zero => exact (hif s₁ rfl rfl I'.bare).elim
      | succ m =>
        refine ⟨m, Nat.lt_succ_self m, Xg, pn, σw, go, gs', hP, hw, hmem, hgen, back, (I'.pin _ (List.mem_append_right _ hmem)).1, I'.nolimit, hbr, ?_, ?_⟩
        · have hs1 : g < s₁.gens.size := by
            have e : (s₁.setGen g gs').gens.size = s₁.gens.size := by simp [Shared.setGen]
            have h2 : g + 1 ≤ (s₁.setGen g gs').gens.size := hsz'
            omega
          exact setGen_self (gs := s₁.gens[g]) (Array.getElem?_eq_getElem hs1)
        · exact hif _ rfl rfl (bare_set hbr rfl)
  · obtain ⟨H', I', q⟩ := hp
    have IX := back _ _ I'
    refine ⟨H', ?_, q⟩
    have I2 := IX.kept (h' := h') (t' := s₁.toks) hk'
    exact inv_same I2 rfl rfl (bare_set I'.bare rfl)
end
section
variable {X : Cx} {pins : List (Addr × Obj)} {σ : L2.St} {H : Hp} {s : Shared} {stp : Bool} {c P : Addr} {elt tg iter : Expr} {ifs : List Expr} {scope : Scope} {own : List (Str × Nat)} {gpos : Pos} {wi : TI} {g : TG} {tt : TT} {te : TE} {k : Nat}

theorem gen_mk {Q : VK} {Q' : Value → Shared → Prop} (hr : Room (k + 1) X.A) (hc : X.calm = true) (hN : X.N.Nodup) (TB : TabB X.base X.mg c P) (hcode : X.env.code = .ref c) (hi : PI X tg iter wi) (ok : GexOk X.N X.env.scope scope own)
    (hg : ∀ (A' : Around) (s : Shared) (H : Hp) (C : Addr) (cl : List (Str × Addr)) (code : Value) (fp : List Addr), Room k A' → PG (Cx.gex X A' s H (genEnv scope cl C code builtinsNs X.env) fp) tg g)
    (ht : ∀ (A' : Around) (s : Shared) (H : Hp) (C : Addr) (cl : List (Str × Addr)) (code : Value) (fp : List Addr), Room k A' → PTs (Cx.gex X A' s H (genEnv scope cl C code builtinsNs X.env) fp) ifs tt)
    (he : ∀ (A' : Around) (s : Shared) (H : Hp) (C : Addr) (cl : List (Str × Addr)) (code : Value) (fp : List Addr), Room k A' → PE (Cx.gex X A' s H (genEnv scope cl C code builtinsNs X.env) fp) elt te)
    (hs : ∀ v, genFold iter X.env v = pure v) (I : Inv X pins σ H s) (h : tAA P stp wi g tt te (own.map (·.2)) σ H Q)
    (hQ : ∀ a gn n s5, GReady X pins σ stp (fun H' => Q (.bl (!stp)) H') (fun H' => Q (.bl stp) H') a gn n s5 → (∃ go, s5.heap.get? a = some go ∧ s5.heap.IsGen a gn) → Q' (.ref a) s5) :
    wpAny (model X.prog X.w) X.A (eval (.GeneratorExp elt [⟨tg, iter, ifs, 0⟩] scope gpos) X.env) Q' X.xe s := by
  have hfree : ∀ y ∈ scope.names, y.2 = .free → ∃ c, X.env.cells.lookup y.1 = some c := fun y hy e => by
    rcases ok.free y hy e with k | k
    · exact I.ok.has _ (.inl k)
    · exact I.ok.has _ (.inr k)
  refine wpAny_GeneratorExp_make ok.co (closure_ok hfree) ok.cell ok.dot ok.kind hr.depth ?_ hs
  refine thn (hi.run pins s σ H _ I h) fun xv s1 hx => thn hx fun itv s2 h2 => ?_
  obtain ⟨it, fp, tn, J, H2, e, I2, T, st2, f2, ⟨ps, hP, htr⟩, q⟩ := h2
  subst e
  have hPs : s2.heap.get? P = some { cls := .none, data := .fields ps } := I2.hok P _ hP
  have hPlt : P < s2.heap.objs.size := Heap.lt_size hPs
  have cd : PySem.W.CodeHd s2.heap c P := TB.code.keeps fun b u e => I2.bk b u e
  refine ⟨I2.nolimit, ?_⟩
  have sz : ∀ b ∈ fp, b < s2.heap.objs.size := fun b hb => by
    obtain ⟨o, e, _⟩ := T.obj _ _ st2 b hb
    exact Heap.lt_size e
  have nP : ∀ b ∈ fp, b ≠ P := fun b hb z => by
    have := (f2 b hb).1
    rw [z, hP] at this
    cases this
  have cont : ∀ (code : Value) (h3 : Heap) (tk : Nat) (ps' : Array Value), Heap.ExtBut P s2.heap h3 → s2.heap.objs.size ≤ h3.objs.size → h3.get? P = some { cls := .none, data := .fields ps' } → (∃ more, ps' = ps ++ more) → TriplesOk ps'.toList →
      wpAny (model X.prog X.w) X.A (builtinsFor X.env.globals X.env.builtins) (fun bi s₄ =>
        ∀ h', h'.Ns s₄.heap.objs.size (fun y => if y = ".0" then some (Value.ref it) else none) → Heap.SameBut s₄.heap.objs.size (s₄.heap.push { cls := .type "frame", data := .dict #[] }) h' →
          Q' (.ref h'.objs.size) { s₄ with
            gens := s₄.gens.push (.fresh (.compStart (.GeneratorExp elt [⟨tg, iter, ifs, 0⟩] scope gpos) 0 (Value.ref it) .none (genEnv scope (cloFrom X.env.cells scope.names []) s₄.heap.objs.size code bi X.env))),
            toks := s₄.toks + 1 + 1 + 1,
            heap := h'.push { cls := .type "generator", data := .fields #[.int s₄.gens.size 0, .str "<genexpr>" (s₄.toks + 1), .str (X.env.qual ++ "<genexpr>") (s₄.toks + 1 + 1)] } }) X.xe { s2 with heap := h3, toks := tk } := by
    intro code h3 tk ps' hx hsz hP3 hmore ht3
    obtain ⟨bm, ob, e1, e2, e3, e4, e5, e6, e7, e8⟩ := TB.bm
    obtain ⟨more, em⟩ := hmore
    have keep3 : ∀ b u, b ≠ P → s2.heap.get? b = some u → h3.get? b = some u := fun b u hb e => hx b u hb e
    refine wpAny_builtinsFor (m := X.mg) (by rw [I2.ok.glob]; exact (I2.mod.glob.keeps I2.bk).extBut hx TB.gP) e1 e2 (keep3 _ _ e4 (I2.bk _ _ e5)) e6 e7 e8 ?_
    intro h' hns hsb
    have I3 : Inv X pins σ (upd H2 P (.tbl (ps ++ more))) { s2 with heap := h3, gens := s2.gens, drawn := s2.drawn, toks := tk } :=
      inv_tab (more := more) (h' := h3) (g' := s2.gens) (d' := s2.drawn) (t' := tk) I2 hP keep3 (by rw [← em]; exact hP3) I2.bare
    have hT : Tabbed P H2 (upd H2 P (.tbl (ps ++ more))) := ⟨⟨ps ++ more, upd_same, by rw [← em]; exact ht3⟩, fun b hb => upd_ne hb⟩
    obtain ⟨W, ⟨m0, w0⟩, turn⟩ := q _ hT
    obtain ⟨H3, hH3⟩ : ∃ H3, upd H2 P (.tbl (ps ++ more)) = H3 := ⟨_, rfl⟩
    rw [hH3] at I3 w0
    obtain ⟨s3, hs3⟩ : ∃ s3 : Shared, ({ s2 with heap := h3, gens := s2.gens, drawn := s2.drawn, toks := tk } : Shared) = s3 := ⟨_, rfl⟩
    rw [hs3] at I3
    have eh : s3.heap = h3 := by rw [← hs3]
    have eg : s3.gens = s2.gens := by rw [← hs3]
    have eo : s3.os = s2.os := by rw [← hs3]
    have hns : h'.Ns h3.objs.size (fun y => if y = ".0" then some (Value.ref it) else none) := hns
    have hsb : Heap.SameBut h3.objs.size (h3.push { cls := .type "frame", data := .dict #[] }) h' := hsb
    have hsz' : h'.objs.size = h3.objs.size + 1 := by rw [hsb.1, Heap.size_push]
    have keep' : ∀ b o, h3.get? b = some o → h'.get? b = some o := fun b o e => hsb.extBut b o (Nat.ne_of_lt (Heap.lt_size e)) (Heap.get?_push_of_some _ e)
    obtain ⟨go, hgo⟩ : ∃ go, ({ cls := .type "generator", data := .fields #[.int s2.gens.size 0, .str "<genexpr>" (tk + 1), .str (X.env.qual ++ "<genexpr>") (tk + 1 + 1)] } : Obj) = go := ⟨_, rfl⟩
    have hgf : go.isFreed = false := by rw [← hgo]; rfl
    obtain ⟨s5, hs5⟩ : ∃ s5 : Shared, ({ s2 with gens := s2.gens.push (.fresh (.compStart (.GeneratorExp elt [⟨tg, iter, ifs, 0⟩] scope gpos) 0 (Value.ref it) .none (genEnv scope (cloFrom X.env.cells scope.names []) h3.objs.size code builtinsNs X.env))), toks := tk + 1 + 1 + 1, heap := h'.push go } : Shared) = s5 := ⟨_, rfl⟩
    suffices hfin : Q' (.ref h'.objs.size) s5 by
      subst hs5 hgo
      exact hfin
    have eh5 : s5.heap = h'.push go := by rw [← hs5]
    have eg5 : s5.gens = s2.gens.push (.fresh (.compStart (.GeneratorExp elt [⟨tg, iter, ifs, 0⟩] scope gpos) 0 (Value.ref it) .none (genEnv scope (cloFrom X.env.cells scope.names []) h3.objs.size code builtinsNs X.env))) := by rw [← hs5]
    have eo5 : s5.os = s2.os := by rw [← hs5]
    obtain ⟨ce, hce⟩ : ∃ ce, genEnv scope (cloFrom X.env.cells scope.names []) h3.objs.size code builtinsNs X.env = ce := ⟨_, rfl⟩
    rw [hce] at eg5
    have hgenA : ∀ h : Heap, h.get? h'.objs.size = some go → h.IsGen h'.objs.size s2.gens.size := fun h e => by
      subst hgo
      exact ⟨_, _, _, e, rfl, rfl, rfl⟩
    have hgo5 : s5.heap.get? h'.objs.size = some go := by rw [eh5]; exact Heap.get?_push_size _ hgf
    have keep5 : ∀ b o, s3.heap.get? b = some o → s5.heap.get? b = some o := fun b o e => by
      rw [eh] at e
      rw [eh5]
      exact Heap.get?_push_of_some _ (keep' b o e)
    have hfp3 : ∀ b ∈ fp, FpOk X pins H3 b ∧ b < s3.heap.objs.size := fun b hb => by
      refine ⟨⟨?_, (f2 b hb).2⟩, ?_⟩
      · rw [← hH3, upd_ne (nP b hb)]
        exact (f2 b hb).1
      · rw [eh]
        exact Nat.lt_of_lt_of_le (sz b hb) hsz
    have nfp : ∀ b ∈ fp, H3 b = none := fun b hb => (hfp3 b hb).1.1
    have st3 : tn 0 s3.heap := T.keep _ _ _ st2 fun b hb o e => by rw [eh]; exact keep3 b o (nP b hb) e
    have bare5 : AllBare s5.gens := by
      rw [eg5]
      intro y hy
      rcases Array.mem_push.mp hy with z | z
      · exact I2.bare _ z
      · rw [z]; rfl
    have hL3 : h3.objs.size = s3.heap.objs.size := by rw [eh]
    have mk : ∀ (A' : Around), A'.frames = some (ce :: X.stack) → A'.handled = none → ∀ s' : Shared, s'.heap = s5.heap → s'.os = s5.os → AllBare s'.gens → Inv (Cx.gex X A' s3 H3 ce fp) [(h'.objs.size, go)] (wipe σ (own.map (·.2))) H3 s' := fun A' hf hh s' h1 h2 h3' => by
      have J0 := gex_start (A' := A') (code := code) (cenv := ce) (s5 := s') (m5 := fun y => if y = ".0" then some (Value.ref it) else none) I3 ok hN hfp3 (by rw [← hce, hL3]) hf hh (fun b o e => by rw [h1]; exact keep5 b o e) (by rw [h2, eo5, eo]) h3' (by
        rw [h1, eh5, ← hL3]
        exact hns.push _)
      refine J0.pins_of fun p hp => ?_
      have e : p = (h'.objs.size, go) := by simpa using hp
      subst e
      refine ⟨by rw [h1]; exact hgo5, I3.hok.fresh (by rw [eh, hsz']; exact Nat.le_succ _), ?_, fun z => ?_, fun v z => ?_⟩
      · show h'.objs.size ≠ ce.locals
        rw [← hce]
        show h'.objs.size ≠ h3.objs.size
        rw [hsz']
        exact Nat.succ_ne_self _
      · have z : h'.objs.size ∈ frs X.stack := z
        rcases List.mem_cons.mp (I3.stkSub _ z) with z | z
        · have := I3.lt
          rw [← z, eh, hsz'] at this
          exact absurd this (Nat.not_lt.mpr (Nat.le_succ _))
        · exact I3.nofs (a := h'.objs.size) (by rw [eh, hsz']; exact Nat.le_succ _) z
      · rw [← hgo] at z
        cases z
    have hfrm : X.A.frames = some X.stack := I3.ok.frames
    have hAf : (X.A.in1.in1.over (.compLoop (.GeneratorExp elt [⟨tg, iter, ifs, 0⟩] scope gpos) 0 (.ref it) .none ce) []).frames = some (ce :: X.stack) := by
      show pushEnvs (Code.envs (.compLoop (.GeneratorExp elt [⟨tg, iter, ifs, 0⟩] scope gpos) 0 (.ref it) .none ce)) (pushEnvs (envsOf []) X.A.frames) = _
      rw [hfrm]
      rfl
    have hAr : Room k (X.A.in1.in1.over (.compLoop (.GeneratorExp elt [⟨tg, iter, ifs, 0⟩] scope gpos) 0 (.ref it) .none ce) []) := by
      refine ⟨hr.hd, ?_, ?_⟩
      · have := hr.dp
        show X.A.depth + 1 + 3 * k + 5 < recursionLimit
        omega
      · have := hr.un
        show X.A.units + 1 + 1 + 3 + 16 * k + 200 < cLine
        omega
    refine hQ _ s2.gens.size (m0 + 1) s5 ⟨Cx.gex X (X.A.in1.in1.over (.compLoop (.GeneratorExp elt [⟨tg, iter, ifs, 0⟩] scope gpos) 0 (.ref it) .none ce) []) s3 H3 ce fp, [(h'.objs.size, go)], wipe σ (own.map (·.2)), go, _, rfl, rfl, List.mem_singleton.mpr rfl, hgenA, fun H' s' I' => ?_, hgo5, ?_, bare5, by rw [eg5]; exact Array.getElem?_push_size .., ?_⟩ ⟨go, hgo5, hgenA _ hgo5⟩
    · exact I3.call' (ch := fp) I'.os I'.base I'.hok I'.bare fun b hb => ⟨(hfp3 b hb).1.2.2.2.1, (hfp3 b hb).1.2.1, (hfp3 b hb).1.2.2.2.2.1, (hfp3 b hb).1.2.2.2.2.2⟩
    · exact I3.nolimit.keeps keep5
    · refine ⟨rfl, ?_⟩
      have bare6 : AllBare (s5.setGen s2.gens.size .running).gens := bare_set bare5 rfl
      have I6 := mk _ hAf hAr.hd (s5.setGen s2.gens.size .running) rfl rfl bare6
      have pg : PG (Cx.gex X (X.A.in1.in1.over (.compLoop (.GeneratorExp elt [⟨tg, iter, ifs, 0⟩] scope gpos) 0 (.ref it) .none ce) []) s3 H3 ce fp) tg g := by
        have := hg _ s3 H3 h3.objs.size (cloFrom X.env.cells scope.names []) code fp hAr
        rw [hce] at this
        exact this
      have pt : PTs (Cx.gex X (X.A.in1.in1.over (.compLoop (.GeneratorExp elt [⟨tg, iter, ifs, 0⟩] scope gpos) 0 (.ref it) .none ce) []) s3 H3 ce fp) ifs tt := by
        have := ht _ s3 H3 h3.objs.size (cloFrom X.env.cells scope.names []) code fp hAr
        rw [hce] at this
        exact this
      have pe : PE (Cx.gex X (X.A.in1.in1.over (.compLoop (.GeneratorExp elt [⟨tg, iter, ifs, 0⟩] scope gpos) 0 (.ref it) .none ce) []) s3 H3 ce fp) elt te := by
        have := he _ s3 H3 h3.objs.size (cloFrom X.env.cells scope.names []) code fp hAr
        rw [hce] at this
        exact this
      refine seg_gex_start (c0 := .compLoop (.GeneratorExp elt [⟨tg, iter, ifs, 0⟩] scope gpos) 0 (.ref it) .none ce) (Xg := Cx.gex X (X.A.in1.in1.over (.compLoop (.GeneratorExp elt [⟨tg, iter, ifs, 0⟩] scope gpos) 0 (.ref it) .none ce) []) s3 H3 ce fp) rfl rfl rfl rfl rfl (by rw [← hce]; exact ok.co) (fun p hp => ?_) pg pt pe T W turn m0 (m0 + 1) _ _ H3 w0 (Nat.lt_succ_self _) I6 ?_ nfp
      · have e : p = (h'.objs.size, go) := by simpa using hp
        subst e
        intro z
        have := (hfp3 _ z).2
        rw [eh, hsz'] at this
        exact absurd this (Nat.not_lt.mpr (Nat.le_succ _))
      · exact T.keep _ _ _ st3 fun b hb o e => keep5 b o e
  cases hf : codeAmong gpos ps.toList with
  | none =>
    refine wpAny_genexprCodeX hcode (cd.code hPs htr) (cd.tab hPs) hf fun c' h' tk hx hge hlt hco' _ htab' _ => ?_
    obtain ⟨o1, vs, f1, tf, fl, tg', inF, tx, tt', op, _, _, _, _, _, _, _, _, _, htr', _⟩ := hco'
    exact cont _ h' tk _ hx (Nat.le_trans hge (Nat.le_of_lt hlt)) htab'.2 ⟨_, rfl⟩ htr'
  | some cv =>
    refine wpAny_genexprCode_hit hcode (cd.code hPs htr) hf ?_
    exact cont cv s2.heap s2.toks ps (Heap.ExtBut.refl _ _) (Nat.le_refl _) hPs ⟨#[], by simp⟩ htr

/-- all(elt for tg in iter if ..) -/
theorem pe_all {p pos : Pos} (hr : Room (k + 1) X.A) (hc : X.calm = true) (hN : X.N.Nodup) (hgl : Gl X "all") (hm : X.mg "all" = none) (TB : TabB X.base X.mg c P) (hcode : X.env.code = .ref c) (hi : PI X tg iter wi) (ok : GexOk X.N X.env.scope scope own)
    (hg : ∀ (A' : Around) (s : Shared) (H : Hp) (C : Addr) (cl : List (Str × Addr)) (code : Value) (fp : List Addr), Room k A' → PG (Cx.gex X A' s H (genEnv scope cl C code builtinsNs X.env) fp) tg g)
    (ht : ∀ (A' : Around) (s : Shared) (H : Hp) (C : Addr) (cl : List (Str × Addr)) (code : Value) (fp : List Addr), Room k A' → PTs (Cx.gex X A' s H (genEnv scope cl C code builtinsNs X.env) fp) ifs tt)
    (he : ∀ (A' : Around) (s : Shared) (H : Hp) (C : Addr) (cl : List (Str × Addr)) (code : Value) (fp : List Addr), Room k A' → PE (Cx.gex X A' s H (genEnv scope cl C code builtinsNs X.env) fp) elt te)
    (hs : ∀ v, genFold iter X.env v = pure v) :
    PE X (.Call (.Name "all" p) [.GeneratorExp elt [⟨tg, iter, ifs, 0⟩] scope gpos] [] pos) (tAA P false wi g tt te (own.map (·.2))) := by
  refine ⟨fun pins s σ H Q I h => ?_⟩
  have hst : starEach [.GeneratorExp elt [⟨tg, iter, ifs, 0⟩] scope gpos] X.env = (false, eval (.GeneratorExp elt [⟨tg, iter, ifs, 0⟩] scope gpos) X.env) :: starEach [] X.env := by rfl
  refine wpAny_Call_Name_kw (ld_blt I hgl hm (by decide +kernel : bootBuiltins "all" = some (.builtin "all")) ?_)
  refine PyProof.Rows.callWith_builtin1 ?_ hst (by rfl)
  rw [hst]
  show wpAny _ _ (spliced ((false, eval (.GeneratorExp elt [⟨tg, iter, ifs, 0⟩] scope gpos) X.env) :: backTo pos (starEach [] X.env))) _ _ s
  refine Calls.spliced_cons (gen_mk hr hc hN TB hcode hi ok hg ht he hs I h fun a gn n s5 hG hgen => ?_)
  refine Calls.spliced_nil ?_
  obtain ⟨go, hgo, hgn⟩ := hgen
  refine call_function_tree F.kind_all F.plain_all F.entry_all (F.args_all1 _) ?_
  unfold Builtin.«all»
  refine wpAny_bind (m := oneArg "all" _) (wpAny_pure ?_)
  refine wpAny_bind (wpAny_pyIter_gen hgn ?_)
  refine wpAny_pure ⟨plainId_quiet F.plain_all_loop _, all_loop (GReady X pins σ false (fun H' => Q (.bl (!false)) H') (fun H' => Q (.bl false) H') a gn) (fun k s hJ => ?_) n s5 hG⟩
  refine wpAny_mono (gnext (hr.mono (by omega)) hJ) (fun r s' q => ?_) fun _ _ x => x
  cases r with
  | none =>
    obtain ⟨H', I', q⟩ := q
    exact ⟨.bl true, H', I', rfl, q⟩
  | some v =>
    obtain ⟨b, rfl, q⟩ := q
    refine ⟨b, rfl, ?_⟩
    cases b with
    | true =>
      rw [if_neg (by decide)] at q
      rw [if_pos rfl]
      exact q
    | false =>
      rw [if_pos rfl] at q
      obtain ⟨H', I', q⟩ := q
      rw [if_neg (by decide)]
      exact ⟨.bl false, H', I', rfl, q⟩
/-- any(elt for tg in iter if ..) -/
theorem pe_any {p pos : Pos} (hr : Room (k + 1) X.A) (hc : X.calm = true) (hN : X.N.Nodup) (hgl : Gl X "any") (hm : X.mg "any" = none) (TB : TabB X.base X.mg c P) (hcode : X.env.code = .ref c) (hi : PI X tg iter wi) (ok : GexOk X.N X.env.scope scope own)
    (hg : ∀ (A' : Around) (s : Shared) (H : Hp) (C : Addr) (cl : List (Str × Addr)) (code : Value) (fp : List Addr), Room k A' → PG (Cx.gex X A' s H (genEnv scope cl C code builtinsNs X.env) fp) tg g)
    (ht : ∀ (A' : Around) (s : Shared) (H : Hp) (C : Addr) (cl : List (Str × Addr)) (code : Value) (fp : List Addr), Room k A' → PTs (Cx.gex X A' s H (genEnv scope cl C code builtinsNs X.env) fp) ifs tt)
    (he : ∀ (A' : Around) (s : Shared) (H : Hp) (C : Addr) (cl : List (Str × Addr)) (code : Value) (fp : List Addr), Room k A' → PE (Cx.gex X A' s H (genEnv scope cl C code builtinsNs X.env) fp) elt te)
    (hs : ∀ v, genFold iter X.env v = pure v) :
    PE X (.Call (.Name "any" p) [.GeneratorExp elt [⟨tg, iter, ifs, 0⟩] scope gpos] [] pos) (tAA P true wi g tt te (own.map (·.2))) := by
  refine ⟨fun pins s σ H Q I h => ?_⟩
  have hst : starEach [.GeneratorExp elt [⟨tg, iter, ifs, 0⟩] scope gpos] X.env = (false, eval (.GeneratorExp elt [⟨tg, iter, ifs, 0⟩] scope gpos) X.env) :: starEach [] X.env := by rfl
  refine wpAny_Call_Name_kw (ld_blt I hgl hm (by decide +kernel : bootBuiltins "any" = some (.builtin "any")) ?_)
  refine PyProof.Rows.callWith_builtin1 ?_ hst (by rfl)
  rw [hst]
  show wpAny _ _ (spliced ((false, eval (.GeneratorExp elt [⟨tg, iter, ifs, 0⟩] scope gpos) X.env) :: backTo pos (starEach [] X.env))) _ _ s
  refine Calls.spliced_cons (gen_mk hr hc hN TB hcode hi ok hg ht he hs I h fun a gn n s5 hG hgen => ?_)
  refine Calls.spliced_nil ?_
  obtain ⟨go, hgo, hgn⟩ := hgen
  refine call_function_tree F.kind_any F.plain_any F.entry_any (F.args_any1 _) ?_
  unfold Builtin.«any»
  refine wpAny_bind (m := oneArg "any" _) (wpAny_pure ?_)
  refine wpAny_bind (wpAny_pyIter_gen hgn ?_)
  refine wpAny_pure ⟨plainId_quiet F.plain_any_loop _, any_loop (GReady X pins σ true (fun H' => Q (.bl (!true)) H') (fun H' => Q (.bl true) H') a gn) (fun k s hJ => ?_) n s5 hG⟩
  refine wpAny_mono (gnext (hr.mono (by omega)) hJ) (fun r s' q => ?_) fun _ _ x => x
  cases r with
  | none =>
    obtain ⟨H', I', q⟩ := q
    exact ⟨.bl false, H', I', rfl, q⟩
  | some v =>
    obtain ⟨b, rfl, q⟩ := q
    refine ⟨b, rfl, ?_⟩
    cases b with
    | false =>
      rw [if_neg (by decide)] at q
      rw [if_pos rfl]
      exact q
    | true =>
      rw [if_pos rfl] at q
      obtain ⟨H', I', q⟩ := q
      rw [if_neg (by decide)]
      exact ⟨.bl true, H', I', rfl, q⟩
end
end GX
end
section
set_option Elab.async false
set_option linter.all false
set_option maxRecDepth 100000
set_option maxHeartbeats 2000000
/-! enumerate(a tuple). -/
namespace GX
open PySem PySem.Spec PyProof.Rows L2
theorem meets_enumerate_newT (l : Addr) (items : Array Value) (n : Nat) (dct : Option Addr) (sl : Array (Option Value)) :
    Meets (Builtin.«enumerate.__new__» ⟨[.type "enumerate", .ref l], []⟩) (fun _ R s => s.heap.get? l = some { cls := .type "tuple", dict := dct, data := .seq items n, slots := sl } ∧
      R (.ok (.ret (.ref (s.heap.push { cls := .type "tuple_iterator", data := .fields #[.ref l, .int 0 0] }).objs.size)))
        { s with heap := (s.heap.push { cls := .type "tuple_iterator", data := .fields #[.ref l, .int 0 0] }).push { cls := .type "enumerate", data := .fields #[.none, .bool false, .ref s.heap.objs.size, rawInt 0, .none, .none] } }) :=
  .of_wp fun prog w A R s h => by
    obtain ⟨hp, g, d, tk, os⟩ := s; obtain ⟨hl, h⟩ := h
    have hsub := sub_enumerate
    have hL : Heap.IsTuple (Shared.heap ⟨hp, g, d, tk, os⟩) l items := ⟨_, hl, rfl, n, rfl⟩
    wp_walk using PySem.AutoSeq1.wpAny_loadPart' hl
    refine wpAny_stack_any fun st => wpAny_pure ?_
    split
    · rename_i c _ _ _ _ _
      cases (c == Value.type "enumerate")
      · wp_walk using PySem.AutoSeq1.wpAny_loadPart' hl, wpAny_pyIter_tuple hL
        exact ⟨_, rfl, h⟩
      · wp_walk using PySem.AutoSeq1.wpAny_loadPart' hl, wpAny_pyIter_tuple hL
        exact ⟨_, rfl, h⟩
    · wp_walk using PySem.AutoSeq1.wpAny_loadPart' hl, wpAny_pyIter_tuple hL
      exact ⟨_, rfl, h⟩
section
variable {prog : Program} {w : World} {A : Around} {E : Value → Shared → Prop} {s : Shared}
theorem call_enumerate_tuple {l : Addr} {items : Array Value} {Q : Value → Shared → Prop} (hL : s.heap.IsTuple l items)
    (h : ∀ h', IsEnum h' (s.heap.objs.size + 1) s.heap.objs.size 0 .none → h'.IsTupleIter s.heap.objs.size l 0 → h'.objs.size = s.heap.objs.size + 2 →
      (∀ b o, s.heap.get? b = some o → h'.get? b = some o) → Q (.ref (s.heap.objs.size + 1)) { s with heap := h' }) :
    wpAny (model prog w) A (call (.type "enumerate") [.ref l]) Q E s := by
  obtain ⟨⟨c, dct, dt, sl⟩, hl, hc, n, hd⟩ := hL
  replace hc : c = .type "tuple" := hc
  replace hd : dt = .seq items n := hd
  subst hc hd
  refine callType_new F.called_enumerate (by decide) (F.typeCall_enumerate_1 _) (F.newCall_enumerate_1 _) (fun obj => F.args_object_init_2 obj _) F.entry_enumerate_new
    (meets_enumerate_newT l items n dct sl) ⟨hl, ?_⟩
  have hz : (s.heap.push { cls := .type "tuple_iterator", data := .fields #[.ref l, .int 0 0] }).objs.size = s.heap.objs.size + 1 := Heap.size_push ..
  show _ ∧ _
  rw [hz]
  have he : IsEnum ((s.heap.push { cls := .type "tuple_iterator", data := .fields #[.ref l, .int 0 0] }).push
      { cls := .type "enumerate", data := .fields #[.none, .bool false, .ref s.heap.objs.size, rawInt 0, .none, .none] }) (s.heap.objs.size + 1) s.heap.objs.size 0 .none := by
    have := Heap.get?_push_size (s.heap.push { cls := .type "tuple_iterator", data := .fields #[.ref l, .int 0 0] })
      (o := { cls := .type "enumerate", data := .fields #[.none, .bool false, .ref s.heap.objs.size, rawInt 0, .none, .none] }) rfl
    rw [hz] at this; exact this
  refine ⟨⟨_, he, rfl⟩, h _ he ⟨_, Heap.get?_push_of_some _ (Heap.get?_push_size _ rfl), rfl, rfl⟩ (by rw [Heap.size_push, hz]) fun b o x => Heap.get?_push_of_some _ (Heap.get?_push_of_some _ x)⟩
end
/-- the tuple at a, each item in a new pair -/
def Itet (K : PySem.W.Frag) (a : Addr) : It :=
  ⟨fun i H => ∃ (xs : List V) (x : V), SqT K H a xs ∧ xs[i]? = some x, fun i H v H' => ∃ T x, v = .ref T ∧ H T = none ∧ H' = upd H T (.tup [.int (i : Nat), x]) ∧ ∀ xs, SqT K H a xs → xs[i]? = some x, fun i H => ∃ xs : List V, SqT K H a xs ∧ xs.length ≤ i⟩
theorem isTuple_of {h : Heap} {a : Addr} {its : Array Value} (x : IsTup h a its) : h.IsTuple a its := x
theorem turn_enumT {P : Program} {w : World} {K : PySem.W.Frag} {elts : List Expr} {kk : Nat} {tpos : Pos} (a e it : Addr) :
    Turn P w K (.Tuple elts kk tpos) (Itet K a) [e, it] e (fun i h => (∃ old, IsEnum h e it ((i : Nat) : Int) old) ∧ h.IsTupleIter it a i ∧ e ≠ it ∧ a ≠ it ∧ a ≠ e) where
  mem := by simp
  obj := fun i h st b hb => by
    obtain ⟨⟨old, he⟩, ⟨o, ho, hc, hd⟩, _⟩ := st
    have e' : b = e ∨ b = it := by simpa using hb
    rcases e' with z | z
    · rw [z]; exact ⟨_, he, fun v q => nomatch q⟩
    · rw [z]; exact ⟨o, ho, fun v q => by rw [hd] at q; cases q⟩
  keep := fun i h h' st k => let ⟨⟨old, he⟩, hi, hne⟩ := st; ⟨⟨old, k e (by simp) _ he⟩, hi.at fun o q => k it (by simp) o q, hne⟩
  item := by
    intro X hP hw hK hc i pins s σ H E I hf st hg
    subst hP hw hK
    obtain ⟨⟨old, he⟩, hit, hne, hai, hae⟩ := st
    obtain ⟨xs, x, hq, hx⟩ := hg
    obtain ⟨its, rv, p, hz⟩ := I.tuple hq
    obtain ⟨u, hu, ru⟩ := rv.get hx
    have hel : e < s.heap.objs.size := Heap.lt_size he
    have hil : it < s.heap.objs.size := by obtain ⟨_, q, _⟩ := hit; exact Heap.lt_size q
    have D : Draws X.prog X.w X.A.in1 it [it, a] its.toArray.size (fun i v => its.toArray[i]? = some v) (fun i h => h.IsTupleIter it a i ∧ h.IsTuple a its.toArray) := Draws.tuple (show X.A.in1.handled = none from I.ok.hd hc) it a hai its.toArray
    have hlt : i < its.toArray.size := by
      have := (List.getElem?_eq_some_iff.mp hu).1
      simpa using this
    refine wpAny_pyNext_enum_itemD D he ⟨hit, p⟩ hlt hne (by simp only [List.mem_cons, List.not_mem_nil, or_false, not_or]; exact ⟨hne, Ne.symm hae⟩) fun x' h' tk hPx ho hst' hT hsz hk => ?_
    have ex : x' = u := by
      have h1 : its[i]? = some x' := by simpa using hPx
      rw [hu] at h1
      cases h1
      rfl
    subst ex
    obtain ⟨hit', _⟩ := hst'
    refine ⟨_, rfl, wpAny_letOwnedTupleGo_enum (s := { s with heap := h', toks := tk + 1 }) ho fun h'' he' sb => ?_⟩
    have hT2 : h''.get? s.heap.objs.size = some { cls := .type "tuple", data := .seq #[.int i tk, x'] } := (sb.2 _ (Nat.ne_of_gt hel)).trans hT
    have new : ObjOk X.prog X.w (upd H s.heap.objs.size (.tup [.int (i : Nat), x])) h'' s.heap.objs.size (.tup [.int (i : Nat), x]) :=
      ⟨by show 2 ≤ sizeLine; decide, [.int i tk, x'], .cons ⟨_, rfl⟩ (.cons ru .nil), ⟨_, hT2, rfl, _, rfl⟩⟩
    have I1 : Inv X pins σ (upd H s.heap.objs.size (.tup [.int (i : Nat), x])) { s with heap := h'', toks := tk + 1 } :=
      I.turnedNew (ch := [e, it]) (fun b ob hb q => (sb.2 b (fun z => hb (by simp [z]))).trans (hk b ob (fun z => hb (by simp [z])) (fun z => hb (by simp [z])) q)) hf (Nat.le_refl _) new
    refine ⟨.ref s.heap.objs.size, _, I1, rfl, ⟨_, x, rfl, I.hok.fresh (Nat.le_refl _), rfl, fun ys hy => by rw [I.tuple_inj hy hq]; exact hx⟩, ⟨⟨x', ?_⟩, hit'.at fun o q => (sb.2 it (Ne.symm hne)).trans q, hne, hai, hae⟩, fun b hb => ?_⟩
    · have e1 : ((i + 1 : Nat) : Int) = (i : Int) + 1 := by omega
      rw [e1]; exact he'
    · have hb' : b < s.heap.objs.size := by
        have e' : b = e ∨ b = it := by simpa using hb
        rcases e' with z | z
        · rw [z]; exact hel
        · rw [z]; exact hil
      rw [upd_ne (Nat.ne_of_lt hb')]
      exact (hf b hb).1
  done := by
    intro X hP hw hK hc i pins s σ H E I hf st hg
    subst hP hw hK
    obtain ⟨⟨old, he⟩, hit, hne, hai, hae⟩ := st
    obtain ⟨xs, hq, hx⟩ := hg
    obtain ⟨its, rv, p, hz⟩ := I.tuple hq
    obtain ⟨f0, f1, f2, f3, f4, f5⟩ := hf it (by simp)
    have hl := rv.length
    have hT : s.TypeIs (.ref e) "enumerate" := ⟨_, he, rfl⟩
    unfold pyNext
    refine wpAny_bind (wpAny_attempt (wpAny_callSpecial?_slot (name := Str.ofString "__next__") hT F.slot_enumerate_next
      (wpAny_call_entry F.slot_enumerate_next hT F.entry_enumerate_next ?_ (F.args_enumerate_next_1 _))))
    show wpAny _ _ (field (.ref e) 2 >>= _) _ _ _
    refine wpAny_bind (wpAny_field he rfl (x := .ref it) rfl ?_)
    refine wpAny_bind (wpAny_nextOf_tuple_end (I.ok.hd hc) hit p (by simp; omega) fun h' x he' hx' => ?_)
    obtain ⟨o, ho, hc⟩ := hx'
    refine wpAny_bind (wpAny_isInstance (T := "StopIteration") (b := true) ⟨o, ho, hc⟩ isSubtype_stop ?_)
    exact wpAny_pure ⟨rfl, I.turned (t' := s.toks) (fun b o hb q => he' b o hb q) f0 f1 f3 f4 f5⟩
  self := fun A i s Q E st h => let ⟨⟨_, he⟩, _⟩ := st; wpAny_pyIter_enum he h
def iEnumT (K : PySem.W.Frag) (ta : TA) : TI := fun σ H R => ta σ H fun vs H1 => ∃ a, vs = [.ref a] ∧ (((∃ xs, SqL K H1 a xs) ∧ R (Ite K a) H1) ∨ ((∃ xs, SqT K H1 a xs) ∧ R (Itet K a) H1))
theorem pi_enumT {X : Cx} {e : Expr} {ta : TA} {p pos tpos : Pos} {elts : List Expr} {kk : Nat} (hg : Gl X "enumerate") (hm : X.mg "enumerate" = none) (ha : PA X [e] ta) (hs : starEach [e] X.env = [(false, eval e X.env)]) :
    PI X (.Tuple elts kk tpos) (.Call (.Name "enumerate" p) [e] [] pos) (iEnumT X.K ta) := by
  refine ⟨fun pins s σ H R I h => ?_⟩
  refine Call_ (ld_blt I hg hm boot_enumerate (PyProof.Rows.callWith_type1 (thn (ha.run pos pins s σ H _ I h) fun us s1 ⟨vs, H1, I1, r1, q1⟩ => ?_) hs rfl))
  obtain ⟨a, ex, q⟩ := q1
  subst ex
  cases r1 with
  | cons r rr =>
    cases rr
    cases r
    have fin : ∀ (h' : Heap) (tn : Nat → Heap → Prop) (J : It), (∀ b o, s1.heap.get? b = some o → h'.get? b = some o) → Turn X.prog X.w X.K (.Tuple elts kk tpos) J [s1.heap.objs.size + 1, s1.heap.objs.size] (s1.heap.objs.size + 1) tn → tn 0 h' → R J H1 →
        PIE X pins σ (.Tuple elts kk tpos) R (.ref (s1.heap.objs.size + 1)) { s1 with heap := h' } := by
      intro h' tn J hk T t0 q
      have I2 : Inv X pins σ H1 { s1 with heap := h' } := I1.kept (t' := s1.toks) hk
      refine ⟨s1.heap.objs.size + 1, [s1.heap.objs.size + 1, s1.heap.objs.size], _, J, H1, rfl, I2, T, t0, fun b hb => ?_, q⟩
      have e' : b = s1.heap.objs.size + 1 ∨ b = s1.heap.objs.size := by simpa using hb
      have hle : s1.heap.objs.size ≤ b := by
        rcases e' with z | z
        · rw [z]; exact Nat.le_add_right _ _
        · rw [z]; exact Nat.le_refl _
      exact I1.fpOk hle (I1.hok.fresh hle)
    rcases q with ⟨⟨xs, hq⟩, q⟩ | ⟨⟨xs, hq⟩, q⟩
    · obtain ⟨its, rv, p', hz⟩ := I1.list hq
      refine call_enumerate_list p'.isList fun h' he hit hsz hk => wpAny_pyIter_enum he ?_
      exact fin h' _ _ hk (turn_enum a (s1.heap.objs.size + 1) s1.heap.objs.size) ⟨⟨.none, he⟩, hit, Nat.succ_ne_self _⟩ q
    · obtain ⟨its, rv, p', hz⟩ := I1.tuple hq
      have hal : a < s1.heap.objs.size := by obtain ⟨_, q, _⟩ := p'; exact Heap.lt_size q
      refine call_enumerate_tuple p' fun h' he hit hsz hk => wpAny_pyIter_enum he ?_
      exact fin h' _ _ hk (turn_enumT a (s1.heap.objs.size + 1) s1.heap.objs.size) ⟨⟨.none, he⟩, hit, Nat.succ_ne_self _, Nat.ne_of_lt hal, Nat.ne_of_lt (Nat.lt_succ_of_lt hal)⟩ q
end GX
end
section
set_option Elab.async false
set_option linter.all false
set_option maxRecDepth 100000
set_option maxHeartbeats 2000000
/-! The pure evaluator: data by value, cells for what is changed through a reference. -/
namespace Pv
open PySem (Str)

inductive D where
  | non | bl (b : Bool) | int (i : Int) | str (x : Str) | tup (xs : List D) | lst (xs : List D) | ref (n : Nat) | ctp (xs : List D) | scr (ns : List Int)
  deriving Inhabited
inductive Ky where
  | one (k : L2.Key) | row (ks : List L2.Key)
  deriving DecidableEq
inductive Cell where
  | lst (xs : List D) | dK (kvs : List (L2.Key × D)) | dT (kvs : List (List L2.Key × D)) | ins (c : Nat) (fs : List (Str × D))
  deriving Inhabited
inductive Sv where
  | no | val (d : D) | own (xs : List D)
  deriving Inhabited
abbrev Evn := List Sv
abbrev Wd := List Cell

inductive BOp where
  | add | sub | mul | fdiv | mod | pow
inductive COp where
  | eq | ne | lt | le | gt | ge | isin | notin
inductive Bi where
  | len | int | abs | max2 | min2 | tuple | str | isInt | isBool | isStr | isTuple | isList | isSeq | minl
inductive Pat where
  | one (i : Nat) | tup (is : List Nat)
mutual
inductive Ex where
  | var (i : Nat) | cst (d : D) | tup (es : Exs) | fr (f : Fx) | cel (f : Fx) | dnewK | dnewT | disp (ks : List Str) (es : Exs)
  | op (o : BOp) (a b : Ex) | neg (a : Ex) | not (a : Ex) | cmp (o : COp) (a b : Ex) | chain (o1 o2 : COp) (a b c : Ex) | isN (a : Ex) | notN (a : Ex)
  | and (a b : Ex) | or (a b : Ex) | ite (c a b : Ex) | ix (a b : Ex) | sl (a : Ex) (lo hi : Oe)
  | call (f : Nat) (es : Exs) | meth (m : Str) (o : Ex) (es : Exs) | new (c : Nat) (es : Exs) | fld (o : Ex) (f : Str)
  | bi (b : Bi) (es : Exs) | aa (stp : Bool) (pat : Pat) (it : It) (e : Ex) | pop0 (o : Ex)
inductive Exs where
  | nil | cons (e : Ex) (es : Exs)
inductive Oe where
  | no | yes (e : Ex)
inductive Fx where
  | disp (es : Exs) | comp (pat : Pat) (it : It) (c : Oe) (e : Ex) | srt (e : Ex) | lst (e : Ex) | srtset (e : Ex) | sset2 (p1 : Pat) (it1 : It) (p2 : Pat) (it2 : It) (c : Oe) (e : Ex)
inductive It where
  | seq (e : Ex) | rng1 (e : Ex) | rng2 (a b : Ex) | enum (e : Ex)
end
inductive St where
  | asg (i : Nat) (e : Ex) | asgF (i : Nat) (f : Fx) | unp (is : List Nat) (e : Ex) | par (i j : Nat) (a b : Ex) | ret (e : Ex) | retN | expr (e : Ex)
  | ite (c : Ex) (a b : List St) | forr (pat : Pat) (it : It) (b : List St) | brk | cont | app (i : Nat) (e : Ex) | appx (o e : Ex)
  | setix (o i e : Ex) | setfld (o : Ex) (f : Str) (e : Ex) | stuck

/-! ### by values -/
def sl2 (n : Nat) : Prop := n ≤ PySem.sizeLine
instance (n : Nat) : Decidable (sl2 n) := inferInstanceAs (Decidable (n ≤ PySem.sizeLine))
mutual
def D.py : D → PySem.PyData
  | .non => .none | .bl b => .bool b | .int i => .int i | .str x => .str x | .tup xs => .tuple (pys xs) | .lst xs => .list (pys xs) | .ref _ => .none | .ctp _ => .none | .scr _ => .none
def pys : List D → List PySem.PyData
  | [] => []
  | x :: xs => x.py :: pys xs
end
/-- no reference in it, not too deep -/
def dle : Nat → D → Bool
  | _, .ref _ => false
  | _, .ctp _ => false
  | _, .scr _ => false
  | 0, .tup _ => false
  | 0, .lst _ => false
  | n + 1, .tup xs => xs.all (dle n)
  | n + 1, .lst xs => xs.all (dle n)
  | _, _ => true
def eqD (a b : D) : Option Bool := if dle 40 a && dle 40 b then some (PySem.PyData.eqv a.py b.py) else none
/-- by cases: so the kernel never unrolls a great number -/
def smallI : Int → Bool
  | .ofNat n => Nat.ble n 18446744073709551615
  | .negSucc n => Nat.ble n 18446744073709551614
def repS (x : Str) (n : Nat) : Str := ⟨(List.replicate n x.cps).foldl (· ++ ·) #[]⟩
def opD : BOp → D → D → Option D
  | .add, .int i, .int j => some (.int (i + j))
  | .add, .str x, .str y => if sl2 (x.length + y.length) then some (.str (x ++ y)) else none
  | .add, .lst xs, .lst ys => if sl2 (xs.length + ys.length) then some (.lst (xs ++ ys)) else none
  | .sub, .int i, .int j => some (.int (i - j))
  | .mul, .int i, .int j => if smallI i || smallI j then some (.int (i * j)) else none
  | .mul, .str x, .int n => if 0 ≤ n ∧ n ≤ 1000 ∧ x.length ≤ 1000 then some (.str (repS x n.toNat)) else none
  | .fdiv, .int i, .int j => if j ≠ 0 ∧ j.natAbs < 1073741824 then some (.int (i.fdiv j)) else none
  | .mod, .int i, .int j => if j ≠ 0 then some (.int (i.fmod j)) else none
  | .pow, .int i, .int j => if 0 ≤ j ∧ j ≤ 1000 ∧ i.natAbs < 1000 then some (.int (i ^ j.toNat)) else none
  | _, _, _ => none
def keyOf : D → Option L2.Key
  | .int i => some (.inl i)
  | .str x => some (.inr x)
  | _ => none
def keysOf : List D → Option (List L2.Key)
  | [] => some []
  | x :: xs => match keyOf x, keysOf xs with
    | some k, some ks => some (k :: ks)
    | _, _ => none
def kyOf : D → Option Ky
  | .tup xs => (keysOf xs).map .row
  | d => (keyOf d).map .one
def kget {κ α : Type} [DecidableEq κ] (k : κ) : List (κ × α) → Option α
  | [] => none
  | (k', v) :: r => if k' = k then some v else kget k r
def kput {κ α : Type} [DecidableEq κ] (k : κ) (v : α) : List (κ × α) → List (κ × α)
  | [] => [(k, v)]
  | (k', w) :: r => if k' = k then (k', v) :: r else (k', w) :: kput k v r
def fput (f : Str) (v : D) : List (Str × D) → List (Str × D)
  | [] => [(f, v)]
  | (g, w) :: r => if g = f then (g, v) :: r else (g, w) :: fput f v r
/-- what stands at a reference -/
def at_ (W : Wd) : D → Option Cell
  | .ref n => W[n]?
  | _ => none
/-- the items of a list or a tuple, also of a cell's list -/
def seqOf (W : Wd) : D → Option (List D)
  | .lst xs => some xs
  | .tup xs => some xs
  | .ref n => match W[n]? with
    | some (.lst xs) => some xs
    | _ => none
  | _ => none
/-- the items of a list, also of a cell's -/
def lstOf (W : Wd) : D → Option (List D)
  | .lst xs => some xs
  | .ref n => match W[n]? with
    | some (.lst xs) => some xs
    | _ => none
  | _ => none
def dget (W : Wd) (c k : D) : Option (Option D) := match at_ W c, kyOf k with
  | some (.dK kvs), some (.one k) => some (kget k kvs)
  | some (.dT kvs), some (.row k) => some (kget k kvs)
  | _, _ => none
def anyEq (x : D) : List D → Option Bool
  | [] => some false
  | y :: ys => match eqD y x, anyEq x ys with
    | some a, some b => some (a || b)
    | _, _ => none
/-- c in d -/
def inD (W : Wd) (x c : D) : Option Bool := match c with
  | .lst xs => if dle 40 x = true then anyEq x xs else none
  | .tup xs => if dle 40 x = true then anyEq x xs else none
  | .ctp xs => if dle 40 x = true then anyEq x xs else none
  | .str z => (match x with
    | .str y => (match y.cps.toList with
      | [c] => some (decide (c ∈ z.cps.toList))
      | _ => none)
    | _ => none)
  | .ref _ => (dget W c x).map (·.isSome)
  | _ => none
def ltS (x y : Str) : Bool := decide (x.cps.toList < y.cps.toList)
def leS (x y : Str) : Bool := !ltS y x
def cmpD (W : Wd) : COp → D → D → Option Bool
  | .eq, a, b => eqD a b
  | .ne, a, b => (eqD a b).map (!·)
  | .lt, .int i, .int j => some (decide (i < j))
  | .le, .int i, .int j => some (decide (i ≤ j))
  | .gt, .int i, .int j => some (decide (j < i))
  | .ge, .int i, .int j => some (decide (j ≤ i))
  | .isin, a, b => inD W a b
  | .notin, a, b => (inD W a b).map (!·)
  | _, _, _ => none
def truD : D → Option Bool
  | .non => some false | .bl b => some b | .int i => some (i != 0) | .str x => some ((x.length : Int) != 0)
  | .tup xs => some (!xs.isEmpty) | .lst xs => some (!xs.isEmpty) | .ref _ => none | .ctp _ => none | .scr _ => none
def ixD (W : Wd) (a b : D) : Option D := match a, b with
  | .lst xs, .int i => L2.atI xs i
  | .tup xs, .int i => L2.atI xs i
  | .str x, .int i => (L2.atI x.cps.toList i).map fun c => .str ⟨#[c]⟩
  | .ref n, k => (match W[n]? with
    | some (.lst xs) => (match k with
      | .int i => L2.atI xs i
      | _ => none)
    | _ => (dget W (.ref n) k).join)
  | _, _ => none
def cutL (xs : List D) (lo hi : Option Int) : List D := (xs.drop (HT.sIx xs.length 0 lo)).take (HT.sIx xs.length xs.length hi - HT.sIx xs.length 0 lo)
def slD (a : D) (lo hi : Option Int) : Option D := match a with
  | .lst xs => some (.lst (cutL xs lo hi))
  | _ => none
def strsOf : List D → Option (List Str)
  | [] => some []
  | .str x :: r => (strsOf r).map (x :: ·)
  | _ :: _ => none
def insS (x : Str) : List Str → List Str
  | [] => [x]
  | y :: r => if leS x y then x :: y :: r else y :: insS x r
def sortS : List Str → List Str
  | [] => []
  | x :: r => insS x (sortS r)
def minS : Str → List Str → Str
  | x, [] => x
  | x, y :: r => minS (if ltS y x then y else x) r
def biD (W : Wd) : Bi → List D → Option D
  | .len, [.str x] => some (.int x.length)
  | .len, [.lst xs] => some (.int xs.length)
  | .len, [.tup xs] => some (.int xs.length)
  | .len, [.ref n] => (match W[n]? with
    | some (.lst xs) => some (.int xs.length)
    | some (.dK kvs) => some (.int kvs.length)
    | some (.dT kvs) => some (.int kvs.length)
    | _ => none)
  | .int, [.int i] => some (.int i)
  | .int, [.bl b] => some (.int (if b then 1 else 0))
  | .abs, [.int i] => some (.int (if i < 0 then -i else i))
  | .max2, [.int i, .int j] => some (.int (if j > i then j else i))
  | .min2, [.int i, .int j] => some (.int (if j < i then j else i))
  | .max2, [.str i, .str j] => some (.str (if ltS i j then j else i))
  | .min2, [.str i, .str j] => some (.str (if ltS j i then j else i))
  | .tuple, [.lst xs] => some (.tup xs)
  | .tuple, [.tup xs] => some (.tup xs)
  | .str, [.int i] => if i.natAbs < 1000000 ∧ PySem.PyData.strOk (toString i) = true ∧ sl2 (PySem.Str.length (toString i)) then some (.str (toString i)) else none
  | .isInt, [.ref _] => none
  | .isInt, [.ctp _] => none
  | .isInt, [.scr _] => none
  | .isInt, [.int _] => some (.bl true)
  | .isInt, [.bl _] => some (.bl true)
  | .isInt, [_] => some (.bl false)
  | .isBool, [.ref _] => none
  | .isBool, [.ctp _] => none
  | .isBool, [.scr _] => none
  | .isBool, [.bl _] => some (.bl true)
  | .isBool, [_] => some (.bl false)
  | .isStr, [.ref _] => none
  | .isStr, [.ctp _] => none
  | .isStr, [.scr _] => none
  | .isStr, [.str _] => some (.bl true)
  | .isStr, [_] => some (.bl false)
  | .isTuple, [.ref _] => none
  | .isTuple, [.ctp _] => none
  | .isTuple, [.scr _] => none
  | .isTuple, [.tup _] => some (.bl true)
  | .isTuple, [_] => some (.bl false)
  | .isList, [.ref _] => none
  | .isList, [.ctp _] => none
  | .isList, [.scr _] => none
  | .isList, [.lst _] => some (.bl true)
  | .isList, [_] => some (.bl false)
  | .isSeq, [.ref _] => none
  | .isSeq, [.ctp _] => none
  | .isSeq, [.scr _] => none
  | .isSeq, [.lst _] => some (.bl true)
  | .isSeq, [.tup _] => some (.bl true)
  | .isSeq, [_] => some (.bl false)
  | .minl, [.lst xs] => (match strsOf xs with
    | some (x :: r) => some (.str (minS x r))
    | _ => none)
  | _, _ => none
def srtD : D → Option (List D)
  | .lst xs => (strsOf xs).map fun ss => (sortS ss).map .str
  | _ => none

/-! ### slots -/
def unpack (is : List Nat) (ds : List D) (env : Evn) : Option Evn := match is, ds with
  | [], [] => some env
  | i :: is, d :: ds => unpack is ds (env.set i (.val d))
  | _, _ => none
def bindP (W : Wd) (p : Pat) (d : D) (env : Evn) : Option Evn := match p with
  | .one i => some (env.set i (.val d))
  | .tup is => (match d with
    | .tup ds => unpack is ds env
    | _ => none)
def Pat.slots : Pat → List Nat
  | .one i => [i]
  | .tup is => is
def wipeE (env : Evn) : List Nat → Evn
  | [] => env
  | i :: is => (wipeE env is).set i .no
abbrev CallF := Nat → List D → Wd → Option (D × Wd)

/-- what is walked: the items, and the cell that must stay -/
def itD (W : Wd) (d : D) : Option (List D × Option Nat) := match d with
  | .lst xs => some (xs, none)
  | .tup xs => some (xs, none)
  | .str x => some (x.cps.toList.map fun c => .str ⟨#[c]⟩, none)
  | .scr ns => some (ns.map .int, none)
  | .ref n => (match W[n]? with
    | some (.lst xs) => some (xs, some n)
    | _ => none)
  | _ => none
/-- a list alone -/
def enD (W : Wd) (d : D) : Option (List D × Option Nat) := match d with
  | .lst xs => some (xs, none)
  | .tup xs => some (xs, none)
  | .ref n => (match W[n]? with
    | some (.lst xs) => some (xs, some n)
    | _ => none)
  | _ => none
def enumD : Nat → List D → List D
  | _, [] => []
  | i, x :: xs => .tup [.int i, x] :: enumD (i + 1) xs
def rngD (lo : Int) : Nat → List D
  | n => (List.range n).map fun i => .int (lo + (i : Nat))
def inR : Int → Bool
  | .ofNat n => Nat.ble n 4611686018427387903
  | .negSucc n => Nat.ble n 4611686018427387903

/-! ### expressions -/
mutual
def D.beq : D → D → Bool
  | .non, .non => true
  | .bl a, .bl b => a == b
  | .int a, .int b => a == b
  | .str a, .str b => decide (a = b)
  | .tup xs, .tup ys => beqs xs ys
  | .lst xs, .lst ys => beqs xs ys
  | .ref a, .ref b => a == b
  | .ctp xs, .ctp ys => beqs xs ys
  | .scr xs, .scr ys => decide (xs = ys)
  | _, _ => false
def beqs : List D → List D → Bool
  | [], [] => true
  | x :: xs, y :: ys => D.beq x y && beqs xs ys
  | _, _ => false
end
mutual
theorem D.beq_eq : ∀ a b : D, D.beq a b = true → a = b
  | .non, b => by cases b <;> simp [D.beq]
  | .bl a, b => by cases b <;> simp [D.beq]
  | .int a, b => by cases b <;> simp [D.beq]
  | .str a, b => by cases b <;> simp [D.beq]
  | .tup xs, b => by
    cases b <;> simp [D.beq]
    exact beqs_eq xs _
  | .lst xs, b => by
    cases b <;> simp [D.beq]
    exact beqs_eq xs _
  | .ref a, b => by cases b <;> simp [D.beq]
  | .ctp xs, b => by
    cases b <;> simp [D.beq]
    exact beqs_eq xs _
  | .scr a, b => by cases b <;> simp [D.beq]
theorem beqs_eq : ∀ a b : List D, beqs a b = true → a = b
  | [], b => by cases b <;> simp [beqs]
  | x :: xs, [] => by simp [beqs]
  | x :: xs, y :: ys => by
    simp only [beqs, Bool.and_eq_true]
    rintro ⟨h1, h2⟩
    rw [D.beq_eq x y h1, beqs_eq xs ys h2]
end
mutual
theorem D.beq_refl : ∀ a : D, D.beq a a = true
  | .non => rfl
  | .bl a => by simp [D.beq]
  | .int a => by simp [D.beq]
  | .str a => by simp [D.beq]
  | .tup xs => by simp only [D.beq]; exact beqs_refl xs
  | .lst xs => by simp only [D.beq]; exact beqs_refl xs
  | .ref a => by simp [D.beq]
  | .ctp xs => by simp only [D.beq]; exact beqs_refl xs
  | .scr a => by simp [D.beq]
theorem beqs_refl : ∀ a : List D, beqs a a = true
  | [] => rfl
  | x :: xs => by simp only [beqs, D.beq_refl x, beqs_refl xs, Bool.and_self]
end
/-- the cell of the walked list is as it was -/
def okW (g : Option Nat) (W0 W : Wd) : Bool := match g with
  | none => true
  | some n => (match W0[n]?, W[n]? with
    | some (.lst xs), some (.lst ys) => beqs xs ys
    | _, _ => false)
def mapL (f : D → Wd → Option (Option D × Wd)) (g : Option Nat) (W0 : Wd) : List D → Wd → Option (List D × Wd)
  | [], W => some ([], W)
  | x :: xs, W => match f x W with
    | some (o, W1) => if okW g W0 W1 then (match mapL f g W0 xs W1 with
      | some (ys, W2) => some (match o with
        | some y => (y :: ys, W2)
        | none => (ys, W2))
      | none => none) else none
    | none => none
def findL (stp : Bool) (f : D → Wd → Option (Bool × Wd)) (g : Option Nat) (W0 : Wd) : List D → Wd → Option (Bool × Wd)
  | [], W => some (!stp, W)
  | x :: xs, W => match f x W with
    | some (b, W1) => if okW g W0 W1 then (if b = stp then some (stp, W1) else findL stp f g W0 xs W1) else none
    | none => none
/-- texts, from one loop in another -/
def flatL (f : D → Wd → Option (List Str × Wd)) (g : Option Nat) (W0 : Wd) : List D → Wd → Option (List Str × Wd)
  | [], W => some ([], W)
  | x :: xs, W => match f x W with
    | some (ys, W1) => if okW g W0 W1 then (match flatL f g W0 xs W1 with
      | some (zs, W2) => some (ys ++ zs, W2)
      | none => none) else none
    | none => none
def strD : D → Option Str
  | .str x => some x
  | _ => none
/-- each once -/
def addS (l : List Str) (z : Str) : List Str := if z ∈ l then l else z :: l

structure Pg where
  mt : Nat → Str → Option Nat
  ini : Nat → Option Nat
  na : Nat → Str → Bool
def insOf (W : Wd) : D → Option (Nat × List (Str × D))
  | .ref n => (match W[n]? with
    | some (.ins c fs) => some (c, fs)
    | _ => none)
  | _ => none

section
variable (g : Pg) (cl : Nat → CallF)
mutual
def evX (n : Nat) (b : Bool) : Ex → Evn → Wd → Option (D × Wd)
  | .var i, env, W => (match env[i]? with
    | some (.val d) => some (d, W)
    | some (.own xs) => if b = true then some (.lst xs, W) else none
    | _ => none)
  | .cst d, _, W => some (d, W)
  | .tup es, env, W => (match evXs n es env W with
    | some (ds, W1) => if sl2 ds.length then some (.tup ds, W1) else none
    | none => none)
  | .fr f, env, W => (match evF n f env W with
    | some (ds, W1) => some (.lst ds, W1)
    | none => none)
  | .cel f, env, W => (match evF n f env W with
    | some (ds, W1) => some (.ref W1.length, W1 ++ [.lst ds])
    | none => none)
  | .dnewK, _, W => some (.ref W.length, W ++ [.dK []])
  | .dnewT, _, W => some (.ref W.length, W ++ [.dT []])
  | .disp ks es, env, W => (match evXs n es env W with
    | some (ds, W1) => if ds.length = ks.length ∧ ks.length ≤ 15 ∧ ks.Nodup then some (.ref W1.length, W1 ++ [.dK ((ks.map Sum.inr).zip ds)]) else none
    | none => none)
  | .op o a c, env, W => (match evX n true a env W with
    | some (x, W1) => (match evX n true c env W1 with
      | some (y, W2) => (match opD o x y with
        | some z => some (z, W2)
        | none => none)
      | none => none)
    | none => none)
  | .neg a, env, W => (match evX n true a env W with
    | some (.int i, W1) => some (.int (-i), W1)
    | _ => none)
  | .not a, env, W => (match evX n true a env W with
    | some (x, W1) => (match truD x with
      | some t => some (.bl (!t), W1)
      | none => none)
    | none => none)
  | .cmp o a c, env, W => (match evX n true a env W with
    | some (x, W1) => (match evX n true c env W1 with
      | some (y, W2) => (match cmpD W2 o x y with
        | some t => some (.bl t, W2)
        | none => none)
      | none => none)
    | none => none)
  | .chain o1 o2 a c e, env, W => (match evX n true a env W with
    | some (x, W1) => (match evX n true c env W1 with
      | some (y, W2) => (match cmpD W2 o1 x y with
        | some true => (match evX n true e env W2 with
          | some (z, W3) => (match cmpD W3 o2 y z with
            | some t => some (.bl t, W3)
            | none => none)
          | none => none)
        | some false => some (.bl false, W2)
        | none => none)
      | none => none)
    | none => none)
  | .isN a, env, W => (match evX n true a env W with
    | some (.non, W1) => some (.bl true, W1)
    | some (_, W1) => some (.bl false, W1)
    | none => none)
  | .notN a, env, W => (match evX n true a env W with
    | some (.non, W1) => some (.bl false, W1)
    | some (_, W1) => some (.bl true, W1)
    | none => none)
  | .and a c, env, W => (match evX n false a env W with
    | some (.bl true, W1) => evX n false c env W1
    | some (.bl false, W1) => some (.bl false, W1)
    | _ => none)
  | .or a c, env, W => (match evX n false a env W with
    | some (.bl false, W1) => evX n false c env W1
    | some (.bl true, W1) => some (.bl true, W1)
    | _ => none)
  | .ite c x y, env, W => (match evX n true c env W with
    | some (v, W1) => (match truD v with
      | some true => evX n false x env W1
      | some false => evX n false y env W1
      | none => none)
    | none => none)
  | .ix a c, env, W => (match evX n true a env W with
    | some (x, W1) => (match evX n true c env W1 with
      | some (y, W2) => (match ixD W2 x y with
        | some z => some (z, W2)
        | none => none)
      | none => none)
    | none => none)
  | .sl a lo hi, env, W => (match evX n true a env W with
    | some (x, W1) => (match evO n lo env W1 with
      | some (l, W2) => (match evO n hi env W2 with
        | some (h, W3) => (match slD x l h with
          | some z => some (z, W3)
          | none => none)
        | none => none)
      | none => none)
    | none => none)
  | .call f es, env, W => (match evXs n es env W with
    | some (ds, W1) => cl n f ds W1
    | none => none)
  | .meth m o es, env, W => (match evX n false o env W with
    | some (r, W1) => (match insOf W1 r with
      | some (c, fs) => (match g.mt c m with
        | some f => if fs.lookup m = none then (match evXs n es env W1 with
          | some (ds, W2) => cl n f (r :: ds) W2
          | none => none) else none
        | none => none)
      | none => none)
    | none => none)
  | .new c es, env, W => (match n with
    | 0 => none
    | m + 1 => (match g.ini c with
      | some f => (match evXs n es env W with
        | some (ds, W1) => (match cl m f (.ref W1.length :: ds) (W1 ++ [.ins c []]) with
          | some (.non, W2) => some (.ref W1.length, W2)
          | _ => none)
        | none => none)
      | none => none))
  | .fld o f, env, W => (match evX n false o env W with
    | some (r, W1) => (match insOf W1 r with
      | some (c, fs) => if g.na c f = true then (match fs.lookup f with
        | some d => some (d, W1)
        | none => none) else none
      | none => none)
    | none => none)
  | .bi k es, env, W => (match evBs n es env W with
    | some (ds, W1) => (match biD W1 k ds with
      | some d => some (d, W1)
      | none => none)
    | none => none)
  | .aa stp p it e, env, W => (match n with
    | 0 => none
    | m + 1 => (match evI n true it env W with
      | some (xs, gd, W1) => (match findL stp (fun x W => match bindP W p x (wipeE env p.slots) with
          | some env1 => (match evX m false e env1 W with
            | some (.bl t, W2) => some (t, W2)
            | _ => none)
          | none => none) gd W1 xs W1 with
        | some (t, W2) => some (.bl t, W2)
        | none => none)
      | none => none))
  | .pop0 o, env, W => (match evX n false o env W with
    | some (.ref r, W1) => (match W1[r]? with
      | some (.lst (x :: xs)) => some (x, W1.set r (.lst xs))
      | _ => none)
    | _ => none)
def evXs (n : Nat) : Exs → Evn → Wd → Option (List D × Wd)
  | .nil, _, W => some ([], W)
  | .cons e es, env, W => (match evX n false e env W with
    | some (d, W1) => (match evXs n es env W1 with
      | some (ds, W2) => some (d :: ds, W2)
      | none => none)
    | none => none)
def evBs (n : Nat) : Exs → Evn → Wd → Option (List D × Wd)
  | .nil, _, W => some ([], W)
  | .cons e es, env, W => (match evX n true e env W with
    | some (d, W1) => (match evBs n es env W1 with
      | some (ds, W2) => some (d :: ds, W2)
      | none => none)
    | none => none)
def evO (n : Nat) : Oe → Evn → Wd → Option (Option Int × Wd)
  | .no, _, W => some (none, W)
  | .yes e, env, W => (match evX n true e env W with
    | some (.int i, W1) => some (some i, W1)
    | _ => none)
def evF (n : Nat) : Fx → Evn → Wd → Option (List D × Wd)
  | .disp es, env, W => (match evXs n es env W with
    | some (ds, W1) => if sl2 ds.length then some (ds, W1) else none
    | none => none)
  | .comp p it c e, env, W => (match evI n true it env W with
    | some (xs, gd, W1) => if xs.length < PySem.sizeLine then mapL (fun x W => match bindP W p x (wipeE env p.slots) with
        | some env1 => (match evC n c env1 W with
          | some (true, W2) => (match evX n false e env1 W2 with
            | some (y, W3) => some (some y, W3)
            | none => none)
          | some (false, W2) => some (none, W2)
          | none => none)
        | none => none) gd W1 xs W1 else none
    | none => none)
  | .srt e, env, W => (match evX n true e env W with
    | some (d, W1) => (match srtD d with
      | some xs => some (xs, W1)
      | none => none)
    | none => none)
  | .lst e, env, W => (match evX n true e env W with
    | some (d, W1) => (match seqOf W1 d with
      | some xs => some (xs, W1)
      | none => none)
    | none => none)
  | .srtset e, env, W => (match evX n true e env W with
    | some (d, W1) => (match lstOf W1 d with
      | some [] => some ([], W1)
      | _ => none)
    | none => none)
  | .sset2 p1 it1 p2 it2 c e, env, W => (match evI n true it1 env W with
    | some (xs, gd, W1) => (match flatL (fun x W => match bindP W p1 x (wipeE env (p1.slots ++ p2.slots)) with
        | some env1 => (match evI n false it2 env1 W with
          | some (ys, gd2, W2) => flatL (fun y W => match bindP W p2 y (wipeE env1 p2.slots) with
              | some env2 => (match evC n c env2 W with
                | some (true, W3) => (match evX n false e env2 W3 with
                  | some (.str z, W4) => some ([z], W4)
                  | _ => none)
                | some (false, W3) => some ([], W3)
                | none => none)
              | none => none) gd2 W2 ys W2
          | none => none)
        | none => none) gd W1 xs W1 with
      | some (zs, W2) => if zs.length < 64 then some ((sortS (zs.foldl addS [])).map .str, W2) else none
      | none => none)
    | none => none)
def evC (n : Nat) : Oe → Evn → Wd → Option (Bool × Wd)
  | .no, _, W => some (true, W)
  | .yes e, env, W => (match evX n true e env W with
    | some (v, W1) => (match truD v with
      | some t => some (t, W1)
      | none => none)
    | none => none)
def evI (n : Nat) (b : Bool) : It → Evn → Wd → Option (List D × Option Nat × Wd)
  | .seq e, env, W => (match evX n b e env W with
    | some (d, W1) => (match itD W1 d with
      | some (xs, gd) => some (xs, gd, W1)
      | none => none)
    | none => none)
  | .rng1 e, env, W => (match evX n true e env W with
    | some (.int j, W1) => if inR j then some (rngD 0 j.toNat, none, W1) else none
    | _ => none)
  | .rng2 a c, env, W => (match evX n true a env W with
    | some (.int i, W1) => (match evX n true c env W1 with
      | some (.int j, W2) => if inR i && inR j then some (rngD i (j - i).toNat, none, W2) else none
      | _ => none)
    | _ => none)
  | .enum e, env, W => (match evX n b e env W with
    | some (d, W1) => (match enD W1 d with
      | some (xs, gd) => some (enumD 0 xs, gd, W1)
      | none => none)
    | none => none)
end
end

/-! ### statements -/
inductive Out where
  | nx (env : Evn) (W : Wd) | rt (d : D) (W : Wd) | bk (env : Evn) (W : Wd) | ct (env : Evn) (W : Wd)
mutual
/-- the slots whose value may go elsewhere -/
def esc : Ex → List Nat
  | .var i => [i]
  | .cst _ => []
  | .tup es => escs es
  | .fr f => escF f
  | .cel f => escF f
  | .dnewK => []
  | .dnewT => []
  | .disp _ es => escs es
  | .op _ a b => escB a ++ escB b
  | .neg a => escB a
  | .not a => escB a
  | .cmp _ a b => escB a ++ escB b
  | .chain _ _ a b c => escB a ++ escB b ++ escB c
  | .isN a => escB a
  | .notN a => escB a
  | .and a b => esc a ++ esc b
  | .or a b => esc a ++ esc b
  | .ite c a b => escB c ++ esc a ++ esc b
  | .ix a b => escB a ++ escB b
  | .sl a lo hi => escB a ++ escO lo ++ escO hi
  | .call _ es => escs es
  | .meth _ o es => esc o ++ escs es
  | .new _ es => escs es
  | .fld o _ => esc o
  | .bi _ es => escBs es
  | .aa _ _ it e => escI it ++ esc e
  | .pop0 o => esc o
def escB : Ex → List Nat
  | .var _ => []
  | .cst _ => []
  | .tup es => escs es
  | .fr f => escF f
  | .cel f => escF f
  | .dnewK => []
  | .dnewT => []
  | .disp _ es => escs es
  | .op _ a b => escB a ++ escB b
  | .neg a => escB a
  | .not a => escB a
  | .cmp _ a b => escB a ++ escB b
  | .chain _ _ a b c => escB a ++ escB b ++ escB c
  | .isN a => escB a
  | .notN a => escB a
  | .and a b => esc a ++ esc b
  | .or a b => esc a ++ esc b
  | .ite c a b => escB c ++ esc a ++ esc b
  | .ix a b => escB a ++ escB b
  | .sl a lo hi => escB a ++ escO lo ++ escO hi
  | .call _ es => escs es
  | .meth _ o es => esc o ++ escs es
  | .new _ es => escs es
  | .fld o _ => esc o
  | .bi _ es => escBs es
  | .aa _ _ it e => escI it ++ esc e
  | .pop0 o => esc o
def escs : Exs → List Nat
  | .nil => []
  | .cons e es => esc e ++ escs es
def escBs : Exs → List Nat
  | .nil => []
  | .cons e es => escB e ++ escBs es
def escO : Oe → List Nat
  | .no => []
  | .yes e => escB e
def escF : Fx → List Nat
  | .disp es => escs es
  | .comp _ it c e => escI it ++ escO c ++ esc e
  | .srt e => escB e
  | .lst e => escB e
  | .srtset e => escB e
  | .sset2 _ it1 _ it2 c e => escI it1 ++ escI it2 ++ escO c ++ esc e
def escI : It → List Nat
  | .seq e => escB e
  | .rng1 e => escB e
  | .rng2 a b => escB a ++ escB b
  | .enum e => escB e
end
/-- of a loop that is a statement -/
def escJ : It → List Nat
  | .seq e => esc e
  | .rng1 e => escB e
  | .rng2 a b => escB a ++ escB b
  | .enum e => esc e
def fz1 (i : Nat) (env : Evn) : Evn := match env[i]? with
  | some (.own xs) => env.set i (.val (.lst xs))
  | _ => env
def fz (is : List Nat) (env : Evn) : Evn := is.foldr fz1 env
def forL (f : D → Evn → Wd → Option Out) (g : Option Nat) (W0 : Wd) : List D → Evn → Wd → Option Out
  | [], env, W => some (.nx env W)
  | x :: xs, env, W => match f x env W with
    | some (.nx env1 W1) => if okW g W0 W1 then forL f g W0 xs env1 W1 else none
    | some (.ct env1 W1) => if okW g W0 W1 then forL f g W0 xs env1 W1 else none
    | some (.bk env1 W1) => some (.nx env1 W1)
    | some (.rt d W1) => some (.rt d W1)
    | none => none
section
variable (g : Pg) (cl : Nat → CallF) (n : Nat)
mutual
def exS : St → Evn → Wd → Option Out
  | .asg i e, env, W => (match evX g cl n false e (fz (esc e) env) W with
    | some (d, W1) => some (.nx ((fz (esc e) env).set i (.val d)) W1)
    | none => none)
  | .asgF i f, env, W => (match evF g cl n f (fz (escF f) env) W with
    | some (ds, W1) => some (.nx ((fz (escF f) env).set i (.own ds)) W1)
    | none => none)
  | .unp is e, env, W => (match evX g cl n false e (fz (esc e) env) W with
    | some (.tup ds, W1) => (match unpack is ds (fz (esc e) env) with
      | some env1 => some (.nx env1 W1)
      | none => none)
    | _ => none)
  | .par i j a b, env, W => (match evX g cl n false a (fz (esc a ++ esc b) env) W with
    | some (x, W1) => (match evX g cl n false b (fz (esc a ++ esc b) env) W1 with
      | some (y, W2) => some (.nx (((fz (esc a ++ esc b) env).set i (.val x)).set j (.val y)) W2)
      | none => none)
    | none => none)
  | .ret e, env, W => (match evX g cl n false e (fz (esc e) env) W with
    | some (d, W1) => some (.rt d W1)
    | none => none)
  | .retN, _, W => some (.rt .non W)
  | .expr e, env, W => (match evX g cl n false e (fz (esc e) env) W with
    | some (_, W1) => some (.nx (fz (esc e) env) W1)
    | none => none)
  | .ite c a b, env, W => (match evX g cl n true c (fz (escB c) env) W with
    | some (v, W1) => (match truD v with
      | some true => exSs a (fz (escB c) env) W1
      | some false => exSs b (fz (escB c) env) W1
      | none => none)
    | none => none)
  | .forr p it b, env, W => (match evI g cl n false it (fz (escJ it) env) W with
    | some (xs, gd, W1) => forL (fun x env W => match bindP W p x env with
      | some env1 => exSs b env1 W
      | none => none) gd W1 xs (fz (escJ it) env) W1
    | none => none)
  | .brk, env, W => some (.bk env W)
  | .cont, env, W => some (.ct env W)
  | .app i e, env, W => (match evX g cl n false e (fz (esc e) env) W with
    | some (d, W1) => (match (fz (esc e) env)[i]? with
      | some (.own xs) => if xs.length < PySem.sizeLine then some (.nx ((fz (esc e) env).set i (.own (xs ++ [d]))) W1) else none
      | _ => none)
    | none => none)
  | .appx o e, env, W => (match evX g cl n false o (fz (esc o ++ esc e) env) W with
    | some (.ref r, W1) => (match W1[r]? with
      | some (.lst _) => (match evX g cl n false e (fz (esc o ++ esc e) env) W1 with
        | some (d, W2) => (match W2[r]? with
          | some (.lst xs) => if xs.length < PySem.sizeLine then some (.nx (fz (esc o ++ esc e) env) (W2.set r (.lst (xs ++ [d])))) else none
          | _ => none)
        | none => none)
      | _ => none)
    | _ => none)
  | .setix o i e, env, W => (match evX g cl n false e (fz (esc e ++ esc o ++ esc i) env) W with
    | some (d, W1) => (match evX g cl n false o (fz (esc e ++ esc o ++ esc i) env) W1 with
      | some (.ref r, W2) => (match evX g cl n false i (fz (esc e ++ esc o ++ esc i) env) W2 with
        | some (k, W3) => (match W3[r]?, kyOf k with
          | some (.dK kvs), some (.one k) => if kvs.length < PySem.sizeLine then some (.nx (fz (esc e ++ esc o ++ esc i) env) (W3.set r (.dK (kput k d kvs)))) else none
          | some (.dT kvs), some (.row k) => if kvs.length < PySem.sizeLine then some (.nx (fz (esc e ++ esc o ++ esc i) env) (W3.set r (.dT (kput k d kvs)))) else none
          | _, _ => none)
        | none => none)
      | _ => none)
    | none => none)
  | .setfld o f e, env, W => (match evX g cl n false e (fz (esc e ++ esc o) env) W with
    | some (d, W1) => (match evX g cl n false o (fz (esc e ++ esc o) env) W1 with
      | some (.ref r, W2) => (match W2[r]? with
        | some (.ins c fs) => if fs.length < 1000 ∧ g.na c f = true then some (.nx (fz (esc e ++ esc o) env) (W2.set r (.ins c (fput f d fs)))) else none
        | _ => none)
      | _ => none)
    | none => none)
  | .stuck, _, _ => none
def exSs : List St → Evn → Wd → Option Out
  | [], env, W => some (.nx env W)
  | s :: ss, env, W => match exS s env W with
    | some (.nx env1 W1) => exSs ss env1 W1
    | o => o
end
end

/-! ### defs -/
mutual
def bnd (n : Nat) : D → Bool
  | .tup xs => bnds n xs
  | .lst xs => bnds n xs
  | .ctp xs => bnds n xs
  | .ref m => decide (m < n)
  | _ => true
def bnds (n : Nat) : List D → Bool
  | [] => true
  | x :: xs => bnd n x && bnds n xs
end
def bndC (n : Nat) : Cell → Bool
  | .lst xs => bnds n xs
  | .dK kvs => kvs.all fun p => bnd n p.2
  | .dT kvs => kvs.all fun p => bnd n p.2
  | .ins _ fs => fs.all fun p => bnd n p.2
structure Df where
  ps : Nat
  sz : Nat
  hp : Bool
  body : List St
def startE (sz : Nat) (ds : List D) : Evn := ds.map .val ++ List.replicate (sz - ds.length) .no
/-- what a call leaves: its own cells are dropped where nothing is left that knows them -/
def leave (hp : Bool) (W : Wd) (d : D) (W' : Wd) : Option (D × Wd) :=
  if hp = true ∨ W'.length = W.length then some (d, W') else if bnd W.length d = true ∧ (W'.take W.length).all (bndC W.length) = true then some (d, W'.take W.length) else none
def runD (g : Pg) (cl : Nat → CallF) (n : Nat) (df : Df) (ds : List D) (W : Wd) : Option (D × Wd) :=
  if ds.length = df.ps then (match exSs g cl n df.body (startE df.sz ds) W with
    | some (.nx _ W') => leave df.hp W .non W'
    | some (.rt d W') => leave df.hp W d W'
    | _ => none) else none
/-- levels up to n -/
def run (g : Pg) (df : Nat → Option Df) : Nat → Nat → CallF
  | 0 => fun _ _ _ _ => none
  | n + 1 => fun j => if j ≤ n then run g df n j else if j = n + 1 then fun f ds W => (match df f with
    | some d => runD g (run g df n) n d ds W
    | none => none) else fun _ _ _ => none
end Pv
end
section
set_option Elab.async false
set_option linter.all false
set_option maxRecDepth 100000
set_option maxHeartbeats 2000000
/-! What the pure data stand for in the abstract heap. -/
namespace Pv
open PySem PySem.Spec PyProof.Rows L2
abbrev Frag := PySem.W.Frag

/-- the fixed surroundings: the written part, where classes stand, tables of code objects -/
structure Su where
  K : Frag
  cA : Nat → Addr
  tabs : List Addr
structure Gh where
  F : Hp
  ι : Nat → Addr

def okStr (x : Str) : Prop := PyData.strOk x = true ∧ x.length ≤ sizeLine
mutual
def Rep (S : Su) (G : Gh) (n : Nat) : D → V → Prop
  | .non, v => v = .non
  | .bl b, v => v = .bl b
  | .int i, v => v = .int i
  | .str x, v => v = .str x ∧ okStr x
  | .tup ds, v => ∃ a vs, v = .ref a ∧ G.F a = some (.tup vs) ∧ Reps S G n ds vs
  | .lst ds, v => ∃ a vs, v = .ref a ∧ G.F a = some (.lst vs) ∧ Reps S G n ds vs
  | .ref m, v => v = .ref (G.ι m) ∧ m < n
  | .scr ns, v => ∃ a, v = .ref a ∧ SqL S.K G.F a (ns.map V.int)
  | .ctp ds, v => ∃ a vs, v = .ref a ∧ SqT S.K G.F a vs ∧ Reps S G n ds vs
def Reps (S : Su) (G : Gh) (n : Nat) : List D → List V → Prop
  | [], vs => vs = []
  | d :: ds, vs => ∃ v r, vs = v :: r ∧ Rep S G n d v ∧ Reps S G n ds r
end
structure Gx (G : Gh) (n : Nat) (G' : Gh) (n' : Nat) : Prop where
  F : ∀ a o, G.F a = some o → G'.F a = some o
  ι : ∀ m, m < n → G'.ι m = G.ι m
  n : n ≤ n'
theorem Gx.refl (G : Gh) (n : Nat) : Gx G n G n := ⟨fun _ _ h => h, fun _ _ => rfl, Nat.le_refl _⟩
theorem Gx.trans {G G1 G2 : Gh} {n n1 n2 : Nat} (a : Gx G n G1 n1) (b : Gx G1 n1 G2 n2) : Gx G n G2 n2 :=
  ⟨fun x o h => b.F x o (a.F x o h), fun m h => (b.ι m (Nat.lt_of_lt_of_le h a.n)).trans (a.ι m h), Nat.le_trans a.n b.n⟩
theorem rd_mono {F F' : Hp} (h : ∀ a o, F a = some o → F' a = some o) {a : Addr} {u : HO} (r : Rd F a u) : Rd F' a u := r.elim (fun z => .inl (h _ _ z)) fun ⟨o, z⟩ => .inr ⟨o, h _ _ z⟩
theorem sqL_mono {K : Frag} {F F' : Hp} (h : ∀ a o, F a = some o → F' a = some o) {a : Addr} {vs : List V} (r : SqL K F a vs) : SqL K F' a vs := r.elim (fun z => .inl (rd_mono h z)) .inr
theorem sqT_mono {K : Frag} {F F' : Hp} (h : ∀ a o, F a = some o → F' a = some o) {a : Addr} {vs : List V} (r : SqT K F a vs) : SqT K F' a vs := r.elim (fun z => .inl (rd_mono h z)) .inr
section
variable {S : Su} {G G' : Gh} {n n' : Nat}
mutual
theorem Rep.mono (x : Gx G n G' n') : ∀ {d : D} {v : V}, Rep S G n d v → Rep S G' n' d v
  | .non, _, h => h
  | .bl _, _, h => h
  | .int _, _, h => h
  | .str _, _, h => h
  | .tup ds, _, ⟨a, vs, e, h, r⟩ => ⟨a, vs, e, x.F _ _ h, Reps.mono x r⟩
  | .ctp ds, _, ⟨a, vs, e, h, r⟩ => ⟨a, vs, e, sqT_mono x.F h, Reps.mono x r⟩
  | .lst ds, _, ⟨a, vs, e, h, r⟩ => ⟨a, vs, e, x.F _ _ h, Reps.mono x r⟩
  | .scr ns, _, ⟨a, e, h⟩ => ⟨a, e, sqL_mono x.F h⟩
  | .ref m, _, ⟨e, h⟩ => ⟨by rw [x.ι m h]; exact e, Nat.lt_of_lt_of_le h x.n⟩
theorem Reps.mono (x : Gx G n G' n') : ∀ {ds : List D} {vs : List V}, Reps S G n ds vs → Reps S G' n' ds vs
  | [], _, h => h
  | _ :: _, _, ⟨v, r, e, h, t⟩ => ⟨v, r, e, Rep.mono x h, Reps.mono x t⟩
end
theorem Reps.length : ∀ {ds : List D} {vs : List V}, Reps S G n ds vs → vs.length = ds.length
  | [], _, h => by subst h; rfl
  | _ :: _, _, ⟨v, r, e, _, t⟩ => by subst e; simp [Reps.length t]
theorem Reps.nil : Reps S G n [] [] := rfl
theorem Reps.cons {d : D} {ds : List D} {v : V} {vs : List V} (h : Rep S G n d v) (t : Reps S G n ds vs) : Reps S G n (d :: ds) (v :: vs) := ⟨v, vs, rfl, h, t⟩
theorem Reps.at : ∀ {ds : List D} {vs : List V} {i : Nat} {d : D}, Reps S G n ds vs → ds[i]? = some d → ∃ v, vs[i]? = some v ∧ Rep S G n d v
  | [], _, _, _, _, e => by simp at e
  | x :: xs, _, 0, d, ⟨v, r, e, h, t⟩, q => by
    subst e
    have : x = d := by simpa using q
    subst this
    exact ⟨v, rfl, h⟩
  | x :: xs, _, i + 1, d, ⟨v, r, e, h, t⟩, q => by
    subst e
    obtain ⟨v', a, b⟩ := Reps.at (i := i) t (by simpa using q)
    exact ⟨v', by simpa using a, b⟩
theorem Reps.append : ∀ {ds es : List D} {vs us : List V}, Reps S G n ds vs → Reps S G n es us → Reps S G n (ds ++ es) (vs ++ us)
  | [], _, _, _, h, t => by subst h; exact t
  | d :: ds, es, _, us, ⟨v, r, e, h, t⟩, q => by
    subst e
    exact ⟨v, r ++ us, rfl, h, Reps.append t q⟩
theorem Reps.drop : ∀ {ds : List D} {vs : List V} (k : Nat), Reps S G n ds vs → Reps S G n (ds.drop k) (vs.drop k)
  | [], _, k, h => by
    subst h
    simp
    rfl
  | _ :: _, _, 0, h => h
  | d :: ds, _, k + 1, ⟨v, r, e, _, t⟩ => by subst e; exact Reps.drop k t
theorem Reps.take : ∀ {ds : List D} {vs : List V} (k : Nat), Reps S G n ds vs → Reps S G n (ds.take k) (vs.take k)
  | [], _, k, h => by
    subst h
    simp
    rfl
  | _ :: _, _, 0, h => by simp; rfl
  | d :: ds, _, k + 1, ⟨v, r, e, h, t⟩ => by subst e; exact ⟨v, r.take k, rfl, h, Reps.take k t⟩
theorem Reps.set : ∀ {ds : List D} {vs : List V} {d : D} {v : V} (k : Nat), Reps S G n ds vs → Rep S G n d v → Reps S G n (ds.set k d) (vs.set k v)
  | [], _, _, _, k, h, _ => by subst h; rfl
  | _ :: _, _, _, v, 0, ⟨w, r, e, _, t⟩, q => by subst e; exact ⟨v, r, rfl, q, t⟩
  | _ :: _, _, _, _, k + 1, ⟨w, r, e, h, t⟩, q => by subst e; exact ⟨w, _, rfl, h, Reps.set k t q⟩
end

/-! ### cells -/
def RepKV {κ : Type} (S : Su) (G : Gh) (n : Nat) : List (κ × D) → List (κ × V) → Prop
  | [], us => us = []
  | (k, d) :: r, us => ∃ v t, us = (k, v) :: t ∧ Rep S G n d v ∧ RepKV S G n r t
def RepC (S : Su) (G : Gh) (n : Nat) : Cell → HO → Prop
  | .lst ds, o => ∃ vs, o = .lst vs ∧ Reps S G n ds vs
  | .dK kvs, o => ∃ us, o = .dK us ∧ RepKV S G n kvs us ∧ (kvs.map (·.1)).Nodup
  | .dT kvs, o => ∃ us, o = .dT us ∧ RepKV S G n kvs us ∧ (kvs.map (·.1)).Nodup
  | .ins c fs, o => ∃ dx us, o = .ins (S.cA c) dx us ∧ RepKV S G n fs us
section
variable {S : Su} {G G' : Gh} {n n' : Nat} {κ : Type}
theorem RepKV.mono (x : Gx G n G' n') : ∀ {ds : List (κ × D)} {vs : List (κ × V)}, RepKV S G n ds vs → RepKV S G' n' ds vs
  | [], _, h => h
  | (_, _) :: _, _, ⟨v, r, e, h, t⟩ => ⟨v, r, e, h.mono x, RepKV.mono x t⟩
theorem RepC.mono (x : Gx G n G' n') : ∀ {c : Cell} {o : HO}, RepC S G n c o → RepC S G' n' c o
  | .lst _, _, ⟨vs, e, r⟩ => ⟨vs, e, r.mono x⟩
  | .dK _, _, ⟨us, e, r, h⟩ => ⟨us, e, r.mono x, h⟩
  | .dT _, _, ⟨us, e, r, h⟩ => ⟨us, e, r.mono x, h⟩
  | .ins _ _, _, ⟨dx, us, e, r⟩ => ⟨dx, us, e, r.mono x⟩
theorem RepKV.length : ∀ {ds : List (κ × D)} {vs : List (κ × V)}, RepKV S G n ds vs → vs.length = ds.length
  | [], _, h => by subst h; rfl
  | (_, _) :: _, _, ⟨v, r, e, _, t⟩ => by subst e; simp [RepKV.length t]
theorem RepC.notbl {c : Cell} {ps : Array Value} (h : RepC S G n c (.tbl ps)) : False := by
  cases c with
  | lst _ => obtain ⟨_, e, _⟩ := h; cases e
  | dK _ => obtain ⟨_, e, _⟩ := h; cases e
  | dT _ => obtain ⟨_, e, _⟩ := h; cases e
  | ins _ _ => obtain ⟨_, _, e, _⟩ := h; cases e
end

/-! ### the world, the slots, a step -/
structure SW (S : Su) (G : Gh) (W : Wd) (H : Hp) : Prop where
  sub : ∀ a o, G.F a = some o → H a = some o
  cel : ∀ m c, W[m]? = some c → ∃ o, H (G.ι m) = some o ∧ RepC S G W.length c o
  fc : ∀ m, m < W.length → G.F (G.ι m) = none
  inj : ∀ m m', m < W.length → m' < W.length → G.ι m = G.ι m' → m = m'
  tab : ∀ P ∈ S.tabs, GxR.TabG H P
  ft : ∀ P ∈ S.tabs, G.F P = none
structure SE (S : Su) (G : Gh) (n : Nat) (env : Evn) (σ : L2.St) (H : Hp) : Prop where
  len : env.length = σ.length
  vals : ∀ (i : Nat) (d : D), env[i]? = some (Sv.val d) → ∃ v, σ[i]? = some (some v) ∧ Rep S G n d v
  owns : ∀ (i : Nat) (ds : List D), env[i]? = some (Sv.own ds) → ∃ a vs, σ[i]? = some (some (.ref a)) ∧ H a = some (.lst vs) ∧ Reps S G n ds vs ∧ G.F a = none ∧ (∀ m, m < n → G.ι m ≠ a) ∧
    ∀ (j : Nat) (ds' : List D), env[j]? = some (Sv.own ds') → σ[j]? = some (some (.ref a)) → j = i
structure Step (S : Su) (G : Gh) (n : Nat) (H : Hp) (G' : Gh) (n' : Nat) (H' : Hp) : Prop where
  x : Gx G n G' n'
  keep : ∀ a o, H a = some o → (∀ m, m < n → G.ι m ≠ a) → a ∉ S.tabs → H' a = some o
  there : ∀ a o, H a = some o → ∃ o', H' a = some o'
  newF : ∀ a o, G'.F a = some o → G.F a = some o ∨ H a = none
  newC : ∀ m, n ≤ m → m < n' → H (G'.ι m) = none
section
variable {S : Su} {G G' G1 G2 : Gh} {n n' n1 n2 : Nat} {H H' H1 H2 : Hp} {W W' : Wd} {env : Evn} {σ : L2.St}
theorem Step.refl : Step S G n H G n H := ⟨Gx.refl _ _, fun _ _ h _ _ => h, fun _ o h => ⟨o, h⟩, fun _ _ h => .inl h, fun m a b => absurd b (Nat.not_lt.mpr a)⟩
/-- what is there, and no cell, is no cell later -/
theorem Step.nocell (s : Step S G n H G1 n1 H1) {a : Addr} {o : HO} (h : H a = some o) (hc : ∀ m, m < n → G.ι m ≠ a) : ∀ m, m < n1 → G1.ι m ≠ a := fun m hm e => by
  by_cases h1 : m < n
  · exact hc m h1 ((s.x.ι m h1).symm.trans e)
  · have := s.newC m (Nat.le_of_not_lt h1) hm
    rw [e, h] at this
    cases this
theorem Step.noF (s : Step S G n H G1 n1 H1) {a : Addr} {o : HO} (h : H a = some o) (hc : G.F a = none) : G1.F a = none := by
  cases q : G1.F a with
  | none => rfl
  | some u =>
    rcases s.newF a u q with z | z
    · rw [hc] at z; cases z
    · rw [h] at z; cases z
theorem SE.step (e : SE S G n env σ H) (hw : SW S G W H) (hn : n = W.length) (s : Step S G n H G' n' H') : SE S G' n' env σ H' := by
  subst hn
  refine ⟨e.len, fun i d h => ?_, fun i ds h => ?_⟩
  · obtain ⟨v, h1, h2⟩ := e.vals i d h
    exact ⟨v, h1, h2.mono s.x⟩
  · obtain ⟨a, vs, h1, h2, h3, h4, h5, h6⟩ := e.owns i ds h
    refine ⟨a, vs, h1, s.keep a _ h2 h5 (fun z => ?_), h3.mono s.x, s.noF h2 h4, s.nocell h2 h5, h6⟩
    obtain ⟨ps, hp, _⟩ := hw.tab a z
    rw [h2] at hp
    cases hp
theorem Step.back (s : Step S G n H G1 n1 H1) {a : Addr} (h : H1 a = none) : H a = none := by
  cases q : H a with
  | none => rfl
  | some u =>
    obtain ⟨o, e⟩ := s.there a u q
    rw [h] at e; cases e
theorem Step.trans (a : Step S G n H G1 n1 H1) (b : Step S G1 n1 H1 G2 n2 H2) : Step S G n H G2 n2 H2 := by
  refine ⟨a.x.trans b.x, fun c o h hc ht => ?_, fun c o h => ?_, fun c o h => ?_, fun m h1 h2 => ?_⟩
  · exact b.keep c o (a.keep c o h hc ht) (a.nocell h hc) ht
  · obtain ⟨o', h'⟩ := a.there c o h
    exact b.there c o' h'
  · rcases b.newF c o h with z | z
    · exact a.newF c o z
    · exact .inr (a.back z)
  · by_cases h : m < n1
    · have := a.newC m h1 h
      rw [b.x.ι m h]
      exact this
    · exact a.back (b.newC m (Nat.le_of_not_lt h) h2)

/-! ### new things, changed things -/
def Gh.frz (G : Gh) (p : Addr) (o : HO) : Gh := { G with F := upd G.F p o }
def Gh.new (G : Gh) (n : Nat) (p : Addr) : Gh := { G with ι := fun m => if m = n then p else G.ι m }
theorem upd_sub {F H : Hp} {p : Addr} {o : HO} (h : ∀ a u, F a = some u → H a = some u) : ∀ a u, upd F p o a = some u → upd H p o a = some u := fun a u e => by
  by_cases z : a = p
  · subst z; rw [upd_same] at e ⊢; exact e
  · rw [upd_ne z] at e ⊢; exact h a u e
theorem tabG_upd {H : Hp} {p P : Addr} {o : HO} (h : GxR.TabG H P) (hp : P ≠ p) : GxR.TabG (upd H p o) P := by
  obtain ⟨ps, e, t⟩ := h
  exact ⟨ps, by rw [upd_ne hp]; exact e, t⟩
/-- a new object that is never changed -/
theorem SW.frz (hw : SW S G W H) {p : Addr} {o : HO} (hp : H p = none) : SW S (G.frz p o) W (upd H p o) ∧ Step S G W.length H (G.frz p o) W.length (upd H p o) := by
  have ne : ∀ {a u}, H a = some u → a ≠ p := fun h => ne_of_none h hp
  have gx : Gx G W.length (G.frz p o) W.length := ⟨fun a u e => by
    show upd G.F p o a = some u
    rw [upd_ne (ne (hw.sub a u e))]; exact e, fun _ _ => rfl, Nat.le_refl _⟩
  refine ⟨⟨upd_sub hw.sub, fun m c h => ?_, fun m h => ?_, hw.inj, fun P h => ?_, fun P h => ?_⟩, ⟨gx, fun a u e _ _ => by rw [upd_ne (ne e)]; exact e, fun a u e => ⟨u, by rw [upd_ne (ne e)]; exact e⟩, fun a u e => ?_, fun m a b => absurd b (Nat.not_lt.mpr a)⟩⟩
  · obtain ⟨u, h1, h2⟩ := hw.cel m c h
    exact ⟨u, by show upd H p o (G.ι m) = _; rw [upd_ne (ne h1)]; exact h1, h2.mono gx⟩
  · obtain ⟨u, h1, _⟩ := hw.cel m W[m] (List.getElem?_eq_getElem h)
    show upd G.F p o (G.ι m) = none
    rw [upd_ne (ne h1)]; exact hw.fc m h
  · obtain ⟨ps, e, t⟩ := hw.tab P h
    exact ⟨ps, by rw [upd_ne (ne e)]; exact e, t⟩
  · obtain ⟨ps, e, t⟩ := hw.tab P h
    show upd G.F p o P = none
    rw [upd_ne (ne e)]; exact hw.ft P h
  · by_cases z : a = p
    · subst z; exact .inr hp
    · have e : upd G.F p o a = some u := e
      rw [upd_ne z] at e
      exact .inl e
theorem getElem?_snoc {α : Type} {l : List α} {x y : α} {m : Nat} (h : (l ++ [x])[m]? = some y) : (m < l.length ∧ l[m]? = some y) ∨ (m = l.length ∧ y = x) := by
  by_cases z : m < l.length
  · rw [List.getElem?_append_left z] at h
    exact .inl ⟨z, h⟩
  · rw [List.getElem?_append_right (Nat.le_of_not_lt z)] at h
    have : m - l.length = 0 := by
      cases q : m - l.length with
      | zero => rfl
      | succ k => rw [q] at h; simp at h
    rw [this] at h
    exact .inr ⟨by omega, by simpa using h.symm⟩
/-- a new cell -/
theorem SW.cell (hw : SW S G W H) {p : Addr} {o : HO} {c : Cell} (hp : H p = none) (r : RepC S (G.new W.length p) (W.length + 1) c o) :
    SW S (G.new W.length p) (W ++ [c]) (upd H p o) ∧ Step S G W.length H (G.new W.length p) (W.length + 1) (upd H p o) := by
  have ne : ∀ {a u}, H a = some u → a ≠ p := fun h => ne_of_none h hp
  have il : ∀ m, m < W.length → (G.new W.length p).ι m = G.ι m := fun m h => by
    show (if m = W.length then p else G.ι m) = _
    rw [if_neg (Nat.ne_of_lt h)]
  have ip : (G.new W.length p).ι W.length = p := by
    show (if W.length = W.length then p else G.ι W.length) = _
    rw [if_pos rfl]
  have gx : Gx G W.length (G.new W.length p) (W.length + 1) := ⟨fun a u e => e, il, Nat.le_succ _⟩
  have len : (W ++ [c]).length = W.length + 1 := by simp
  have Fp : G.F p = none := by
    cases q : G.F p with
    | none => rfl
    | some u => rw [hw.sub p u q] at hp; cases hp
  refine ⟨⟨fun a u e => ?_, fun m d h => ?_, fun m h => ?_, fun m m' h h' e => ?_, fun P h => ?_, hw.ft⟩, ⟨gx, fun a u e _ _ => by rw [upd_ne (ne e)]; exact e, fun a u e => ⟨u, by rw [upd_ne (ne e)]; exact e⟩, fun a u e => .inl e, fun m h1 h2 => ?_⟩⟩
  · have := hw.sub a u e
    rw [upd_ne (ne this)]; exact this
  · rw [len]
    rcases getElem?_snoc h with ⟨hm, h⟩ | ⟨rfl, rfl⟩
    · obtain ⟨u, h1, h2⟩ := hw.cel m d h
      rw [il m hm]
      exact ⟨u, by rw [upd_ne (ne h1)]; exact h1, h2.mono gx⟩
    · rw [ip]
      exact ⟨o, upd_same, r⟩
  · rw [len] at h
    show G.F _ = none
    by_cases z : m < W.length
    · rw [il m z]; exact hw.fc m z
    · have : m = W.length := by omega
      subst this
      rw [ip]; exact Fp
  · rw [len] at h h'
    by_cases z : m < W.length
    · by_cases z' : m' < W.length
      · rw [il m z, il m' z'] at e
        exact hw.inj m m' z z' e
      · have : m' = W.length := by omega
        subst this
        rw [il m z, ip] at e
        obtain ⟨u, h1, _⟩ := hw.cel m W[m] (List.getElem?_eq_getElem z)
        exact absurd e (ne h1)
    · have : m = W.length := by omega
      subst this
      by_cases z' : m' < W.length
      · rw [il m' z', ip] at e
        obtain ⟨u, h1, _⟩ := hw.cel m' W[m'] (List.getElem?_eq_getElem z')
        exact absurd e.symm (ne h1)
      · omega
  · obtain ⟨ps, e, t⟩ := hw.tab P h
    exact ⟨ps, by rw [upd_ne (ne e)]; exact e, t⟩
  · have : m = W.length := by omega
    subst this
    rw [ip]; exact hp
/-- a changed cell -/
theorem SW.put (hw : SW S G W H) {m : Nat} {o : HO} {c : Cell} (hm : m < W.length) (r : RepC S G W.length c o) :
    SW S G (W.set m c) (upd H (G.ι m) o) ∧ Step S G W.length H G (W.set m c).length (upd H (G.ι m) o) := by
  have len : (W.set m c).length = W.length := by simp
  have tm : ∃ u, H (G.ι m) = some u ∧ RepC S G W.length W[m] u := hw.cel m W[m] (List.getElem?_eq_getElem hm)
  obtain ⟨um, hum, rum⟩ := tm
  have nt : ∀ P, P ∈ S.tabs → P ≠ G.ι m := fun P h e => by
    obtain ⟨ps, e1, _⟩ := hw.tab P h
    rw [e, hum] at e1
    cases e1
    exact rum.notbl
  refine ⟨⟨fun a u e => ?_, fun j d h => ?_, fun j h => hw.fc j (by rwa [len] at h), fun j j' h h' e => hw.inj j j' (by rwa [len] at h) (by rwa [len] at h') e, fun P h => tabG_upd (hw.tab P h) (nt P h), hw.ft⟩, ?_⟩
  · rw [upd_ne (fun z => ?_)]
    · exact hw.sub a u e
    · rw [z, hw.fc m hm] at e; cases e
  · rw [len]
    by_cases z : j = m
    · subst z
      rw [List.getElem?_set_self (by exact hm)] at h
      cases h
      exact ⟨o, upd_same, r⟩
    · rw [List.getElem?_set_ne (Ne.symm z)] at h
      obtain ⟨u, h1, h2⟩ := hw.cel j d h
      have hj : j < W.length := (List.getElem?_eq_some_iff.mp h).1
      exact ⟨u, by rw [upd_ne (fun q => z (hw.inj j m hj hm q))]; exact h1, h2⟩
  · rw [len]
    refine ⟨Gx.refl _ _, fun a u e hc _ => by rw [upd_ne (fun z => hc m hm z.symm)]; exact e, fun a u e => ?_, fun a u e => .inl e, fun j a b => absurd b (Nat.not_lt.mpr a)⟩
    by_cases z : a = G.ι m
    · subst z; exact ⟨o, upd_same⟩
    · exact ⟨u, by rw [upd_ne z]; exact e⟩
/-- a table may have grown -/
theorem SW.tabbed (hw : SW S G W H) {P : Addr} (hP : P ∈ S.tabs) (h : GxR.Tabbed P H H') : SW S G W H' ∧ Step S G W.length H G W.length H' := by
  obtain ⟨psP, eP, _⟩ := hw.tab P hP
  have nP : ∀ {a u}, H a = some u → (∀ ps, u ≠ .tbl ps) → a ≠ P := fun e q z => by
    rw [z, eP] at e
    cases e
    exact q _ rfl
  refine ⟨⟨fun a u e => ?_, fun m c e => ?_, hw.fc, hw.inj, fun Q hQ => ?_, hw.ft⟩, ⟨Gx.refl _ _, fun a u e _ ht => by rw [h.2 a (fun z => ht (z ▸ hP))]; exact e, fun a u e => ?_, fun a u e => .inl e, fun m a b => absurd b (Nat.not_lt.mpr a)⟩⟩
  · rw [h.2 a (fun z => by rw [z, hw.ft P hP] at e; cases e)]
    exact hw.sub a u e
  · obtain ⟨u, h1, h2⟩ := hw.cel m c e
    refine ⟨u, ?_, h2⟩
    rw [h.2 _ (nP h1 fun ps z => by subst z; exact h2.notbl)]
    exact h1
  · by_cases z : Q = P
    · subst z; exact h.1
    · obtain ⟨ps, e, t⟩ := hw.tab Q hQ
      exact ⟨ps, by rw [h.2 Q z]; exact e, t⟩
  · by_cases z : a = P
    · subst z
      obtain ⟨ps, e, _⟩ := h.1
      exact ⟨_, e⟩
    · exact ⟨u, by rw [h.2 a z]; exact e⟩
end
end Pv
end
section
set_option Elab.async false
set_option linter.all false
set_option maxRecDepth 100000
set_option maxHeartbeats 2000000
/-! From the text's own trees to the pure syntax. -/
namespace Pv
open PySem PySem.Spec PyProof.Rows L2

structure Ctx where
  N : List Str
  sc : Scope
  fn : Str → Bool
  ge : Bool
  hp : Bool
  tk : List Str
  fns : List Str
  cls : List Str
  cst : List (Str × D)
  fr : List Str

def visK : Option NameKind → Bool
  | some .local => true
  | some .cell => true
  | some .free => true
  | _ => false
def nm (x : Str) : Bool := decide (x ≠ "__debug__") && decide (x ≠ "__classdict__") && decide (x ≠ "__name__")
def Ctx.at (Γ : Ctx) (x : Str) : Option Nat := if visK (Γ.sc.names.lookup x) = true ∧ nm x = true then Γ.N.findIdx? (fun y => decide (y = x)) else none
/-- a name that may be stored -/
def Ctx.to (Γ : Ctx) (x : Str) : Option Nat := match Γ.sc.names.lookup x with
  | some .local => Γ.N.findIdx? (fun y => decide (y = x))
  | some .cell => if Γ.fn x = true then Γ.N.findIdx? (fun y => decide (y = x)) else none
  | _ => none
def Ctx.gl (Γ : Ctx) (x : Str) : Bool := decide (Γ.sc.names.lookup x = some .globalImplicit) && nm x
/-- a built-in's name -/
def Ctx.bn (Γ : Ctx) (x : Str) : Bool := Γ.gl x && Γ.fr.contains x
def dotless (x : Str) : Bool := !(x.cps.toList.contains 46)
def okStrB (x : Str) : Bool := PyData.strOk x && decide (x.length ≤ sizeLine)
def cB : Operator → Option BOp
  | .Add => some .add | .Sub => some .sub | .Mult => some .mul | .FloorDiv => some .fdiv | .Mod => some .mod | .Pow => some .pow | _ => none
def cC : CmpOp → Option COp
  | .Eq => some .eq | .NotEq => some .ne | .Lt => some .lt | .LtE => some .le | .Gt => some .gt | .GtE => some .ge | .In => some .isin | .NotIn => some .notin | _ => none
def tyB (x : Str) : Option Bi :=
  if x = "int" then some .isInt else if x = "bool" then some .isBool else if x = "str" then some .isStr else if x = "tuple" then some .isTuple else if x = "list" then some .isList else none
def cNames (Γ : Ctx) : List Expr → Option (List (Str × Nat))
  | [] => some []
  | .Name x _ :: r => (match Γ.to x, cNames Γ r with
    | some i, some t => some ((x, i) :: t)
    | _, _ => none)
  | _ :: _ => none
/-- a target: its names with their slots -/
def cPat (Γ : Ctx) : Expr → Option (Pat × List (Str × Nat))
  | .Name x _ => (match Γ.to x with
    | some i => some (.one i, [(x, i)])
    | none => none)
  | .Tuple es _ _ => (match cNames Γ es with
    | some t => some (.tup (t.map (·.2)), t)
    | none => none)
  | _ => none
/-- within a list comprehension -/
def Ctx.blk (Γ : Ctx) (scope : Scope) : Ctx := { Γ with sc := relS scope Γ.sc, fn := fun x => scope.names.lookup x == some .cell, ge := false }
/-- within a generator expression -/
def Ctx.gen (Γ : Ctx) (scope : Scope) : Ctx := { Γ with sc := scope, fn := fun _ => false, ge := false }
def gexC (N : List Str) (sc scope : Scope) (own : List (Str × Nat)) : Bool :=
  (match scope.kind with | .function => true | _ => false) && !scope.isCoroutine && (scope.names.all fun y => decide (scope.names.lookup y.1 = some y.2)) && (own.all fun p => decide (N[p.2]? = some p.1)) &&
    (scope.names.all fun y => match y.2 with
      | .free => (match sc.names.lookup y.1 with | some .cell => true | some .free => true | _ => false)
      | .local => decide (y.1 ∈ own.map (·.1)) || decide (y.1 ∉ N)
      | .cell => false
      | _ => true) && decide (scope.names.lookup (".0" : Str) = some NameKind.local)
def strK : List (Option Expr) → Option (List Str)
  | [] => some []
  | some (.Constant (.str x) _ _) :: r => if okStrB x = true then (strK r).map (x :: ·) else none
  | _ :: _ => none
def nest (f : Ex → Ex → Ex) : List Ex → Option Ex
  | [] => none
  | [e] => some e
  | e :: es => (nest f es).map (f e)
def exsOf : List Ex → Exs
  | [] => .nil
  | e :: es => .cons e (exsOf es)
def optL {α β : Type} (f : α → Option β) : List α → Option (List β)
  | [] => some []
  | x :: xs => match f x, optL f xs with
    | some y, some ys => some (y :: ys)
    | _, _ => none
def optO {α : Type} (f : Expr → Option Ex) : Option Expr → Option Oe
  | none => some .no
  | some e => (f e).map .yes
def noSup : Expr → Bool
  | .Call (.Name _ _) [] [] _ => false
  | _ => true
def isTpl : Expr → Bool
  | .Tuple _ _ _ => true
  | _ => false
def isLst : Expr → Bool
  | .List _ _ => true
  | _ => false
/-- at most one test -/
def cIfs (f : Expr → Option Ex) : List Expr → Option Oe
  | [] => some .no
  | [e] => (f e).map .yes
  | _ => none
/-- a built-in that is called with so many arguments -/
def cBi (x : Str) (k : Nat) : Option Bi :=
  if x = "len" ∧ k = 1 then some .len else if x = "int" ∧ k = 1 then some .int else if x = "abs" ∧ k = 1 then some .abs else if x = "max" ∧ k = 2 then some .max2 else if x = "min" ∧ k = 2 then some .min2 else
  if x = "tuple" ∧ k = 1 then some .tuple else if x = "str" ∧ k = 1 then some .str else if x = "min" ∧ k = 1 then some .minl else none

mutual
def cE : Nat → Ctx → Expr → Option Ex
  | 0, _, _ => none
  | n + 1, Γ, e => match cF n Γ e with
    | some f => some (if Γ.hp then .cel f else .fr f)
    | none => match e with
      | .Name x _ => (match Γ.at x with
        | some i => some (.var i)
        | none => if Γ.gl x = true then (Γ.cst.lookup x).map .cst else none)
      | .Constant .none _ _ => some (.cst .non)
      | .Constant (.bool b) _ _ => some (.cst (.bl b))
      | .Constant (.int i) _ _ => some (.cst (.int i))
      | .Constant (.str x) _ _ => if okStrB x = true then some (.cst (.str x)) else none
      | .Tuple es _ _ => (optL (cE n Γ) es).map fun l => .tup (exsOf l)
      | .Dict [] [] _ => some .dnewK
      | .Dict (k :: ks) (v :: vs) _ => if ks.length = vs.length ∧ ks.length ≤ 14 then (match strK (k :: ks), optL (cE n Γ) (v :: vs) with
        | some l, some es => some (.disp l (exsOf es))
        | _, _ => none) else none
      | .BinOp a o b _ => (match cB o, cE n Γ a, cE n Γ b with
        | some o, some x, some y => some (.op o x y)
        | _, _, _ => none)
      | .UnaryOp .USub a _ => (cE n Γ a).map .neg
      | .UnaryOp .Not a _ => (cE n Γ a).map .not
      | .BoolOp .And es _ => if 2 ≤ es.length then (match optL (cE n Γ) es with
        | some l => nest .and l
        | none => none) else none
      | .BoolOp .Or es _ => if 2 ≤ es.length then (match optL (cE n Γ) es with
        | some l => nest .or l
        | none => none) else none
      | .IfExp c a b _ => (match cE n Γ c, cE n Γ a, cE n Γ b with
        | some z, some x, some y => some (.ite z x y)
        | _, _, _ => none)
      | .Compare a [.Is] [.Constant .none _ _] _ => (cE n Γ a).map .isN
      | .Compare a [.IsNot] [.Constant .none _ _] _ => (cE n Γ a).map .notN
      | .Compare a [o] [b] _ => if behindInMarks o b = false then (match cC o, cE n Γ a, cE n Γ b with
        | some o, some x, some y => some (.cmp o x y)
        | _, _, _ => none) else none
      | .Compare a [o, o'] [b, c] _ => if lastMarks [o, o'] [b, c] = false then (match cC o, cC o', cE n Γ a, cE n Γ b, cE n Γ c with
        | some o, some o', some x, some y, some z => some (.chain o o' x y z)
        | _, _, _, _, _ => none) else none
      | .Subscript a (.Slice lo hi none _) _ => (match cE n Γ a, optO (α := Unit) (cE n Γ) lo, optO (α := Unit) (cE n Γ) hi with
        | some x, some l, some h => some (.sl x l h)
        | _, _, _ => none)
      | .Subscript a b _ => (match cE n Γ a, cE n Γ b with
        | some x, some y => some (.ix x y)
        | _, _ => none)
      | .Attribute o f _ => if noSup o = true then (cE n Γ o).map (.fld · f) else none
      | .Call (.Name x _) es [] _ => if Γ.gl x = true ∧ dotless x = true then cCall n Γ x es else none
      | .Call (.Attribute o m p) es [] q => if noSup o = true then (if m = "pop" then (match es with
          | [.Constant (.int 0) _ _] => if (p.endLine == q.line) = true then (cE n Γ o).map .pop0 else none
          | _ => none) else if (p.endLine == q.line) = true ∧ es.length < 30 then (match cE n Γ o, optL (cE n Γ) es with
        | some x, some l => some (.meth m x (exsOf l))
        | _, _ => none) else none) else none
      | _ => none
def cCall : Nat → Ctx → Str → List Expr → Option Ex
  | 0, _, _, _ => none
  | n + 1, Γ, x, es => match Γ.fns.findIdx? (fun y => decide (y = x)) with
    | some f => (optL (cE n Γ) es).map fun l => .call f (exsOf l)
    | none => match Γ.cls.findIdx? (fun y => decide (y = x)) with
      | some c => (optL (cE n Γ) es).map fun l => .new c (exsOf l)
      | none => if Γ.fr.contains x = true then (match es with
        | [.GeneratorExp elt [⟨tg, iter, [], 0⟩] scope _] => if x = "all" ∨ x = "any" then (match cPat (Γ.gen scope) tg, cI n Γ (isTpl tg) iter, cE n (Γ.gen scope) elt with
          | some (p, own), some it, some e => if gexC Γ.N Γ.sc scope own = true ∧ Γ.ge = true ∧ isLst iter = false then some (.aa (decide (x = "any")) p it e) else none
          | _, _, _ => none) else none
        | [a, .Name t _] => if x = "isinstance" then (match tyB t, cE n Γ a with
          | some k, some y => if Γ.gl t = true ∧ Γ.fr.contains t = true then some (.bi k (.cons y .nil)) else none
          | _, _ => none) else (match cBi x 2, cE n Γ a, cE n Γ (.Name t default) with
            | some k, some y, some z => some (.bi k (.cons y (.cons z .nil)))
            | _, _, _ => none)
        | es => (match cBi x es.length, optL (cE n Γ) es with
          | some k, some l => some (.bi k (exsOf l))
          | _, _ => none)) else none
def cF : Nat → Ctx → Expr → Option Fx
  | 0, _, _ => none
  | n + 1, Γ, e => match e with
    | .List es _ => (optL (cE n Γ) es).map fun l => .disp (exsOf l)
    | .ListComp elt [⟨tg, iter, ifs, 0⟩] scope _ => (match cPat (Γ.blk scope) tg, cI n Γ (isTpl tg) iter, cIfs (cE n (Γ.blk scope)) ifs, cE n (Γ.blk scope) elt with
      | some (p, own), some it, some c, some e => if blkC Γ.N Γ.sc scope own = true then some (.comp p it c e) else none
      | _, _, _, _ => none)
    | .Call (.Name x _) [a] [] _ => if Γ.bn x = true then (if x = "sorted" then (match a with
        | .Call (.Name y _) [b] [] _ => if y = "set" ∧ Γ.bn y = true then (cE n Γ b).map .srtset else (cE n Γ a).map .srt
        | .SetComp elt [⟨t1, i1, [], 0⟩, ⟨t2, i2, ifs, 0⟩] scope _ => (match cPat (Γ.blk scope) t1, cPat (Γ.blk scope) t2, cI n Γ (isTpl t1) i1, cI n (Γ.blk scope) (isTpl t2) i2, cIfs (cE n (Γ.blk scope)) ifs, cE n (Γ.blk scope) elt with
          | some (p1, o1), some (p2, o2), some it1, some it2, some c, some e => if blkC Γ.N Γ.sc scope (o1 ++ o2) = true then some (.sset2 p1 it1 p2 it2 c e) else none
          | _, _, _, _, _, _ => none)
        | a => (cE n Γ a).map .srt) else if x = "list" then (cE n Γ a).map .lst else none) else none
    | _ => none
def cI : Nat → Ctx → Bool → Expr → Option It
  | 0, _, _, _ => none
  | n + 1, Γ, tp, e => match e with
    | .Call (.Name x _) [a] [] _ => if x = "range" then (if Γ.bn x = true then (cE n Γ a).map .rng1 else none) else if x = "enumerate" then (if Γ.bn x = true ∧ tp = true then (cE n Γ a).map .enum else none) else (cE n Γ e).map .seq
    | .Call (.Name x _) [a, b] [] _ => if x = "range" then (if Γ.bn x = true then (match cE n Γ a, cE n Γ b with
        | some y, some z => some (.rng2 y z)
        | _, _ => none) else none) else (cE n Γ e).map .seq
    | .Set _ _ _ => none
    | e => (cE n Γ e).map .seq
end
def isComp : Expr → Bool
  | .ListComp _ _ _ _ => true
  | _ => false
def isStar : Expr → Bool
  | .Starred _ _ => true
  | _ => false
/-- the two stores go the other way round -/
def parC (Γ : Ctx) (x y : Str) (px py : Pos) (a b : Expr) : Bool :=
  (match Γ.sc.kind with | .function => true | _ => false) && decide (Γ.sc.names.lookup x = some .local) && decide (Γ.sc.names.lookup y = some .local) && decide (px.line = py.line) && decide (x ≠ y) && !isStar a && !isStar b &&
    !([a, b].all (foldedForSure 8)) && !([a, b].all (constantsAlone 8))
/-- a new, empty thing that a field or an item is to hold -/
def cNew (n : Nat) (Γ : Ctx) (tk : Bool) : Expr → Option Ex
  | .List [] _ => some (.cel (.disp .nil))
  | .Dict [] [] _ => some (if tk then .dnewT else .dnewK)
  | e => cE n Γ e
mutual
def cS : Nat → Ctx → Stmt → Option St
  | 0, _, _ => none
  | n + 1, Γ, s => match s with
    | .Return none _ => some .retN
    | .Return (some e) _ => (cE n Γ e).map .ret
    | .Assign [.Name x _] e _ => (match Γ.to x with
      | some i => (match cF n Γ e with
        | some f => if Γ.hp then (cE n Γ e).map (.asg i) else some (.asgF i f)
        | none => (cE n Γ e).map (.asg i))
      | none => none)
    | .Assign [.Tuple ts k p] (.Tuple vs k2 p2) q => (match ts, vs with
      | [.Name x px, .Name y py], [a, b] => (match Γ.to x, Γ.to y, cE n Γ a, cE n Γ b with
        | some i, some j, some u, some v => if i ≠ j ∧ parC Γ x y px py a b = true then some (.par i j u v) else none
        | _, _, _, _ => none)
      | _, _ => none)
    | .Assign [.Tuple ts _ _] e _ => (match cNames Γ ts, cE n Γ e with
      | some l, some u => some (.unp (l.map (·.2)) u)
      | _, _ => none)
    | .Assign [.Subscript o i _] e _ => (match cE n Γ o, cE n Γ i, cNew n Γ false e with
      | some x, some y, some z => some (.setix x y z)
      | _, _, _ => none)
    | .Assign [.Attribute o f _] e _ => if noSup o = false then none else (match cE n Γ o, cNew n Γ (Γ.tk.contains f) e with
      | some x, some z => some (.setfld x f z)
      | _, _ => none)
    | .Expr (.Call (.Attribute o m p) [e] [] q) r => if m = "append" ∧ (p.endLine == q.line) = true ∧ noSup o = true then (match o with
        | .Name x _ => (match Γ.at x, cE n Γ e with
          | some i, some y => some (.app i y)
          | _, _ => none)
        | o => (match cE n Γ o, cE n Γ e with
          | some x, some y => some (.appx x y)
          | _, _ => none)) else (cE n Γ (.Call (.Attribute o m p) [e] [] q)).map .expr
    | .Expr e _ => if isComp e = false then (cE n Γ e).map .expr else none
    | .If c a b _ => (match cE n Γ c, cSs n Γ a, cSs n Γ b with
      | some z, some x, some y => some (.ite z x y)
      | _, _, _ => none)
    | .For tg iter b [] _ => (match cPat Γ tg, cI n Γ (isTpl tg) iter, cSs n Γ b with
      | some (p, _), some it, some x => some (.forr p it x)
      | _, _, _ => none)
    | .Break _ => some .brk
    | .Continue _ => some .cont
    | _ => none
def cSs : Nat → Ctx → List Stmt → Option (List St)
  | _, _, [] => some []
  | 0, _, _ :: _ => none
  | n + 1, Γ, s :: r => (match s with
    | .Pass _ => cSs n Γ r
    | s => (match cSs n Γ r with
      | some y => some ((cS n Γ s).getD .stuck :: y)
      | none => none))
end
end Pv
end
section
set_option Elab.async false
set_option linter.all false
set_option maxRecDepth 100000
set_option maxHeartbeats 2000000
/-! What an expression's reading is, by the pure functions; operators. -/
namespace Pv
open PySem PySem.Spec PyProof.Rows L2

/-! ### things that stand loose, taken -/
section
variable {S : Su} {G G' : Gh} {n n' : Nat} {H H' : Hp} {W W' : Wd} {env : Evn} {σ : L2.St}
theorem SW.loose (hw : SW S G W H) {p : Addr} {o : HO} (hp : H p = none) : SW S G W (upd H p o) ∧ Step S G W.length H G W.length (upd H p o) := by
  have ne : ∀ {a u}, H a = some u → a ≠ p := fun h => ne_of_none h hp
  refine ⟨⟨fun a u e => ?_, fun m c h => ?_, hw.fc, hw.inj, fun P h => ?_, hw.ft⟩, ⟨Gx.refl _ _, fun a u e _ _ => by rw [upd_ne (ne e)]; exact e, fun a u e => ⟨u, by rw [upd_ne (ne e)]; exact e⟩, fun a u e => .inl e, fun m a b => absurd b (Nat.not_lt.mpr a)⟩⟩
  · have := hw.sub a u e
    rw [upd_ne (ne this)]; exact this
  · obtain ⟨u, h1, h2⟩ := hw.cel m c h
    exact ⟨u, by rw [upd_ne (ne h1)]; exact h1, h2⟩
  · obtain ⟨ps, e, t⟩ := hw.tab P h
    exact ⟨ps, by rw [upd_ne (ne e)]; exact e, t⟩
theorem SW.notF (hw : SW S G W H) {p : Addr} (hp : H p = none) : G.F p = none := by
  cases q : G.F p with
  | none => rfl
  | some u => rw [hw.sub p u q] at hp; cases hp
theorem SW.notC (hw : SW S G W H) {p : Addr} (hp : H p = none) : ∀ m, m < W.length → G.ι m ≠ p := fun m hm e => by
  obtain ⟨u, h1, _⟩ := hw.cel m W[m] (List.getElem?_eq_getElem hm)
  rw [e, hp] at h1; cases h1
theorem Gx.frz {p : Addr} {o : HO} (hF : G.F p = none) : Gx G n (G.frz p o) n := ⟨fun a u e => by
  show upd G.F p o a = some u
  rw [upd_ne (fun z => by rw [z, hF] at e; cases e)]; exact e, fun _ _ => rfl, Nat.le_refl _⟩
theorem SW.take (hw : SW S G W H) {p : Addr} {o : HO} (hp : H p = some o) (hF : G.F p = none) (hc : ∀ m, m < W.length → G.ι m ≠ p) (ht : p ∉ S.tabs) : SW S (G.frz p o) W H := by
  refine ⟨fun a u e => ?_, fun m c h => ?_, fun m h => ?_, hw.inj, hw.tab, fun P h => ?_⟩
  · have e : upd G.F p o a = some u := e
    by_cases z : a = p
    · subst z; rw [upd_same] at e; cases e; exact hp
    · rw [upd_ne z] at e; exact hw.sub a u e
  · obtain ⟨u, h1, h2⟩ := hw.cel m c h
    exact ⟨u, h1, h2.mono (Gx.frz hF)⟩
  · show upd G.F p o (G.ι m) = none
    rw [upd_ne (hc m h)]; exact hw.fc m h
  · show upd G.F p o P = none
    rw [upd_ne (fun z => ht (by rw [← z]; exact h))]; exact hw.ft P h
theorem Step.take (s : Step S G n H G' n' H') {p : Addr} {o : HO} (h0 : H p = none) (hF : G'.F p = none) : Step S G n H (G'.frz p o) n' H' := by
  refine ⟨s.x.trans (Gx.frz hF), s.keep, s.there, fun a u e => ?_, s.newC⟩
  have e : upd G'.F p o a = some u := e
  by_cases z : a = p
  · subst z; exact .inr h0
  · rw [upd_ne z] at e; exact s.newF a u e
theorem SW.takeC (hw : SW S G W H) {p : Addr} {o : HO} {c : Cell} (hp : H p = some o) (hF : G.F p = none) (hc : ∀ m, m < W.length → G.ι m ≠ p) (r : RepC S G W.length c o) : SW S (G.new W.length p) (W ++ [c]) H := by
  have il : ∀ m, m < W.length → (G.new W.length p).ι m = G.ι m := fun m h => by
    show (if m = W.length then p else G.ι m) = _
    rw [if_neg (Nat.ne_of_lt h)]
  have ip : (G.new W.length p).ι W.length = p := by
    show (if W.length = W.length then p else G.ι W.length) = _
    rw [if_pos rfl]
  have gx : Gx G W.length (G.new W.length p) (W.length + 1) := ⟨fun a u e => e, il, Nat.le_succ _⟩
  have len : (W ++ [c]).length = W.length + 1 := by simp
  refine ⟨hw.sub, fun m d h => ?_, fun m h => ?_, fun m m' h h' e => ?_, hw.tab, hw.ft⟩
  · rw [len]
    rcases getElem?_snoc h with ⟨hm, h⟩ | ⟨rfl, rfl⟩
    · obtain ⟨u, h1, h2⟩ := hw.cel m d h
      rw [il m hm]
      exact ⟨u, h1, h2.mono gx⟩
    · rw [ip]
      exact ⟨o, hp, r.mono gx⟩
  · rw [len] at h
    show G.F _ = none
    by_cases z : m < W.length
    · rw [il m z]; exact hw.fc m z
    · have : m = W.length := by omega
      subst this
      rw [ip]; exact hF
  · rw [len] at h h'
    by_cases z : m < W.length
    · by_cases z' : m' < W.length
      · rw [il m z, il m' z'] at e
        exact hw.inj m m' z z' e
      · have : m' = W.length := by omega
        subst this
        rw [il m z, ip] at e
        exact absurd e (hc m z)
    · have : m = W.length := by omega
      subst this
      by_cases z' : m' < W.length
      · rw [il m' z', ip] at e
        exact absurd e.symm (hc m' z')
      · omega
theorem Step.takeC (s : Step S G n H G' n' H') {p : Addr} (h0 : H p = none) : Step S G n H (G'.new n' p) (n' + 1) H' := by
  have il : ∀ m, m < n' → (G'.new n' p).ι m = G'.ι m := fun m h => by
    show (if m = n' then p else G'.ι m) = _
    rw [if_neg (Nat.ne_of_lt h)]
  refine ⟨s.x.trans ⟨fun a u e => e, il, Nat.le_succ _⟩, s.keep, s.there, s.newF, fun m h1 h2 => ?_⟩
  by_cases z : m < n'
  · rw [il m z]; exact s.newC m h1 z
  · have : m = n' := by omega
    subst this
    show H (if m = m then p else _) = none
    rw [if_pos rfl]; exact h0
end

/-! ### readings -/
def RepB (S : Su) (G : Gh) (n : Nat) (env : Evn) (σ : L2.St) (H : Hp) (b : Bool) (d : D) (v : V) : Prop :=
  Rep S G n d v ∨ (b = true ∧ ∃ (i : Nat) (ds : List D) (a : Addr) (vs : List V), env[i]? = some (Sv.own ds) ∧ d = .lst ds ∧ v = .ref a ∧ σ[i]? = some (some (.ref a)) ∧ H a = some (.lst vs) ∧ Reps S G n ds vs)
def RepBs (S : Su) (G : Gh) (n : Nat) (env : Evn) (σ : L2.St) (H : Hp) (b : Bool) : List D → List V → Prop
  | [], vs => vs = []
  | d :: ds, vs => ∃ v r, vs = v :: r ∧ RepB S G n env σ H b d v ∧ RepBs S G n env σ H b ds r
def tEv (S : Su) (b : Bool) (f : Evn → Wd → Option (D × Wd)) : TE := fun σ H Q => ∃ G W env d W', SW S G W H ∧ SE S G W.length env σ H ∧ f env W = some (d, W') ∧
  ∀ v H' G', Step S G W.length H G' W'.length H' → SW S G' W' H' → RepB S G' W'.length env σ H' b d v → Q v H'
def tEvs (S : Su) (b : Bool) (f : Evn → Wd → Option (List D × Wd)) : TA := fun σ H Q => ∃ G W env d W', SW S G W H ∧ SE S G W.length env σ H ∧ f env W = some (d, W') ∧
  ∀ v H' G', Step S G W.length H G' W'.length H' → SW S G' W' H' → RepBs S G' W'.length env σ H' b d v → Q v H'
def tEvT (S : Su) (f : Evn → Wd → Option (Bool × Wd)) : TT := fun σ H Q => ∃ G W env d W', SW S G W H ∧ SE S G W.length env σ H ∧ f env W = some (d, W') ∧
  ∀ H' G', Step S G W.length H G' W'.length H' → SW S G' W' H' → Q d H'
def tEvO (S : Su) (f : Evn → Wd → Option (Option Int × Wd)) : TO := fun σ H Q => ∃ G W env d W', SW S G W H ∧ SE S G W.length env σ H ∧ f env W = some (d, W') ∧
  ∀ H' G', Step S G W.length H G' W'.length H' → SW S G' W' H' → Q d H'
/-- a new list -/
def tEvF (S : Su) (f : Evn → Wd → Option (List D × Wd)) : TE := fun σ H Q => ∃ G W env ds W', SW S G W H ∧ SE S G W.length env σ H ∧ f env W = some (ds, W') ∧
  ∀ p vs H' G', Step S G W.length H G' W'.length H' → SW S G' W' H' → H' p = some (.lst vs) → Reps S G' W'.length ds vs → G'.F p = none → (∀ m, m < W'.length → G'.ι m ≠ p) → H p = none → Q (.ref p) H'
theorem pe_imp {X : Cx} {e : Expr} {t t' : TE} (h : PE X e t) (k : ∀ σ H Q, t' σ H Q → t σ H Q) : PE X e t' := ⟨fun pins s σ H Q I q => h.run pins s σ H Q I (k σ H Q q)⟩
theorem pt_imp {X : Cx} {e : Expr} {t t' : TT} (h : PT X e t) (k : ∀ σ H Q, t' σ H Q → t σ H Q) : PT X e t' := ⟨fun pins s σ H Q I q => h.run pins s σ H Q I (k σ H Q q)⟩
theorem pw_imp {X : Cx} {e : Expr} {t t' : TT} (h : PW X e t) (k : ∀ σ H Q, t' σ H Q → t σ H Q) : PW X e t' := ⟨fun wh pins s σ H Q I q => h.run wh pins s σ H Q I (k σ H Q q)⟩
theorem pa_imp {X : Cx} {e : List Expr} {t t' : TA} (h : PA X e t) (k : ∀ σ H Q, t' σ H Q → t σ H Q) : PA X e t' := ⟨fun pos pins s σ H Q I q => h.run pos pins s σ H Q I (k σ H Q q)⟩
section
variable {S : Su} {G G' G1 : Gh} {n n' n1 : Nat} {H H' H1 : Hp} {W W' W1 : Wd} {env : Evn} {σ : L2.St} {b : Bool} {d : D} {v : V}
theorem RepB.of (h : Rep S G n d v) : RepB S G n env σ H b d v := .inl h
theorem RepB.step (r : RepB S G W.length env σ H b d v) (hw : SW S G W H) (he : SE S G W.length env σ H) (s : Step S G W.length H G' n' H') : RepB S G' n' env σ H' b d v := by
  rcases r with r | ⟨hb, i, ds, a, vs, h1, h2, h3, h4, h5, h6⟩
  · exact .inl (r.mono s.x)
  · refine .inr ⟨hb, i, ds, a, vs, h1, h2, h3, h4, s.keep a _ h5 ?_ (fun z => ?_), h6.mono s.x⟩
    · obtain ⟨a', vs', g1, _, _, _, g5, _⟩ := he.owns i ds h1
      rw [h4] at g1
      cases g1
      exact g5
    · obtain ⟨ps, hp, _⟩ := hw.tab a z
      rw [h5] at hp; cases hp
theorem RepBs.step (hw : SW S G W H) (he : SE S G W.length env σ H) (s : Step S G W.length H G' n' H') : ∀ {ds : List D} {vs : List V}, RepBs S G W.length env σ H b ds vs → RepBs S G' n' env σ H' b ds vs
  | [], _, h => h
  | _ :: _, _, ⟨v, r, e, h, t⟩ => ⟨v, r, e, h.step hw he s, RepBs.step hw he s t⟩
theorem RepBs.reps : ∀ {ds : List D} {vs : List V}, RepBs S G n env σ H false ds vs → Reps S G n ds vs
  | [], _, h => h
  | _ :: _, _, ⟨v, r, e, h, t⟩ => ⟨v, r, e, h.elim id (fun z => by cases z.1), RepBs.reps t⟩
theorem RepB.lst {ds : List D} (hw : SW S G W H) (r : RepB S G W.length env σ H b (.lst ds) v) : ∃ a vs, v = .ref a ∧ H a = some (.lst vs) ∧ Reps S G W.length ds vs := by
  rcases r with ⟨a, vs, h1, h2, h3⟩ | ⟨_, i, ds', a, vs, _, h2, h3, _, h5, h6⟩
  · exact ⟨a, vs, h1, hw.sub _ _ h2, h3⟩
  · cases h2
    exact ⟨a, vs, h3, h5, h6⟩
theorem RepB.tup {ds : List D} (hw : SW S G W H) (r : RepB S G W.length env σ H b (.tup ds) v) : ∃ a vs, v = .ref a ∧ H a = some (.tup vs) ∧ Reps S G W.length ds vs := by
  rcases r with ⟨a, vs, h1, h2, h3⟩ | ⟨_, i, ds', a, vs, _, h2, _⟩
  · exact ⟨a, vs, h1, hw.sub _ _ h2, h3⟩
  · cases h2
theorem RepB.ctp {ds : List D} (hw : SW S G W H) (r : RepB S G W.length env σ H b (.ctp ds) v) : ∃ a vs, v = .ref a ∧ SqT S.K H a vs ∧ Reps S G W.length ds vs := by
  rcases r with ⟨a, vs, h1, h2, h3⟩ | ⟨_, i, ds', a, vs, _, h2, _⟩
  · exact ⟨a, vs, h1, sqT_mono hw.sub h2, h3⟩
  · cases h2
theorem RepB.ref {m : Nat} (r : RepB S G n env σ H b (.ref m) v) : v = .ref (G.ι m) ∧ m < n := by
  rcases r with ⟨h1, h2⟩ | ⟨_, i, ds', a, vs, _, h2, _⟩
  · exact ⟨h1, h2⟩
  · cases h2
theorem RepB.int {i : Int} (r : RepB S G n env σ H b (.int i) v) : v = .int i := by
  rcases r with h | ⟨_, _, _, _, _, _, h2, _⟩
  · exact h
  · cases h2
theorem RepB.bl {i : Bool} (r : RepB S G n env σ H b (.bl i) v) : v = .bl i := by
  rcases r with h | ⟨_, _, _, _, _, _, h2, _⟩
  · exact h
  · cases h2
theorem RepB.non (r : RepB S G n env σ H b .non v) : v = .non := by
  rcases r with h | ⟨_, _, _, _, _, _, h2, _⟩
  · exact h
  · cases h2
theorem RepB.str {x : Str} (r : RepB S G n env σ H b (.str x) v) : v = .str x ∧ okStr x := by
  rcases r with h | ⟨_, _, _, _, _, _, h2, _⟩
  · exact h
  · cases h2
/-- one after another -/
theorem ev2 {fa fb : Evn → Wd → Option (D × Wd)} {x y : D} {W2 : Wd} {ba bb : Bool} {R : V → V → Hp → Prop} (hw : SW S G W H) (he : SE S G W.length env σ H) (h1 : fa env W = some (x, W1)) (h2 : fb env W1 = some (y, W2))
    (k : ∀ vx vy H2 G2, Step S G W.length H G2 W2.length H2 → SW S G2 W2 H2 → SE S G2 W2.length env σ H2 → RepB S G2 W2.length env σ H2 ba x vx → RepB S G2 W2.length env σ H2 bb y vy → R vx vy H2) :
    tEv S ba fa σ H fun vx H1 => tEv S bb fb σ H1 fun vy H2 => R vx vy H2 :=
  ⟨G, W, env, x, W1, hw, he, h1, fun vx H1 G1 s1 w1 r1 => ⟨G1, W1, env, y, W2, w1, he.step hw rfl s1, h2, fun vy H2 G2 s2 w2 r2 =>
    k vx vy H2 G2 (s1.trans s2) w2 ((he.step hw rfl s1).step w1 rfl s2) (r1.step w1 (he.step hw rfl s1) s2) r2⟩⟩
end

/-! ### truth -/
theorem len0 {S : Su} {G : Gh} {n : Nat} {ds : List D} {vs : List V} (r : Reps S G n ds vs) : (!vs.isEmpty) = !ds.isEmpty := by
  have := r.length
  cases ds <;> cases vs <;> simp_all
theorem truV {S : Su} {G : Gh} {W : Wd} {H : Hp} {env : Evn} {σ : L2.St} {b t : Bool} {d : D} {v : V} (hw : SW S G W H) (r : RepB S G W.length env σ H b d v) (h : truD d = some t) : TruV S.K v H t := by
  cases d with
  | non => rw [r.non]; cases h; rfl
  | bl i => rw [r.bl]; cases h; rfl
  | int i => rw [r.int]; cases h; rfl
  | str x =>
    obtain ⟨e, ok⟩ := r.str
    rw [e]; cases h
    exact ⟨ok.2, rfl⟩
  | tup ds =>
    obtain ⟨a, vs, e, h2, h3⟩ := r.tup hw
    rw [e]; cases h
    exact .inr (.inl ⟨vs, .inl (.inl h2), (len0 h3).symm⟩)
  | lst ds =>
    obtain ⟨a, vs, e, h2, h3⟩ := r.lst hw
    rw [e]; cases h
    exact .inl ⟨vs, .inl (.inl h2), (len0 h3).symm⟩
  | ref m => cases h
  | ctp ds => cases h
  | scr ns => cases h

/-! ### operators -/
theorem strOk_cat {x y : Str} (hx : PyData.strOk x = true) (hy : PyData.strOk y = true) : PyData.strOk (x ++ y) = true := by
  unfold PyData.strOk at *
  show (x.cps ++ y.cps).all _ = true
  rw [Array.all_append, hx, hy]; rfl
theorem len_cat (x y : Str) : (x ++ y).length = x.length + y.length := by
  show (x.cps ++ y.cps).size = _
  simp [Str.length]
section
variable {X : Cx}
def rAddD : R2 := fun x y H Q => (∃ i j, x = .int i ∧ y = .int j ∧ Q (.int (i + j)) H) ∨ (∃ i j, x = .str i ∧ y = .str j ∧ i.length + j.length ≤ sizeLine ∧ Q (.str (i ++ j)) H) ∨ rCat x y H Q
theorem op_addD : OpR X (binaryOp .Add) rAddD := (op_add (X := X)).or (op_add_str.or op_cat)
theorem fold_size (a : Array Nat) : ∀ (n : Nat) (acc : Array Nat), ((List.replicate n a).foldl (· ++ ·) acc).size = acc.size + a.size * n
  | 0, acc => by simp
  | n + 1, acc => by
    rw [List.replicate_succ, List.foldl_cons, fold_size a n, Array.size_append, Nat.mul_succ]
    omega
theorem fold_all (a : Array Nat) (p : Nat → Bool) (h : a.all p = true) : ∀ (n : Nat) (acc : Array Nat), acc.all p = true → ((List.replicate n a).foldl (· ++ ·) acc).all p = true
  | 0, acc, q => q
  | n + 1, acc, q => by
    rw [List.replicate_succ, List.foldl_cons]
    refine fold_all a p h n _ ?_
    rw [Array.all_append, q, h]; rfl
theorem repS_len (x : Str) (n : Nat) : (repS x n).length = x.length * n := by
  show ((List.replicate n x.cps).foldl (· ++ ·) #[]).size = _
  rw [fold_size]
  simp [Str.length]
theorem repS_ok {x : Str} (n : Nat) (h : PyData.strOk x = true) : PyData.strOk (repS x n) = true := fold_all x.cps _ h n #[] (by simp)
def rMulD : R2 := fun x y H Q => (∃ i j, x = .int i ∧ y = .int j ∧ CMul i j ∧ Q (.int (i * j)) H) ∨ (∃ i n, x = .str i ∧ y = .int n ∧ 0 ≤ n ∧ n ≤ 1000 ∧ i.length ≤ 1000 ∧ Q (.str (repS i n.toNat)) H)
theorem op_mulS : OpR X (binaryOp .Mult) (fun x y H Q => ∃ i n, x = .str i ∧ y = .int n ∧ 0 ≤ n ∧ n ≤ 1000 ∧ i.length ≤ 1000 ∧ Q (.str (repS i n.toNat)) H) := by
  intro pins s σ H x y v u Q I rx ry h
  obtain ⟨i, n, rfl, rfl, h0, h1, hl, q⟩ := h
  obtain ⟨t, rfl⟩ := rx
  obtain ⟨t', rfl⟩ := ry
  refine PySem.P.mul_str ?_ (fun a b => ?_) (fun a b => ?_) ?_
  · rw [decide_eq_false (by omega), decide_eq_false (by omega)]; rfl
  · have h2 : (i.length : Int) * n ≤ 2 ^ 63 - 1 := by
      have h3 : (i.length : Int) * n ≤ 1000 * 1000 := Int.mul_le_mul (by omega) h1 h0 (by omega)
      omega
    have h4 := Int.le_ediv_of_mul_le (show (0 : Int) < n by omega) h2
    omega
  · unfold PySem.Builtin.Str.tooLong
    have h2 : i.length * n.toNat ≤ 1000 * 1000 := Nat.mul_le_mul hl (by omega)
    refine decide_eq_false ?_
    rw [sizeLine_eq]
    omega
  · by_cases hn : n < 1
    · rw [if_pos hn]
      have : n = 0 := by omega
      subst this
      refine ⟨by decide, ⟨.str _, H, I.tok _, ⟨_, rfl⟩, q⟩⟩
    · rw [if_neg hn]
      by_cases hz : (n == 1 || i.length == 0) = true
      · rw [if_pos hz]
        have e : repS i n.toNat = i := by
          rw [Bool.or_eq_true] at hz
          rcases hz with z | z
          · have : n = 1 := by simpa using z
            subst this
            unfold repS
            simp
          · have : i.cps = #[] := by
              have h9 : i.cps.size = 0 := by simpa [Str.length] using z
              exact Array.eq_empty_of_size_eq_zero h9
            unfold repS
            rw [this]
            have h8 : ∀ k : Nat, (List.replicate k (#[] : Array Nat)).foldl (· ++ ·) #[] = #[] := by
              intro k
              induction k with
              | zero => rfl
              | succ k ih => rw [List.replicate_succ, List.foldl_cons]; simpa using ih
            rw [h8]
            cases i
            simp_all
        rw [e] at q
        exact ⟨.str _, H, I, ⟨_, rfl⟩, q⟩
      · rw [if_neg hz]
        refine ⟨?_, ⟨.str _, H, I.tok _, ⟨_, rfl⟩, q⟩⟩
        show (repS i n.toNat).length ≤ sizeLine
        rw [repS_len, sizeLine_eq]
        have h2 : i.length * n.toNat ≤ 1000 * 1000 := Nat.mul_le_mul hl (by omega)
        omega
theorem op_mulD : OpR X (binaryOp .Mult) rMulD := (op_mul (X := X)).or op_mulS
end
end Pv
end
section
set_option Elab.async false
set_option linter.all false
set_option maxRecDepth 100000
set_option maxHeartbeats 2000000
/-! Operators, comparisons, subscripts, built-ins: by values. -/
namespace Pv
open PySem PySem.Spec PyProof.Rows L2

/-- what is wanted of a value that is made here -/
def Res (S : Su) (G : Gh) (W : Wd) (H : Hp) (z : D) (Q : VK) : Prop := ∀ v H' G', Step S G W.length H G' W.length H' → SW S G' W H' → Rep S G' W.length z v → Q v H'
section
variable {S : Su} {G : Gh} {W : Wd} {H : Hp} {z : D} {Q : VK} {env : Evn} {σ : L2.St} {ba bb : Bool} {x y : D} {vx vy : V}
theorem Res.here (k : Res S G W H z Q) (hw : SW S G W H) {v : V} (r : Rep S G W.length z v) : Q v H := k v H G Step.refl hw r
theorem Res.new (k : Res S G W H (.lst ds) Q) (hw : SW S G W H) {vs : List V} (r : Reps S G W.length ds vs) {p : Addr} (hp : H p = none) : Q (.ref p) (upd H p (.lst vs)) := by
  obtain ⟨w1, s1⟩ := hw.loose (o := .lst vs) hp
  have hc := hw.notC hp
  have ht : p ∉ S.tabs := fun z => by
    obtain ⟨ps, e, _⟩ := hw.tab p z
    rw [hp] at e; cases e
  refine k _ _ (G.frz p (.lst vs)) (s1.take hp (hw.notF hp)) (w1.take upd_same (hw.notF hp) hc ht) ⟨p, vs, rfl, ?_, r.mono (Gx.frz (hw.notF hp))⟩
  show upd G.F p (.lst vs) p = _
  rw [upd_same]
theorem Res.newT (k : Res S G W H (.tup ds) Q) (hw : SW S G W H) {vs : List V} (r : Reps S G W.length ds vs) {p : Addr} (hp : H p = none) : Q (.ref p) (upd H p (.tup vs)) := by
  obtain ⟨w1, s1⟩ := hw.loose (o := .tup vs) hp
  have hc := hw.notC hp
  have ht : p ∉ S.tabs := fun z => by
    obtain ⟨ps, e, _⟩ := hw.tab p z
    rw [hp] at e; cases e
  refine k _ _ (G.frz p (.tup vs)) (s1.take hp (hw.notF hp)) (w1.take upd_same (hw.notF hp) hc ht) ⟨p, vs, rfl, ?_, r.mono (Gx.frz (hw.notF hp))⟩
  show upd G.F p (.tup vs) p = _
  rw [upd_same]

theorem smallI_iff {i : Int} (h : smallI i = true) : -(2 ^ 64) < i ∧ i < 2 ^ 64 := by
  have e : (2 : Int) ^ 64 = 18446744073709551616 := by decide
  cases i with
  | ofNat n =>
    have h' : n ≤ 18446744073709551615 := Nat.le_of_ble_eq_true h
    have : (Int.ofNat n) = (n : Int) := rfl
    omega
  | negSucc n =>
    have h' : n ≤ 18446744073709551614 := Nat.le_of_ble_eq_true h
    omega
theorem opr_add (hw : SW S G W H) (rx : RepB S G W.length env σ H ba x vx) (ry : RepB S G W.length env σ H bb y vy) (h : opD .add x y = some z) (k : Res S G W H z Q) : rAddD vx vy H Q := by
  unfold opD at h
  split at h <;> first | (cases h; done) | skip
  all_goals rename_i heq
  all_goals first | cases heq | skip
  · cases h
    rw [rx.int, ry.int]
    exact .inl ⟨_, _, rfl, rfl, k.here hw rfl⟩
  · obtain ⟨e1, o1⟩ := rx.str
    obtain ⟨e2, o2⟩ := ry.str
    split at h
    · rename_i hl
      cases h
      rw [e1, e2]
      exact .inr (.inl ⟨_, _, rfl, rfl, hl, k.here hw ⟨rfl, strOk_cat o1.1 o2.1, by rw [len_cat]; exact hl⟩⟩)
    · cases h
  · obtain ⟨a, vs, e1, h1, r1⟩ := rx.lst hw
    obtain ⟨b, us, e2, h2, r2⟩ := ry.lst hw
    split at h
    · rename_i hl
      cases h
      rw [e1, e2]
      exact .inr (.inr ⟨a, b, vs, us, rfl, rfl, h1, h2, by rw [r1.length, r2.length]; exact hl, fun p hp => k.new hw (r1.append r2) hp⟩)
    · cases h

theorem opr_mul (hw : SW S G W H) (rx : RepB S G W.length env σ H ba x vx) (ry : RepB S G W.length env σ H bb y vy) (h : opD .mul x y = some z) (k : Res S G W H z Q) : rMulD vx vy H Q := by
  unfold opD at h
  split at h <;> first | (cases h; done) | skip
  all_goals rename_i heq
  all_goals first | cases heq | skip
  · split at h
    · rename_i hl
      cases h
      rw [rx.int, ry.int]
      rw [Bool.or_eq_true] at hl
      exact .inl ⟨_, _, rfl, rfl, hl.elim (fun q => .inl (smallI_iff q)) (fun q => .inr (smallI_iff q)), k.here hw rfl⟩
    · cases h
  · obtain ⟨e1, o1⟩ := rx.str
    split at h
    · rename_i hl
      cases h
      rw [e1, ry.int]
      refine .inr ⟨_, _, rfl, rfl, hl.1, hl.2.1, hl.2.2, k.here hw ⟨rfl, repS_ok _ o1.1, ?_⟩⟩
      rw [repS_len, sizeLine_eq]
      have h3 := Int.toNat_le.mpr (show _ ≤ ((1000 : Nat) : Int) from hl.2.1)
      have h2 := Nat.mul_le_mul hl.2.2 h3
      omega
    · cases h
theorem op_sound {o : BOp} {o' : Operator} (ho : cB o' = some o) : ∃ r : R2, (∀ X : Cx, OpR X (binaryOp o') r) ∧ ∀ {S : Su} {G : Gh} {W : Wd} {H : Hp} {z : D} {Q : VK} {env : Evn} {σ : L2.St} {ba bb : Bool} {x y : D} {vx vy : V}, SW S G W H →
    RepB S G W.length env σ H ba x vx → RepB S G W.length env σ H bb y vy → opD o x y = some z → Res S G W H z Q → r vx vy H Q := by
  cases o' <;> first | (cases ho; done) | skip
  · cases ho
    exact ⟨rAddD, fun X => op_addD, fun hw rx ry h k => opr_add hw rx ry h k⟩
  · cases ho
    refine ⟨_, fun X => op_sub, fun {S G W H z Q env σ ba bb x y vx vy} hw rx ry h k => ?_⟩
    unfold opD at h
    split at h <;> first | (cases h; done) | skip
    all_goals rename_i heq
    all_goals first | cases heq | skip
    cases h
    rw [rx.int, ry.int]
    exact ⟨_, _, rfl, rfl, k.here hw rfl⟩
  · cases ho
    exact ⟨rMulD, fun X => op_mulD, fun hw rx ry h k => opr_mul hw rx ry h k⟩
  · cases ho
    refine ⟨_, fun X => op_modN, fun {S G W H z Q env σ ba bb x y vx vy} hw rx ry h k => ?_⟩
    unfold opD at h
    split at h <;> first | (cases h; done) | skip
    all_goals rename_i heq
    all_goals first | cases heq | skip
    split at h
    · rename_i hl
      cases h
      rw [rx.int, ry.int]
      exact ⟨_, _, rfl, rfl, hl, k.here hw rfl⟩
    · cases h
  · cases ho
    refine ⟨_, fun X => op_pow, fun {S G W H z Q env σ ba bb x y vx vy} hw rx ry h k => ?_⟩
    unfold opD at h
    split at h <;> first | (cases h; done) | skip
    all_goals rename_i heq
    all_goals first | cases heq | skip
    split at h
    · rename_i hl
      cases h
      rw [rx.int, ry.int]
      exact ⟨_, _, rfl, rfl, ⟨hl.1, by omega, by omega⟩, k.here hw rfl⟩
    · cases h
  · cases ho
    refine ⟨_, fun X => op_fdivN, fun {S G W H z Q env σ ba bb x y vx vy} hw rx ry h k => ?_⟩
    unfold opD at h
    split at h <;> first | (cases h; done) | skip
    all_goals rename_i heq
    all_goals first | cases heq | skip
    split at h
    · rename_i hl
      cases h
      rw [rx.int, ry.int]
      exact ⟨_, _, rfl, rfl, hl, k.here hw rfl⟩
    · cases h

/-! ### comparisons -/
mutual
theorem py_dp : ∀ (n : Nat) (d : D) (v : V), dle n d = true → (∀ a o, G.F a = some o → H a = some o) → Rep S G W.length d v → Dp S.K H v d.py
  | _, .non, v, _, _, h => by cases h; exact .non
  | _, .bl b, v, _, _, h => by cases h; exact .bl b
  | _, .int i, v, _, _, h => by cases h; exact .int i
  | _, .str x, v, _, _, h => by obtain ⟨e, _⟩ := h; subst e; exact .str x
  | 0, .tup _, _, h, _, _ => by simp [dle] at h
  | n + 1, .tup ds, v, hd, hs, h => by
    obtain ⟨a, vs, e, h1, h2⟩ := h
    subst e
    exact .tup (.inl (.inl (hs _ _ h1))) (pys_dp n ds vs (by simpa [dle] using hd) hs h2)
  | 0, .lst _, _, h, _, _ => by simp [dle] at h
  | n + 1, .lst ds, v, hd, hs, h => by
    obtain ⟨a, vs, e, h1, h2⟩ := h
    subst e
    exact .lst (.inl (.inl (hs _ _ h1))) (pys_dp n ds vs (by simpa [dle] using hd) hs h2)
  | _, .ref _, _, h, _, _ => by simp [dle] at h
  | _, .ctp _, _, h, _, _ => by simp [dle] at h
  | _, .scr _, _, h, _, _ => by simp [dle] at h
theorem pys_dp : ∀ (n : Nat) (ds : List D) (vs : List V), (∀ d ∈ ds, dle n d = true) → (∀ a o, G.F a = some o → H a = some o) → Reps S G W.length ds vs → DpAll S.K H vs (pys ds)
  | _, [], vs, _, _, h => by cases h; exact .nil
  | n, d :: ds, vs, hd, hs, h => by
    obtain ⟨v, r, e, h1, h2⟩ := h
    subst e
    exact .cons (py_dp n d v (hd d (by simp)) hs h1) (pys_dp n ds r (fun d' h' => hd d' (by simp [h'])) hs h2)
end
theorem dp_of {n : Nat} (hw : SW S G W H) (r : RepB S G W.length env σ H ba x vx) (hd : dle (n + 1) x = true) : Dp S.K H vx x.py := by
  rcases r with r | ⟨_, i, ds, a, vs, _, h2, h3, _, h5, h6⟩
  · exact py_dp (n + 1) x vx hd hw.sub r
  · subst h2 h3
    exact .lst (.inl (.inl h5)) (pys_dp n ds vs (by simpa [dle] using hd) hw.sub h6)
mutual
theorem lay_of : ∀ (n : Nat) (d : D) (v : V), dle n d = true → Rep S G W.length d v → d.py.canLay0 = true ∧ d.py.depth ≤ n
  | _, .non, v, _, _ => ⟨rfl, Nat.zero_le _⟩
  | _, .bl b, v, _, _ => ⟨rfl, Nat.zero_le _⟩
  | _, .int i, v, _, _ => ⟨rfl, Nat.zero_le _⟩
  | _, .str x, v, _, h => ⟨h.2.1, Nat.zero_le _⟩
  | 0, .tup _, _, h, _ => by simp [dle] at h
  | n + 1, .tup ds, v, hd, h => by
    obtain ⟨a, vs, e, h1, h2⟩ := h
    have := lays_of n ds vs (by simpa [dle] using hd) h2
    simp only [D.py, PyData.canLay0, PyData.depth]
    exact ⟨this.1, Nat.succ_le_succ this.2⟩
  | 0, .lst _, _, h, _ => by simp [dle] at h
  | n + 1, .lst ds, v, hd, h => by
    obtain ⟨a, vs, e, h1, h2⟩ := h
    have := lays_of n ds vs (by simpa [dle] using hd) h2
    simp only [D.py, PyData.canLay0, PyData.depth]
    exact ⟨this.1, Nat.succ_le_succ this.2⟩
  | _, .ref _, _, h, _ => by simp [dle] at h
  | _, .ctp _, _, h, _ => by simp [dle] at h
  | _, .scr _, _, h, _ => by simp [dle] at h
theorem lays_of : ∀ (n : Nat) (ds : List D) (vs : List V), (∀ d ∈ ds, dle n d = true) → Reps S G W.length ds vs → PyData.canLayAll0 (pys ds) = true ∧ PyData.depthAll (pys ds) ≤ n
  | _, [], vs, _, _ => ⟨rfl, Nat.zero_le _⟩
  | n, d :: ds, vs, hd, h => by
    obtain ⟨v, r, e, h1, h2⟩ := h
    have a := lay_of n d v (hd d (by simp)) h1
    have b := lays_of n ds r (fun d' h' => hd d' (by simp [h'])) h2
    simp only [pys, PyData.canLayAll0, PyData.depthAll, a.1, b.1, Bool.and_self, true_and]
    exact Nat.max_le.mpr ⟨a.2, b.2⟩
end
theorem shaped_of {n : Nat} (r : RepB S G W.length env σ H ba x vx) (hd : dle (n + 1) x = true) (hn : n + 1 ≤ 64) : SeqAt.shaped x.py = true := by
  have h : x.py.canLay0 = true ∧ x.py.depth ≤ n + 1 := by
    rcases r with r | ⟨_, i, ds, a, vs, _, h2, _, _, _, h6⟩
    · exact lay_of (n + 1) x vx hd r
    · subst h2
      have := lays_of n ds vs (by simpa [dle] using hd) h6
      simp only [D.py, PyData.canLay0, PyData.depth]
      exact ⟨this.1, Nat.succ_le_succ this.2⟩
  show (x.py.canLay0 && decide (x.py.depth ≤ 64)) = true
  rw [h.1, decide_eq_true (by omega)]; rfl

theorem anyEq_eq : ∀ {ys : List D} {t : Bool}, anyEq x ys = some t → (∀ y ∈ ys, dle 40 y = true) ∧ t = ((pys ys).any fun y => PyData.eqv y x.py)
  | [], t, h => by
    cases h
    exact ⟨fun y hy => absurd hy (List.not_mem_nil), rfl⟩
  | y :: ys, t, h => by
    unfold anyEq at h
    split at h
    · rename_i a c h1 h2
      cases h
      obtain ⟨i1, i2⟩ := anyEq_eq h2
      unfold eqD at h1
      split at h1
      · rename_i hd
        rw [Bool.and_eq_true] at hd
        cases h1
        refine ⟨fun z hz => ?_, ?_⟩
        · rcases List.mem_cons.mp hz with e | hz
          · rw [e]; exact hd.1
          · exact i1 z hz
        · simp only [pys, List.any_cons, ← i2]
      · cases h1
    · cases h
end
section
variable {X : Cx} {m : Nat}
theorem room65 (hr : Room m X.A) {k : Nat} (hk : k ≤ 64) : X.A.units + 1 + k < cLine := by
  have := hr.un
  omega
/-- x in a list, a tuple, of data -/
def rInS (K : Frag) (neg : Bool) : R2 := fun x y H Q => ∃ d ds, Dp K H x d ∧ (Dp K H y (.list ds) ∨ Dp K H y (.tuple ds)) ∧ d.canLay0 = true ∧ d.depth ≤ 64 ∧ PyData.canLayAll0 ds = true ∧
  Q (.bl (if neg then !(ds.any fun z => PyData.eqv z d) else ds.any fun z => PyData.eqv z d)) H
theorem op_inS (hr : Room m X.A) : OpR X (compareOp .In) (rInS X.K false) := by
  intro pins s σ H x y v u Q I rx ry h
  obtain ⟨d, ds, hd, he, l1, dp, l2, q⟩ := h
  obtain ⟨as, r1⟩ := Dp.reads I d x v hd rx
  have hu := room65 hr dp
  have hu' : X.A.units + 1 + min (PyData.depthAll ds) d.depth < cLine := Nat.lt_of_le_of_lt (Nat.add_le_add_left (Nat.min_le_right _ _) _) hu
  rcases he with he | he
  · obtain ⟨bs, r2⟩ := Dp.reads I (.list ds) y u he ry
    exact SeqAt.in_list_reads r2 r1 l2 l1 hu' ⟨.bl _, H, I, rfl, q⟩
  · obtain ⟨bs, r2⟩ := Dp.reads I (.tuple ds) y u he ry
    exact SeqAt.in_tuple_reads r2 r1 l2 l1 hu' ⟨.bl _, H, I, rfl, q⟩
theorem op_notInS (hr : Room m X.A) : OpR X (compareOp .NotIn) (rInS X.K true) := by
  intro pins s σ H x y v u Q I rx ry h
  obtain ⟨d, ds, hd, he, l1, dp, l2, q⟩ := h
  obtain ⟨as, r1⟩ := Dp.reads I d x v hd rx
  have hu := room65 hr dp
  have hu' : X.A.units + 1 + min (PyData.depthAll ds) d.depth < cLine := Nat.lt_of_le_of_lt (Nat.add_le_add_left (Nat.min_le_right _ _) _) hu
  rcases he with he | he
  · obtain ⟨bs, r2⟩ := Dp.reads I (.list ds) y u he ry
    exact SeqAt.notIn_list_reads r2 r1 l2 l1 hu' ⟨.bl _, H, I, rfl, q⟩
  · obtain ⟨bs, r2⟩ := Dp.reads I (.tuple ds) y u he ry
    exact SeqAt.notIn_tuple_reads r2 r1 l2 l1 hu' ⟨.bl _, H, I, rfl, q⟩
def rInDc (neg : Bool) : R2 := fun x y H Q => ∃ a ov, y = .ref a ∧ DGet H a x ov ∧ Q (.bl (if neg then !ov.isSome else ov.isSome)) H
theorem op_inDc (hr : Room m X.A) : OpR X (compareOp .In) (rInDc false) := by
  intro pins s σ H x y v u Q I rx ry h
  obtain ⟨a, ov, rfl, g, q⟩ := h
  cases ry
  exact d_in (hu_of hr) I g rx fun s3 I3 => ⟨.bl ov.isSome, H, I3, rfl, q⟩
theorem op_notInDc (hr : Room m X.A) : OpR X (compareOp .NotIn) (rInDc true) := by
  intro pins s σ H x y v u Q I rx ry h
  obtain ⟨a, ov, rfl, g, q⟩ := h
  cases ry
  exact d_notIn (hu_of hr) I g rx fun s3 I3 => ⟨.bl (!ov.isSome), H, I3, rfl, q⟩
end
end Pv
end
section
set_option Elab.async false
set_option linter.all false
set_option maxRecDepth 100000
set_option maxHeartbeats 2000000
namespace Pv
open PySem PySem.Spec PyProof.Rows L2
section
variable {S : Su} {G : Gh} {W : Wd} {H : Hp} {z : D} {Q : VK} {env : Evn} {σ : L2.St} {ba bb : Bool} {x y : D} {vx vy : V} {n : Nat}

/-! ### dicts -/
theorem key_rep {k : L2.Key} {v : V} (h : keyOf x = some k) (r : Rep S G n x v) : v = kV k := by
  cases x <;> first | (cases h; done) | skip
  · cases h; exact r
  · cases h; exact r.1
theorem keys_rep : ∀ {ds : List D} {ks : List L2.Key} {vs : List V}, keysOf ds = some ks → Reps S G n ds vs → vs = ks.map kV
  | [], ks, vs, h, r => by cases h; exact r
  | d :: ds, ks, vs, h, ⟨v, t, e, r1, r2⟩ => by
    unfold keysOf at h
    split at h
    · rename_i k ks' h1 h2
      cases h
      rw [e, key_rep h1 r1, keys_rep h2 r2]; rfl
    · cases h
theorem kv_get {κ : Type} [DecidableEq κ] (k : κ) : ∀ {kvs : List (κ × D)} {us : List (κ × V)}, RepKV S G n kvs us → (kget k kvs = none ∧ valV us k = none) ∨ ∃ d v, kget k kvs = some d ∧ valV us k = some v ∧ Rep S G n d v
  | [], us, h => by cases h; exact .inl ⟨rfl, rfl⟩
  | (k', d) :: r, us, ⟨v, t, e, r1, r2⟩ => by
    subst e
    by_cases hk : k' = k
    · refine .inr ⟨d, v, ?_, valV_pos hk, r1⟩
      unfold kget; rw [if_pos hk]
    · rw [valV_neg (p := (k', v)) hk]
      unfold kget; rw [if_neg hk]
      exact kv_get k r2
theorem putK_nil {κ : Type} [DecidableEq κ] (k : κ) (v : V) : putK ([] : List (κ × V)) k v = [(k, v)] := rfl
theorem putK_pos {κ : Type} [DecidableEq κ] {k' : κ} {w : V} {r : List (κ × V)} {k : κ} {v : V} (h : k' = k) (hn : ((k', w) :: r).map (·.1) |>.Nodup) : putK ((k', w) :: r) k v = (k', v) :: r := by
  unfold putK
  have h1 : (((k', w) :: r).any fun kv => decide (kv.1 = k)) = true := by simp [h]
  rw [if_pos h1, List.map_cons, if_pos h]
  congr 1
  rw [List.map_cons, List.nodup_cons] at hn
  refine (List.map_congr_left (g := id) fun kv hkv => ?_).trans (List.map_id r)
  rw [if_neg]
  · rfl
  · intro e
    refine hn.1 ?_
    rw [h, ← e]
    exact List.mem_map.mpr ⟨kv, hkv, rfl⟩
theorem putK_neg {κ : Type} [DecidableEq κ] {k' : κ} {w : V} {r : List (κ × V)} {k : κ} {v : V} (h : ¬ k' = k) : putK ((k', w) :: r) k v = (k', w) :: putK r k v := by
  unfold putK
  rw [List.any_cons, decide_eq_false h, Bool.false_or]
  by_cases h1 : (r.any fun kv => decide (kv.1 = k)) = true
  · rw [if_pos h1, if_pos h1, List.map_cons, if_neg h]
  · rw [if_neg h1, if_neg h1]; rfl
theorem kv_keys {κ : Type} : ∀ {kvs : List (κ × D)} {us : List (κ × V)}, RepKV S G n kvs us → us.map (·.1) = kvs.map (·.1)
  | [], us, h => by cases h; rfl
  | (k', d) :: r, us, ⟨v, t, e, r1, r2⟩ => by subst e; simp [kv_keys r2]
theorem kv_put {κ : Type} [DecidableEq κ] {k : κ} {d : D} {v : V} (rd : Rep S G n d v) : ∀ {kvs : List (κ × D)} {us : List (κ × V)}, RepKV S G n kvs us → (us.map (·.1)).Nodup → RepKV S G n (kput k d kvs) (putK us k v)
  | [], us, h, _ => by cases h; exact ⟨v, [], rfl, rd, rfl⟩
  | (k', d') :: r, us, ⟨v', t, e, r1, r2⟩, hn => by
    subst e
    by_cases hk : k' = k
    · rw [putK_pos hk hn]
      unfold kput; rw [if_pos hk]
      exact ⟨v, t, rfl, rd, r2⟩
    · rw [putK_neg hk]
      unfold kput; rw [if_neg hk]
      rw [List.map_cons, List.nodup_cons] at hn
      exact ⟨v', _, rfl, r1, kv_put rd r2 hn.2⟩
theorem RepB.key {k : L2.Key} (h : kyOf x = some (.one k)) (r : RepB S G n env σ H ba x vx) : vx = kV k := by
  cases x with
  | int i => cases h; exact r.int
  | str s => cases h; exact r.str.1
  | tup ds =>
    simp only [kyOf] at h
    cases q : keysOf ds with
    | none => rw [q] at h; cases h
    | some ks => rw [q] at h; cases h
  | _ => cases h
theorem RepB.keyT {ks : List L2.Key} (hw : SW S G W H) (h : kyOf x = some (.row ks)) (r : RepB S G W.length env σ H ba x vx) : ∃ a, vx = .ref a ∧ H a = some (.tup (ks.map kV)) := by
  cases x with
  | tup ds =>
    obtain ⟨a, vs, e, h1, h2⟩ := r.tup hw
    simp only [kyOf] at h
    cases q : keysOf ds with
    | none => rw [q] at h; cases h
    | some ks' =>
      rw [q] at h
      cases h
      rw [keys_rep q h2] at h1
      exact ⟨a, e, h1⟩
  | int i => cases h
  | str s => cases h
  | _ => cases h
theorem dget_rep {m : Nat} {o : Option D} (hw : SW S G W H) (rk : RepB S G W.length env σ H ba x vx) (h : dget W (.ref m) x = some o) :
    (o = none ∧ DGet H (G.ι m) vx none) ∨ ∃ d v, o = some d ∧ DGet H (G.ι m) vx (some v) ∧ Rep S G W.length d v := by
  unfold dget at_ at h
  split at h
  · rename_i kvs k h1 h2
    obtain ⟨u, hu, us, e, ru, _⟩ := hw.cel m _ h1
    subst e
    cases h
    rw [rk.key h2]
    rcases kv_get k ru with ⟨e1, e2⟩ | ⟨d, v, e1, e2, r⟩
    · exact .inl ⟨e1, by rw [← e2]; exact .k hu⟩
    · exact .inr ⟨d, v, e1, by rw [← e2]; exact .k hu, r⟩
  · rename_i kvs k h1 h2
    obtain ⟨u, hu, us, e, ru, _⟩ := hw.cel m _ h1
    subst e
    cases h
    obtain ⟨a, ea, ha⟩ := rk.keyT hw h2
    rw [ea]
    rcases kv_get k ru with ⟨e1, e2⟩ | ⟨d, v, e1, e2, r⟩
    · exact .inl ⟨e1, by rw [← e2]; exact .t hu ha⟩
    · exact .inr ⟨d, v, e1, by rw [← e2]; exact .t hu ha, r⟩
  · cases h

/-! ### comparisons -/
theorem ins_get {X : Cx} {t : Bool} {neg : Bool} (hK : X.K = S.K) (hw : SW S G W H) (rx : RepB S G W.length env σ H ba x vx) (ry : RepB S G W.length env σ H bb y vy) (h : inD W x y = some t) (q : Q (.bl (if neg then !t else t)) H) :
    (∃ c z, vx = .str ⟨#[c]⟩ ∧ vy = .str z ∧ Q (.bl (if neg then !decide (c ∈ z.cps.toList) else decide (c ∈ z.cps.toList))) H) ∨ rInS X.K neg vx vy H Q ∨ rInDc neg vx vy H Q := by
  have seqs : ∀ {ys : List D} {vs : List V} {a : Addr}, (if dle 40 x = true then anyEq x ys else none) = some t → Reps S G W.length ys vs → (Dp S.K H vy (.list (pys ys)) ∨ Dp S.K H vy (.tuple (pys ys)) ∨ DpAll S.K H vs (pys ys) → False) ∨ True := fun _ _ => .inr trivial
  have go : ∀ {ys : List D} {vs : List V}, (if dle 40 x = true then anyEq x ys else none) = some t → Reps S G W.length ys vs → ((DpAll S.K H vs (pys ys) → Dp S.K H vy (.list (pys ys))) ∨ (DpAll S.K H vs (pys ys) → Dp S.K H vy (.tuple (pys ys)))) → rInS X.K neg vx vy H Q := by
    intro ys vs h1 h2 h3
    split at h1
    · rename_i hd
      obtain ⟨a1, a2⟩ := anyEq_eq h1
      have hl := lays_of 40 ys vs a1 h2
      have hx := shaped_of rx hd (by omega)
      have hx1 : x.py.canLay0 = true ∧ x.py.depth ≤ 64 := by
        have : (x.py.canLay0 && decide (x.py.depth ≤ 64)) = true := hx
        rw [Bool.and_eq_true] at this
        exact ⟨this.1, of_decide_eq_true this.2⟩
      have hda := pys_dp (S := S) (W := W) 40 ys vs a1 hw.sub h2
      refine ⟨x.py, pys ys, by rw [hK]; exact dp_of hw rx hd, by rw [hK]; exact h3.elim (fun f => .inl (f hda)) (fun f => .inr (f hda)), hx1.1, hx1.2, hl.1, ?_⟩
      rw [← a2]; exact q
    · cases h1
  unfold inD at h
  split at h
  · rename_i ys
    obtain ⟨a, vs, e, h1, h2⟩ := ry.lst hw
    exact .inr (.inl (go h h2 (.inl fun hd => by rw [e]; exact .lst (.inl (.inl h1)) hd)))
  · rename_i ys
    obtain ⟨a, vs, e, h1, h2⟩ := ry.tup hw
    exact .inr (.inl (go h h2 (.inr fun hd => by rw [e]; exact .tup (.inl (.inl h1)) hd)))
  · rename_i ys
    obtain ⟨a, vs, e, h1, h2⟩ := ry.ctp hw
    exact .inr (.inl (go h h2 (.inr fun hd => by rw [e]; exact .tup h1 hd)))
  · rename_i zz
    split at h
    · rename_i yy
      split at h
      · rename_i c hc
        cases h
        obtain ⟨e1, _⟩ := rx.str
        obtain ⟨e2, _⟩ := ry.str
        refine .inl ⟨c, zz, ?_, e2, q⟩
        rw [e1]
        congr 1
        cases yy with
        | mk cps =>
          congr 1
          have : cps.toList = [c] := hc
          rw [← Array.toArray_toList (xs := cps), this]
      · cases h
    · cases h
  · rename_i m
    cases qd : dget W (.ref m) x with
    | none => rw [qd] at h; cases h
    | some o =>
      rw [qd] at h
      cases h
      have e := (ry.ref).1
      rw [e]
      rcases dget_rep hw rx qd with ⟨e1, g⟩ | ⟨d, v, e1, g, _⟩
      · subst e1
        exact .inr (.inr ⟨_, none, rfl, g, q⟩)
      · subst e1
        exact .inr (.inr ⟨_, some v, rfl, g, q⟩)
  · cases h
end
theorem cmp_sound {o : COp} {o' : CmpOp} {X : Cx} {m : Nat} {S : Su} (hr : Room m X.A) (hK : X.K = S.K) (ho : cC o' = some o) : ∃ r : R2, OpR X (compareOp o') r ∧ ∀ {G : Gh} {W : Wd} {H : Hp} {t : Bool} {Q : VK} {env : Evn} {σ : L2.St} {ba bb : Bool} {x y : D} {vx vy : V}, SW S G W H →
    RepB S G W.length env σ H ba x vx → RepB S G W.length env σ H bb y vy → cmpD W o x y = some t → Q (.bl t) H → r vx vy H Q := by
  have twoI : ∀ {o : COp} {G : Gh} {W : Wd} {H : Hp} {t : Bool} {env : Evn} {σ : L2.St} {ba bb : Bool} {x y : D} {vx vy : V}, o = .lt ∨ o = .le ∨ o = .gt ∨ o = .ge → RepB S G W.length env σ H ba x vx → RepB S G W.length env σ H bb y vy → cmpD W o x y = some t →
      ∃ i j : Int, vx = .int i ∧ vy = .int j ∧ t = (match o with | .lt => decide (i < j) | .le => decide (i ≤ j) | .gt => decide (j < i) | _ => decide (j ≤ i)) := by
    intro o G W H t env σ ba bb x y vx vy ho rx ry h
    rcases ho with rfl | rfl | rfl | rfl
    all_goals
      unfold cmpD at h
      split at h <;> first | (cases h; done) | skip
      all_goals rename_i heq
      all_goals first | cases heq | skip
      cases h
      exact ⟨_, _, rx.int, ry.int, rfl⟩
  cases o' <;> first | (cases ho; done) | skip
  · cases ho
    refine ⟨rEqD X.K, op_eqD hr.units, fun {G W H t Q env σ ba bb x y vx vy} hw rx ry h q => ?_⟩
    have h : eqD x y = some t := h
    unfold eqD at h
    split at h
    · rename_i hd
      rw [Bool.and_eq_true] at hd
      cases h
      exact ⟨x.py, y.py, by rw [hK]; exact dp_of hw rx hd.1, by rw [hK]; exact dp_of hw ry hd.2, shaped_of rx hd.1 (by omega), shaped_of ry hd.2 (by omega), q⟩
    · cases h
  · cases ho
    refine ⟨rNeD X.K, op_neD hr.units, fun {G W H t Q env σ ba bb x y vx vy} hw rx ry h q => ?_⟩
    have h : (eqD x y).map (!·) = some t := h
    unfold eqD at h
    split at h
    · rename_i hd
      rw [Bool.and_eq_true] at hd
      cases h
      exact ⟨x.py, y.py, by rw [hK]; exact dp_of hw rx hd.1, by rw [hK]; exact dp_of hw ry hd.2, shaped_of rx hd.1 (by omega), shaped_of ry hd.2 (by omega), q⟩
    · cases h
  · cases ho
    refine ⟨_, op_lt, fun {G W H t Q env σ ba bb x y vx vy} hw rx ry h q => ?_⟩
    obtain ⟨i, j, e1, e2, e3⟩ := twoI (.inl rfl) rx ry h
    rw [e1, e2]; subst e3
    exact ⟨i, j, rfl, rfl, q⟩
  · cases ho
    refine ⟨_, op_le, fun {G W H t Q env σ ba bb x y vx vy} hw rx ry h q => ?_⟩
    obtain ⟨i, j, e1, e2, e3⟩ := twoI (.inr (.inl rfl)) rx ry h
    rw [e1, e2]; subst e3
    exact ⟨i, j, rfl, rfl, q⟩
  · cases ho
    refine ⟨_, op_gt, fun {G W H t Q env σ ba bb x y vx vy} hw rx ry h q => ?_⟩
    obtain ⟨i, j, e1, e2, e3⟩ := twoI (.inr (.inr (.inl rfl))) rx ry h
    rw [e1, e2]; subst e3
    exact ⟨i, j, rfl, rfl, q⟩
  · cases ho
    refine ⟨_, op_ge, fun {G W H t Q env σ ba bb x y vx vy} hw rx ry h q => ?_⟩
    obtain ⟨i, j, e1, e2, e3⟩ := twoI (.inr (.inr (.inr rfl))) rx ry h
    rw [e1, e2]; subst e3
    exact ⟨i, j, rfl, rfl, q⟩
  · cases ho
    refine ⟨_, (op_in_sign (X := X)).or ((op_inS hr).or (op_inDc hr)), fun {G W H t Q env σ ba bb x y vx vy} hw rx ry h q => ?_⟩
    exact ins_get (neg := false) hK hw rx ry h q
  · cases ho
    refine ⟨_, (op_notIn_sign (X := X)).or ((op_notInS hr).or (op_notInDc hr)), fun {G W H t Q env σ ba bb x y vx vy} hw rx ry h q => ?_⟩
    have h : (inD W x y).map (!·) = some t := h
    cases qd : inD W x y with
    | none => rw [qd] at h; cases h
    | some t' =>
      rw [qd] at h
      cases h
      exact ins_get (neg := true) hK hw rx ry qd q
end Pv
end
section
set_option Elab.async false
set_option linter.all false
set_option maxRecDepth 100000
set_option maxHeartbeats 2000000
/-! Subscripts, slices, built-ins: by values. -/
namespace Pv
open PySem PySem.Spec PyProof.Rows L2
section
variable {S : Su} {G : Gh} {W : Wd} {H : Hp} {z : D} {Q : VK} {env : Evn} {σ : L2.St} {ba bb : Bool} {x y : D} {vx vy : V} {n : Nat}
theorem Reps.atI {ds : List D} {vs : List V} {i : Int} {d : D} (r : Reps S G n ds vs) (h : L2.atI ds i = some d) : ∃ v, L2.atI vs i = some v ∧ Rep S G n d v := by
  unfold L2.atI at *
  rw [r.length]
  cases q : ixN ds.length i with
  | none => rw [q] at h; cases h
  | some j =>
    rw [q] at h
    exact r.at (i := j) h
/-! ### subscripts -/
def rIxD : R2 := fun x y H Q => ∃ a v, x = .ref a ∧ DGet H a y (some v) ∧ Q v H
theorem ix_dict {X : Cx} {m : Nat} (hr : Room m X.A) : IxR X rIxD := by
  intro value slice pins s σ H x y v u Q I rx ry h hs
  obtain ⟨a, w, rfl, g, q⟩ := h
  obtain rfl : v = Value.ref a := rx
  have hT := dict_typeIs I g
  unfold subscriptTail
  refine wpAny_bind ?_
  rw [getitemInPython_of_ne hT.not_modules]
  refine wpAny_bind (wpAny_specialOf hT PySem.F.slot_dict_getitem.lookup ?_)
  have fin : wpAny (model X.prog X.w) X.A (subscripted slice false (.ref a) u) (fun r s₃ => wpAny (model X.prog X.w) X.A (letTemporaryGo value (.ref a) r >>= fun _ => pure r) (EP X pins σ Q) X.xe s₃) X.xe s := by
    rw [hs]
    exact wpAny_operating (d_getItem (hu_of hr) I g ry fun w' s3 I3 rw' => wpAny_bind (wpAny_letTemporaryGo (wpAny_pure ⟨w, H, I3, rw', q⟩)))
  first
    | exact wpAny_pure (wpAny_bind fin)
    | exact wpAny_bind (wpAny_pure (wpAny_bind fin))
    | exact wpAny_bind fin
def rIxA (K : Frag) : R2 := fun x y H Q => rIx K x y H Q ∨ rIxD x y H Q
theorem ix_all {X : Cx} {m : Nat} (hr : Room m X.A) : IxR X (rIxA X.K) := ix_seq.or (ix_dict hr)
theorem chr_ok {x : Str} (h : okStr x) {c : Nat} (hc : c ∈ x.cps.toList) : okStr ⟨#[c]⟩ := by
  refine ⟨?_, ?_⟩
  · have h1 := h.1
    unfold PyData.strOk at *
    rw [← Array.all_toList, List.all_eq_true] at h1
    simpa using h1 c hc
  · show (1 : Nat) ≤ sizeLine
    rw [sizeLine_eq]
    omega
theorem atI_mem {α : Type} {xs : List α} {i : Int} {c : α} (h : L2.atI xs i = some c) : c ∈ xs := by
  unfold L2.atI at h
  cases q : ixN xs.length i with
  | none => rw [q] at h; cases h
  | some j =>
    rw [q] at h
    exact List.mem_of_getElem? h
theorem ix_sound (hw : SW S G W H) (rx : RepB S G W.length env σ H ba x vx) (ry : RepB S G W.length env σ H bb y vy) (h : ixD W x y = some z) (k : Res S G W H z Q) : rIxA S.K vx vy H Q := by
  unfold ixD at h
  split at h
  · obtain ⟨a, vs, e, h1, h2⟩ := rx.lst hw
    obtain ⟨v, e1, r⟩ := h2.atI h
    exact .inl (.inl ⟨a, vs, _, v, e, ry.int, .inl (.inl h1), e1, k.here hw r⟩)
  · obtain ⟨a, vs, e, h1, h2⟩ := rx.tup hw
    obtain ⟨v, e1, r⟩ := h2.atI h
    exact .inl (.inr (.inl ⟨a, vs, _, v, e, ry.int, .inl (.inl h1), e1, k.here hw r⟩))
  · obtain ⟨e, o⟩ := rx.str
    obtain ⟨c, hc, ez⟩ := Option.map_eq_some_iff.mp h
    subst ez
    exact .inl (.inr (.inr ⟨_, _, c, e, ry.int, o.2, hc, k.here hw ⟨rfl, chr_ok o (atI_mem hc)⟩⟩))
  · rename_i m
    obtain ⟨e, hm⟩ := rx.ref
    split at h
    · rename_i xs hx
      split at h
      · obtain ⟨u, hu, vs, eu, r⟩ := hw.cel m _ hx
        subst eu
        obtain ⟨v, e1, r1⟩ := r.atI h
        exact .inl (.inl ⟨_, vs, _, v, e, ry.int, .inl (.inl hu), e1, k.here hw r1⟩)
      · cases h
    · cases qd : dget W (.ref m) y with
      | none => rw [qd] at h; cases h
      | some o =>
        rw [qd] at h
        rcases dget_rep hw ry qd with ⟨e1, g⟩ | ⟨d, v, e1, g, r⟩
        · subst e1; cases h
        · subst e1
          cases h
          exact .inr ⟨_, v, e, g, k.here hw r⟩
  · cases h
/-! ### slices -/
theorem cut_rep {ds : List D} {vs : List V} (lo hi : Option Int) (r : Reps S G n ds vs) : Reps S G n (cutL ds lo hi) (cutV vs lo hi) := by
  unfold cutL cutV
  rw [r.length]
  exact (r.drop _).take _
theorem sl_sound {lo hi : Option Int} (hw : SW S G W H) (rx : RepB S G W.length env σ H ba x vx) (h : slD x lo hi = some z) (k : Res S G W H z Q) : rSlL S.K vx lo hi H Q := by
  unfold slD at h
  split at h
  · cases h
    obtain ⟨a, vs, e, h1, h2⟩ := rx.lst hw
    exact ⟨a, vs, e, .inl (.inl h1), fun p hp => k.new hw (cut_rep lo hi h2) hp⟩
  · cases h
end
/-! ### built-ins of texts -/
section
variable {prog : Program} {w : World} {A : Around} {E : Value → Shared → Prop} {s : Shared}
theorem rcGt_str (x : Str) (t : Tok) (y : Str) (u : Tok) {Q : Value → Shared → Prop} (h : Q (.bool (decide (y.cps.toList < x.cps.toList))) s) :
    wpAny (model prog w) A (richCompare .Gt (.str x t) (.str y u)) Q E s :=
  wpAny_richCompare_same (op := .Gt) (T := "str") (typeIs_str s x t) (typeIs_str s y u) PyProof.Rows.slot_str_gt
    (wpAny_call_entry PyProof.Rows.slot_str_gt (typeIs_str s x t) PyProof.Rows.entry_str_gt (show wpAny _ _ (ret (.bool (y.cps.toList < x.cps.toList))) _ _ s from wpAny_pure ⟨_, rfl, by simp, h⟩) (PyProof.Rows.args_str_gt _ _))
def sAt (xs : List Str) (i : Nat) : Str := xs.getD i Str.empty
theorem strs_at {xs : List Str} {us : List Value} (r : StrsAre us xs) {i : Nat} {v : Value} (h : us.toArray[i]? = some v) : ∃ t, v = .str (sAt xs i) t := by
  have r := vals_of_strs r
  have h : us[i]? = some v := by simpa using h
  cases q : (xs.map V.str)[i]? with
  | none =>
    have := r.none_of q
    rw [h] at this; cases this
  | some z =>
    obtain ⟨u, e1, e2⟩ := r.get q
    rw [h] at e1
    cases e1
    rw [List.getElem?_map] at q
    cases q2 : xs[i]? with
    | none => rw [q2] at q; cases q
    | some y =>
      rw [q2] at q
      cases q
      obtain ⟨t, e⟩ := e2
      refine ⟨t, ?_⟩
      unfold sAt
      rw [List.getD_eq_getElem?_getD, q2]
      exact e
theorem two_strs {n : String} {op : Bool} {a b : Str} {t u : Tok} {Q : Value → Shared → Prop} (hh : A.handled = none) (hn : n = if op then "max" else "min")
    (h : ∀ h' tk, (∀ c o, s.heap.get? c = some o → h'.get? c = some o) → ∀ t', Q (.str (if (if op then ltS a b else ltS b a) then b else a) t') { s with heap := h', toks := tk }) :
    wpAny (model prog w) A (call (.builtin n) [.str a t, .str b u]) Q E s := by
  subst hn
  have hT : (s.heap.push { cls := .type "tuple", data := .seq #[.str a t, .str b u] }).IsTuple s.heap.objs.size #[.str a t, .str b u] := ⟨_, Heap.get?_push_size _ rfl, rfl, 0, by simp⟩
  have hsz : (s.heap.push { cls := .type "tuple", data := .seq #[.str a t, .str b u] }).objs.size = s.heap.objs.size + 1 := Heap.size_push ..
  have r : StrsAre [Value.str a t, Value.str b u] [a, b] := Vals.strs (xs := [a, b]) (.cons ⟨t, rfl⟩ (.cons ⟨u, rfl⟩ .nil))
  have hfp : ∀ c ∈ [s.heap.objs.size + 1, s.heap.objs.size], c < ((s.heap.push { cls := .type "tuple", data := .seq #[.str a t, .str b u] }).push { cls := .type "tuple_iterator", data := .fields #[.ref s.heap.objs.size, .int 0 0] }).objs.size := fun c hc => by
    rw [Heap.size_push, hsz]
    rcases List.mem_cons.mp hc with rfl | hc
    · omega
    · rcases List.mem_cons.mp hc with rfl | hc
      · omega
      · cases hc
  cases op with
  | true =>
    refine call_max_two (wpAny_pyIter_tuple hT ?_)
    refine ⟨_, [_, s.heap.objs.size], [_], _, _, _, (fun i j => decide ((sAt [a, b] j).cps.toList < (sAt [a, b] i).cps.toList)), rfl, Walks.tuple (A := A.in1) hh _ s.heap.objs.size (by rw [hsz]; exact Nat.ne_of_lt (Nat.lt_succ_self _)) #[.str a t, .str b u],
      ⟨⟨_, Heap.get?_push_size _ rfl, rfl, rfl⟩, hT.push _⟩, fun c hc => ?_, by simp, ?_, fun v h' tk hP hk => ?_⟩
    · simpa [hsz] using hfp c (by simpa [hsz] using hc)
    · intro i j vi vj s Q E hi hj hQ
      obtain ⟨t1, rfl⟩ := strs_at r hi
      obtain ⟨t2, rfl⟩ := strs_at r hj
      exact rcGt_str _ _ _ _ hQ
    · have hold : ∀ c o, s.heap.get? c = some o → h'.get? c = some o := fun c o e => by
        refine hk c o (fun hm => ?_) (Heap.get?_push_of_some _ (Heap.get?_push_of_some _ e))
        rcases List.mem_cons.mp hm with e1 | hm
        · have := Heap.lt_size e; rw [e1, hsz] at this; exact Nat.lt_irrefl _ (Nat.lt_of_succ_lt this)
        · cases hm
      have e9 : (#[Value.str a t, Value.str b u] : Array Value).size - 1 = 1 := rfl
      have hP : (#[Value.str a t, Value.str b u] : Array Value)[argBest (fun i j => decide ((sAt [a, b] j).cps.toList < (sAt [a, b] i).cps.toList)) 1]? = some v := hP
      have := h h' tk hold
      by_cases hb : ltS a b = true
      · have e : argBest (fun i j => decide ((sAt [a, b] j).cps.toList < (sAt [a, b] i).cps.toList)) 1 = 1 := by
          show (if decide ((sAt [a, b] 0).cps.toList < (sAt [a, b] 1).cps.toList) = true then 1 else 0) = 1
          exact if_pos hb
        rw [e] at hP
        have : v = .str b u := by simpa using hP.symm
        subst this
        have := h h' tk hold u
        simpa [hb] using this
      · have e : argBest (fun i j => decide ((sAt [a, b] j).cps.toList < (sAt [a, b] i).cps.toList)) 1 = 0 := by
          show (if decide ((sAt [a, b] 0).cps.toList < (sAt [a, b] 1).cps.toList) = true then 1 else 0) = 0
          exact if_neg hb
        rw [e] at hP
        have : v = .str a t := by simpa using hP.symm
        subst this
        have := h h' tk hold t
        simpa [hb] using this
  | false =>
    refine call_min_two (wpAny_pyIter_tuple hT ?_)
    refine ⟨_, [_, s.heap.objs.size], [_], _, _, _, (fun i j => decide ((sAt [a, b] i).cps.toList < (sAt [a, b] j).cps.toList)), rfl, Walks.tuple (A := A.in1) hh _ s.heap.objs.size (by rw [hsz]; exact Nat.ne_of_lt (Nat.lt_succ_self _)) #[.str a t, .str b u],
      ⟨⟨_, Heap.get?_push_size _ rfl, rfl, rfl⟩, hT.push _⟩, fun c hc => ?_, by simp, ?_, fun v h' tk hP hk => ?_⟩
    · simpa [hsz] using hfp c (by simpa [hsz] using hc)
    · intro i j vi vj s Q E hi hj hQ
      obtain ⟨t1, rfl⟩ := strs_at r hi
      obtain ⟨t2, rfl⟩ := strs_at r hj
      exact (PyProof.Rows.lt_str hQ : wpAny (model prog w) A.in1 (compareOp .Lt (.str _ t1) (.str _ t2)) Q E s)
    · have hold : ∀ c o, s.heap.get? c = some o → h'.get? c = some o := fun c o e => by
        refine hk c o (fun hm => ?_) (Heap.get?_push_of_some _ (Heap.get?_push_of_some _ e))
        rcases List.mem_cons.mp hm with e1 | hm
        · have := Heap.lt_size e; rw [e1, hsz] at this; exact Nat.lt_irrefl _ (Nat.lt_of_succ_lt this)
        · cases hm
      have hP : (#[Value.str a t, Value.str b u] : Array Value)[argBest (fun i j => decide ((sAt [a, b] i).cps.toList < (sAt [a, b] j).cps.toList)) 1]? = some v := hP
      by_cases hb : ltS b a = true
      · have e : argBest (fun i j => decide ((sAt [a, b] i).cps.toList < (sAt [a, b] j).cps.toList)) 1 = 1 := by
          show (if decide ((sAt [a, b] 1).cps.toList < (sAt [a, b] 0).cps.toList) = true then 1 else 0) = 1
          exact if_pos hb
        rw [e] at hP
        have : v = .str b u := by simpa using hP.symm
        subst this
        have := h h' tk hold u
        simpa [hb] using this
      · have e : argBest (fun i j => decide ((sAt [a, b] i).cps.toList < (sAt [a, b] j).cps.toList)) 1 = 0 := by
          show (if decide ((sAt [a, b] 1).cps.toList < (sAt [a, b] 0).cps.toList) = true then 1 else 0) = 0
          exact if_neg hb
        rw [e] at hP
        have : v = .str a t := by simpa using hP.symm
        subst this
        have := h h' tk hold t
        simpa [hb] using this
end
end Pv
end
section
set_option Elab.async false
set_option linter.all false
set_option maxRecDepth 100000
set_option maxHeartbeats 2000000
/-! Built-ins: by values. -/
namespace Pv
open PySem PySem.Spec PyProof.Rows L2
/-! ### texts in order -/
theorem minS_arg (xs : List Str) : ∀ (k : Nat) (r : List Str), xs.drop (k + 1) = r → minS (sAt xs (argBest (fun i j => decide ((sAt xs i).cps.toList < (sAt xs j).cps.toList)) k)) r = sAt xs (argBest (fun i j => decide ((sAt xs i).cps.toList < (sAt xs j).cps.toList)) (k + r.length))
  | k, [], _ => rfl
  | k, y :: r, h => by
    have hy : sAt xs (k + 1) = y := by
      unfold sAt
      rw [List.getD_eq_getElem?_getD]
      have : xs[k + 1]? = some y := by
        have := congrArg (·[0]?) h
        simpa using this
      rw [this]; rfl
    have hr : xs.drop (k + 1 + 1) = r := by
      rw [← List.drop_drop, h]; rfl
    have := minS_arg xs (k + 1) r hr
    have e : (k + (y :: r).length) = k + 1 + r.length := by simp; omega
    rw [e, ← this]
    show minS (if ltS y _ then y else _) r = _
    congr 1
    show _ = sAt xs (if decide ((sAt xs (k + 1)).cps.toList < _) = true then k + 1 else _)
    rw [hy]
    by_cases q : ltS y (sAt xs (argBest (fun i j => decide ((sAt xs i).cps.toList < (sAt xs j).cps.toList)) k)) = true
    · rw [if_pos q]
      have q' : decide (y.cps.toList < (sAt xs (argBest (fun i j => decide ((sAt xs i).cps.toList < (sAt xs j).cps.toList)) k)).cps.toList) = true := q
      rw [if_pos q', hy]
    · rw [if_neg q]
      have q' : ¬ decide (y.cps.toList < (sAt xs (argBest (fun i j => decide ((sAt xs i).cps.toList < (sAt xs j).cps.toList)) k)).cps.toList) = true := q
      rw [if_neg q']
section
variable {prog : Program} {w : World} {A : Around} {E : Value → Shared → Prop} {s : Shared}
theorem min_strs {l : Addr} {us : List Value} {x : Str} {r : List Str} {Q : Value → Shared → Prop} (hh : A.handled = none) (hl : s.heap.IsList l us.toArray) (hi : StrsAre us (x :: r))
    (h : ∀ h' tk t', (∀ b o, s.heap.get? b = some o → h'.get? b = some o) → Q (.str (minS x r) t') { s with heap := h', toks := tk }) : wpAny (model prog w) A (call (.builtin "min") [.ref l]) Q E s := by
  have hlt : l < s.heap.objs.size := by obtain ⟨_, e, _⟩ := hl; exact Heap.lt_size e
  have hlen : us.length = r.length + 1 := (StrsAre.length hi).trans rfl
  refine call_min_walk (iter_any hl fun s₂ e st hne => ?_)
  subst e
  refine ⟨_, _, _, _, _, _, (fun i j => decide ((sAt (x :: r) i).cps.toList < (sAt (x :: r) j).cps.toList)), rfl, Walks.list (A := A.in1) hh _ l hne us.toArray, st, fun b hb => ?_, by simp [hlen], ?_, fun v h' tk hP hk => ?_⟩
  · show b < (s.heap.push _).objs.size
    rw [Heap.size_push]
    rcases List.mem_cons.mp hb with rfl | hb
    · exact Nat.lt_succ_self _
    · rcases List.mem_cons.mp hb with rfl | hb
      · exact Nat.lt_succ_of_lt hlt
      · cases hb
  · intro i j vi vj s Q E hi' hj hQ
    obtain ⟨t1, rfl⟩ := strs_at hi hi'
    obtain ⟨t2, rfl⟩ := strs_at hi hj
    exact (PyProof.Rows.lt_str hQ : wpAny (model prog w) A.in1 (compareOp .Lt (.str _ t1) (.str _ t2)) Q E s)
  · obtain ⟨t', e⟩ := strs_at hi hP
    have e9 : us.toArray.size - 1 = r.length := by simp [hlen]
    have := minS_arg (x :: r) 0 r rfl
    rw [e9] at e
    rw [Nat.zero_add] at this
    have e8 : sAt (x :: r) (argBest (fun i j => decide ((sAt (x :: r) i).cps.toList < (sAt (x :: r) j).cps.toList)) 0) = x := rfl
    rw [e8] at this
    rw [e, ← this]
    exact h h' tk t' (fun b o e => by
      refine hk b o (fun hm => ?_) (Heap.get?_push_of_some _ e)
      rcases List.mem_cons.mp hm with e1 | hm
      · exact absurd (e1 ▸ Heap.lt_size e) (Nat.lt_irrefl _)
      · cases hm)
end
theorem ltS_irrefl (x : Str) : ltS x x = false := decide_eq_false (List.lt_irrefl _)
theorem ltS_trans {x y z : Str} (h : ltS x y = true) (h' : ltS y z = true) : ltS x z = true := decide_eq_true (List.lt_trans (of_decide_eq_true h) (of_decide_eq_true h'))
theorem str_of_list {x y : Str} (h : x.cps.toList = y.cps.toList) : x = y := by
  cases x; cases y
  congr 1
  exact Array.toList_inj.mp h
theorem leS_antisymm {x y : Str} (h : leS x y = true) (h' : leS y x = true) : x = y := by
  unfold leS ltS at *
  have h1 : ¬ y.cps.toList < x.cps.toList := by simpa using h
  have h2 : ¬ x.cps.toList < y.cps.toList := by simpa using h'
  exact str_of_list (List.le_antisymm (List.not_lt.mp h1) (List.not_lt.mp h2))
theorem leS_total (x y : Str) : leS x y = true ∨ leS y x = true := by
  unfold leS ltS
  rcases List.le_total x.cps.toList y.cps.toList with h | h
  · exact .inl (by simpa using List.not_lt.mpr h)
  · exact .inr (by simpa using List.not_lt.mpr h)
theorem leS_trans {x y z : Str} (h : leS x y = true) (h' : leS y z = true) : leS x z = true := by
  unfold leS ltS at *
  have h1 : ¬ y.cps.toList < x.cps.toList := by simpa using h
  have h2 : ¬ z.cps.toList < y.cps.toList := by simpa using h'
  have := List.le_trans (List.not_lt.mp h1) (List.not_lt.mp h2)
  simpa using List.not_lt.mpr this
theorem insS_perm (x : Str) : ∀ l : List Str, (insS x l).Perm (x :: l)
  | [] => List.Perm.refl _
  | y :: r => by
    unfold insS
    split
    · exact List.Perm.refl _
    · exact ((insS_perm x r).cons y).trans (List.Perm.swap x y r)
theorem sortS_perm : ∀ l : List Str, (sortS l).Perm l
  | [] => List.Perm.refl _
  | x :: r => (insS_perm x _).trans ((sortS_perm r).cons x)
theorem insS_sorted (x : Str) : ∀ {l : List Str}, l.Pairwise (fun a b => leS a b = true) → (insS x l).Pairwise (fun a b => leS a b = true)
  | [], _ => List.pairwise_singleton _ _
  | y :: r, h => by
    rw [List.pairwise_cons] at h
    unfold insS
    split
    · rename_i q
      rw [List.pairwise_cons, List.pairwise_cons]
      refine ⟨fun z hz => ?_, h⟩
      rcases List.mem_cons.mp hz with e | hz
      · rw [e]; exact q
      · exact leS_trans q (h.1 z hz)
    · rename_i q
      rw [List.pairwise_cons]
      refine ⟨fun z hz => ?_, insS_sorted x h.2⟩
      rcases List.mem_cons.mp ((insS_perm x r).mem_iff.mp hz) with e | hz
      · rw [e]; exact (leS_total x y).resolve_left q
      · exact h.1 z hz
theorem sortS_sorted : ∀ l : List Str, (sortS l).Pairwise (fun a b => leS a b = true)
  | [] => List.Pairwise.nil
  | x :: r => insS_sorted x (sortS_sorted r)
theorem ltCps_iff : ∀ a b : List Nat, (ltCps a b = true) ↔ a < b
  | [], [] => by simp [ltCps]
  | [], _ :: _ => by simp [ltCps]
  | _ :: _, [] => by simp [ltCps]
  | a :: r, b :: t => by
    rw [List.cons_lt_cons_iff]
    simp only [ltCps, Bool.or_eq_true, decide_eq_true_eq, Bool.and_eq_true, beq_iff_eq, ltCps_iff r t]
theorem rising_pair : ∀ {l : List Str} {p : Str}, risingS p l = true → (p :: l).Pairwise (fun a b => leS a b = true)
  | [], p, _ => List.pairwise_singleton _ _
  | x :: r, p, h => by
    unfold risingS at h
    rw [Bool.and_eq_true] at h
    have h1 := rising_pair h.2
    have h0 : leS p x = true := by
      unfold leS ltS
      have : ¬ ltCps x.cps.toList p.cps.toList = true := by simpa using h.1
      rw [ltCps_iff] at this
      simpa using this
    rw [List.pairwise_cons]
    refine ⟨fun z hz => ?_, h1⟩
    rcases List.mem_cons.mp hz with e | hz
    · rw [e]; exact h0
    · exact leS_trans h0 ((List.pairwise_cons.mp h1).1 z hz)
theorem sorted_is {xs ys : List Str} (hp : ys.Perm xs) (hs : sortedS ys = true) : ys = sortS xs := by
  refine List.Perm.eq_of_pairwise (le := fun a b => leS a b = true) (fun a b _ _ h h' => leS_antisymm h h') ?_ (sortS_sorted xs) (hp.trans (sortS_perm xs).symm)
  cases ys with
  | nil => exact List.Pairwise.nil
  | cons x r => exact rising_pair hs
def rSrt (K : Frag) : List V → Hp → VK → Prop := fun vs H Q => ∃ (a : Addr) (xs : List Str), vs = [V.ref a] ∧ SqL K H a (xs.map V.str) ∧ ∀ p : Addr, H p = none → Q (.ref p) (upd H p (.lst ((sortS xs).map V.str)))
theorem cr_srt {X : Cx} : CallR X (.builtin "sorted") (rSrt X.K) := by
  intro pins s σ H vs us Q I r h
  obtain ⟨a, xs, rfl, hs, q⟩ := h
  obtain ⟨its, rv, hl, hz⟩ := I.list hs
  rw [Vals.ref1 r]
  have hlen0 := rv.length
  rw [List.length_map] at hlen0 hz
  refine PyProof.Rows.sorted_strsAny hl.isList rv.strs (by rw [← hlen0]; exact hz) fun out ys h1 h2 h3 => ?_
  have e := sorted_is h2 h3
  subst e
  obtain ⟨ep, he'⟩ := PyProof.Rows.sortedAll_at s.heap its out
  have hlen : ((sortS xs).map V.str).length ≤ sizeLine := by rw [List.length_map, h2.length_eq]; exact hz
  exact ⟨.ref _, upd H (s.heap.objs.size + 1) (.lst ((sortS xs).map V.str)), I.laid (t' := s.toks) (fun _ _ => PyProof.Rows.sortedAll_old) (Nat.le_succ _) ⟨hlen, out.toList, ep, vals_of_strs h1, he'⟩, rfl, q _ (I.hok.fresh (Nat.le_succ _))⟩
def rMinS (K : Frag) : List V → Hp → VK → Prop := fun vs H Q => ∃ (a : Addr) (x : Str) (r : List Str), vs = [V.ref a] ∧ SqL K H a ((x :: r).map V.str) ∧ Q (.str (minS x r)) H
theorem cr_minS {X : Cx} (hc : X.calm = true) : CallR X (.builtin "min") (rMinS X.K) := by
  intro pins s σ H vs us Q I r h
  obtain ⟨a, x, xs, rfl, hs, q⟩ := h
  obtain ⟨its, rv, hl, _⟩ := I.list hs
  rw [Vals.ref1 r]
  exact min_strs (I.ok.hd hc) hl.isList rv.strs fun h' tk t' hk => ⟨.str _, H, I.kept hk, ⟨_, rfl⟩, q⟩
def rTwoS (op : Bool) : List V → Hp → VK → Prop := fun vs H Q => ∃ (a b : Str), vs = [.str a, .str b] ∧ Q (.str (if (if op then ltS a b else ltS b a) then b else a)) H
theorem cr_twoS {X : Cx} (hc : X.calm = true) (op : Bool) : CallR X (.builtin (if op then "max" else "min")) (rTwoS op) := by
  intro pins s σ H vs us Q I r h
  obtain ⟨a, b, rfl, q⟩ := h
  obtain ⟨u, w', rfl, ⟨t, rfl⟩, ⟨t', rfl⟩⟩ := vals2 r
  exact two_strs (I.ok.hd hc) rfl fun h' tk hk t' => ⟨.str _, H, I.kept hk, ⟨_, rfl⟩, q⟩
def rLenK : List V → Hp → VK → Prop := fun xs H Q => ∃ (p : Addr) (kvs : List (L2.Key × V)), xs = [.ref p] ∧ H p = some (.dK kvs) ∧ Q (.int ((kvs.length : Nat) : Int)) H
theorem call_len_dK {X : Cx} : CallR X (.builtin "len") rLenK := by
  intro pins s σ H xs us Q I r h
  obtain ⟨p, kvs, rfl, hp, q⟩ := h
  obtain ⟨u, rfl, rx⟩ := vals1 r
  obtain rfl : u = .ref p := rx
  exact d_len I (.inl hp) fun t s' I' => ⟨.int _, H, I', ⟨_, rfl⟩, q⟩
end Pv
end
section
set_option Elab.async false
set_option linter.all false
set_option maxRecDepth 100000
set_option maxHeartbeats 2000000
namespace Pv
open PySem PySem.Spec PyProof.Rows L2
def biF : Bi → Value
  | .len => .builtin "len" | .int => .type "int" | .abs => .builtin "abs" | .max2 => .builtin "max" | .min2 => .builtin "min" | .tuple => .type "tuple" | .str => .type "str" | .minl => .builtin "min" | _ => .builtin "isinstance"
def biT : Bi → Option String
  | .isInt => some "int" | .isBool => some "bool" | .isStr => some "str" | .isTuple => some "tuple" | .isList => some "list" | _ => none
section
variable {S : Su} {G : Gh} {W : Wd} {H : Hp} {z : D} {Q : VK} {env : Evn} {σ : L2.St} {ba bb : Bool} {x y : D} {vx vy : V} {n : Nat} {b : Bool} {ds : List D} {vs : List V}
theorem RepBs.one (r : RepBs S G n env σ H b [x] vs) : ∃ v, vs = [v] ∧ RepB S G n env σ H b x v := by
  obtain ⟨v, r', e, h, t⟩ := r
  cases t
  exact ⟨v, e, h⟩
theorem RepBs.two (r : RepBs S G n env σ H b [x, y] vs) : ∃ v u, vs = [v, u] ∧ RepB S G n env σ H b x v ∧ RepB S G n env σ H b y u := by
  obtain ⟨v, r', e, h, t⟩ := r
  obtain ⟨u, e', h'⟩ := RepBs.one t
  subst e'
  exact ⟨v, u, e, h, h'⟩
theorem strs_rep : ∀ {ds : List D} {ss : List Str} {vs : List V}, strsOf ds = some ss → Reps S G n ds vs → vs = ss.map V.str
  | [], ss, vs, h, r => by cases h; exact r
  | .str y :: ds, ss, vs, h, ⟨v, t, e, r1, r2⟩ => by
    unfold strsOf at h
    obtain ⟨ss', h1, h2⟩ := Option.map_eq_some_iff.mp h
    subst h2
    rw [e, strs_rep h1 r2, r1.1]; rfl
  | .non :: _, _, _, h, _ => by cases h
  | .bl _ :: _, _, _, h, _ => by cases h
  | .int _ :: _, _, _, h, _ => by cases h
  | .tup _ :: _, _, _, h, _ => by cases h
  | .lst _ :: _, _, _, h, _ => by cases h
  | .ref _ :: _, _, _, h, _ => by cases h
  | .ctp _ :: _, _, _, h, _ => by cases h
  | .scr _ :: _, _, _, h, _ => by cases h
theorem strs_back : ∀ {ds : List D} {ss : List Str} {vs : List V}, strsOf ds = some ss → Reps S G n ds vs → ∀ s ∈ ss, okStr s
  | [], ss, vs, h, r => by cases h; exact fun s hs => absurd hs (List.not_mem_nil)
  | .str y :: ds, ss, vs, h, ⟨v, t, e, r1, r2⟩ => by
    unfold strsOf at h
    obtain ⟨ss', h1, h2⟩ := Option.map_eq_some_iff.mp h
    subst h2
    intro s hs
    rcases List.mem_cons.mp hs with e | hs
    · rw [e]; exact r1.2
    · exact strs_back h1 r2 s hs
  | .non :: _, _, _, h, _ => by cases h
  | .bl _ :: _, _, _, h, _ => by cases h
  | .int _ :: _, _, _, h, _ => by cases h
  | .tup _ :: _, _, _, h, _ => by cases h
  | .lst _ :: _, _, _, h, _ => by cases h
  | .ref _ :: _, _, _, h, _ => by cases h
  | .ctp _ :: _, _, _, h, _ => by cases h
  | .scr _ :: _, _, _, h, _ => by cases h
theorem reps_strs : ∀ {ss : List Str}, (∀ s ∈ ss, okStr s) → Reps S G n (ss.map D.str) (ss.map V.str)
  | [], _ => rfl
  | s :: r, h => ⟨.str s, r.map V.str, rfl, ⟨rfl, h s (by simp)⟩, reps_strs fun t ht => h t (by simp [ht])⟩
theorem minS_mem : ∀ (r : List Str) (x : Str), minS x r ∈ x :: r
  | [], x => by simp [minS]
  | y :: r, x => by
    unfold minS
    have := minS_mem r (if ltS y x then y else x)
    rcases List.mem_cons.mp this with e | h
    · rw [e]
      split
      · simp
      · simp
    · simp [h]
theorem okTy (rx : RepB S G W.length env σ H ba x vx) (hw : SW S G W H) {T : String} (h : match x with | .non => T = "NoneType" | .bl _ => T = "bool" | .int _ => T = "int" | .str _ => T = "str" | .tup _ => T = "tuple" | .lst _ => T = "list" | _ => False) : TyX S.K H vx (.type T) := by
  cases x with
  | non => cases h; rw [rx.non]; exact .base .non
  | bl i => cases h; rw [rx.bl]; exact .base (.bl _)
  | int i => cases h; rw [rx.int]; exact .base (.int _)
  | str i => cases h; rw [rx.str.1]; exact .base (.str _)
  | tup ds =>
    cases h
    obtain ⟨a, vs, e, h1, _⟩ := rx.tup hw
    rw [e]; exact .base (.tup h1)
  | lst ds =>
    cases h
    obtain ⟨a, vs, e, h1, _⟩ := rx.lst hw
    rw [e]; exact .base (.lst h1)
  | ref _ => cases h
  | ctp _ => cases h
  | scr _ => cases h
def tyName : D → Option String
  | .non => some "NoneType" | .bl _ => some "bool" | .int _ => some "int" | .str _ => some "str" | .tup _ => some "tuple" | .lst _ => some "list" | _ => none
theorem kit_all : ∀ a ∈ ["NoneType", "bool", "int", "str", "tuple", "list"], ∀ b ∈ ["int", "bool", "str", "tuple", "list"], kitB a b = some (decide (a = b) || (decide (a = "bool") && decide (b = "int"))) := by decide +kernel
theorem isi_sound {k : Bi} {T : String} (hk : biT k = some T) (hw : SW S G W H) (rx : RepB S G W.length env σ H ba x vx) (h : biD W k [x] = some z) (q : Res S G W H z Q) : rIsi S.K [vx, .ty T] H Q := by
  have hT : T ∈ ["int", "bool", "str", "tuple", "list"] := by
    cases k <;> first | (cases hk; done) | (cases hk; simp)
  have key : ∀ N, tyName x = some N → z = .bl (decide (N = T) || (decide (N = "bool") && decide (T = "int"))) → rIsi S.K [vx, .ty T] H Q := by
    intro N hN hz
    subst hz
    have hm : N ∈ ["NoneType", "bool", "int", "str", "tuple", "list"] := by
      cases x <;> first | (cases hN; done) | (cases hN; simp)
    refine ⟨vx, .ty T, .type N, .type T, _, rfl, .ty T, okTy rx hw ?_, kit_ty (kit_all N hm T hT), q.here hw rfl⟩
    cases x <;> first | (cases hN; done) | (cases hN; rfl)
  cases k <;> first | (cases hk; done) | skip
  all_goals
    cases hk
    cases x <;> first | (cases h; done) | (cases h; exact key _ rfl rfl)
theorem bi_sound {X : Cx} {m : Nat} {k : Bi} (hc : X.calm = true) (hr : Room m X.A) (hK : X.K = S.K) (hk : biT k = none) (hk2 : k ≠ .isSeq) : ∃ r : List V → Hp → VK → Prop, CallR X (biF k) r ∧
    ∀ {G : Gh} {W : Wd} {H : Hp} {z : D} {Q : VK} {env : Evn} {σ : L2.St} {ds : List D} {vs : List V}, SW S G W H → RepBs S G W.length env σ H true ds vs → biD W k ds = some z → Res S G W H z Q → r vs H Q := by
  cases k <;> first | (cases hk; done) | (exact absurd rfl hk2) | skip
  · refine ⟨_, ((call_len_seq (X := X)).or call_len_str).or ((call_len_dK (X := X)).or call_len_dT), fun {G W H z Q env σ ds vs} hw r h q => ?_⟩
    unfold biD at h
    split at h <;> first | (cases h; done) | skip
    all_goals rename_i heq
    all_goals first | cases heq | skip
    · obtain ⟨v, e, r1⟩ := r.one
      obtain ⟨e1, o⟩ := r1.str
      cases h
      rw [e, e1]
      exact .inl (.inr ⟨_, rfl, o.2, q.here hw rfl⟩)
    · obtain ⟨v, e, r1⟩ := r.one
      obtain ⟨a, us, e1, h1, h2⟩ := r1.lst hw
      cases h
      rw [e, e1]
      refine .inl (.inl ⟨a, us, rfl, .inl (.inl (.inl h1)), ?_⟩)
      rw [h2.length]
      exact q.here hw rfl
    · obtain ⟨v, e, r1⟩ := r.one
      obtain ⟨a, us, e1, h1, h2⟩ := r1.tup hw
      cases h
      rw [e, e1]
      refine .inl (.inl ⟨a, us, rfl, .inr (.inl (.inl h1)), ?_⟩)
      rw [h2.length]
      exact q.here hw rfl
    · rename_i m
      obtain ⟨v, e, r1⟩ := r.one
      obtain ⟨e1, hm⟩ := r1.ref
      subst e1
      rw [e]
      split at h
      · rename_i xs hx
        cases h
        obtain ⟨u, hu, us, eu, r2⟩ := hw.cel m _ hx
        subst eu
        refine .inl (.inl ⟨_, us, rfl, .inl (.inl (.inl hu)), ?_⟩)
        rw [r2.length]
        exact q.here hw rfl
      · rename_i xs hx
        cases h
        obtain ⟨u, hu, us, eu, r2, _⟩ := hw.cel m _ hx
        subst eu
        refine .inr (.inl ⟨_, us, rfl, hu, ?_⟩)
        rw [r2.length]
        exact q.here hw rfl
      · rename_i xs hx
        cases h
        obtain ⟨u, hu, us, eu, r2, _⟩ := hw.cel m _ hx
        subst eu
        refine .inr (.inr ⟨_, us, rfl, hu, ?_⟩)
        rw [r2.length]
        exact q.here hw rfl
      · cases h
  · refine ⟨_, call_int1, fun {G W H z Q env σ ds vs} hw r h q => ?_⟩
    unfold biD at h
    split at h <;> first | (cases h; done) | skip
    all_goals rename_i heq
    all_goals first | cases heq | skip
    · obtain ⟨v, e, r1⟩ := r.one
      cases h
      rw [e, r1.int]
      exact .inl ⟨_, rfl, q.here hw rfl⟩
    · obtain ⟨v, e, r1⟩ := r.one
      cases h
      rw [e, r1.bl]
      exact .inr ⟨_, rfl, q.here hw rfl⟩
  · refine ⟨_, call_abs, fun {G W H z Q env σ ds vs} hw r h q => ?_⟩
    unfold biD at h
    split at h <;> first | (cases h; done) | skip
    all_goals rename_i heq
    all_goals first | cases heq | skip
    · obtain ⟨v, e, r1⟩ := r.one
      cases h
      rw [e, r1.int]
      exact ⟨_, rfl, q.here hw rfl⟩
  · refine ⟨_, (call_max2 hc).or (cr_twoS hc true), fun {G W H z Q env σ ds vs} hw r h q => ?_⟩
    unfold biD at h
    split at h <;> first | (cases h; done) | skip
    all_goals rename_i heq
    all_goals first | cases heq | skip
    · obtain ⟨v, u, e, r1, r2⟩ := r.two
      cases h
      rw [e, r1.int, r2.int]
      exact .inl ⟨_, _, rfl, q.here hw rfl⟩
    · obtain ⟨v, u, e, r1, r2⟩ := r.two
      cases h
      obtain ⟨e1, o1⟩ := r1.str
      obtain ⟨e2, o2⟩ := r2.str
      rw [e, e1, e2]
      refine .inr ⟨_, _, rfl, q.here hw ⟨rfl, ?_⟩⟩
      split
      · exact o2
      · exact o1
  · refine ⟨_, (call_min2 hc).or (cr_twoS hc false), fun {G W H z Q env σ ds vs} hw r h q => ?_⟩
    unfold biD at h
    split at h <;> first | (cases h; done) | skip
    all_goals rename_i heq
    all_goals first | cases heq | skip
    · obtain ⟨v, u, e, r1, r2⟩ := r.two
      cases h
      rw [e, r1.int, r2.int]
      exact .inl ⟨_, _, rfl, q.here hw rfl⟩
    · obtain ⟨v, u, e, r1, r2⟩ := r.two
      cases h
      obtain ⟨e1, o1⟩ := r1.str
      obtain ⟨e2, o2⟩ := r2.str
      rw [e, e1, e2]
      refine .inr ⟨_, _, rfl, q.here hw ⟨rfl, ?_⟩⟩
      split
      · exact o2
      · exact o1
  · refine ⟨_, call_tuple_of, fun {G W H z Q env σ ds vs} hw r h q => ?_⟩
    unfold biD at h
    split at h <;> first | (cases h; done) | skip
    all_goals rename_i heq
    all_goals first | cases heq | skip
    · obtain ⟨v, e, r1⟩ := r.one
      obtain ⟨a, us, e1, h1, h2⟩ := r1.lst hw
      cases h
      rw [e, e1]
      exact ⟨a, us, rfl, .inl ⟨.inl (.inl h1), fun p hp => q.newT hw h2 hp⟩⟩
    · obtain ⟨v, e, r1⟩ := r.one
      cases h
      rcases r1 with r1 | ⟨_, i, ds', a, vs, _, h2, _⟩
      · obtain ⟨a, us, e1, h1, h2⟩ := r1
        rw [e, e1]
        exact ⟨a, us, rfl, .inr ⟨.inl (.inl (hw.sub _ _ h1)), q.here hw ⟨a, us, rfl, h1, h2⟩⟩⟩
      · cases h2
  · refine ⟨_, call_str_int, fun {G W H z Q env σ ds vs} hw r h q => ?_⟩
    unfold biD at h
    split at h <;> first | (cases h; done) | skip
    all_goals rename_i heq
    all_goals first | cases heq | skip
    · obtain ⟨v, e, r1⟩ := r.one
      split at h
      · rename_i i hc
        cases h
        rw [e, r1.int]
        refine ⟨_, rfl, ?_, q.here hw ⟨rfl, hc.2.1, hc.2.2⟩⟩
        have h9 := hc.1
        by_cases h0 : i.natAbs = 0
        · rw [h0]; decide
        · exact (Nat.log2_lt h0).mpr (Nat.lt_trans h9 (by decide +kernel))
      · cases h
  · refine ⟨_, cr_minS hc, fun {G W H z Q env σ ds vs} hw r h q => ?_⟩
    unfold biD at h
    split at h <;> first | (cases h; done) | skip
    all_goals rename_i heq
    all_goals first | cases heq | skip
    · obtain ⟨v, e, r1⟩ := r.one
      obtain ⟨a, us, e1, h1, h2⟩ := r1.lst hw
      split at h
      · rename_i y ys hs
        cases h
        rw [e, e1]
        have e3 := strs_rep hs h2
        subst e3
        exact ⟨a, y, ys, rfl, .inl (.inl (by rw [← hK] at *; exact h1)), q.here hw ⟨rfl, strs_back hs h2 _ (minS_mem ys y)⟩⟩
      · cases h
theorem srt_sound (hw : SW S G W H) (rx : RepB S G W.length env σ H ba x vx) (h : srtD x = some ds) (q : ∀ p vs, H p = none → Reps S G W.length ds vs → Q (.ref p) (upd H p (.lst vs))) : rSrt S.K [vx] H Q := by
  unfold srtD at h
  split at h
  · obtain ⟨ss, h1, h2⟩ := Option.map_eq_some_iff.mp h
    subst h2
    obtain ⟨a, us, e, h3, h4⟩ := rx.lst hw
    have e3 := strs_rep h1 h4
    subst e3
    exact ⟨a, ss, by rw [e], .inl (.inl h3), fun p hp => q p _ hp (reps_strs fun s hs => strs_back h1 h4 s ((sortS_perm ss).mem_iff.mp hs))⟩
  · cases h
end
theorem boot_bi {x : Str} {n : Nat} {k : Bi} (h : cBi x n = some k) : bootBuiltins x = some (biF k) ∧ biT k = none ∧ k ≠ .isSeq := by
  unfold cBi at h
  have two : ∀ {c : Prop} [Decidable c] {a : Bi} {o : Option Bi}, (if c then some a else o) = some k → (c ∧ a = k) ∨ o = some k := by
    intro c _ a o h
    by_cases hc : c
    · rw [if_pos hc] at h; cases h; exact .inl ⟨hc, rfl⟩
    · rw [if_neg hc] at h; exact .inr h
  rcases two h with ⟨⟨rfl, _⟩, rfl⟩ | h
  · exact ⟨by decide +kernel, rfl, nofun⟩
  rcases two h with ⟨⟨rfl, _⟩, rfl⟩ | h
  · exact ⟨by decide +kernel, rfl, nofun⟩
  rcases two h with ⟨⟨rfl, _⟩, rfl⟩ | h
  · exact ⟨by decide +kernel, rfl, nofun⟩
  rcases two h with ⟨⟨rfl, _⟩, rfl⟩ | h
  · exact ⟨by decide +kernel, rfl, nofun⟩
  rcases two h with ⟨⟨rfl, _⟩, rfl⟩ | h
  · exact ⟨by decide +kernel, rfl, nofun⟩
  rcases two h with ⟨⟨rfl, _⟩, rfl⟩ | h
  · exact ⟨by decide +kernel, rfl, nofun⟩
  rcases two h with ⟨⟨rfl, _⟩, rfl⟩ | h
  · exact ⟨by decide +kernel, rfl, nofun⟩
  rcases two h with ⟨⟨rfl, _⟩, rfl⟩ | h
  · exact ⟨by decide +kernel, rfl, nofun⟩
  cases h
end Pv
end
section
set_option Elab.async false
set_option linter.all false
set_option maxRecDepth 100000
set_option maxHeartbeats 2000000
/-! Slots, patterns, what is walked. -/
namespace Pv
open PySem PySem.Spec PyProof.Rows L2

/-! ### slots -/
section
variable {S : Su} {G G' : Gh} {n n' : Nat} {H H' : Hp} {W W' : Wd} {env : Evn} {σ : L2.St}
theorem SE.setv (he : SE S G n env σ H) (i : Nat) {d : D} {v : V} (r : Rep S G n d v) : SE S G n (env.set i (.val d)) (σ.set i (some v)) H := by
  refine ⟨by simp [he.len], fun j d' h => ?_, fun j ds h => ?_⟩
  · by_cases hj : i = j
    · subst hj
      have hl : i < env.length := by
        have := (List.getElem?_eq_some_iff.mp h).1
        simpa using this
      rw [List.getElem?_set_self hl] at h
      cases h
      exact ⟨v, by rw [List.getElem?_set_self (by rw [← he.len]; exact hl)], r⟩
    · rw [List.getElem?_set_ne hj] at h
      rw [List.getElem?_set_ne hj]
      exact he.vals j d' h
  · by_cases hj : i = j
    · subst hj
      have hl : i < env.length := by
        have := (List.getElem?_eq_some_iff.mp h).1
        simpa using this
      rw [List.getElem?_set_self hl] at h
      cases h
    · rw [List.getElem?_set_ne hj] at h
      obtain ⟨a, vs, h1, h2, h3, h4, h5, h6⟩ := he.owns j ds h
      refine ⟨a, vs, by rw [List.getElem?_set_ne hj]; exact h1, h2, h3, h4, h5, fun k ds' hk hs => ?_⟩
      by_cases hk2 : i = k
      · subst hk2
        have hl : i < env.length := by
          have := (List.getElem?_eq_some_iff.mp hk).1
          simpa using this
        rw [List.getElem?_set_self hl] at hk
        cases hk
      · rw [List.getElem?_set_ne hk2] at hk hs
        exact h6 k ds' hk hs
theorem SE.setno (he : SE S G n env σ H) (i : Nat) (o : Option V) : SE S G n (env.set i .no) (σ.set i o) H := by
  refine ⟨by simp [he.len], fun j d' h => ?_, fun j ds h => ?_⟩
  · by_cases hj : i = j
    · subst hj
      have hl : i < env.length := by
        have := (List.getElem?_eq_some_iff.mp h).1
        simpa using this
      rw [List.getElem?_set_self hl] at h
      cases h
    · rw [List.getElem?_set_ne hj] at h
      rw [List.getElem?_set_ne hj]
      exact he.vals j d' h
  · by_cases hj : i = j
    · subst hj
      have hl : i < env.length := by
        have := (List.getElem?_eq_some_iff.mp h).1
        simpa using this
      rw [List.getElem?_set_self hl] at h
      cases h
    · rw [List.getElem?_set_ne hj] at h
      obtain ⟨a, vs, h1, h2, h3, h4, h5, h6⟩ := he.owns j ds h
      refine ⟨a, vs, by rw [List.getElem?_set_ne hj]; exact h1, h2, h3, h4, h5, fun k ds' hk hs => ?_⟩
      by_cases hk2 : i = k
      · subst hk2
        have hl : i < env.length := by
          have := (List.getElem?_eq_some_iff.mp hk).1
          simpa using this
        rw [List.getElem?_set_self hl] at hk
        cases hk
      · rw [List.getElem?_set_ne hk2] at hk hs
        exact h6 k ds' hk hs
theorem SE.wipe (he : SE S G n env σ H) : ∀ is : List Nat, SE S G n (wipeE env is) (L2.wipe σ is) H
  | [] => he
  | i :: is => (SE.wipe he is).setno i none
/-! wiped slots -/
theorem wipe_set_in {σ : L2.St} {i : Nat} {o : Option V} : ∀ {vs : List Nat}, i ∈ vs → L2.wipe (σ.set i o) vs = L2.wipe σ vs
  | v :: vs, h => by
    show (L2.wipe (σ.set i o) vs).set v none = (L2.wipe σ vs).set v none
    by_cases hi : i ∈ vs
    · rw [wipe_set_in hi]
    · have e : i = v := (List.mem_cons.mp h).resolve_right hi
      subst e
      have : ∀ (l : List Nat) (τ : L2.St), i ∉ l → L2.wipe (τ.set i o) l = (L2.wipe τ l).set i o := by
        intro l τ hl
        induction l with
        | nil => rfl
        | cons w l ih =>
          rw [List.mem_cons, not_or] at hl
          show (L2.wipe (τ.set i o) l).set w none = ((L2.wipe τ l).set w none).set i o
          rw [ih hl.2, List.set_comm _ _ (fun q => hl.1 q)]
      rw [this vs σ hi, List.set_set]
theorem wipe_out {σ : L2.St} {i : Nat} {o : Option V} : ∀ {vs : List Nat}, i ∉ vs → L2.wipe (σ.set i o) vs = (L2.wipe σ vs).set i o
  | [], _ => rfl
  | v :: vs, h => by
    rw [List.mem_cons, not_or] at h
    show (L2.wipe (σ.set i o) vs).set v none = ((L2.wipe σ vs).set v none).set i o
    rw [wipe_out h.2, List.set_comm _ _ (fun q => h.1 q)]
theorem wipe_wipe {σ : L2.St} : ∀ {us vs : List Nat}, (∀ i ∈ us, i ∈ vs) → L2.wipe (L2.wipe σ us) vs = L2.wipe σ vs
  | [], _, _ => rfl
  | u :: us, vs, h => by
    show L2.wipe ((L2.wipe σ us).set u none) vs = _
    rw [wipe_set_in (h u (by simp)), wipe_wipe fun i hi => h i (by simp [hi])]

/-! ### patterns -/
def gPat (S : Su) (p : Pat) : TG := fun v σ H Q => ∃ G W env d env', SW S G W H ∧ SE S G W.length env σ H ∧ Rep S G W.length d v ∧ bindP W p d env = some env' ∧
  ∀ σ', SE S G W.length env' σ' H → (∀ vs : List Nat, (∀ i ∈ p.slots, i ∈ vs) → L2.wipe σ' vs = L2.wipe σ vs) → (∀ (j : Nat) (ds : List D), env'[j]? = some (Sv.own ds) → env[j]? = some (Sv.own ds) ∧ σ'[j]? = σ[j]?) → Q σ' H
def gUn (S : Su) (is : List Nat) : TGs := fun vs σ H Q => ∃ G W env ds env', SW S G W H ∧ SE S G W.length env σ H ∧ Reps S G W.length ds vs ∧ unpack is ds env = some env' ∧
  ∀ σ', SE S G W.length env' σ' H → (∀ vs : List Nat, (∀ i ∈ is, i ∈ vs) → L2.wipe σ' vs = L2.wipe σ vs) → (∀ (j : Nat) (ds : List D), env'[j]? = some (Sv.own ds) → env[j]? = some (Sv.own ds) ∧ σ'[j]? = σ[j]?) → Q σ' H
theorem pg_imp {X : Cx} {e : Expr} {t t' : TG} (h : PG X e t) (k : ∀ v σ H Q, t' v σ H Q → t v σ H Q) : PG X e t' := ⟨fun pins s σ H v u Q I r q => h.run pins s σ H v u Q I r (k v σ H Q q)⟩
theorem pgs_imp {X : Cx} {e : List Expr} {t t' : TGs} (h : PGs X e t) (k : ∀ v σ H Q, t' v σ H Q → t v σ H Q) : PGs X e t' := ⟨fun pins s σ H v u Q I r q => h.run pins s σ H v u Q I r (k v σ H Q q)⟩
end

/-! ### the surroundings of a text -/
/-- where the program's things stand -/
structure Ax where
  prog : Program
  w : World
  mg : Str → Option Value
  base : Heap
  fa : Nat → Addr
  fd : Nat → FuncData
  ps : Nat → List Str
structure XOk (S : Su) (P : Ax) (Γ : Ctx) (n : Nat) (X : Cx) : Prop where
  prog : X.prog = P.prog
  w : X.w = P.w
  mg : X.mg = P.mg
  base : X.base = P.base
  K : X.K = S.K
  N : X.N = Γ.N
  nd : X.N.Nodup
  sc : X.env.scope = Γ.sc
  fn : ∀ x, Γ.fn x = true → X.fn x = true
  calm : X.calm = true
  room : Room n X.A
  ge : Γ.ge = true → ∃ c T, X.env.code = .ref c ∧ GxR.TabB X.base X.mg c T ∧ T ∈ S.tabs

theorem findIdx_at {x : Str} {N : List Str} {i : Nat} (h : N.findIdx? (fun y => decide (y = x)) = some i) : N[i]? = some x := by
  obtain ⟨hi, hp, _⟩ := List.findIdx?_eq_some_iff_getElem.mp h
  rw [List.getElem?_eq_getElem hi]
  simpa using hp
section
variable {S : Su} {P : Ax} {Γ : Ctx} {n : Nat} {X : Cx}
theorem XOk.at (hX : XOk S P Γ n X) {x : Str} {i : Nat} (h : Γ.at x = some i) : X.N[i]? = some x ∧ Vis X.env.scope x ∧ (x == ("__debug__" : Str)) = false ∧ (x == ("__classdict__" : Str)) = false := by
  unfold Ctx.at at h
  split at h
  · rename_i hc
    obtain ⟨h1, h2⟩ := hc
    unfold nm at h2
    simp only [Bool.and_eq_true, decide_eq_true_eq] at h2
    refine ⟨by rw [hX.N]; exact findIdx_at h, ?_, by simpa using h2.1.1, by simpa using h2.1.2⟩
    rw [hX.sc]
    unfold visK at h1
    unfold Vis
    split at h1
    · rename_i e; exact .inl e
    · rename_i e; exact .inr (.inl e)
    · rename_i e; exact .inr (.inr e)
    · cases h1
  · cases h
theorem XOk.to (hX : XOk S P Γ n X) {x : Str} {i : Nat} (h : Γ.to x = some i) : X.N[i]? = some x ∧ L2.Loc X.env.scope x ∧ (X.fn x = true ∨ X.env.scope.names.lookup x = some .local) := by
  unfold Ctx.to at h
  rw [hX.sc, hX.N]
  unfold L2.Loc
  split at h
  · rename_i e
    exact ⟨findIdx_at h, .inl e, .inr e⟩
  · rename_i e
    split at h
    · rename_i hf
      exact ⟨findIdx_at h, .inr e, .inl (hX.fn x hf)⟩
    · cases h
  · cases h
theorem XOk.gl (hX : XOk S P Γ n X) {x : Str} (h : Γ.gl x = true) : Gl X x ∧ (x == ("__debug__" : Str)) = false ∧ x ≠ "__name__" := by
  unfold Ctx.gl nm at h
  simp only [Bool.and_eq_true, decide_eq_true_eq] at h
  refine ⟨?_, by simpa using h.2.1.1, h.2.2⟩
  show X.env.scope.names.lookup x = _
  rw [hX.sc]; exact h.1
/-! ### targets -/
theorem names_flags (env : Env) : ∀ {es : List Expr} {l : List (Str × Nat)}, cNames Γ es = some l → (assignEach es env).length = l.length ∧ (assignEach es env).findIdx? (·.1) = none
  | [], l, h => by cases h; exact ⟨rfl, rfl⟩
  | .Name x p :: es, l, h => by
    unfold cNames at h
    split at h
    · rename_i i t h1 h2
      cases h
      obtain ⟨a, b⟩ := names_flags env h2
      have e : assignEach (.Name x p :: es) env = (false, assign (.Name x p) env) :: assignEach es env := rfl
      rw [e]
      refine ⟨by simp [a], ?_⟩
      rw [List.findIdx?_cons]
      simp [b]
    · cases h
theorem own_set {G : Gh} {m : Nat} {env : Evn} {σ : L2.St} {H : Hp} (he : SE S G m env σ H) {i j : Nat} {d : D} {v : V} {ds : List D} (h : (env.set i (.val d))[j]? = some (Sv.own ds)) : env[j]? = some (Sv.own ds) ∧ (σ.set i (some v))[j]? = σ[j]? := by
  by_cases hj : i = j
  · subst hj
    have hl : i < env.length := by
      have := (List.getElem?_eq_some_iff.mp h).1
      simpa using this
    rw [List.getElem?_set_self hl] at h
    cases h
  · rw [List.getElem?_set_ne hj] at h
    exact ⟨h, List.getElem?_set_ne hj⟩
theorem pgs_names (hX : XOk S P Γ n X) : ∀ {es : List Expr} {l : List (Str × Nat)}, cNames Γ es = some l → PGs X es (gUn S (l.map (·.2)))
  | [], l, h => by
    cases h
    refine pgs_imp pgs_nil fun vs σ H Q ⟨G, W, env, ds, env', hw, he, r, hu, k⟩ => ?_
    cases ds with
    | nil =>
      cases hu
      exact ⟨r, k σ he (fun _ _ => rfl) fun _ _ h => ⟨h, rfl⟩⟩
    | cons _ _ => cases hu
  | .Name x p :: es, l, h => by
    unfold cNames at h
    split at h
    · rename_i i t h1 h2
      cases h
      obtain ⟨a1, a2, a3⟩ := hX.to h1
      refine pgs_imp (pgs_cons (pg_name hX.nd a1 a2 a3) (pgs_names hX h2) rfl) fun vs σ H Q ⟨G, W, env, ds, env', hw, he, r, hu, k⟩ => ?_
      cases ds with
      | nil => cases hu
      | cons d ds =>
        obtain ⟨v, vs', e, r1, r2⟩ := r
        subst e
        refine ⟨v, vs', rfl, G, W, env.set i (.val d), ds, env', hw, he.setv i r1, r2, hu, fun σ' h' hk ho => k σ' h' (fun ws hws => ?_) fun j ds' hj => ?_⟩
        · rw [hk ws fun j hj => hws j (List.mem_cons_of_mem _ hj), wipe_set_in (hws i (by simp))]
        · obtain ⟨o1, o2⟩ := ho j ds' hj
          obtain ⟨q1, q2⟩ := own_set he o1 (v := v)
          exact ⟨q1, o2.trans q2⟩
    · cases h
theorem pg_pat (hX : XOk S P Γ n X) {e : Expr} {p : Pat} {own : List (Str × Nat)} (h : cPat Γ e = some (p, own)) : PG X e (gPat S p) ∧ own.map (·.2) = p.slots := by
  unfold cPat at h
  split at h
  · rename_i x pos
    split at h
    · rename_i i hi
      cases h
      obtain ⟨a1, a2, a3⟩ := hX.to hi
      refine ⟨pg_imp (pg_name hX.nd a1 a2 a3) fun v σ H Q ⟨G, W, env, d, env', hw, he, r, hb, k⟩ => ?_, rfl⟩
      cases hb
      exact k _ (he.setv i r) (fun vs hvs => wipe_set_in (hvs i (by simp [Pat.slots]))) fun j ds hj => own_set he hj
    · cases h
  · rename_i es kk pos
    split at h
    · rename_i t ht
      cases h
      refine ⟨pg_imp (pg_tup hX.calm (pgs_names hX ht) (names_flags _ ht).1 (names_flags _ ht).2) fun v σ H Q ⟨G, W, env, d, env', hw, he, r, hb, k⟩ => ?_, rfl⟩
      unfold bindP at hb
      simp only at hb
      split at hb
      · rename_i ds
        obtain ⟨a, vs, e, h1, h2⟩ := r
        have hlen : ∀ {is : List Nat} {ds : List D} {env env' : Evn}, unpack is ds env = some env' → ds.length = is.length := by
          intro is
          induction is with
          | nil => intro ds env env' hu; cases ds with
            | nil => rfl
            | cons _ _ => cases hu
          | cons i is ih => intro ds env env' hu; cases ds with
            | nil => cases hu
            | cons d ds => simp [ih hu]
        refine ⟨a, vs, e, .inl (.inl (hw.sub _ _ h1)), ?_, G, W, env, ds, env', hw, he, h2, hb, k⟩
        rw [h2.length, hlen hb]; simp
      · cases hb
    · cases h
  · cases h
end

/-! ### what is walked -/
/-- the later states in which the walk goes on -/
structure Later (S : Su) (b : Bool) (G : Gh) (W : Wd) (H : Hp) (gd : Option Nat) (G2 : Gh) (W2 : Wd) (H2 : Hp) : Prop where
  sw : SW S G2 W2 H2
  ok : okW gd W W2 = true
  gx : Gx G W.length G2 W2.length
  st : b = true → Step S G W.length H G2 W2.length H2
structure ItOk (S : Su) (b : Bool) (G : Gh) (W : Wd) (H : Hp) (J : L2.It) (xs : List D) (gd : Option Nat) : Prop where
  go : ∀ i G2 W2 H2, Later S b G W H gd G2 W2 H2 → i < xs.length → J.go i H2
  stop : ∀ i G2 W2 H2, Later S b G W H gd G2 W2 H2 → xs.length ≤ i → J.stop i H2
  yld : ∀ i G2 W2 H2 x H', Later S b G W H gd G2 W2 H2 → i < xs.length → J.yld i H2 x H' → ∃ d G', xs[i]? = some d ∧ Step S G2 W2.length H2 G' W2.length H' ∧ SW S G' W2 H' ∧ Rep S G' W2.length d x
theorem okW_refl_none (W0 W : Wd) : okW none W0 W = true := rfl
def tI (S : Su) (b : Bool) (f : Evn → Wd → Option (List D × Option Nat × Wd)) : TI := fun σ H R => ∃ G W env xs gd W', SW S G W H ∧ SE S G W.length env σ H ∧ f env W = some (xs, gd, W') ∧
  ∀ J H' G', Step S G W.length H G' W'.length H' → SW S G' W' H' → ItOk S b G' W' H' J xs gd → R J H'
section
variable {S : Su} {G : Gh} {W : Wd} {H : Hp} {b : Bool} {gd : Option Nat}
/-- a list that is there at each later time -/
theorem it_list {a : Addr} {xs : List D} (h : ∀ G2 W2 H2, Later S b G W H gd G2 W2 H2 → ∃ vs, SqL S.K H2 a vs ∧ Reps S G2 W2.length xs vs) : ItOk S b G W H (Itl S.K a) xs gd := by
  refine ⟨fun i G2 W2 H2 L hi => ?_, fun i G2 W2 H2 L hi => ?_, fun i G2 W2 H2 x H' L hi hy => ?_⟩
  · obtain ⟨vs, h1, h2⟩ := h _ _ _ L
    obtain ⟨v, h3, _⟩ := h2.at (List.getElem?_eq_getElem hi)
    exact ⟨vs, v, h1, h3⟩
  · obtain ⟨vs, h1, h2⟩ := h _ _ _ L
    exact ⟨vs, h1, by rw [h2.length]; exact hi⟩
  · obtain ⟨vs, h1, h2⟩ := h _ _ _ L
    obtain ⟨v, h3, h4⟩ := h2.at (List.getElem?_eq_getElem hi)
    obtain ⟨e, hv⟩ := hy
    subst e
    have := hv vs h1
    rw [h3] at this
    cases this
    exact ⟨_, G2, List.getElem?_eq_getElem hi, Step.refl, L.sw, h4⟩
theorem it_tup {a : Addr} {xs : List D} (h : ∀ G2 W2 H2, Later S b G W H gd G2 W2 H2 → ∃ vs, SqT S.K H2 a vs ∧ Reps S G2 W2.length xs vs) : ItOk S b G W H (Itt S.K a) xs gd := by
  refine ⟨fun i G2 W2 H2 L hi => ?_, fun i G2 W2 H2 L hi => ?_, fun i G2 W2 H2 x H' L hi hy => ?_⟩
  · obtain ⟨vs, h1, h2⟩ := h _ _ _ L
    obtain ⟨v, h3, _⟩ := h2.at (List.getElem?_eq_getElem hi)
    exact ⟨vs, v, h1, h3⟩
  · obtain ⟨vs, h1, h2⟩ := h _ _ _ L
    exact ⟨vs, h1, by rw [h2.length]; exact hi⟩
  · obtain ⟨vs, h1, h2⟩ := h _ _ _ L
    obtain ⟨v, h3, h4⟩ := h2.at (List.getElem?_eq_getElem hi)
    obtain ⟨e, hv⟩ := hy
    subst e
    have := hv vs h1
    rw [h3] at this
    cases this
    exact ⟨_, G2, List.getElem?_eq_getElem hi, Step.refl, L.sw, h4⟩
theorem enumD_at : ∀ {xs : List D} {k i : Nat} {d : D}, xs[i]? = some d → (enumD k xs)[i]? = some (.tup [.int ((k + i : Nat) : Int), d])
  | [], _, _, _, h => by simp at h
  | x :: xs, k, 0, d, h => by
    have e : x = d := by simpa using h
    subst e
    rfl
  | x :: xs, k, i + 1, d, h => by
    have h2 : xs[i]? = some d := by simpa using h
    have := enumD_at (k := k + 1) h2
    have e : k + 1 + i = k + (i + 1) := by omega
    rw [e] at this
    exact this
theorem enumD_len : ∀ (xs : List D) (k : Nat), (enumD k xs).length = xs.length
  | [], _ => rfl
  | x :: xs, k => by simp [enumD, enumD_len xs]
/-- the pair that enumerate makes -/
theorem pair_new {G2 : Gh} {W2 : Wd} {H2 : Hp} (hw : SW S G2 W2 H2) {T : Addr} {d : D} {x : V} (i : Nat) (hT : H2 T = none) (r : Rep S G2 W2.length d x) :
    ∃ G', Step S G2 W2.length H2 G' W2.length (upd H2 T (.tup [.int (i : Nat), x])) ∧ SW S G' W2 (upd H2 T (.tup [.int (i : Nat), x])) ∧ Rep S G' W2.length (.tup [.int ((i : Nat) : Int), d]) (.ref T) := by
  obtain ⟨w1, s1⟩ := hw.frz (o := .tup [.int (i : Nat), x]) hT
  refine ⟨G2.frz T (.tup [.int (i : Nat), x]), s1, w1, T, [.int (i : Nat), x], rfl, ?_, ?_⟩
  · show upd G2.F T _ T = _
    rw [upd_same]
  · exact ⟨_, _, rfl, rfl, _, _, rfl, r.mono (Gx.frz (hw.notF hT)), rfl⟩
theorem it_enum {a : Addr} {xs : List D} (h : ∀ G2 W2 H2, Later S b G W H gd G2 W2 H2 → ∃ vs, SqL S.K H2 a vs ∧ Reps S G2 W2.length xs vs) : ItOk S b G W H (Ite S.K a) (enumD 0 xs) gd := by
  refine ⟨fun i G2 W2 H2 L hi => ?_, fun i G2 W2 H2 L hi => ?_, fun i G2 W2 H2 x H' L hi hy => ?_⟩
  · rw [enumD_len] at hi
    obtain ⟨vs, h1, h2⟩ := h _ _ _ L
    obtain ⟨v, h3, _⟩ := h2.at (List.getElem?_eq_getElem hi)
    exact ⟨vs, v, h1, h3⟩
  · rw [enumD_len] at hi
    obtain ⟨vs, h1, h2⟩ := h _ _ _ L
    exact ⟨vs, h1, by rw [h2.length]; exact hi⟩
  · rw [enumD_len] at hi
    obtain ⟨vs, h1, h2⟩ := h _ _ _ L
    obtain ⟨v, h3, h4⟩ := h2.at (List.getElem?_eq_getElem hi)
    obtain ⟨T, z, e1, e2, e3, hv⟩ := hy
    subst e1 e3
    have := hv vs h1
    rw [h3] at this
    cases this
    obtain ⟨G', s', w', r'⟩ := pair_new L.sw i e2 h4
    refine ⟨_, G', enumD_at (List.getElem?_eq_getElem hi), s', w', ?_⟩
    rw [Nat.zero_add]
    exact r'
theorem it_enumT {a : Addr} {xs : List D} (h : ∀ G2 W2 H2, Later S b G W H gd G2 W2 H2 → ∃ vs, SqT S.K H2 a vs ∧ Reps S G2 W2.length xs vs) : ItOk S b G W H (GX.Itet S.K a) (enumD 0 xs) gd := by
  refine ⟨fun i G2 W2 H2 L hi => ?_, fun i G2 W2 H2 L hi => ?_, fun i G2 W2 H2 x H' L hi hy => ?_⟩
  · rw [enumD_len] at hi
    obtain ⟨vs, h1, h2⟩ := h _ _ _ L
    obtain ⟨v, h3, _⟩ := h2.at (List.getElem?_eq_getElem hi)
    exact ⟨vs, v, h1, h3⟩
  · rw [enumD_len] at hi
    obtain ⟨vs, h1, h2⟩ := h _ _ _ L
    exact ⟨vs, h1, by rw [h2.length]; exact hi⟩
  · rw [enumD_len] at hi
    obtain ⟨vs, h1, h2⟩ := h _ _ _ L
    obtain ⟨v, h3, h4⟩ := h2.at (List.getElem?_eq_getElem hi)
    obtain ⟨T, z, e1, e2, e3, hv⟩ := hy
    subst e1 e3
    have := hv vs h1
    rw [h3] at this
    cases this
    obtain ⟨G', s', w', r'⟩ := pair_new L.sw i e2 h4
    refine ⟨_, G', enumD_at (List.getElem?_eq_getElem hi), s', w', ?_⟩
    rw [Nat.zero_add]
    exact r'
theorem it_rng {lo : Int} {k : Nat} : ItOk S b G W H (Itr lo k) (rngD lo k) gd := by
  have hl : (rngD lo k).length = k := by simp [rngD]
  refine ⟨fun i G2 W2 H2 L hi => by rw [hl] at hi; exact hi, fun i G2 W2 H2 L hi => by rw [hl] at hi; exact hi, fun i G2 W2 H2 x H' L hi hy => ?_⟩
  rw [hl] at hi
  obtain ⟨e, hx⟩ := hy
  subst e
  refine ⟨.int (lo + (i : Nat)), G2, ?_, Step.refl, L.sw, hx⟩
  simp [rngD, hi]
theorem it_str {x : Str} (hx : okStr x) : ItOk S b G W H (Its x) (x.cps.toList.map fun c => .str ⟨#[c]⟩) gd := by
  have hl : (x.cps.toList.map fun c => D.str ⟨#[c]⟩).length = x.cps.size := by simp
  refine ⟨fun i G2 W2 H2 L hi => by rw [hl] at hi; exact hi, fun i G2 W2 H2 L hi => by rw [hl] at hi; exact hi, fun i G2 W2 H2 v H' L hi hy => ?_⟩
  obtain ⟨e, c, hc, hv⟩ := hy
  subst e hv
  have hc2 : x.cps.toList[i]? = some c := by simpa using hc
  refine ⟨.str ⟨#[c]⟩, G2, ?_, Step.refl, L.sw, rfl, chr_ok hx (List.mem_of_getElem? hc2)⟩
  rw [List.getElem?_map, hc2]; rfl
theorem okW_cell {m : Nat} {W2 : Wd} {xs : List D} (h : W[m]? = some (.lst xs)) (ok : okW (some m) W W2 = true) : W2[m]? = some (.lst xs) := by
  simp only [okW, h] at ok
  cases q : W2[m]? with
  | none => rw [q] at ok; cases ok
  | some c =>
    rw [q] at ok
    cases c with
    | lst ys => rw [beqs_eq _ _ ok]
    | _ => cases ok
theorem okW_refl (gd : Option Nat) {xs : List D} (h : ∀ m, gd = some m → ∃ xs, W[m]? = some (.lst xs)) : okW gd W W = true := by
  unfold okW
  cases gd with
  | none => rfl
  | some m =>
    obtain ⟨xs, e⟩ := h m rfl
    simp only [e]
    exact beqs_refl xs
end
end Pv
end
section
set_option Elab.async false
set_option linter.all false
set_option maxRecDepth 100000
set_option maxHeartbeats 2000000
/-! Rules of expressions, by the pure functions. -/
namespace Pv
open PySem PySem.Spec PyProof.Rows L2
abbrev FX := Evn → Wd → Option (D × Wd)
abbrev FT := Evn → Wd → Option (Bool × Wd)
def truF (f : FX) : FT := fun env W => match f env W with
  | some (v, W1) => (match truD v with
    | some t => some (t, W1)
    | none => none)
  | none => none
section
variable {S : Su} {X : Cx} {e a b c : Expr} {fa fb fc : FX} {pos : Pos} {bo : Bool}
theorem tw_ {f : FX} {σ : L2.St} {H : Hp} {Q : VK} (h : tEv S true f σ H Q) : tEv S false f σ H Q := by
  obtain ⟨G, W, env, d, W', hw, he, hf, k⟩ := h
  exact ⟨G, W, env, d, W', hw, he, hf, fun v H' G' s w r => k v H' G' s w (r.elim .inl fun z => by cases z.1)⟩
theorem PE.up {f : FX} (h : PE X e (tEv S false f)) : PE X e (tEv S bo f) := by
  cases bo
  · exact h
  · exact pe_imp h fun σ H Q q => tw_ q
theorem PE.to {f g : FX} (h : PE X e (tEv S bo f)) (k : ∀ env W, g env W = f env W) : PE X e (tEv S bo g) := by
  have : g = f := by funext env W; exact k env W
  rw [this]; exact h

/-! ### constants -/
theorem r_c {v : V} {d : D} (h : PE X e (tC v)) (r : ∀ G n, Rep S G n d v) : PE X e (tEv S false fun _ W => some (d, W)) :=
  pe_imp h fun σ H Q ⟨G, W, env, z, W2, hw, he, hf, k⟩ => by
    cases hf
    exact k v H G Step.refl hw (.inl (r G W.length))
theorem r_var {i : Nat} (h : PE X e (tVar i)) (bo : Bool) : PE X e (tEv S bo fun env W => match env[i]? with
    | some (.val d) => some (d, W)
    | some (.own xs) => if bo = true then some (.lst xs, W) else none
    | _ => none) :=
  pe_imp h fun σ H Q ⟨G, W, env, z, W2, hw, he, hf, k⟩ => by
    cases h1 : env[i]? with
    | none => simp only [h1] at hf; cases hf
    | some s =>
      cases s with
      | no => simp only [h1] at hf; cases hf
      | val d =>
        simp only [h1] at hf
        cases hf
        obtain ⟨v, h2, h3⟩ := he.vals i _ h1
        exact ⟨v, h2, k v H G Step.refl hw (.inl h3)⟩
      | own xs =>
        simp only [h1] at hf
        split at hf
        · rename_i hb
          cases hf
          obtain ⟨p, vs, h2, h3, h4, h5, h6, h7⟩ := he.owns i _ h1
          exact ⟨.ref p, h2, k _ H G Step.refl hw (.inr ⟨hb, i, xs, p, vs, h1, rfl, rfl, h2, h3, h4⟩)⟩
        · cases hf

/-! ### operators -/
def fOp (o : BOp) (fa fb : FX) : FX := fun env W => match fa env W with
  | some (x, W1) => (match fb env W1 with
    | some (y, W2) => (match opD o x y with
      | some z => some (z, W2)
      | none => none)
    | none => none)
  | none => none
theorem r_op {o : BOp} {o' : Operator} (ho : cB o' = some o) (ha : PE X a (tEv S true fa)) (hb : PE X b (tEv S true fb)) : PE X (.BinOp a o' b pos) (tEv S false (fOp o fa fb)) := by
  obtain ⟨r, hr, hs⟩ := op_sound ho
  refine pe_imp (pe_op (hr X) ha hb) fun σ H Q ⟨G, W, env, z, W2, hw, he, hf, k⟩ => ?_
  unfold fOp at hf
  cases h1 : fa env W with
  | none => simp only [h1] at hf; cases hf
  | some p =>
    obtain ⟨x, W1⟩ := p
    simp only [h1] at hf
    cases h2 : fb env W1 with
    | none => simp only [h2] at hf; cases hf
    | some q =>
      obtain ⟨y, W2'⟩ := q
      simp only [h2] at hf
      cases h3 : opD o x y with
      | none => simp only [h3] at hf; cases hf
      | some z' =>
        simp only [h3] at hf
        cases hf
        exact ev2 hw he h1 h2 fun vx vy H2 G2 s2 w2 e2 r1 r2 => hs w2 r1 r2 h3 fun v H' G' s' w' r' => k v H' G' (s2.trans s') w' (.inl r')
def fCmp (o : COp) (fa fb : FX) : FX := fun env W => match fa env W with
  | some (x, W1) => (match fb env W1 with
    | some (y, W2) => (match cmpD W2 o x y with
      | some t => some (.bl t, W2)
      | none => none)
    | none => none)
  | none => none
theorem r_cmp {m : Nat} {o : COp} {o' : CmpOp} (hr : Room m X.A) (hK : X.K = S.K) (ho : cC o' = some o) (ha : PE X a (tEv S true fa)) (hb : PE X b (tEv S true fb)) (hm : behindInMarks o' b = false) :
    PE X (.Compare a [o'] [b] pos) (tEv S false (fCmp o fa fb)) ∧ PT X (.Compare a [o'] [b] pos) (tEvT S (truF (fCmp o fa fb))) := by
  obtain ⟨r, hr, hs⟩ := cmp_sound (S := S) hr hK ho
  refine ⟨pe_imp (pe_cmpR hr ha hb hm) fun σ H Q ⟨G, W, env, z, W2, hw, he, hf, k⟩ => ?_, pt_imp (pt_cmpR hr ha hb hm) fun σ H Q ⟨G, W, env, t, W2, hw, he, hf, k⟩ => ?_⟩
  · unfold fCmp at hf
    cases h1 : fa env W with
    | none => simp only [h1] at hf; cases hf
    | some p =>
      obtain ⟨x, W1⟩ := p
      simp only [h1] at hf
      cases h2 : fb env W1 with
      | none => simp only [h2] at hf; cases hf
      | some q =>
        obtain ⟨y, W2'⟩ := q
        simp only [h2] at hf
        cases h3 : cmpD W2' o x y with
        | none => simp only [h3] at hf; cases hf
        | some t =>
          simp only [h3] at hf
          cases hf
          exact ev2 hw he h1 h2 fun vx vy H2 G2 s2 w2 e2 r1 r2 => hs w2 r1 r2 h3 (k _ H2 G2 s2 w2 (.inl rfl))
  · unfold truF fCmp at hf
    cases h1 : fa env W with
    | none => simp only [h1] at hf; cases hf
    | some p =>
      obtain ⟨x, W1⟩ := p
      simp only [h1] at hf
      cases h2 : fb env W1 with
      | none => simp only [h2] at hf; cases hf
      | some q =>
        obtain ⟨y, W2'⟩ := q
        simp only [h2] at hf
        cases h3 : cmpD W2' o x y with
        | none => simp only [h3] at hf; cases hf
        | some t =>
          simp only [h3] at hf
          cases hf
          exact ev2 hw he h1 h2 fun vx vy H2 G2 s2 w2 e2 r1 r2 => hs w2 r1 r2 h3 ⟨t, rfl, k H2 G2 s2 w2⟩
def fChain (o1 o2 : COp) (fa fb fc : FX) : FX := fun env W => match fa env W with
  | some (x, W1) => (match fb env W1 with
    | some (y, W2) => (match cmpD W2 o1 x y with
      | some true => (match fc env W2 with
        | some (z, W3) => (match cmpD W3 o2 y z with
          | some t => some (.bl t, W3)
          | none => none)
        | none => none)
      | some false => some (.bl false, W2)
      | none => none)
    | none => none)
  | none => none
theorem chain_core {m : Nat} {o1 o2 : COp} {o1' o2' : CmpOp} (hr : Room m X.A) (hK : X.K = S.K) (ho1 : cC o1' = some o1) (ho2 : cC o2' = some o2) : ∃ r1 r2 : R2, OpR X (compareOp o1') r1 ∧ OpR X (compareOp o2') r2 ∧
    ∀ (σ : L2.St) (H : Hp) (Q : VK) (G : Gh) (W : Wd) (env : Evn) (t : D) (W2 : Wd), SW S G W H → SE S G W.length env σ H → fChain o1 o2 fa fb fc env W = some (t, W2) →
      (∀ u H' G', t = .bl u → Step S G W.length H G' W2.length H' → SW S G' W2 H' → Q (.bl u) H') → tChain r1 r2 (tEv S true fa) (tEv S true fb) (tEv S true fc) σ H Q := by
  obtain ⟨r1, hr1, hs1⟩ := cmp_sound (S := S) hr hK ho1
  obtain ⟨r2, hr2, hs2⟩ := cmp_sound (S := S) hr hK ho2
  refine ⟨r1, r2, hr1, hr2, fun σ H Q G W env t W2 hw he hf k => ?_⟩
  unfold fChain at hf
  cases h1 : fa env W with
  | none => simp only [h1] at hf; cases hf
  | some p =>
    obtain ⟨x, W1⟩ := p
    simp only [h1] at hf
    cases h2 : fb env W1 with
    | none => simp only [h2] at hf; cases hf
    | some q =>
      obtain ⟨y, W2'⟩ := q
      simp only [h2] at hf
      cases h3 : cmpD W2' o1 x y with
      | none => simp only [h3] at hf; cases hf
      | some t1 =>
        refine ev2 hw he h1 h2 fun vx vy H2 G2 s2 w2 e2 q1 q2 => hs1 w2 q1 q2 h3 ⟨t1, rfl, ?_⟩
        cases t1 with
        | false =>
          rw [if_neg (by decide)]
          simp only [h3] at hf
          cases hf
          exact k false H2 G2 rfl s2 w2
        | true =>
          rw [if_pos rfl]
          simp only [h3] at hf
          cases h4 : fc env W2' with
          | none => simp only [h4] at hf; cases hf
          | some q =>
            obtain ⟨z, W3⟩ := q
            simp only [h4] at hf
            cases h5 : cmpD W3 o2 y z with
            | none => simp only [h5] at hf; cases hf
            | some t2 =>
              simp only [h5] at hf
              cases hf
              exact ⟨G2, W2', env, z, _, w2, e2, h4, fun vz H3 G3 s3 w3 q3 => hs2 w3 (q2.step w2 e2 s3) q3 h5 (k t2 H3 G3 rfl (s2.trans s3) w3)⟩
theorem r_chain {m : Nat} {o1 o2 : COp} {o1' o2' : CmpOp} (hr : Room m X.A) (hK : X.K = S.K) (ho1 : cC o1' = some o1) (ho2 : cC o2' = some o2) (ha : PE X a (tEv S true fa)) (hb : PE X b (tEv S true fb)) (hc : PE X c (tEv S true fc)) (hm : lastMarks [o1', o2'] [b, c] = false) :
    PE X (.Compare a [o1', o2'] [b, c] pos) (tEv S false (fChain o1 o2 fa fb fc)) ∧ PT X (.Compare a [o1', o2'] [b, c] pos) (tEvT S (truF (fChain o1 o2 fa fb fc))) := by
  obtain ⟨r1, r2, h1, h2, core⟩ := chain_core (S := S) (fa := fa) (fb := fb) (fc := fc) hr hK ho1 ho2
  refine ⟨pe_imp (pe_chain h1 h2 ha hb hc hm) fun σ H Q ⟨G, W, env, z, W2, hw, he, hf, k⟩ => ?_, pt_imp (pt_chain h1 h2 ha hb hc hm) fun σ H Q ⟨G, W, env, t, W2, hw, he, hf, k⟩ => ?_⟩
  · exact core σ H Q G W env z W2 hw he hf fun u H' G' e s' w' => k _ H' G' s' w' (.inl (by rw [e]; rfl))
  · unfold truF at hf
    cases h3 : fChain o1 o2 fa fb fc env W with
    | none => simp only [h3] at hf; cases hf
    | some p =>
      obtain ⟨d, W3⟩ := p
      simp only [h3] at hf
      cases h4 : truD d with
      | none => simp only [h4] at hf; cases hf
      | some t' =>
        simp only [h4] at hf
        cases hf
        refine core σ H _ G W env d _ hw he h3 fun u H' G' e s' w' => ⟨u, rfl, ?_⟩
        subst e
        cases h4
        exact k H' G' s' w'
def fIsN (neg : Bool) (fa : FX) : FX := fun env W => match fa env W with
  | some (.non, W1) => some (.bl (!neg), W1)
  | some (_, W1) => some (.bl neg, W1)
  | none => none
def isNonD : D → Bool
  | .non => true
  | _ => false
theorem non_iff {G : Gh} {n : Nat} {env : Evn} {σ : L2.St} {H : Hp} {x : D} {v : V} (r : RepB S G n env σ H bo x v) : decide (v = V.non) = isNonD x := by
  cases x with
  | non => rw [r.non]; rfl
  | bl _ => rw [r.bl]; rfl
  | int _ => rw [r.int]; rfl
  | str _ => rw [r.str.1]; rfl
  | ref _ => rw [r.ref.1]; rfl
  | tup _ => rcases r with ⟨a, vs, e, _⟩ | ⟨_, i, ds', a, vs, _, h2, _⟩
             · rw [e]; rfl
             · cases h2
  | ctp _ => rcases r with ⟨a, vs, e, _⟩ | ⟨_, i, ds', a, vs, _, h2, _⟩
             · rw [e]; rfl
             · cases h2
  | scr _ => rcases r with ⟨a, e, _⟩ | ⟨_, i, ds', a, vs, _, h2, _⟩
             · rw [e]; rfl
             · cases h2
  | lst _ => rcases r with ⟨a, vs, e, _⟩ | ⟨_, i, ds', a, vs, _, h2, h3, _⟩
             · rw [e]; rfl
             · rw [h3]; rfl
theorem isn_split {neg : Bool} {env : Evn} {W W2 : Wd} {z : D} (hf : fIsN neg fa env W = some (z, W2)) : ∃ x, fa env W = some (x, W2) ∧ z = .bl (if neg then !isNonD x else isNonD x) := by
  unfold fIsN at hf
  cases h1 : fa env W with
  | none => simp only [h1] at hf; cases hf
  | some p =>
    obtain ⟨x, W1⟩ := p
    simp only [h1] at hf
    cases x <;> (cases hf; refine ⟨_, rfl, ?_⟩; cases neg <;> rfl)
theorem r_isN {neg : Bool} {j : Nat} {p' : Pos} (ha : PE X a (tEv S true fa)) :
    PE X (.Compare a [if neg then .IsNot else .Is] [.Constant .none j p'] pos) (tEv S false (fIsN neg fa)) ∧ PT X (.Compare a [if neg then .IsNot else .Is] [.Constant .none j p'] pos) (tEvT S (truF (fIsN neg fa))) := by
  have tr : ∀ {env : Evn} {W W2 : Wd} {t : Bool}, truF (fIsN neg fa) env W = some (t, W2) → fIsN neg fa env W = some (.bl t, W2) := by
    intro env W W2 t h
    unfold truF at h
    cases h3 : fIsN neg fa env W with
    | none => simp only [h3] at h; cases h
    | some p =>
      obtain ⟨d, W3⟩ := p
      simp only [h3] at h
      obtain ⟨x, _, e⟩ := isn_split h3
      subst e
      simp only [truD] at h
      cases h
      rfl
  cases neg with
  | false =>
    refine ⟨pe_imp (pe_cmp (pc_isN ha) (nobehind _ (by decide) (by decide))) fun σ H Q ⟨G, W, env, z, W2, hw, he, hf, k⟩ => ?_, pt_imp (pt_cmp (pc_isN ha) (nobehind _ (by decide) (by decide))) fun σ H Q ⟨G, W, env, t, W2, hw, he, hf, k⟩ => ?_⟩
    · obtain ⟨x, h1, e⟩ := isn_split hf
      refine ⟨G, W, env, x, W2, hw, he, h1, fun v H' G' s w r => ?_⟩
      refine k _ H' G' s w (.inl ?_)
      rw [e]
      show V.bl _ = V.bl _
      rw [non_iff r]; rfl
    · obtain ⟨x, h1, e⟩ := isn_split (tr hf)
      refine ⟨G, W, env, x, W2, hw, he, h1, fun v H' G' s w r => ⟨t, ?_, k H' G' s w⟩⟩
      cases e
      rw [non_iff r]; rfl
  | true =>
    refine ⟨pe_imp (pe_cmp (pc_notN ha) (nobehind _ (by decide) (by decide))) fun σ H Q ⟨G, W, env, z, W2, hw, he, hf, k⟩ => ?_, pt_imp (pt_cmp (pc_notN ha) (nobehind _ (by decide) (by decide))) fun σ H Q ⟨G, W, env, t, W2, hw, he, hf, k⟩ => ?_⟩
    · obtain ⟨x, h1, e⟩ := isn_split hf
      refine ⟨G, W, env, x, W2, hw, he, h1, fun v H' G' s w r => ?_⟩
      refine k _ H' G' s w (.inl ?_)
      rw [e]
      show V.bl _ = V.bl _
      rw [non_iff r]; rfl
    · obtain ⟨x, h1, e⟩ := isn_split (tr hf)
      refine ⟨G, W, env, x, W2, hw, he, h1, fun v H' G' s w r => ⟨t, ?_, k H' G' s w⟩⟩
      cases e
      rw [non_iff r]; rfl
def fNeg (fa : FX) : FX := fun env W => match fa env W with
  | some (.int i, W1) => some (.int (-i), W1)
  | _ => none
theorem r_neg (ha : PE X a (tEv S true fa)) : PE X (.UnaryOp .USub a pos) (tEv S false (fNeg fa)) :=
  pe_imp (pe_un un_neg ha) fun σ H Q ⟨G, W, env, z, W2, hw, he, hf, k⟩ => by
    unfold fNeg at hf
    split at hf
    · rename_i i W1 h1
      cases hf
      exact ⟨G, W, env, _, _, hw, he, h1, fun v H' G' s w r => ⟨i, r.int, k _ H' G' s w (.inl rfl)⟩⟩
    · cases hf
theorem tru_split {f : FX} {env : Evn} {W W2 : Wd} {t : Bool} (h : truF f env W = some (t, W2)) : ∃ d, f env W = some (d, W2) ∧ truD d = some t := by
  unfold truF at h
  cases h3 : f env W with
  | none => simp only [h3] at h; cases h
  | some p =>
    obtain ⟨d, W3⟩ := p
    simp only [h3] at h
    cases h4 : truD d with
    | none => simp only [h4] at h; cases h
    | some t' =>
      simp only [h4] at h
      cases h
      exact ⟨d, rfl, h4⟩
theorem tru_of {f : FX} {env : Evn} {W W2 : Wd} {t : Bool} {d : D} (h : f env W = some (d, W2)) (h' : truD d = some t) : truF f env W = some (t, W2) := by
  unfold truF
  simp only [h, h']
def fNot (fa : FX) : FX := fun env W => match fa env W with
  | some (x, W1) => (match truD x with
    | some t => some (.bl (!t), W1)
    | none => none)
  | none => none
theorem not_split {env : Evn} {W W2 : Wd} {z : D} (h : fNot fa env W = some (z, W2)) : ∃ t, truF fa env W = some (t, W2) ∧ z = .bl (!t) := by
  unfold fNot at h
  cases h3 : fa env W with
  | none => simp only [h3] at h; cases h
  | some p =>
    obtain ⟨d, W3⟩ := p
    simp only [h3] at h
    cases h4 : truD d with
    | none => simp only [h4] at h; cases h
    | some t' =>
      simp only [h4] at h
      cases h
      exact ⟨t', tru_of h3 h4, rfl⟩
theorem r_not (hK : X.K = S.K) (ha : PE X a (tEv S true fa)) (hta : PT X a (tEvT S (truF fa))) : PE X (.UnaryOp .Not a pos) (tEv S false (fNot fa)) ∧ PT X (.UnaryOp .Not a pos) (tEvT S (truF (fNot fa))) := by
  refine ⟨pe_imp (pe_notT ha) fun σ H Q ⟨G, W, env, z, W2, hw, he, hf, k⟩ => ?_, pt_imp (pt_not hta) fun σ H Q ⟨G, W, env, t, W2, hw, he, hf, k⟩ => ?_⟩
  · obtain ⟨t, h1, e⟩ := not_split hf
    obtain ⟨d, h2, h3⟩ := tru_split h1
    subst e
    exact ⟨G, W, env, d, W2, hw, he, h2, fun v H' G' s w r => ⟨t, by rw [hK]; exact truV w r h3, k _ H' G' s w (.inl rfl)⟩⟩
  · obtain ⟨d, h2, h3⟩ := tru_split hf
    obtain ⟨t', h1, e⟩ := not_split h2
    subst e
    cases h3
    exact ⟨G, W, env, t', W2, hw, he, h1, fun H' G' s w => k H' G' s w⟩
/-- truth by value -/
theorem r_tru (hK : X.K = S.K) (ha : PE X a (tEv S bo fa)) (h : ∀ whole, isTrue a X.env whole = (do let v ← whole; standAt a.pos; holding [v] (truthy v))) : PT X a (tEvT S (truF fa)) :=
  pt_imp (pt_truth ha h) fun σ H Q ⟨G, W, env, t, W2, hw, he, hf, k⟩ => by
    obtain ⟨d, h2, h3⟩ := tru_split hf
    exact ⟨G, W, env, d, W2, hw, he, h2, fun v H' G' s w r => ⟨t, by rw [hK]; exact truV w r h3, k H' G' s w⟩⟩
def fIte (fc fa fb : FX) : FX := fun env W => match fc env W with
  | some (v, W1) => (match truD v with
    | some true => fa env W1
    | some false => fb env W1
    | none => none)
  | none => none
theorem ite_split {env : Evn} {W : Wd} {r : D × Wd} (h : fIte fc fa fb env W = some r) : ∃ t W1, truF fc env W = some (t, W1) ∧ (if t = true then fa env W1 = some r else fb env W1 = some r) := by
  unfold fIte at h
  cases h3 : fc env W with
  | none => simp only [h3] at h; cases h
  | some p =>
    obtain ⟨d, W3⟩ := p
    simp only [h3] at h
    cases h4 : truD d with
    | none => simp only [h4] at h; cases h
    | some t' =>
      refine ⟨t', W3, tru_of h3 h4, ?_⟩
      cases t' with
      | true => simp only [h4] at h; rw [if_pos rfl]; exact h
      | false => simp only [h4] at h; rw [if_neg (by decide)]; exact h
theorem pt_ifExp {tA : TT} {t u : TT} (hc : PT X c tA) (ha : PT X a t) (hb : PT X b u) : PT X (.IfExp c a b pos) (fun σ H Q => tA σ H fun k H1 => if k = true then t σ H1 Q else u σ H1 Q) := by
  refine ⟨fun pins s σ H Q I h => ?_⟩
  show wpAny _ _ (isTrue c X.env (eval c X.env) >>= fun k => if k = true then isTrue a X.env (eval a X.env) else isTrue b X.env (eval b X.env)) _ _ _
  refine wpAny_bind (thn (hc.run pins s σ H _ I h) fun k s1 ⟨H1, I1, q⟩ => ?_)
  cases k with
  | true => exact ha.run pins s1 σ H1 Q I1 q
  | false => exact hb.run pins s1 σ H1 Q I1 q
theorem r_ite (hc : PT X c (tEvT S (truF fc))) (ha : PE X a (tEv S false fa)) (hb : PE X b (tEv S false fb)) (hta : PT X a (tEvT S (truF fa))) (htb : PT X b (tEvT S (truF fb))) :
    PE X (.IfExp c a b pos) (tEv S false (fIte fc fa fb)) ∧ PT X (.IfExp c a b pos) (tEvT S (truF (fIte fc fa fb))) := by
  refine ⟨pe_imp (pe_ifExp hc ha hb) fun σ H Q ⟨G, W, env, z, W2, hw, he, hf, k⟩ => ?_, pt_imp (pt_ifExp hc hta htb) fun σ H Q ⟨G, W, env, t, W2, hw, he, hf, k⟩ => ?_⟩
  · obtain ⟨t, W1, h1, h2⟩ := ite_split hf
    refine ⟨G, W, env, t, W1, hw, he, h1, fun H1 G1 s1 w1 => ?_⟩
    cases t with
    | true =>
      rw [if_pos rfl] at h2 ⊢
      exact ⟨G1, W1, env, z, W2, w1, he.step hw rfl s1, h2, fun v H' G' s' w' r => k v H' G' (s1.trans s') w' (r.elim .inl fun z => by cases z.1)⟩
    | false =>
      rw [if_neg (by decide)] at h2 ⊢
      exact ⟨G1, W1, env, z, W2, w1, he.step hw rfl s1, h2, fun v H' G' s' w' r => k v H' G' (s1.trans s') w' (r.elim .inl fun z => by cases z.1)⟩
  · obtain ⟨d, h3, h4⟩ := tru_split hf
    obtain ⟨t1, W1, h1, h2⟩ := ite_split h3
    refine ⟨G, W, env, t1, W1, hw, he, h1, fun H1 G1 s1 w1 => ?_⟩
    cases t1 with
    | true =>
      rw [if_pos rfl] at h2 ⊢
      exact ⟨G1, W1, env, t, W2, w1, he.step hw rfl s1, tru_of h2 h4, fun H' G' s' w' => k H' G' (s1.trans s') w'⟩
    | false =>
      rw [if_neg (by decide)] at h2 ⊢
      exact ⟨G1, W1, env, t, W2, w1, he.step hw rfl s1, tru_of h2 h4, fun H' G' s' w' => k H' G' (s1.trans s') w'⟩
def fAnd (op : Bool) (fa fb : FX) : FX := fun env W => match fa env W with
  | some (.bl t, W1) => if t = op then fb env W1 else some (.bl t, W1)
  | _ => none
theorem and_split {op : Bool} {env : Evn} {W : Wd} {r : D × Wd} (h : fAnd op fa fb env W = some r) : ∃ t W1, fa env W = some (.bl t, W1) ∧ (if t = op then fb env W1 = some r else r = (.bl t, W1)) := by
  unfold fAnd at h
  split at h
  · rename_i t W1 h1
    refine ⟨t, W1, h1, ?_⟩
    split at h
    · rename_i e; rw [if_pos e]; exact h
    · rename_i e; rw [if_neg e]; cases h; rfl
  · cases h
theorem r_and {rest : List Expr} (ha : PE X a (tEv S false fa)) (hb : PE X (.BoolOp .And (b :: rest) pos) (tEv S false fb)) (hta : PT X a (tEvT S (truF fa))) (htb : PW X (.BoolOp .And (b :: rest) pos) (tEvT S (truF fb))) :
    PE X (.BoolOp .And (a :: b :: rest) pos) (tEv S false (fAnd true fa fb)) ∧ PW X (.BoolOp .And (a :: b :: rest) pos) (tEvT S (truF (fAnd true fa fb))) := by
  refine ⟨pe_imp (pe_and ha hb) fun σ H Q ⟨G, W, env, z, W2, hw, he, hf, k⟩ => ?_, pw_imp (pw_and hta htb) fun σ H Q ⟨G, W, env, t, W2, hw, he, hf, k⟩ => ?_⟩
  · obtain ⟨t, W1, h1, h2⟩ := and_split hf
    refine ⟨G, W, env, .bl t, W1, hw, he, h1, fun v H1 G1 s1 w1 r1 => ⟨t, r1.bl, ?_⟩⟩
    cases t with
    | true =>
      rw [if_pos rfl] at h2 ⊢
      exact ⟨G1, W1, env, z, W2, w1, he.step hw rfl s1, h2, fun v H' G' s' w' r => k v H' G' (s1.trans s') w' (r.elim .inl fun z => by cases z.1)⟩
    | false =>
      rw [if_neg (by decide)] at h2 ⊢
      cases h2
      exact k _ H1 G1 s1 w1 (.inl rfl)
  · obtain ⟨d, h3, h4⟩ := tru_split hf
    obtain ⟨t1, W1, h1, h2⟩ := and_split h3
    refine ⟨G, W, env, t1, W1, hw, he, tru_of h1 rfl, fun H1 G1 s1 w1 => ?_⟩
    cases t1 with
    | true =>
      rw [if_pos rfl] at h2 ⊢
      exact ⟨G1, W1, env, t, W2, w1, he.step hw rfl s1, tru_of h2 h4, fun H' G' s' w' => k H' G' (s1.trans s') w'⟩
    | false =>
      rw [if_neg (by decide)] at h2 ⊢
      cases h2
      cases h4
      exact k H1 G1 s1 w1
theorem r_or {rest : List Expr} (ha : PE X a (tEv S false fa)) (hb : PE X (.BoolOp .Or (b :: rest) pos) (tEv S false fb)) (hta : PT X a (tEvT S (truF fa))) (htb : PW X (.BoolOp .Or (b :: rest) pos) (tEvT S (truF fb))) :
    PE X (.BoolOp .Or (a :: b :: rest) pos) (tEv S false (fAnd false fa fb)) ∧ PW X (.BoolOp .Or (a :: b :: rest) pos) (tEvT S (truF (fAnd false fa fb))) := by
  refine ⟨pe_imp (pe_or ha hb) fun σ H Q ⟨G, W, env, z, W2, hw, he, hf, k⟩ => ?_, pw_imp (pw_or hta htb) fun σ H Q ⟨G, W, env, t, W2, hw, he, hf, k⟩ => ?_⟩
  · obtain ⟨t, W1, h1, h2⟩ := and_split hf
    refine ⟨G, W, env, .bl t, W1, hw, he, h1, fun v H1 G1 s1 w1 r1 => ⟨t, r1.bl, ?_⟩⟩
    cases t with
    | false =>
      rw [if_neg (by decide)]
      rw [if_pos rfl] at h2
      exact ⟨G1, W1, env, z, W2, w1, he.step hw rfl s1, h2, fun v H' G' s' w' r => k v H' G' (s1.trans s') w' (r.elim .inl fun z => by cases z.1)⟩
    | true =>
      rw [if_pos rfl]
      rw [if_neg (by decide)] at h2
      cases h2
      exact k _ H1 G1 s1 w1 (.inl rfl)
  · obtain ⟨d, h3, h4⟩ := tru_split hf
    obtain ⟨t1, W1, h1, h2⟩ := and_split h3
    refine ⟨G, W, env, t1, W1, hw, he, tru_of h1 rfl, fun H1 G1 s1 w1 => ?_⟩
    cases t1 with
    | false =>
      rw [if_neg (by decide)]
      rw [if_pos rfl] at h2
      exact ⟨G1, W1, env, t, W2, w1, he.step hw rfl s1, tru_of h2 h4, fun H' G' s' w' => k H' G' (s1.trans s') w'⟩
    | true =>
      rw [if_pos rfl]
      rw [if_neg (by decide)] at h2
      cases h2
      cases h4
      exact k H1 G1 s1 w1

/-! ### subscripts, slices -/
def fIx (fa fb : FX) : FX := fun env W => match fa env W with
  | some (x, W1) => (match fb env W1 with
    | some (y, W2) => (match ixD W2 x y with
      | some z => some (z, W2)
      | none => none)
    | none => none)
  | none => none
theorem r_ix {m : Nat} (hr : Room m X.A) (hK : X.K = S.K) (ha : PE X a (tEv S true fa)) (hb : PE X b (tEv S true fb)) (hs : PlainIx b) : PE X (.Subscript a b pos) (tEv S false (fIx fa fb)) := by
  refine pe_imp (pe_ix (ix_all hr) ha hb hs) fun σ H Q ⟨G, W, env, z, W2, hw, he, hf, k⟩ => ?_
  unfold fIx at hf
  cases h1 : fa env W with
  | none => simp only [h1] at hf; cases hf
  | some p =>
    obtain ⟨x, W1⟩ := p
    simp only [h1] at hf
    cases h2 : fb env W1 with
    | none => simp only [h2] at hf; cases hf
    | some q =>
      obtain ⟨y, W2'⟩ := q
      simp only [h2] at hf
      cases h3 : ixD W2' x y with
      | none => simp only [h3] at hf; cases hf
      | some z' =>
        simp only [h3] at hf
        cases hf
        exact ev2 hw he h1 h2 fun vx vy H2 G2 s2 w2 e2 r1 r2 => by
          rw [hK]
          exact ix_sound w2 r1 r2 h3 fun v H' G' s' w' r' => k v H' G' (s2.trans s') w' (.inl r')
def fO (f : Option FX) : Evn → Wd → Option (Option Int × Wd) := fun env W => match f with
  | none => some (none, W)
  | some f => (match f env W with
    | some (.int i, W1) => some (some i, W1)
    | _ => none)
theorem r_po {e : Option Expr} {f : Option FX} (h : match e, f with | none, none => True | some e, some f => PE X e (tEv S true f) | _, _ => False) : PO X e (tEvO S (fO f)) := by
  cases e with
  | none =>
    cases f with
    | some f => exact h.elim
    | none => exact ⟨fun pins s σ H Q I ⟨G, W, env, z, W2, hw, he, hf, k⟩ => by
        cases hf
        exact po_none.run pins s σ H Q I (k H G Step.refl hw)⟩
  | some e =>
    cases f with
    | none => exact h.elim
    | some f => exact ⟨fun pins s σ H Q I ⟨G, W, env, z, W2, hw, he, hf, k⟩ => by
        unfold fO at hf
        simp only at hf
        split at hf
        · rename_i i W1 h1
          cases hf
          exact (po_some h).run pins s σ H Q I ⟨G, W, env, _, _, hw, he, h1, fun v H' G' s' w' r => ⟨i, r.int, k H' G' s' w'⟩⟩
        · cases hf⟩
def fSl (fa : FX) (fl fh : Evn → Wd → Option (Option Int × Wd)) : FX := fun env W => match fa env W with
  | some (x, W1) => (match fl env W1 with
    | some (l, W2) => (match fh env W2 with
      | some (h, W3) => (match slD x l h with
        | some z => some (z, W3)
        | none => none)
      | none => none)
    | none => none)
  | none => none
theorem r_sl {lo hi : Option Expr} {fl fh : Evn → Wd → Option (Option Int × Wd)} {p2 : Pos} (hK : X.K = S.K) (ha : PE X a (tEv S true fa)) (hl : PO X lo (tEvO S fl)) (hh : PO X hi (tEvO S fh)) : PE X (.Subscript a (.Slice lo hi none p2) pos) (tEv S false (fSl fa fl fh)) := by
  refine pe_imp (pe_slice sl_list ha hl hh) fun σ H Q ⟨G, W, env, z, W2, hw, he, hf, k⟩ => ?_
  unfold fSl at hf
  cases h1 : fa env W with
  | none => simp only [h1] at hf; cases hf
  | some p =>
    obtain ⟨x, W1⟩ := p
    simp only [h1] at hf
    cases h2 : fl env W1 with
    | none => simp only [h2] at hf; cases hf
    | some q =>
      obtain ⟨l, W2'⟩ := q
      simp only [h2] at hf
      cases h3 : fh env W2' with
      | none => simp only [h3] at hf; cases hf
      | some q =>
        obtain ⟨u, W3⟩ := q
        simp only [h3] at hf
        cases h4 : slD x l u with
        | none => simp only [h4] at hf; cases hf
        | some z' =>
          simp only [h4] at hf
          cases hf
          exact ⟨G, W, env, x, W1, hw, he, h1, fun vx H1 G1 s1 w1 r1 => ⟨G1, W1, env, l, W2', w1, he.step hw rfl s1, h2, fun H2 G2 s2 w2 => ⟨G2, W2', env, u, _, w2, (he.step hw rfl s1).step w1 rfl s2, h3, fun H3 G3 s3 w3 => by
            rw [hK]
            exact sl_sound w3 ((r1.step w1 (he.step hw rfl s1) s2).step w2 ((he.step hw rfl s1).step w1 rfl s2) s3) h4 fun v H' G' s' w' r' => k v H' G' (((s1.trans s2).trans s3).trans s') w' (.inl r')⟩⟩⟩
end
end Pv
end
section
set_option Elab.async false
set_option linter.all false
set_option maxRecDepth 100000
set_option maxHeartbeats 2000000
/-! Rules of displays, calls, fields. -/
namespace Pv
open PySem PySem.Spec PyProof.Rows L2
abbrev FXs := Evn → Wd → Option (List D × Wd)
abbrev CF := List D → Wd → Option (D × Wd)
/-- what a def does, by its pure function -/
def spRun (S : Su) (c : CF) : Sp := fun vs H Q _ => ∃ G W ds r W', SW S G W H ∧ Reps S G W.length ds vs ∧ c ds W = some (r, W') ∧
  ∀ v H' G', Step S G W.length H G' W'.length H' → SW S G' W' H' → Rep S G' W'.length r v → Q v H'
def noX : CXT := fun _ _ _ _ _ _ => False
section
variable {S : Su} {X : Cx} {e a b c : Expr} {fa fb fc : FX} {pos : Pos} {bo : Bool}
theorem SW.notTab {G : Gh} {W : Wd} {H : Hp} (hw : SW S G W H) {p : Addr} (h0 : H p = none) : p ∉ S.tabs := fun z => by
  obtain ⟨ps, e, _⟩ := hw.tab p z
  rw [h0] at e; cases e
/-- a new list is frozen -/
def fFr (f : FXs) : FX := fun env W => match f env W with
    | some (ds, W1) => some (.lst ds, W1)
    | none => none
theorem fr_imp {f : FXs} {σ : L2.St} {H : Hp} {Q : VK} (q : tEv S false (fFr f) σ H Q) : tEvF S f σ H Q := by
    obtain ⟨G, W, env, z, W2, hw, he, hf, k⟩ := q
    unfold fFr at hf
    cases h1 : f env W with
    | none => simp only [h1] at hf; cases hf
    | some p =>
      obtain ⟨ds, W1⟩ := p
      simp only [h1] at hf
      cases hf
      refine ⟨G, W, env, ds, _, hw, he, h1, fun p vs H' G' s w hp r hF hc h0 => ?_⟩
      refine k _ H' (G'.frz p (.lst vs)) (s.take h0 hF) (w.take hp hF hc (hw.notTab h0)) (.inl ⟨p, vs, rfl, ?_, r.mono (Gx.frz hF)⟩)
      show upd G'.F p _ p = _
      rw [upd_same]
/-- a new list is a cell -/
def fCel (f : FXs) : FX := fun env W => match f env W with
    | some (ds, W1) => some (.ref W1.length, W1 ++ [.lst ds])
    | none => none
theorem cel_imp {f : FXs} {σ : L2.St} {H : Hp} {Q : VK} (q : tEv S false (fCel f) σ H Q) : tEvF S f σ H Q := by
    obtain ⟨G, W, env, z, W2, hw, he, hf, k⟩ := q
    unfold fCel at hf
    cases h1 : f env W with
    | none => simp only [h1] at hf; cases hf
    | some p =>
      obtain ⟨ds, W1⟩ := p
      simp only [h1] at hf
      cases hf
      refine ⟨G, W, env, ds, W1, hw, he, h1, fun p vs H' G' s w hp r hF hc h0 => ?_⟩
      have len : (W1 ++ [Cell.lst ds]).length = W1.length + 1 := by simp
      refine k _ H' (G'.new W1.length p) (by rw [len]; exact s.takeC h0) (w.takeC hp hF hc ⟨vs, rfl, r⟩) (.inl ⟨?_, by rw [len]; exact Nat.lt_succ_self _⟩)
      show V.ref p = V.ref (if W1.length = W1.length then p else _)
      rw [if_pos rfl]
theorem r_fr {f : FXs} (h : PE X e (tEvF S f)) : PE X e (tEv S false (fFr f)) := pe_imp h fun σ H Q q => fr_imp q
theorem r_cel {f : FXs} (h : PE X e (tEvF S f)) : PE X e (tEv S false (fCel f)) := pe_imp h fun σ H Q q => cel_imp q
theorem res_cell {G : Gh} {W W1 : Wd} {H H1 : Hp} {env : Evn} {σ : L2.St} {Q : VK} {c : Cell} {o : HO} {p : Addr} (k : ∀ v H' G', Step S G W.length H G' (W1 ++ [c]).length H' → SW S G' (W1 ++ [c]) H' → RepB S G' (W1 ++ [c]).length env σ H' bo (.ref W1.length) v → Q v H')
    {G1 : Gh} (s : Step S G W.length H G1 W1.length H1) (w : SW S G1 W1 H1) (h0 : H1 p = none) (r : RepC S (G1.new W1.length p) (W1.length + 1) c o) : Q (.ref p) (upd H1 p o) := by
  have len : (W1 ++ [c]).length = W1.length + 1 := by simp
  obtain ⟨w2, s2⟩ := w.cell h0 r
  refine k _ _ (G1.new W1.length p) (by rw [len]; exact s.trans s2) w2 (.inl ⟨?_, by rw [len]; exact Nat.lt_succ_self _⟩)
  show V.ref p = V.ref (if W1.length = W1.length then p else _)
  rw [if_pos rfl]
theorem r_newK : PE X (.Dict [] [] pos) (tEv S false fun _ W => some (.ref W.length, W ++ [.dK []])) :=
  pe_imp pe_dnewK fun σ H Q ⟨G, W, env, z, W2, hw, he, hf, k⟩ => by
    cases hf
    exact fun p hp => res_cell k Step.refl hw hp ⟨[], rfl, rfl, List.nodup_nil⟩
theorem r_newT : PE X (.Dict [] [] pos) (tEv S false fun _ W => some (.ref W.length, W ++ [.dT []])) :=
  pe_imp pe_dnewT fun σ H Q ⟨G, W, env, z, W2, hw, he, hf, k⟩ => by
    cases hf
    exact fun p hp => res_cell k Step.refl hw hp ⟨[], rfl, rfl, List.nodup_nil⟩

/-! ### arguments -/
def fNil : FXs := fun _ W => some ([], W)
def fCons (fa : FX) (fs : FXs) : FXs := fun env W => match fa env W with
  | some (d, W1) => (match fs env W1 with
    | some (ds, W2) => some (d :: ds, W2)
    | none => none)
  | none => none
theorem r_nil : PA X [] (tEvs S bo fNil) := pa_imp pa_nil fun σ H Q ⟨G, W, env, z, W2, hw, he, hf, k⟩ => by
  cases hf
  exact k [] H G Step.refl hw rfl
theorem r_cons {es : List Expr} {fs : FXs} (ha : PE X a (tEv S bo fa)) (hes : PA X es (tEvs S bo fs)) (hs : starEach (a :: es) X.env = (false, eval a X.env) :: starEach es X.env) : PA X (a :: es) (tEvs S bo (fCons fa fs)) :=
  pa_imp (pa_cons ha hes hs) fun σ H Q ⟨G, W, env, z, W2, hw, he, hf, k⟩ => by
    unfold fCons at hf
    cases h1 : fa env W with
    | none => simp only [h1] at hf; cases hf
    | some p =>
      obtain ⟨x, W1⟩ := p
      simp only [h1] at hf
      cases h2 : fs env W1 with
      | none => simp only [h2] at hf; cases hf
      | some q =>
        obtain ⟨ds, W2'⟩ := q
        simp only [h2] at hf
        cases hf
        exact ⟨G, W, env, x, W1, hw, he, h1, fun v H1 G1 s1 w1 r1 => ⟨G1, W1, env, ds, _, w1, he.step hw rfl s1, h2, fun vs H2 G2 s2 w2 r2 => k _ H2 G2 (s1.trans s2) w2 ⟨v, vs, rfl, r1.step w1 (he.step hw rfl s1) s2, r2⟩⟩⟩
def fTup (fs : FXs) : FX := fun env W => match fs env W with
  | some (ds, W1) => if sl2 ds.length then some (.tup ds, W1) else none
  | none => none
theorem r_tup {es : List Expr} {x1 : Nat} {fs : FXs} (h : PA X es (tEvs S false fs)) : PE X (.Tuple es x1 pos) (tEv S false (fTup fs)) :=
  pe_imp (pe_tup h) fun σ H Q ⟨G, W, env, z, W2, hw, he, hf, k⟩ => by
    unfold fTup at hf
    cases h1 : fs env W with
    | none => simp only [h1] at hf; cases hf
    | some p =>
      obtain ⟨ds, W1⟩ := p
      simp only [h1] at hf
      split at hf
      · rename_i hl
        cases hf
        refine ⟨G, W, env, ds, _, hw, he, h1, fun vs H1 G1 s1 w1 r1 => ⟨by rw [r1.reps.length]; exact hl, fun p hp => ?_⟩⟩
        exact Res.newT (ds := ds) (fun v H' G' s w r => k v H' G' (s1.trans s) w (.inl r)) w1 r1.reps hp
      · cases hf
/-- a list display, new -/
theorem r_lst {es : List Expr} {fs : FXs} (h : PA X es (tEvs S false fs)) : PE X (.List es pos) (tEvF S fun env W => match fs env W with
    | some (ds, W1) => if sl2 ds.length then some (ds, W1) else none
    | none => none) :=
  pe_imp (pe_lst h) fun σ H Q ⟨G, W, env, z, W2, hw, he, hf, k⟩ => by
    cases h1 : fs env W with
    | none => simp only [h1] at hf; cases hf
    | some p =>
      obtain ⟨ds, W1⟩ := p
      simp only [h1] at hf
      split at hf
      · rename_i hl
        cases hf
        refine ⟨G, W, env, _, _, hw, he, h1, fun vs H1 G1 s1 w1 r1 => ⟨by rw [r1.reps.length]; exact hl, fun p hp => ?_⟩⟩
        obtain ⟨w2, s2⟩ := w1.loose (o := .lst vs) hp
        exact k p vs _ G1 (s1.trans s2) w2 upd_same r1.reps (w1.notF hp) (w1.notC hp) (s1.back hp)
      · cases hf

/-! ### calls -/
variable {P : Ax} {Γ : Ctx} {n : Nat}
structure FnAt (S : Su) (P : Ax) (n f : Nat) (c : CF) : Prop where
  ok : FnOk P.prog P.w S.K P.mg P.base noX n (P.fa f) (P.fd f) (P.ps f) (spRun S c)
  bind : Binds S.K (P.fd f) (P.ps f) []
theorem FnAt.run (hX : XOk S P Γ m X) {f : Nat} {c : CF} (F : FnAt S P n f c) : FnOk X.prog X.w X.K X.mg X.base noX n (P.fa f) (P.fd f) (P.ps f) (spRun S c) ∧ Binds X.K (P.fd f) (P.ps f) [] := by
  rw [hX.prog, hX.w, hX.K, hX.mg, hX.base]
  exact ⟨F.ok, F.bind⟩
theorem pass_no {E : XK} : Passes noX X E := fun _ _ _ _ _ _ _ h => h.elim
def fCall (c : CF) (fs : FXs) : FX := fun env W => match fs env W with
  | some (ds, W1) => c ds W1
  | none => none
theorem call_core {c : CF} {fs : FXs} {σ : L2.St} {H : Hp} {Q : VK} {E : XK} (h : tEv S false (fCall c fs) σ H Q) : tCall (spRun S c) [] E (tEvs S false fs) σ H Q := by
  obtain ⟨G, W, env, z, W2, hw, he, hf, k⟩ := h
  unfold fCall at hf
  cases h1 : fs env W with
  | none => simp only [h1] at hf; cases hf
  | some p =>
    obtain ⟨ds, W1⟩ := p
    simp only [h1] at hf
    refine ⟨G, W, env, ds, W1, hw, he, h1, fun vs H1 G1 s1 w1 r1 => ?_⟩
    show spRun S c (vs ++ []) H1 Q E
    rw [List.append_nil]
    exact ⟨G1, W1, ds, z, W2, w1, r1.reps, hf, fun v H' G' s w r => k v H' G' (s1.trans s) w (.inl r)⟩
/-- no star among them -/
def NoStar (X : Cx) (es : List Expr) : Prop := ∀ e ∈ es, ∀ r : List Expr, starEach (e :: r) X.env = (false, eval e X.env) :: starEach r X.env
theorem NoStar.flags : ∀ {es : List Expr}, NoStar X es → (starEach es X.env).all (fun x => !x.1) = true ∧ (starEach es X.env).any (·.1) = false
  | [], _ => ⟨rfl, rfl⟩
  | e :: r, h => by
    have h1 := h e (by simp) r
    obtain ⟨a, b⟩ := NoStar.flags (es := r) fun e' he' => h e' (by simp [he'])
    rw [h1]
    exact ⟨by simp [a], by simp [b]⟩
theorem backTo_flags {es : List Expr} : ((backTo pos (starEach es X.env)).all (fun x => !x.1) = (starEach es X.env).all (fun x => !x.1)) ∧ ((backTo pos (starEach es X.env)).any (·.1) = (starEach es X.env).any (·.1)) := by
  unfold backTo
  constructor
  · rw [List.all_map]; rfl
  · rw [List.any_map]; rfl
theorem vals_nil : Vals [] [] := .nil
theorem r_call (hX : XOk S P Γ n X) {x : Str} {p : Pos} {es : List Expr} {fs : FXs} {f : Nat} {c : CF} (F : FnAt S P n f c) (hg : Gl X x) (hd : (x == ("__debug__" : Str)) = false) (hm : P.mg x = some (.ref (P.fa f))) (hk : PySem.W.keepIn S.K (.ref (P.fa f)) = true)
    (ha : PA X es (tEvs S false fs)) (hs : NoStar X es) (h0 : es = [] → fs = fNil) : PE X (.Call (.Name x p) es [] pos) (tEv S false (fCall c fs)) := by
  obtain ⟨F1, B1⟩ := F.run hX
  have hm' : X.mg x = some (.ref (P.fa f)) := by rw [hX.mg]; exact hm
  have hk' : PySem.W.keepIn X.K (.ref (P.fa f)) = true := by rw [hX.K]; exact hk
  cases es with
  | nil =>
    rw [h0 rfl]
    refine pe_imp (pe_call0 (E := fun _ _ _ => False) F1 hX.room hg hm' hk' B1 vals_nil pass_no hd) fun σ H Q ⟨G, W, env, z, W2, hw, he, hf, k⟩ => ?_
    exact ⟨G, W, [], z, W2, hw, rfl, hf, fun v H' G' s w r => k v H' G' s w (.inl r)⟩
  | cons e es =>
    exact pe_imp (pe_call (E := fun _ _ _ => False) F1 hX.room hg hm' hk' B1 vals_nil pass_no ha hd (hs e (by simp) es) (by rw [backTo_flags.2]; exact (NoStar.flags fun e' he' => hs e' (by simp [he'])).2)) fun σ H Q h => call_core h
def fNew (i : Nat) (c : CF) (fs : FXs) : FX := fun env W => match fs env W with
  | some (ds, W1) => (match c (.ref W1.length :: ds) (W1 ++ [.ins i []]) with
    | some (.non, W2) => some (.ref W1.length, W2)
    | _ => none)
  | none => none
theorem new_core {i : Nat} {c : CF} {fs : FXs} {σ : L2.St} {H : Hp} {Q : VK} {E : XK} (h : tEv S false (fNew i c fs) σ H Q) : tMake (S.cA i) (spRun S c) [] E (tEvs S false fs) σ H Q := by
  obtain ⟨G, W, env, z, W2, hw, he, hf, k⟩ := h
  unfold fNew at hf
  cases h1 : fs env W with
  | none => simp only [h1] at hf; cases hf
  | some p =>
    obtain ⟨ds, W1⟩ := p
    simp only [h1] at hf
    split at hf
    · rename_i W3 h2
      cases hf
      refine ⟨G, W, env, ds, W1, hw, he, h1, fun vs H1 G1 s1 w1 r1 x dx hx hdx hne => ?_⟩
      show spRun S c (.ref x :: (vs ++ [])) _ _ E
      rw [List.append_nil]
      obtain ⟨w2, s2⟩ := w1.loose (o := .own x) hdx
      have hx2 : upd H1 dx (HO.own x) x = none := by rw [upd_ne (Ne.symm hne)]; exact hx
      obtain ⟨w3, s3⟩ := w2.cell (c := .ins i []) (o := .ins (S.cA i) dx []) hx2 ⟨dx, [], rfl, rfl⟩
      have len : (W1 ++ [Cell.ins i []]).length = W1.length + 1 := by simp
      have ip : (G1.new W1.length x).ι W1.length = x := by
        show (if W1.length = W1.length then x else G1.ι W1.length) = _
        rw [if_pos rfl]
      have r0 : Rep S (G1.new W1.length x) (W1 ++ [Cell.ins i []]).length (.ref W1.length) (.ref x) := ⟨by rw [ip], by rw [len]; exact Nat.lt_succ_self _⟩
      have rs : Reps S (G1.new W1.length x) (W1 ++ [Cell.ins i []]).length ds vs := r1.reps.mono (by rw [len]; exact (s2.trans s3).x)
      refine ⟨G1.new W1.length x, W1 ++ [.ins i []], .ref W1.length :: ds, .non, _, w3, ⟨.ref x, vs, rfl, r0, rs⟩, h2, fun v H' G' s w r => ⟨r, ?_⟩⟩
      have st := (s1.trans s2).trans (s3.trans (by rw [len] at s; exact s))
      refine k _ H' G' st w (.inl ⟨?_, ?_⟩)
      · have : G'.ι W1.length = (G1.new W1.length x).ι W1.length := s.x.ι _ (by rw [len]; exact Nat.lt_succ_self _)
        rw [this, ip]
      · have := s.x.n
        rw [len] at this
        exact this
    · cases hf
theorem r_new (hX : XOk S P Γ (n + 1) X) {x : Str} {p : Pos} {es : List Expr} {fs : FXs} {f i : Nat} {c : CF} (F : FnAt S P n f c) (M : Mk S.K (S.cA i) (P.fa f)) (hg : Gl X x) (hd : (x == ("__debug__" : Str)) = false) (hm : P.mg x = some (.ref (S.cA i)))
    (ha : PA X es (tEvs S false fs)) (hs : NoStar X es) (h0 : es = [] → fs = fNil) : PE X (.Call (.Name x p) es [] pos) (tEv S false (fNew i c fs)) := by
  obtain ⟨F1, B1⟩ := F.run hX
  have hm' : X.mg x = some (.ref (S.cA i)) := by rw [hX.mg]; exact hm
  have M' : Mk X.K (S.cA i) (P.fa f) := by rw [hX.K]; exact M
  cases es with
  | nil =>
    rw [h0 rfl]
    refine pe_imp (pe_make0 (E := fun _ _ _ => False) M' F1 hX.room hg hm' B1 vals_nil pass_no hd) fun σ H Q h => ?_
    have := new_core (E := fun _ _ _ => False) h
    obtain ⟨G, W, env, ds, W1, hw, he, h1, k⟩ := this
    cases h1
    exact k [] H G Step.refl hw rfl
  | cons e es =>
    exact pe_imp (pe_make (E := fun _ _ _ => False) M' F1 hX.room hg hm' B1 vals_nil pass_no ha hd (hs e (by simp) es) (by rw [backTo_flags.2]; exact (NoStar.flags fun e' he' => hs e' (by simp [he'])).2)) fun σ H Q h => new_core h
/-! ### fields -/
theorem base_of {o : Expr} (h : noSup o = true) (m : Str) : attributeBase o m X.env (eval o X.env) = eval o X.env := by
  cases o with
  | Call f es ks p =>
    cases f with
    | Name x q =>
      cases es with
      | nil =>
        cases ks with
        | nil => cases h
        | cons _ _ => rfl
      | cons _ _ => rfl
    | _ => rfl
  | _ => rfl
theorem kv_look {G : Gh} {n : Nat} {f : Str} : ∀ {fs : List (Str × D)} {us : List (Str × V)}, RepKV S G n fs us → (∀ d, fs.lookup f = some d → ∃ v, us.lookup f = some v ∧ Rep S G n d v) ∧ (fs.lookup f = none → us.lookup f = none)
  | [], us, h => by
    cases h
    exact ⟨fun d hd => by simp at hd, fun _ => rfl⟩
  | (g, d') :: r, us, ⟨v, t, e, r1, r2⟩ => by
    subst e
    obtain ⟨a, b⟩ := kv_look (f := f) r2
    rw [List.lookup_cons, List.lookup_cons]
    cases q : f == g with
    | true => exact ⟨fun d hd => by cases hd; exact ⟨v, rfl, r1⟩, fun hn => by cases hn⟩
    | false => exact ⟨a, b⟩
theorem ins_at {G : Gh} {W : Wd} {H : Hp} {env : Evn} {σ : L2.St} {r : D} {v : V} {i : Nat} {fs : List (Str × D)} (hw : SW S G W H) (rv : RepB S G W.length env σ H bo r v) (h : insOf W r = some (i, fs)) :
    ∃ m dx us, r = .ref m ∧ W[m]? = some (.ins i fs) ∧ v = .ref (G.ι m) ∧ H (G.ι m) = some (.ins (S.cA i) dx us) ∧ RepKV S G W.length fs us := by
  unfold insOf at h
  split at h
  · rename_i m
    split at h
    · rename_i c gs hc
      cases h
      obtain ⟨u, hu, dx, us, e, rr⟩ := hw.cel m _ hc
      subst e
      exact ⟨m, dx, us, rfl, hc, rv.ref.1, hu, rr⟩
    · cases h
  · cases h
def fFld (g : Pg) (fo : FX) (f : Str) : FX := fun env W => match fo env W with
  | some (r, W1) => (match insOf W1 r with
    | some (c, fs) => if g.na c f = true then (match fs.lookup f with
      | some d => some (d, W1)
      | none => none) else none
    | none => none)
  | none => none
theorem r_fld {g : Pg} (hK : X.K = S.K) (hna : ∀ c f, g.na c f = true → Cls S.K (S.cA c) ∧ NoAttr S.K (S.cA c) f) {o : Expr} {fo : FX} {f : Str} (ho : PE X o (tEv S false fo)) (hs : noSup o = true) : PE X (.Attribute o f pos) (tEv S false (fFld g fo f)) :=
  pe_imp (pe_fld ho (base_of hs f)) fun σ H Q ⟨G, W, env, z, W2, hw, he, hf, k⟩ => by
    unfold fFld at hf
    cases h1 : fo env W with
    | none => simp only [h1] at hf; cases hf
    | some p =>
      obtain ⟨r, W1⟩ := p
      simp only [h1] at hf
      cases h2 : insOf W1 r with
      | none => simp only [h2] at hf; cases hf
      | some q =>
        obtain ⟨i, fs⟩ := q
        simp only [h2] at hf
        split at hf
        · rename_i hn
          cases h3 : fs.lookup f with
          | none => simp only [h3] at hf; cases hf
          | some d =>
            simp only [h3] at hf
            cases hf
            refine ⟨G, W, env, r, _, hw, he, h1, fun v H1 G1 s1 w1 r1 => ?_⟩
            obtain ⟨m, dx, us, e, _, ev, hm, rr⟩ := ins_at w1 r1 h2
            obtain ⟨u, hu, ru⟩ := (kv_look (f := f) rr).1 _ h3
            obtain ⟨c1, c2⟩ := hna i f hn
            rw [hK]
            exact ⟨_, _, dx, us, u, ev, hm, c1, c2, hu, k u H1 G1 s1 w1 (.inl ru)⟩
        · cases hf
/-! ### methods -/
def fMeth (g : Pg) (cl : Nat → CF) (m : Str) (fo : FX) (fs : FXs) : FX := fun env W => match fo env W with
  | some (r, W1) => (match insOf W1 r with
    | some (c, gs) => (match g.mt c m with
      | some f => if gs.lookup m = none then (match fs env W1 with
        | some (ds, W2) => cl f (r :: ds) W2
        | none => none) else none
      | none => none)
    | none => none)
  | none => none
structure MtAt (S : Su) (P : Ax) (n : Nat) (c : Nat) (m : Str) (f : Nat) (c' : CF) : Prop where
  cls : Cls S.K (S.cA c)
  mth : Meth S.K (S.cA c) m (P.fa f)
  fn : FnAt S P n f c'
theorem meth_eval {o : Expr} {m : Str} {apos : Pos} {es : List Expr} (hs : noSup o = true) (hl : (apos.endLine == pos.line) = true) (hn : NoStar X es) (h30 : es.length < 30) :
    eval (.Call (.Attribute o m apos) es [] pos) X.env = (do
      let ov ← eval o X.env
      standAt apos.atName
      let (f, first) ← holding [ov] (getMethod ov m (do return (← importBound o X.env).getD true))
      callWith pos f first (backTo pos (starEach es X.env)) (backToKw pos (keywordEach [] X.env))) := by
  have hf : methodCallForm (es.length + ([] : List Keyword).length) (backTo pos (starEach es X.env)) (backToKw pos (keywordEach [] X.env)) = true := by
    unfold methodCallForm
    rw [backTo_flags.1, (NoStar.flags hn).1]
    show (true && true && decide (es.length + 0 + 0 < 30)) = true
    simpa using h30
  show (do
    let ov ← attributeBase o m X.env (eval o X.env)
    standAt apos.atName
    methodCall o m apos pos X.env ov (es.length + ([] : List Keyword).length) (backTo pos (starEach es X.env)) (backToKw pos (keywordEach [] X.env))) = _
  rw [base_of hs m]
  unfold methodCall
  rw [hf]
  have hp : methodCallPos true o X.env apos pos = pure pos := by
    unfold methodCallPos
    rw [hl]; rfl
  rw [hp]
  rfl
theorem r_meth {g : Pg} {cl : Nat → CF} (hX : XOk S P Γ n X) {o : Expr} {fo : FX} {m : Str} {apos : Pos} {es : List Expr} {fs : FXs} (hM : ∀ c f, g.mt c m = some f → MtAt S P n c m f (cl f))
    (ho : PE X o (tEv S false fo)) (hs : noSup o = true) (hl : (apos.endLine == pos.line) = true) (hn : NoStar X es) (h30 : es.length < 30) (ha : PA X es (tEvs S false fs)) (h0 : es = [] → fs = fNil) :
    PE X (.Call (.Attribute o m apos) es [] pos) (tEv S false (fMeth g cl m fo fs)) := by
  refine ⟨fun pins s σ H Q I ⟨G, W, env, z, W2, hw, he, hf, k⟩ => ?_⟩
  unfold fMeth at hf
  cases h1 : fo env W with
  | none => simp only [h1] at hf; cases hf
  | some p =>
    obtain ⟨r, W1⟩ := p
    simp only [h1] at hf
    cases h2 : insOf W1 r with
    | none => simp only [h2] at hf; cases hf
    | some q =>
      obtain ⟨i, gs⟩ := q
      simp only [h2] at hf
      cases h3 : g.mt i m with
      | none => simp only [h3] at hf; cases hf
      | some f =>
        simp only [h3] at hf
        split at hf
        · rename_i hlk
          obtain ⟨c1, c2, F⟩ := hM i f h3
          obtain ⟨F1, B1⟩ := F.run hX
          have c1' : Cls X.K (S.cA i) := by rw [hX.K]; exact c1
          have c2' : Meth X.K (S.cA i) m (P.fa f) := by rw [hX.K]; exact c2
          have core : ∀ {Q' : List V → Hp → Prop} , (∀ (v : V) (H1 : Hp) (G1 : Gh), Step S G W.length H G1 W1.length H1 → SW S G1 W1 H1 → RepB S G1 W1.length env σ H1 false r v → ∃ a dx us, v = .ref a ∧ H1 a = some (.ins (S.cA i) dx us) ∧ us.lookup m = none) := by
            intro Q' v H1 G1 s1 w1 r1
            obtain ⟨m', dx, us, e, _, ev, hm, rr⟩ := ins_at w1 r1 h2
            exact ⟨_, dx, us, ev, hm, (kv_look (f := m) rr).2 hlk⟩
          cases h4 : fs env W1 with
          | none => simp only [h4] at hf; cases hf
          | some q =>
            obtain ⟨ds, W2'⟩ := q
            simp only [h4] at hf
            cases es with
            | nil =>
              have := h0 rfl
              subst this
              cases h4
              refine (pe_meth0 (E := fun _ _ _ => False) ho c1' c2' F1 hX.room B1 vals_nil pass_no (meth_eval hs hl hn h30)).run pins s σ H Q I ⟨G, W, env, r, W1, hw, he, h1, fun v H1 G1 s1 w1 r1 => ?_⟩
              obtain ⟨a, dx, us, e1, e2, e3⟩ := core (Q' := fun _ _ => True) v H1 G1 s1 w1 r1
              refine ⟨a, dx, us, e1, e2, e3, G1, W1, [r], z, W2, w1, ⟨v, [], rfl, r1.elim id (fun z => by cases z.1), rfl⟩, hf, fun v' H' G' s w r => k v' H' G' (s1.trans s) w (.inl r)⟩
            | cons e es =>
              refine (pe_meth (E := fun _ _ _ => False) ho c1' c2' F1 hX.room B1 vals_nil pass_no ha (hn e (by simp) es) (by rw [backTo_flags.2]; exact (NoStar.flags fun e' he' => hn e' (by simp [he'])).2) (meth_eval hs hl hn h30)).run pins s σ H Q I
                ⟨G, W, env, r, W1, hw, he, h1, fun v H1 G1 s1 w1 r1 => ?_⟩
              obtain ⟨a, dx, us, e1, e2, e3⟩ := core (Q' := fun _ _ => True) v H1 G1 s1 w1 r1
              refine ⟨a, dx, us, e1, e2, e3, G1, W1, env, ds, W2', w1, he.step hw rfl s1, h4, fun vs H2 G2 s2 w2 r2 => ?_⟩
              show spRun S (cl f) (v :: (vs ++ [])) H2 Q _
              rw [List.append_nil]
              have r1' : Rep S G1 W1.length r v := r1.elim id (fun z => by cases z.1)
              exact ⟨G2, W2', r :: ds, z, W2, w2, ⟨v, vs, rfl, r1'.mono s2.x, r2.reps⟩, hf, fun v' H' G' s w r => k v' H' G' ((s1.trans s2).trans s) w (.inl r)⟩
        · cases hf
/-! ### built-ins -/
def fBi (k : Bi) (fs : FXs) : FX := fun env W => match fs env W with
  | some (ds, W1) => (match biD W1 k ds with
    | some d => some (d, W1)
    | none => none)
  | none => none
theorem bi_split {k : Bi} {fs : FXs} {env : Evn} {W W2 : Wd} {z : D} (h : fBi k fs env W = some (z, W2)) : ∃ ds, fs env W = some (ds, W2) ∧ biD W2 k ds = some z := by
  unfold fBi at h
  cases h1 : fs env W with
  | none => simp only [h1] at h; cases h
  | some p =>
    obtain ⟨ds, W1⟩ := p
    simp only [h1] at h
    cases h2 : biD W1 k ds with
    | none => simp only [h2] at h; cases h
    | some d =>
      simp only [h2] at h
      cases h
      exact ⟨ds, rfl, h2⟩
theorem r_bi (hX : XOk S P Γ n X) {x : Str} {p : Pos} {es : List Expr} {fs : FXs} {k : Bi} {j : Nat} (hk : cBi x j = some k) (hg : Gl X x) (hd : (x == ("__debug__" : Str)) = false) (hn : x ≠ "__name__") (hm : P.mg x = none)
    (ha : PA X es (tEvs S true fs)) (hs : NoStar X es) (hne : es ≠ []) : PE X (.Call (.Name x p) es [] pos) (tEv S false (fBi k fs)) := by
  obtain ⟨hb, h1, h2⟩ := boot_bi hk
  obtain ⟨r, hr, snd⟩ := bi_sound (S := S) (X := X) hX.calm hX.room hX.K h1 h2
  have hm' : X.mg x = none := by rw [hX.mg]; exact hm
  cases es with
  | nil => exact absurd rfl hne
  | cons e es =>
    have hst := hs e (by simp) es
    have hpl : (backTo pos (starEach es X.env)).any (·.1) = false := by rw [backTo_flags.2]; exact (NoStar.flags fun e' he' => hs e' (by simp [he'])).2
    have fin : ∀ σ H Q, tEv S false (fBi k fs) σ H Q → tCB r (tEvs S true fs) σ H Q := fun σ H Q ⟨G, W, env, z, W2, hw, he, hf, q⟩ => by
      obtain ⟨ds, h3, h4⟩ := bi_split hf
      exact ⟨G, W, env, ds, W2, hw, he, h3, fun vs H1 G1 s1 w1 r1 => snd w1 r1 h4 fun v H' G' s w r => q v H' G' (s1.trans s) w (.inl r)⟩
    cases k <;> first
      | (exact pe_imp (pe_callB hr hg hm' hb ha hn hd hst hpl) fin)
      | (exact pe_imp (pe_callTy hr hg hm' hb ha hn hd hst hpl) fin)
      | (cases h1; done)
      | (exact absurd rfl h2)
theorem boot_ty {t : Str} {k : Bi} (h : tyB t = some k) : ∃ T, biT k = some T ∧ bootBuiltins t = some (.type T) := by
  unfold tyB at h
  have two : ∀ {c : Prop} [Decidable c] {a : Bi} {o : Option Bi}, (if c then some a else o) = some k → (c ∧ a = k) ∨ o = some k := by
    intro c _ a o h
    by_cases hc : c
    · rw [if_pos hc] at h; cases h; exact .inl ⟨hc, rfl⟩
    · rw [if_neg hc] at h; exact .inr h
  rcases two h with ⟨rfl, rfl⟩ | h
  · exact ⟨"int", rfl, by decide +kernel⟩
  rcases two h with ⟨rfl, rfl⟩ | h
  · exact ⟨"bool", rfl, by decide +kernel⟩
  rcases two h with ⟨rfl, rfl⟩ | h
  · exact ⟨"str", rfl, by decide +kernel⟩
  rcases two h with ⟨rfl, rfl⟩ | h
  · exact ⟨"tuple", rfl, by decide +kernel⟩
  rcases two h with ⟨rfl, rfl⟩ | h
  · exact ⟨"list", rfl, by decide +kernel⟩
  cases h
theorem r_isi (hX : XOk S P Γ n X) {t : Str} {p pt : Pos} {k : Bi} (hk : tyB t = some k) (hg : Gl X "isinstance") (hm : P.mg "isinstance" = none) (hgt : Gl X t) (hmt : P.mg t = none) (hdt : (t == ("__debug__" : Str)) = false) (hnt : t ≠ "__name__")
    (ha : PE X a (tEv S true fa)) (hs : NoStar X [a]) : PE X (.Call (.Name "isinstance" p) [a, .Name t pt] [] pos) (tEv S false (fBi k (fCons fa fNil))) := by
  obtain ⟨T, hT, hb⟩ := boot_ty hk
  have hm' : X.mg "isinstance" = none := by rw [hX.mg]; exact hm
  have hmt' : X.mg t = none := by rw [hX.mg]; exact hmt
  have hst := hs a (by simp) [.Name t pt]
  refine pe_imp (pe_callB call_isi hg hm' (by decide +kernel : bootBuiltins "isinstance" = some (.builtin "isinstance")) (pa_cons ha (pa_cons (pe_bltn hgt hmt' hb (v := .ty T) rfl hnt hdt) pa_nil rfl) hst) (by decide) (by decide) hst rfl) fun σ H Q ⟨G, W, env, z, W2, hw, he, hf, q⟩ => ?_
  obtain ⟨ds, h3, h4⟩ := bi_split hf
  unfold fCons fNil at h3
  cases h1 : fa env W with
  | none => simp only [h1] at h3; cases h3
  | some p =>
    obtain ⟨x, W1⟩ := p
    simp only [h1] at h3
    cases h3
    refine ⟨G, W, env, x, _, hw, he, h1, fun v H1 G1 s1 w1 r1 => ?_⟩
    show rIsi X.K [v, .ty T] H1 Q
    rw [hX.K]
    exact isi_sound hT w1 r1 h4 fun v H' G' s w r => q v H' G' (s1.trans s) w (.inl r)
/-- sorted(x), x a list of texts: a new list -/
def fSrt (fa : FX) : FXs := fun env W => match fa env W with
  | some (d, W1) => (match srtD d with
    | some xs => some (xs, W1)
    | none => none)
  | none => none
theorem r_srt (hX : XOk S P Γ n X) {p : Pos} (hg : Gl X "sorted") (hm : P.mg "sorted" = none) (ha : PE X a (tEv S true fa)) (hs : NoStar X [a]) : PE X (.Call (.Name "sorted" p) [a] [] pos) (tEvF S (fSrt fa)) := by
  have hm' : X.mg "sorted" = none := by rw [hX.mg]; exact hm
  refine pe_imp (pe_callB cr_srt hg hm' (by decide +kernel : bootBuiltins "sorted" = some (.builtin "sorted")) (pa_cons ha pa_nil (hs a (by simp) [])) (by decide) (by decide) (hs a (by simp) []) rfl) fun σ H Q ⟨G, W, env, z, W2, hw, he, hf, q⟩ => ?_
  unfold fSrt at hf
  cases h1 : fa env W with
  | none => simp only [h1] at hf; cases hf
  | some p =>
    obtain ⟨x, W1⟩ := p
    simp only [h1] at hf
    cases h2 : srtD x with
    | none => simp only [h2] at hf; cases hf
    | some xs =>
      simp only [h2] at hf
      cases hf
      refine ⟨G, W, env, x, _, hw, he, h1, fun v H1 G1 s1 w1 r1 => ?_⟩
      show rSrt X.K [v] H1 Q
      rw [hX.K]
      refine srt_sound w1 r1 h2 fun p vs hp r => ?_
      obtain ⟨w2, s2⟩ := w1.loose (o := .lst vs) hp
      exact q p vs _ G1 (s1.trans s2) w2 upd_same r (w1.notF hp) (w1.notC hp) (s1.back hp)
/-- list(x): a new list -/
def fLst (fa : FX) : FXs := fun env W => match fa env W with
  | some (d, W1) => (match seqOf W1 d with
    | some xs => some (xs, W1)
    | none => none)
  | none => none
theorem seq_at {G : Gh} {W : Wd} {H : Hp} {env : Evn} {σ : L2.St} {d : D} {v : V} {xs : List D} (hw : SW S G W H) (r : RepB S G W.length env σ H bo d v) (h : seqOf W d = some xs) : ∃ p vs, v = .ref p ∧ (SqL S.K H p vs ∨ SqT S.K H p vs) ∧ Reps S G W.length xs vs := by
  unfold seqOf at h
  split at h
  · cases h
    obtain ⟨a, vs, e, h1, h2⟩ := r.lst hw
    exact ⟨a, vs, e, .inl (.inl (.inl h1)), h2⟩
  · cases h
    obtain ⟨a, vs, e, h1, h2⟩ := r.tup hw
    exact ⟨a, vs, e, .inr (.inl (.inl h1)), h2⟩
  · rename_i m
    split at h
    · rename_i ys hy
      cases h
      obtain ⟨u, hu, vs, e, rr⟩ := hw.cel m _ hy
      subst e
      exact ⟨_, vs, r.ref.1, .inl (.inl (.inl hu)), rr⟩
    · cases h
  · cases h
theorem r_list (hX : XOk S P Γ n X) {p : Pos} (hg : Gl X "list") (hm : P.mg "list" = none) (ha : PE X a (tEv S true fa)) (hs : NoStar X [a]) : PE X (.Call (.Name "list" p) [a] [] pos) (tEvF S (fLst fa)) := by
  have hm' : X.mg "list" = none := by rw [hX.mg]; exact hm
  refine pe_imp (pe_callTy call_list_of hg hm' (by decide +kernel : bootBuiltins "list" = some (.type "list")) (pa_cons ha pa_nil (hs a (by simp) [])) (by decide) (by decide) (hs a (by simp) []) rfl) fun σ H Q ⟨G, W, env, z, W2, hw, he, hf, q⟩ => ?_
  unfold fLst at hf
  cases h1 : fa env W with
  | none => simp only [h1] at hf; cases hf
  | some p =>
    obtain ⟨x, W1⟩ := p
    simp only [h1] at hf
    cases h2 : seqOf W1 x with
    | none => simp only [h2] at hf; cases hf
    | some xs =>
      simp only [h2] at hf
      cases hf
      refine ⟨G, W, env, x, _, hw, he, h1, fun v H1 G1 s1 w1 r1 => ?_⟩
      obtain ⟨p, vs, e, hq, r⟩ := seq_at w1 r1 h2
      refine ⟨p, vs, by rw [e], by rw [hX.K]; exact hq, fun l hl => ?_⟩
      obtain ⟨w2, s2⟩ := w1.loose (o := .lst vs) hl
      exact q l vs _ G1 (s1.trans s2) w2 upd_same r (w1.notF hl) (w1.notC hl) (s1.back hl)
end
end Pv
end
section
set_option Elab.async false
set_option linter.all false
set_option maxRecDepth 100000
set_option maxHeartbeats 2000000
/-! Rules of what is walked, of comprehensions, of any and all. -/
namespace Pv
open PySem PySem.Spec PyProof.Rows L2
abbrev FI := Evn → Wd → Option (List D × Option Nat × Wd)
section
variable {S : Su} {X : Cx} {e a b c tg : Expr} {fa fb fc : FX} {pos : Pos} {bo : Bool} {P : Ax} {Γ : Ctx} {n : Nat}
/-- what a list, seen now, is at each later time -/
theorem later_lst {G1 : Gh} {W1 : Wd} {H1 : Hp} {env : Evn} {σ : L2.St} {xs : List D} {v : V} (w1 : SW S G1 W1 H1) (e1 : SE S G1 W1.length env σ H1) (r : RepB S G1 W1.length env σ H1 bo (.lst xs) v) :
    ∃ a, v = .ref a ∧ (∃ vs, SqL S.K H1 a vs) ∧ ∀ G2 W2 H2, Later S bo G1 W1 H1 none G2 W2 H2 → ∃ vs, SqL S.K H2 a vs ∧ Reps S G2 W2.length xs vs := by
  rcases r with ⟨a, vs, e, h1, h2⟩ | ⟨hb, i, ds, a, vs, h1, h2, h3, h4, h5, h6⟩
  · exact ⟨a, e, ⟨vs, .inl (.inl (w1.sub _ _ h1))⟩, fun G2 W2 H2 L => ⟨vs, .inl (.inl (L.sw.sub _ _ (L.gx.F _ _ h1))), h2.mono L.gx⟩⟩
  · cases h2
    refine ⟨a, h3, ⟨vs, .inl (.inl h5)⟩, fun G2 W2 H2 L => ?_⟩
    obtain ⟨a', vs', g1, g2, g3, g4, g5, g6⟩ := e1.owns i _ h1
    rw [h4] at g1
    cases g1
    have st := L.st hb
    have ht : a ∉ S.tabs := fun z => by
      obtain ⟨ps, hp, _⟩ := w1.tab a z
      rw [h5] at hp; cases hp
    exact ⟨vs, .inl (.inl (st.keep a _ h5 g5 ht)), h6.mono L.gx⟩
theorem later_tup {G1 : Gh} {W1 : Wd} {H1 : Hp} {env : Evn} {σ : L2.St} {xs : List D} {v : V} (w1 : SW S G1 W1 H1) (r : RepB S G1 W1.length env σ H1 bo (.tup xs) v) :
    ∃ a, v = .ref a ∧ (∃ vs, SqT S.K H1 a vs) ∧ ∀ G2 W2 H2, Later S bo G1 W1 H1 none G2 W2 H2 → ∃ vs, SqT S.K H2 a vs ∧ Reps S G2 W2.length xs vs := by
  rcases r with ⟨a, vs, e, h1, h2⟩ | ⟨hb, i, ds, a, vs, h1, h2, h3, h4, h5, h6⟩
  · exact ⟨a, e, ⟨vs, .inl (.inl (w1.sub _ _ h1))⟩, fun G2 W2 H2 L => ⟨vs, .inl (.inl (L.sw.sub _ _ (L.gx.F _ _ h1))), h2.mono L.gx⟩⟩
  · cases h2
theorem later_cel {G1 : Gh} {W1 : Wd} {H1 : Hp} {env : Evn} {σ : L2.St} {xs : List D} {m : Nat} {v : V} (w1 : SW S G1 W1 H1) (r : RepB S G1 W1.length env σ H1 bo (.ref m) v) (hm : W1[m]? = some (.lst xs)) :
    ∃ a, v = .ref a ∧ (∃ vs, SqL S.K H1 a vs) ∧ ∀ G2 W2 H2, Later S bo G1 W1 H1 (some m) G2 W2 H2 → ∃ vs, SqL S.K H2 a vs ∧ Reps S G2 W2.length xs vs := by
  obtain ⟨e, hl⟩ := r.ref
  obtain ⟨u, hu, vs, eu, rr⟩ := w1.cel m _ hm
  subst eu
  refine ⟨_, e, ⟨vs, .inl (.inl hu)⟩, fun G2 W2 H2 L => ?_⟩
  obtain ⟨u2, hu2, vs2, eu2, rr2⟩ := L.sw.cel m _ (okW_cell hm L.ok)
  subst eu2
  rw [L.gx.ι m hl] at hu2
  exact ⟨vs2, .inl (.inl hu2), rr2⟩
theorem reps_ints {G : Gh} {n : Nat} : ∀ ns : List Int, Reps S G n (ns.map D.int) (ns.map V.int)
  | [] => rfl
  | i :: ns => ⟨.int i, ns.map V.int, rfl, rfl, reps_ints ns⟩
def fSeq (fa : FX) : FI := fun env W => match fa env W with
  | some (d, W1) => (match itD W1 d with
    | some (xs, gd) => some (xs, gd, W1)
    | none => none)
  | none => none
theorem r_seq (hK : X.K = S.K) (ha : PE X a (tEv S bo fa)) : PI X tg a (tI S bo (fSeq fa)) := by
  refine ⟨fun pins s σ H R I ⟨G, W, env, xs, gd, W2, hw, he, hf, k⟩ => ?_⟩
  unfold fSeq at hf
  cases h1 : fa env W with
  | none => simp only [h1] at hf; cases hf
  | some p =>
    obtain ⟨d, W1⟩ := p
    simp only [h1] at hf
    cases h2 : itD W1 d with
    | none => simp only [h2] at hf; cases hf
    | some q =>
      obtain ⟨ys, gd'⟩ := q
      simp only [h2] at hf
      cases hf
      have stp := fun {v : V} {H1 : Hp} {G1 : Gh} (s1 : Step S G W.length H G1 W2.length H1) => he.step hw rfl s1
      cases d with
      | lst zs =>
        cases h2
        refine (pi_list ha).run pins s σ H R I ⟨G, W, env, _, _, hw, he, h1, fun v H1 G1 s1 w1 r1 => ?_⟩
        obtain ⟨a, e, ex, hl⟩ := later_lst w1 (he.step hw rfl s1) r1
        rw [hK]
        exact ⟨a, e, ex, k _ H1 G1 s1 w1 (it_list hl)⟩
      | tup zs =>
        cases h2
        refine (pi_tup ha).run pins s σ H R I ⟨G, W, env, _, _, hw, he, h1, fun v H1 G1 s1 w1 r1 => ?_⟩
        obtain ⟨a, e, ex, hl⟩ := later_tup w1 r1
        rw [hK]
        exact ⟨a, e, ex, k _ H1 G1 s1 w1 (it_tup hl)⟩
      | str x =>
        cases h2
        refine (pi_str ha).run pins s σ H R I ⟨G, W, env, _, _, hw, he, h1, fun v H1 G1 s1 w1 r1 => ?_⟩
        obtain ⟨e, o⟩ := r1.str
        exact ⟨x, e, k _ H1 G1 s1 w1 (it_str o)⟩
      | scr ns =>
        cases h2
        refine (pi_list ha).run pins s σ H R I ⟨G, W, env, _, _, hw, he, h1, fun v H1 G1 s1 w1 r1 => ?_⟩
        rcases r1 with ⟨a, e, hs⟩ | ⟨_, _, _, _, _, _, q, _⟩
        · rw [hK]
          refine ⟨a, e, ⟨_, sqL_mono w1.sub hs⟩, k _ H1 G1 s1 w1 (it_list fun G2 W3 H2 L => ⟨_, sqL_mono L.sw.sub (sqL_mono L.gx.F hs), ?_⟩)⟩
          exact reps_ints ns
        · cases q
      | ref m =>
        simp only [itD] at h2
        split at h2
        · rename_i zs hz
          cases h2
          refine (pi_list ha).run pins s σ H R I ⟨G, W, env, _, _, hw, he, h1, fun v H1 G1 s1 w1 r1 => ?_⟩
          obtain ⟨a, e, ex, hl⟩ := later_cel w1 r1 hz
          rw [hK]
          exact ⟨a, e, ex, k _ H1 G1 s1 w1 (it_list hl)⟩
        · cases h2
      | non => cases h2
      | bl _ => cases h2
      | int _ => cases h2
      | ctp _ => cases h2
def fRng1 (fa : FX) : FI := fun env W => match fa env W with
  | some (.int j, W1) => if inR j then some (rngD 0 j.toNat, none, W1) else none
  | _ => none
theorem inR_iff {i : Int} (h : inR i = true) : -(2 ^ 62) ≤ i ∧ i < 2 ^ 62 := by
  have e : (2 : Int) ^ 62 = 4611686018427387904 := by decide
  cases i with
  | ofNat n =>
    have h' : n ≤ 4611686018427387903 := Nat.le_of_ble_eq_true h
    have : (Int.ofNat n) = (n : Int) := rfl
    omega
  | negSucc n =>
    have h' : n ≤ 4611686018427387903 := Nat.le_of_ble_eq_true h
    omega
theorem r_rng1 (hX : XOk S P Γ n X) {p : Pos} (hg : Gl X "range") (hm : P.mg "range" = none) (ha : PE X a (tEv S true fa)) (hs : NoStar X [a]) : PI X tg (.Call (.Name "range" p) [a] [] pos) (tI S bo (fRng1 fa)) := by
  refine ⟨fun pins s σ H R I ⟨G, W, env, xs, gd, W2, hw, he, hf, k⟩ => ?_⟩
  unfold fRng1 at hf
  split at hf
  · rename_i j W1 h1
    split at hf
    · rename_i hj
      cases hf
      obtain ⟨j1, j2⟩ := inR_iff hj
      exact (pi_range1 hg (by rw [hX.mg]; exact hm) (pa_cons ha pa_nil (hs a (by simp) [])) (hs a (by simp) [])).run pins s σ H R I
        ⟨G, W, env, _, _, hw, he, h1, fun v H1 G1 s1 w1 r1 => ⟨j, by rw [r1.int], j1, j2, k _ H1 G1 s1 w1 it_rng⟩⟩
    · cases hf
  · cases hf
def fRng2 (fa fb : FX) : FI := fun env W => match fa env W with
  | some (.int i, W1) => (match fb env W1 with
    | some (.int j, W2) => if inR i && inR j then some (rngD i (j - i).toNat, none, W2) else none
    | _ => none)
  | _ => none
theorem r_rng2 (hX : XOk S P Γ n X) {p : Pos} (hg : Gl X "range") (hm : P.mg "range" = none) (ha : PE X a (tEv S true fa)) (hb : PE X b (tEv S true fb)) (hs : NoStar X [a, b]) : PI X tg (.Call (.Name "range" p) [a, b] [] pos) (tI S bo (fRng2 fa fb)) := by
  refine ⟨fun pins s σ H R I ⟨G, W, env, xs, gd, W2, hw, he, hf, k⟩ => ?_⟩
  unfold fRng2 at hf
  split at hf
  · rename_i i W1 h1
    split at hf
    · rename_i j W2' h2
      split at hf
      · rename_i hj
        cases hf
        rw [Bool.and_eq_true] at hj
        obtain ⟨i1, i2⟩ := inR_iff hj.1
        obtain ⟨j1, j2⟩ := inR_iff hj.2
        have s1 := hs a (by simp) [b]
        have s2 := hs b (by simp) []
        have e0 : starEach [] X.env = [] := rfl
        exact (pi_range2 hg (by rw [hX.mg]; exact hm) (pa_cons ha (pa_cons hb pa_nil s2) s1) (by rw [s1, s2, e0]) (by rw [s2, e0])).run pins s σ H R I
          ⟨G, W, env, _, _, hw, he, h1, fun v H1 G1 s1 w1 r1 => ⟨G1, W1, env, _, _, w1, he.step hw rfl s1, h2, fun u H2 G2 s2 w2 r2 => ⟨i, j, by rw [r1.int, r2.int], ⟨i1, i2, j1, j2⟩, k _ H2 G2 (s1.trans s2) w2 it_rng⟩⟩⟩
      · cases hf
    · cases hf
  · cases hf
def fEnum (fa : FX) : FI := fun env W => match fa env W with
  | some (d, W1) => (match enD W1 d with
    | some (xs, gd) => some (enumD 0 xs, gd, W1)
    | none => none)
  | none => none
theorem r_enum (hX : XOk S P Γ n X) {p tpos : Pos} {elts : List Expr} {kk : Nat} (hg : Gl X "enumerate") (hm : P.mg "enumerate" = none) (ha : PE X a (tEv S bo fa)) (hs : NoStar X [a]) :
    PI X (.Tuple elts kk tpos) (.Call (.Name "enumerate" p) [a] [] pos) (tI S bo (fEnum fa)) := by
  refine ⟨fun pins s σ H R I ⟨G, W, env, xs, gd, W2, hw, he, hf, k⟩ => ?_⟩
  unfold fEnum at hf
  cases h1 : fa env W with
  | none => simp only [h1] at hf; cases hf
  | some p =>
    obtain ⟨d, W1⟩ := p
    simp only [h1] at hf
    cases h2 : enD W1 d with
    | none => simp only [h2] at hf; cases hf
    | some q =>
      obtain ⟨ys, gd'⟩ := q
      simp only [h2] at hf
      cases hf
      refine (GX.pi_enumT hg (by rw [hX.mg]; exact hm) (pa_cons ha pa_nil (hs a (by simp) [])) (hs a (by simp) [])).run pins s σ H R I ⟨G, W, env, d, _, hw, he, h1, fun v H1 G1 s1 w1 r1 => ?_⟩
      rw [hX.K]
      cases d with
      | lst zs =>
        cases h2
        obtain ⟨a, e, ex, hl⟩ := later_lst w1 (he.step hw rfl s1) r1
        exact ⟨a, by rw [e], .inl ⟨ex, k _ H1 G1 s1 w1 (it_enum hl)⟩⟩
      | tup zs =>
        cases h2
        obtain ⟨a, e, ex, hl⟩ := later_tup w1 r1
        exact ⟨a, by rw [e], .inr ⟨ex, k _ H1 G1 s1 w1 (it_enumT hl)⟩⟩
      | ref m =>
        simp only [enD] at h2
        split at h2
        · rename_i zs hz
          cases h2
          obtain ⟨a, e, ex, hl⟩ := later_cel w1 r1 hz
          exact ⟨a, by rw [e], .inl ⟨ex, k _ H1 G1 s1 w1 (it_enum hl)⟩⟩
        · cases h2
      | str _ => cases h2
      | scr _ => cases h2
      | non => cases h2
      | bl _ => cases h2
      | int _ => cases h2
      | ctp _ => cases h2

/-! ### comprehensions -/
def fEl (p : Pat) (fc : FT) (fe : FX) (env : Evn) : D → Wd → Option (Option D × Wd) := fun x W => match bindP W p x (wipeE env p.slots) with
  | some env1 => (match fc env1 W with
    | some (true, W2) => (match fe env1 W2 with
      | some (y, W3) => some (some y, W3)
      | none => none)
    | some (false, W2) => some (none, W2)
    | none => none)
  | none => none
def fComp (p : Pat) (fi : FI) (fc : FT) (fe : FX) : FXs := fun env W => match fi env W with
  | some (xs, gd, W1) => if xs.length < PySem.sizeLine then mapL (fEl p fc fe env) gd W1 xs W1 else none
  | none => none
theorem mapL_cons {f : D → Wd → Option (Option D × Wd)} {g : Option Nat} {W0 W W' : Wd} {x : D} {xs ys : List D} (h : mapL f g W0 (x :: xs) W = some (ys, W')) :
    ∃ o W1 zs, f x W = some (o, W1) ∧ okW g W0 W1 = true ∧ mapL f g W0 xs W1 = some (zs, W') ∧ ys = (match o with | some y => y :: zs | none => zs) := by
  unfold mapL at h
  cases h1 : f x W with
  | none => simp only [h1] at h; cases h
  | some p =>
    obtain ⟨o, W1⟩ := p
    simp only [h1] at h
    split at h
    · rename_i ok
      cases h2 : mapL f g W0 xs W1 with
      | none => simp only [h2] at h; cases h
      | some q =>
        obtain ⟨zs, W2⟩ := q
        simp only [h2] at h
        cases o with
        | none =>
          cases h
          exact ⟨none, W1, _, rfl, ok, h2, rfl⟩
        | some y =>
          cases h
          exact ⟨some y, W1, _, rfl, ok, h2, rfl⟩
    · cases h
theorem it_refl {gd : Option Nat} {env : Evn} {W W1 : Wd} {xs : List D} (fi : FI) (h : fi env W = some (xs, gd, W1)) (hg : ∀ env W xs gd W1, fi env W = some (xs, gd, W1) → okW gd W1 W1 = true) : okW gd W1 W1 = true := hg _ _ _ _ _ h
def OkFI (fi : FI) : Prop := ∀ env W xs gd W1, fi env W = some (xs, gd, W1) → okW gd W1 W1 = true
theorem ok_seq : OkFI (fSeq fa) := by
  intro env W xs gd W1 h
  unfold fSeq at h
  cases h1 : fa env W with
  | none => simp only [h1] at h; cases h
  | some p =>
    obtain ⟨d, W2⟩ := p
    simp only [h1] at h
    cases h2 : itD W2 d with
    | none => simp only [h2] at h; cases h
    | some q =>
      obtain ⟨ys, gd'⟩ := q
      simp only [h2] at h
      cases h
      refine okW_refl (xs := []) gd fun m e => ?_
      subst e
      cases d with
      | ref m' =>
        simp only [itD] at h2
        split at h2
        · rename_i zs hz
          cases h2
          exact ⟨_, hz⟩
        · cases h2
      | _ => cases h2
theorem ok_enum : OkFI (fEnum fa) := by
  intro env W xs gd W1 h
  unfold fEnum at h
  cases h1 : fa env W with
  | none => simp only [h1] at h; cases h
  | some p =>
    obtain ⟨d, W2⟩ := p
    simp only [h1] at h
    cases h2 : enD W2 d with
    | none => simp only [h2] at h; cases h
    | some q =>
      obtain ⟨ys, gd'⟩ := q
      simp only [h2] at h
      cases h
      refine okW_refl (xs := []) gd fun m e => ?_
      subst e
      cases d with
      | ref m' =>
        simp only [enD] at h2
        split at h2
        · rename_i zs hz
          cases h2
          exact ⟨_, hz⟩
        · cases h2
      | _ => cases h2
theorem ok_rng1 : OkFI (fRng1 fa) := by
  intro env W xs gd W1 h
  unfold fRng1 at h
  split at h
  · split at h
    · cases h; rfl
    · cases h
  · cases h
theorem ok_rng2 : OkFI (fRng2 fa fb) := by
  intro env W xs gd W1 h
  unfold fRng2 at h
  split at h
  · split at h
    · split at h
      · cases h; rfl
      · cases h
    · cases h
  · cases h
/-- a thing that stands loose is changed -/
theorem SW.redo {G : Gh} {W : Wd} {H : Hp} (hw : SW S G W H) {p : Addr} (o : HO) (hF : G.F p = none) (hc : ∀ m, m < W.length → G.ι m ≠ p) (ht : p ∉ S.tabs) : SW S G W (upd H p o) := by
  refine ⟨fun a u e => ?_, fun m c h => ?_, hw.fc, hw.inj, fun T h => tabG_upd (hw.tab T h) (fun q => ht (by rw [← q]; exact h)), hw.ft⟩
  · rw [upd_ne (fun z => by rw [z, hF] at e; cases e)]
    exact hw.sub a u e
  · obtain ⟨u, h1, h2⟩ := hw.cel m c h
    exact ⟨u, by rw [upd_ne (hc m (List.getElem?_eq_some_iff.mp h).1)]; exact h1, h2⟩
theorem Step.redo {G G' : Gh} {n n' : Nat} {H H' : Hp} (s : Step S G n H G' n' H') {p : Addr} (o : HO) (h0 : H p = none) : Step S G n H G' n' (upd H' p o) := by
  refine ⟨s.x, fun a u h hc ht => ?_, fun a u h => ?_, s.newF, s.newC⟩
  · rw [upd_ne (ne_of_none h h0)]; exact s.keep a u h hc ht
  · obtain ⟨o', e⟩ := s.there a u h
    exact ⟨o', by rw [upd_ne (ne_of_none h h0)]; exact e⟩
theorem comp_core {p : Pat} {fi : FI} {fc : FT} {fe : FX} {σ : L2.St} {H : Hp} {Q : VK} (hi : OkFI fi) (h : tEvF S (fComp p fi fc fe) σ H Q) : tLc (tI S true fi) (gPat S p) (tEvT S fc) (tEv S false fe) p.slots σ H Q := by
  obtain ⟨G, W, env, ds, W', hw, he, hf, k⟩ := h
  unfold fComp at hf
  cases h1 : fi env W with
  | none => simp only [h1] at hf; cases hf
  | some q =>
    obtain ⟨xs, gd, W1⟩ := q
    simp only [h1] at hf
    split at hf
    · rename_i hlen
      refine ⟨G, W, env, xs, gd, W1, hw, he, h1, fun J H1 G1 s1 w1 it => ?_⟩
      intro Dp hDp
      have e1 := he.step hw rfl s1
      have hTab := w1.notTab hDp
      refine ⟨fun i m H2 => ∃ G2 W2 acc accv ys, m = xs.length - i ∧ i ≤ xs.length ∧ Step S G1 W1.length H1 G2 W2.length H2 ∧ SW S G2 W2 H2 ∧ H2 Dp = some (.lst accv) ∧ Reps S G2 W2.length acc accv ∧
        G2.F Dp = none ∧ (∀ j, j < W2.length → G2.ι j ≠ Dp) ∧ okW gd W1 W2 = true ∧ acc.length ≤ i ∧ mapL (fEl p fc fe env) gd W1 (xs.drop i) W2 = some (ys, W') ∧ ds = acc ++ ys, ?_, ?_⟩
      · obtain ⟨w2, s2⟩ := w1.loose (o := .lst []) hDp
        exact ⟨_, G1, W1, [], [], ds, rfl, Nat.zero_le _, s2, w2, upd_same, rfl, w1.notF hDp, w1.notC hDp, hi _ _ _ _ _ h1, Nat.le_refl _, hf, rfl⟩
      · rintro i m H2 ⟨G2, W2, acc, accv, ys, hm, hle, s2, w2, hD, hr, hF, hc, ok, hal, hmap, hds⟩
        have L : Later S true G1 W1 H1 gd G2 W2 H2 := ⟨w2, ok, s2.x, fun _ => s2⟩
        by_cases hi' : i < xs.length
        · right
          refine ⟨it.go i G2 W2 H2 L hi', fun H3 => ∃ m', m' < m ∧ ∃ G2 W2 acc accv ys, m' = xs.length - (i + 1) ∧ i + 1 ≤ xs.length ∧ Step S G1 W1.length H1 G2 W2.length H3 ∧ SW S G2 W2 H3 ∧ H3 Dp = some (.lst accv) ∧ Reps S G2 W2.length acc accv ∧
            G2.F Dp = none ∧ (∀ j, j < W2.length → G2.ι j ≠ Dp) ∧ okW gd W1 W2 = true ∧ acc.length ≤ i + 1 ∧ mapL (fEl p fc fe env) gd W1 (xs.drop (i + 1)) W2 = some (ys, W') ∧ ds = acc ++ ys, fun H3 h => h, fun x H3 hy => ?_⟩
          obtain ⟨d, G3, hd, s3, w3, r3⟩ := it.yld i G2 W2 H2 x H3 L hi' hy
          have hdrop : xs.drop i = d :: xs.drop (i + 1) := by
            rw [List.drop_eq_getElem_cons hi']
            have := List.getElem?_eq_getElem hi'
            rw [hd] at this
            cases this
            rfl
          rw [hdrop] at hmap
          obtain ⟨o, W4, zs, hel, ok4, hmap2, hys⟩ := mapL_cons hmap
          unfold fEl at hel
          cases hb : bindP W2 p d (wipeE env p.slots) with
          | none => simp only [hb] at hel; cases hel
          | some env1 =>
            simp only [hb] at hel
            have eW : SE S G3 W2.length (wipeE env p.slots) (L2.wipe σ p.slots) H3 := ((e1.step w1 rfl s2).step w2 rfl s3).wipe p.slots
            refine ⟨G3, W2, wipeE env p.slots, d, env1, w3, eW, r3, hb, fun σ2 e3 hwp _ => ?_⟩
            refine ⟨by rw [hwp p.slots fun _ h => h, wipe_wipe fun _ h => h], ?_⟩
            have tD3 : H3 Dp = some (.lst accv) := s3.keep Dp _ hD hc hTab
            have hF3 : G3.F Dp = none := s3.noF hD hF
            have hc3 := s3.nocell hD hc
            cases hcc : fc env1 W2 with
            | none => simp only [hcc] at hel; cases hel
            | some tb =>
              obtain ⟨t, W3⟩ := tb
              simp only [hcc] at hel
              refine ⟨G3, W2, env1, t, W3, w3, e3, hcc, fun H4 G4 s4 w4 => ?_⟩
              have tD4 : H4 Dp = some (.lst accv) := s4.keep Dp _ tD3 hc3 hTab
              have hF4 : G4.F Dp = none := s4.noF tD3 hF3
              have hc4 := s4.nocell tD3 hc3
              have e4 := e3.step w3 rfl s4
              have s14 := (s2.trans s3).trans s4
              cases t with
              | false =>
                simp only at hel
                cases hel
                dsimp only
                rw [if_neg (by decide)]
                refine ⟨_, by omega, G4, _, acc, accv, zs, rfl, hi', s14, w4, tD4, hr.mono (s3.trans s4).x, hF4, hc4, ok4, Nat.le_succ_of_le hal, hmap2, by rw [hds, hys]⟩
              | true =>
                dsimp only
                rw [if_pos rfl]
                simp only at hel
                cases hee : fe env1 W3 with
                | none => simp only [hee] at hel; cases hel
                | some yb =>
                  obtain ⟨y, W5⟩ := yb
                  simp only [hee] at hel
                  cases hel
                  refine ⟨G4, W3, env1, y, _, w4, e4, hee, fun vy H5 G5 s5 w5 r5 => ?_⟩
                  have tD5 : H5 Dp = some (.lst accv) := s5.keep Dp _ tD4 hc4 hTab
                  have hF5 : G5.F Dp = none := s5.noF tD4 hF4
                  have hc5 := s5.nocell tD4 hc4
                  have lacc : accv.length = acc.length := hr.length
                  refine ⟨accv, tD5, by omega, _, by omega, G5, _, acc ++ [y], accv ++ [vy], zs, rfl, hi', (s14.trans s5).redo _ hDp, w5.redo _ hF5 hc5 hTab, upd_same, ?_, hF5, hc5, ok4, ?_, hmap2, ?_⟩
                  · exact (hr.mono ((s3.trans s4).trans s5).x).append ⟨vy, [], rfl, r5.elim id (fun z => by cases z.1), rfl⟩
                  · rw [List.length_append]
                    exact Nat.succ_le_succ hal
                  · rw [hds, hys]; simp
        · left
          have hi2 : xs.length ≤ i := Nat.le_of_not_lt hi'
          refine ⟨it.stop i G2 W2 H2 L hi2, ?_⟩
          rw [List.drop_eq_nil_of_le hi2] at hmap
          cases hmap
          rw [List.append_nil] at hds
          subst hds
          exact k Dp accv H2 G2 (s1.trans s2) w2 hD hr hF hc (s1.back hDp)
    · cases hf
end
end Pv
end
section
set_option Elab.async false
set_option linter.all false
set_option maxRecDepth 100000
set_option maxHeartbeats 2000000
/-! any, all; pop(0); dict displays. -/
namespace Pv
open PySem PySem.Spec PyProof.Rows L2
section
variable {S : Su} {X : Cx} {e a b c tg : Expr} {fa fb fc : FX} {pos : Pos} {bo : Bool} {P : Ax} {Γ : Ctx} {n : Nat}
def fAE (p : Pat) (fe : FX) (env : Evn) : D → Wd → Option (Bool × Wd) := fun x W => match bindP W p x (wipeE env p.slots) with
  | some env1 => (match fe env1 W with
    | some (.bl t, W2) => some (t, W2)
    | _ => none)
  | none => none
def fAA (stp : Bool) (p : Pat) (fi : FI) (fe : FX) : FX := fun env W => match fi env W with
  | some (xs, gd, W1) => (match findL stp (fAE p fe env) gd W1 xs W1 with
    | some (t, W2) => some (.bl t, W2)
    | none => none)
  | none => none
theorem findL_cons {stp : Bool} {f : D → Wd → Option (Bool × Wd)} {g : Option Nat} {W0 W W' : Wd} {x : D} {xs : List D} {t : Bool} (h : findL stp f g W0 (x :: xs) W = some (t, W')) :
    ∃ b W1, f x W = some (b, W1) ∧ okW g W0 W1 = true ∧ (if b = stp then t = stp ∧ W' = W1 else findL stp f g W0 xs W1 = some (t, W')) := by
  unfold findL at h
  cases h1 : f x W with
  | none => simp only [h1] at h; cases h
  | some p =>
    obtain ⟨o, W1⟩ := p
    simp only [h1] at h
    split at h
    · rename_i ok
      refine ⟨o, W1, rfl, ok, ?_⟩
      split at h
      · rename_i e
        cases h
        rw [if_pos e]
        exact ⟨rfl, rfl⟩
      · rename_i e
        rw [if_neg e]
        exact h
    · cases h
theorem aa_core {T : Addr} {stp : Bool} {p : Pat} {fi : FI} {fe : FX} {σ : L2.St} {H : Hp} {Q : VK} (hT : T ∈ S.tabs) (hi : OkFI fi) (h : tEv S false (fAA stp p fi fe) σ H Q) : GX.tAA T stp (tI S true fi) (gPat S p) tYes (tEv S false fe) p.slots σ H Q := by
  obtain ⟨G, W, env, z, W', hw, he, hf, k⟩ := h
  unfold fAA at hf
  cases h1 : fi env W with
  | none => simp only [h1] at hf; cases hf
  | some q =>
    obtain ⟨xs, gd, W1⟩ := q
    simp only [h1] at hf
    cases h2 : findL stp (fAE p fe env) gd W1 xs W1 with
    | none => simp only [h2] at hf; cases hf
    | some tw =>
      obtain ⟨t, Wf⟩ := tw
      simp only [h2] at hf
      cases hf
      refine ⟨G, W, env, xs, gd, W1, hw, he, h1, fun J H1 G1 s1 w1 it => ⟨w1.tab T hT, fun H2 hT2 => ?_⟩⟩
      obtain ⟨w2, s2⟩ := w1.tabbed hT hT2
      have e1 := he.step hw rfl s1
      refine ⟨fun i m H2 => ∃ G2 W2, m = xs.length - i ∧ i ≤ xs.length ∧ Step S G1 W1.length H1 G2 W2.length H2 ∧ SW S G2 W2 H2 ∧ okW gd W1 W2 = true ∧ findL stp (fAE p fe env) gd W1 (xs.drop i) W2 = some (t, W'), ⟨_, G1, W1, rfl, Nat.zero_le _, s2, w2, hi _ _ _ _ _ h1, h2⟩, ?_⟩
      rintro i m H2 ⟨G2, W2, hm, hle, s2, w2, ok, hfi⟩
      have L : Later S true G1 W1 H1 gd G2 W2 H2 := ⟨w2, ok, s2.x, fun _ => s2⟩
      by_cases hi' : i < xs.length
      · right
        refine ⟨it.go i G2 W2 H2 L hi', fun H3 => ∃ m', m' < m ∧ ∃ G2 W2, m' = xs.length - (i + 1) ∧ i + 1 ≤ xs.length ∧ Step S G1 W1.length H1 G2 W2.length H3 ∧ SW S G2 W2 H3 ∧ okW gd W1 W2 = true ∧ findL stp (fAE p fe env) gd W1 (xs.drop (i + 1)) W2 = some (t, W'), fun H3 h => h, fun x H3 hy => ?_⟩
        obtain ⟨d, G3, hd, s3, w3, r3⟩ := it.yld i G2 W2 H2 x H3 L hi' hy
        have hdrop : xs.drop i = d :: xs.drop (i + 1) := by
          rw [List.drop_eq_getElem_cons hi']
          have := List.getElem?_eq_getElem hi'
          rw [hd] at this
          cases this
          rfl
        rw [hdrop] at hfi
        obtain ⟨bb, W4, hel, ok4, hnx⟩ := findL_cons hfi
        unfold fAE at hel
        cases hb : bindP W2 p d (wipeE env p.slots) with
        | none => simp only [hb] at hel; cases hel
        | some env1 =>
          simp only [hb] at hel
          have eW : SE S G3 W2.length (wipeE env p.slots) (L2.wipe σ p.slots) H3 := ((e1.step w1 rfl s2).step w2 rfl s3).wipe p.slots
          refine ⟨G3, W2, wipeE env p.slots, d, env1, w3, eW, r3, hb, fun σ2 e3 hwp _ => ?_⟩
          refine ⟨by rw [hwp p.slots fun _ h => h, wipe_wipe fun _ h => h], ?_⟩
          unfold tYes
          dsimp only
          rw [if_pos rfl]
          split at hel
          · rename_i t1 W5 hee
            cases hel
            refine ⟨G3, W2, env1, .bl bb, W4, w3, e3, hee, fun vy H5 G5 s5 w5 r5 => ⟨bb, r5.bl, ?_⟩⟩
            have st := (s2.trans s3).trans s5
            by_cases hbs : bb = stp
            · rw [if_pos hbs] at hnx ⊢
              obtain ⟨e1, e2⟩ := hnx
              subst e1 e2
              exact k _ H5 G5 (s1.trans st) w5 (.inl rfl)
            · rw [if_neg hbs] at hnx ⊢
              exact ⟨_, by omega, G5, W4, rfl, hi', st, w5, ok4, hnx⟩
          · cases hel
      · left
        have hi2 : xs.length ≤ i := Nat.le_of_not_lt hi'
        refine ⟨it.stop i G2 W2 H2 L hi2, ?_⟩
        rw [List.drop_eq_nil_of_le hi2] at hfi
        cases hfi
        exact k _ H2 G2 (s1.trans s2) w2 (.inl rfl)
/-! ### pop(0) -/
def fPop (fo : FX) : FX := fun env W => match fo env W with
  | some (.ref r, W1) => (match W1[r]? with
    | some (.lst (x :: xs)) => some (x, W1.set r (.lst xs))
    | _ => none)
  | _ => none
theorem r_pop (hX : XOk S P Γ n X) {o : Expr} {fo : FX} {apos kp : Pos} {j : Nat} (ho : PE X o (tEv S false fo)) (hs : noSup o = true) (hl : (apos.endLine == pos.line) = true) :
    PE X (.Call (.Attribute o "pop" apos) [.Constant (.int 0) j kp] [] pos) (tEv S false (fPop fo)) := by
  refine pe_imp (pe_bm (r := rPopAt) F.plainAttrs_list F.slot_list_pop F.type_list_pop mt_popAt ho (pa_cons pe_int pa_nil rfl) (base_of hs "pop") rfl hl rfl rfl) fun σ H Q ⟨G, W, env, z, W2, hw, he, hf, k⟩ => ?_
  unfold fPop at hf
  split at hf
  · rename_i r W1 h1
    split at hf
    · rename_i x xs hx
      cases hf
      refine ⟨G, W, env, _, _, hw, he, h1, fun v H1 G1 s1 w1 r1 => ?_⟩
      obtain ⟨e, hm⟩ := r1.ref
      obtain ⟨u, hu, vs, eu, rr⟩ := w1.cel r _ hx
      subst eu
      obtain ⟨y, ys, evs, ry, rys⟩ := rr
      subst evs
      refine ⟨?_, _, y :: ys, 0, 0, y, e, rfl, hu, by decide, by decide, (ixN_seq (n := (y :: ys).length) (i := 0) (j := 0) (by unfold ixN; rw [if_pos (by decide), if_pos (by rw [List.length_cons]; omega)]; rfl)).1, rfl, ?_⟩
      · rw [e]; exact .inl ⟨rfl, _, .inl (.inl hu)⟩
      · obtain ⟨w2, s2⟩ := w1.put hm (c := .lst xs) (o := .lst ys) ⟨ys, rfl, rys⟩
        have st := s1.trans s2
        refine k y _ G1 st w2 (.inl ?_)
        have len : (W1.set r (.lst xs)).length = W1.length := by simp
        rw [len]; exact ry
    · cases hf
  · cases hf
/-! ### dict displays -/
theorem mergeK_zip : ∀ {ks : List Str} {vs : List V} (acc : List (L2.Key × V)), (∀ k ∈ ks, ∀ p ∈ acc, p.1 ≠ Sum.inr k) → ks.Nodup → mergeK acc ((ks.map Sum.inr).zip vs) = acc ++ (ks.map Sum.inr).zip vs
  | [], vs, acc, _, _ => by simp [mergeK]
  | k :: ks, [], acc, _, _ => by simp [mergeK]
  | k :: ks, v :: vs, acc, h, hn => by
    rw [List.nodup_cons] at hn
    have e : putK acc (Sum.inr k) v = acc ++ [(Sum.inr k, v)] := by
      unfold putK
      rw [if_neg]
      simp only [List.any_eq_true, decide_eq_true_eq, not_exists, not_and]
      exact fun p hp => h k (by simp) p hp
    show mergeK (putK acc (Sum.inr k) v) ((ks.map Sum.inr).zip vs) = _
    rw [e, mergeK_zip (acc ++ [(Sum.inr k, v)]) (fun k' hk' p hp => ?_) hn.2]
    · simp
    · rcases List.mem_append.mp hp with hp | hp
      · exact h k' (by simp [hk']) p hp
      · have : p = (Sum.inr k, v) := by simpa using hp
        subst this
        intro q
        have : k = k' := by injection q
        subst this
        exact hn.1 hk'
def kExpr (ks : List Str) : List (TE × TE) → Prop := fun _ => True
theorem kv_zip {G : Gh} {m : Nat} : ∀ {ks : List L2.Key} {ds : List D} {vs : List V}, Reps S G m ds vs → RepKV S G m (ks.zip ds) (ks.zip vs)
  | [], ds, vs, _ => by simp; rfl
  | k :: ks, [], vs, h => by cases h; rfl
  | k :: ks, d :: ds, vs, ⟨v, r, e, h, t⟩ => by
    subst e
    exact ⟨v, ks.zip r, rfl, h, kv_zip t⟩
/-- the pairs of a display: constant texts as keys -/
inductive Pairs_ (X : Cx) (S : Su) (pos : Pos) : List (Option Expr) → List Expr → List Str → List (TE × TE) → FXs → Prop
  | nil : Pairs_ X S pos [] [] [] [] fNil
  | cons {k : Expr} {x : Str} {v : Expr} {ks : List (Option Expr)} {vs : List Expr} {xs : List Str} {trs : List (TE × TE)} {fv : FX} {fs : FXs} (hk : PE X k (tC (.str x))) (hv : PE X v (tEv S false fv)) (r : Pairs_ X S pos ks vs xs trs fs) :
      Pairs_ X S pos (some k :: ks) (v :: vs) (x :: xs) ((tC (.str x), tEv S false fv) :: trs) (fCons fv fs)
theorem Pairs_.pps {ks : List (Option Expr)} {vs : List Expr} {xs : List Str} {trs : List (TE × TE)} {fs : FXs} (h : Pairs_ X S pos ks vs xs trs fs) : PPs X pos ks vs trs := by
  induction h with
  | nil => exact pps_nil
  | cons hk hv r ih => exact pps_cons hk hv ih
theorem Pairs_.run {ks : List (Option Expr)} {vs : List Expr} {xs : List Str} {trs : List (TE × TE)} {fs : FXs} (h : Pairs_ X S pos ks vs xs trs fs) :
    ∀ {G : Gh} {W W' : Wd} {env : Evn} {σ : L2.St} {H : Hp} {ds : List D} {R : List (V × V) → Hp → Prop}, SW S G W H → SE S G W.length env σ H → fs env W = some (ds, W') →
      (∀ us H' G', Step S G W.length H G' W'.length H' → SW S G' W' H' → Reps S G' W'.length ds us → R ((xs.map V.str).zip us) H') → tPairs trs σ H R := by
  induction h with
  | nil =>
    intro G W W' env σ H ds R hw he hf k
    cases hf
    exact k [] H G Step.refl hw rfl
  | @cons k x v ks vs xs trs fv fs hk hv r ih =>
    intro G W W' env σ H ds R hw he hf kk
    unfold fCons at hf
    cases h1 : fv env W with
    | none => simp only [h1] at hf; cases hf
    | some p =>
      obtain ⟨d, W1⟩ := p
      simp only [h1] at hf
      cases h2 : fs env W1 with
      | none => simp only [h2] at hf; cases hf
      | some q =>
        obtain ⟨ds', W2⟩ := q
        simp only [h2] at hf
        cases hf
        refine ⟨G, W, env, d, W1, hw, he, h1, fun u H1 G1 s1 w1 r1 => ?_⟩
        refine ih w1 (he.step hw rfl s1) h2 fun us H2 G2 s2 w2 r2 => ?_
        exact kk (u :: us) H2 G2 (s1.trans s2) w2 ⟨u, us, rfl, (r1.elim id (fun z => by cases z.1)).mono s2.x, r2⟩
def fDisp (ks : List Str) (fs : FXs) : FX := fun env W => match fs env W with
  | some (ds, W1) => if ds.length = ks.length ∧ ks.length ≤ 15 ∧ ks.Nodup then some (.ref W1.length, W1 ++ [.dK ((ks.map Sum.inr).zip ds)]) else none
  | none => none
theorem r_disp {ks : List (Option Expr)} {vs : List Expr} {xs : List Str} {trs : List (TE × TE)} {fs : FXs} (h : Pairs_ X S pos ks vs xs trs fs) (hall : ks.all (·.isSome) = true) (hl : ks.length = vs.length) (h0 : ks ≠ []) (hxs : xs.length = ks.length) (h15 : ks.length ≤ 15) :
    PE X (.Dict ks vs pos) (tEv S false (fDisp xs fs)) :=
  pe_imp (pe_disp h.pps hall hl h0 h15) fun σ H Q ⟨G, W, env, z, W2, hw, he, hf, k⟩ => by
    unfold fDisp at hf
    cases h1 : fs env W with
    | none => simp only [h1] at hf; cases hf
    | some p =>
      obtain ⟨ds, W1⟩ := p
      simp only [h1] at hf
      split at hf
      · rename_i hc
        obtain ⟨c1, c2, c3⟩ := hc
        cases hf
        intro q hq
        obtain ⟨w0, s0⟩ := hw.loose (o := .dK []) hq
        have hF0 := hw.notF hq
        have hc0 := hw.notC hq
        have hT := hw.notTab hq
        refine h.run w0 (he.step hw rfl s0) h1 fun us H2 G2 s2 w2 r2 => ?_
        have tD : H2 q = some (.dK []) := s2.keep q _ upd_same hc0 hT
        have hF := s2.noF (upd_same (H := H) (a := q)) hF0
        have hcc := s2.nocell (upd_same (H := H) (a := q)) hc0
        have lu : us.length = xs.length := by rw [r2.length]; exact c1
        refine ⟨tD, (xs.map Sum.inr).zip us, ?_, ?_, ?_⟩
        · have : ∀ (xs : List Str) (us : List V), (xs.map V.str).zip us = ((xs.map (Sum.inr : Str → L2.Key)).zip us).map fun kv => (kV kv.1, kv.2) := by
            intro xs
            induction xs with
            | nil => intro us; rfl
            | cons x xs ih => intro us; cases us with
              | nil => rfl
              | cons u us => simp [ih us, kV]
          exact this xs us
        · rw [List.length_zip, List.length_map, lu, Nat.min_self]; exact c2
        · rw [mergeK_zip [] (fun _ _ p hp => absurd hp (List.not_mem_nil)) c3, List.nil_append]
          have st := (s0.trans s2).redo (.dK ((xs.map Sum.inr).zip us)) hq
          have wt := w2.redo (.dK ((xs.map Sum.inr).zip us)) hF hcc hT
          have len : (W1 ++ [Cell.dK ((xs.map Sum.inr).zip ds)]).length = W1.length + 1 := by simp
          refine k _ _ (G2.new W1.length q) (by rw [len]; exact st.takeC hq) (wt.takeC upd_same hF hcc ⟨_, rfl, kv_zip r2, ?_⟩) (.inl ⟨?_, by rw [len]; exact Nat.lt_succ_self _⟩)
          · have : ((xs.map (Sum.inr : Str → L2.Key)).zip ds).map (·.1) = xs.map Sum.inr := by
              rw [List.map_fst_zip]
              rw [List.length_map, c1]
              exact Nat.le_refl _
            rw [this]
            exact List.Pairwise.map _ (fun a b hab q => hab (by injection q)) c3
          · show V.ref q = V.ref (if W1.length = W1.length then q else _)
            rw [if_pos rfl]
      · cases hf
end
end Pv
end
section
set_option Elab.async false
set_option linter.all false
set_option maxRecDepth 100000
set_option maxHeartbeats 2000000
/-! Every compiled expression does what its pure function says. -/
namespace Pv
open PySem PySem.Spec PyProof.Rows L2
/-- what the program's names stand for -/
structure PK (S : Su) (P : Ax) (g : Pg) (B : Ctx) : Prop where
  fr : ∀ x, B.fr.contains x = true → P.mg x = none
  cst : ∀ x d, B.cst.lookup x = some d → ∃ v u, P.mg x = some u ∧ RelV v u ∧ ∀ G n, Rep S G n d v
  fns : ∀ x f, B.fns.findIdx? (fun y => decide (y = x)) = some f → dotless x = true → P.mg x = some (.ref (P.fa f)) ∧ PySem.W.keepIn S.K (.ref (P.fa f)) = true
  cls : ∀ x c, B.cls.findIdx? (fun y => decide (y = x)) = some c → P.mg x = some (.ref (S.cA c))
  ini : ∀ c f, g.ini c = some f → Mk S.K (S.cA c) (P.fa f) ∧ f < B.fns.length
  mt : ∀ c m f, g.mt c m = some f → Cls S.K (S.cA c) ∧ Meth S.K (S.cA c) m (P.fa f) ∧ f < B.fns.length
  na : ∀ c f, g.na c f = true → Cls S.K (S.cA c) ∧ NoAttr S.K (S.cA c) f
def LK (S : Su) (P : Ax) (cl : Nat → CallF) (B : Ctx) (n : Nat) : Prop := ∀ m, m ≤ n → ∀ f, f < B.fns.length → FnAt S P m f (cl m f)
structure Same (Γ B : Ctx) : Prop where
  fns : Γ.fns = B.fns
  cls : Γ.cls = B.cls
  cst : Γ.cst = B.cst
  fr : Γ.fr = B.fr
theorem LK.mono {S : Su} {P : Ax} {cl : Nat → CallF} {B : Ctx} {n m : Nat} (h : LK S P cl B n) (hm : m ≤ n) : LK S P cl B m := fun j hj f hf => h j (Nat.le_trans hj hm) f hf
/-! ### heads -/
theorem cF_none (k : Nat) (Γ : Ctx) {e : Expr} (h : match e with | .List _ _ => False | .ListComp _ _ _ _ => False | .Call _ _ _ _ => False | _ => True) : cF k Γ e = none := by
  cases k with
  | zero => rfl
  | succ k => cases e <;> first | rfl | exact h.elim
theorem cE_star {k : Nat} {Γ : Ctx} {e : Expr} {x : Ex} (h : cE k Γ e = some x) (env : Env) (r : List Expr) : starEach (e :: r) env = (false, eval e env) :: starEach r env := by
  cases k with
  | zero => cases h
  | succ k =>
    cases e with
    | Starred a p =>
      unfold cE at h
      rw [cF_none k Γ True.intro] at h
      cases h
    | _ => rfl
theorem cE_ix {k : Nat} {Γ : Ctx} {e : Expr} {x : Ex} (h : cE k Γ e = some x) : PlainIx e := by
  cases k with
  | zero => cases h
  | succ k =>
    cases e with
    | Slice a b c p =>
      unfold cE at h
      rw [cF_none k Γ True.intro] at h
      cases h
    | _ => exact fun _ _ => rfl
theorem fold_of {k : Nat} {Γ : Ctx} {tp : Bool} {e : Expr} {x : It} (h : cI k Γ tp e = some x) (env : Env) (v : Value) : foldedSetIterable e env v = pure v := by
  cases e with
  | Set a b p =>
    cases k with
    | zero => cases h
    | succ k => cases h
  | _ => rfl
theorem genFold_of {k : Nat} {Γ : Ctx} {tp : Bool} {e : Expr} {x : It} (h : cI k Γ tp e = some x) (hl : isLst e = false) (env : Env) (v : Value) : genFold e env v = pure v := by
  have h1 := fold_of h env v
  cases e with
  | List a p => cases hl
  | _ => exact h1
theorem gexC_ok {N : List Str} {sc scope : Scope} {own : List (Str × Nat)} (h : gexC N sc scope own = true) : GX.GexOk N sc scope own := by
  unfold gexC at h
  simp only [Bool.and_eq_true, List.all_eq_true, decide_eq_true_eq, Bool.not_eq_true'] at h
  obtain ⟨⟨⟨⟨⟨h1, h2⟩, h3⟩, h4⟩, h5⟩, h6⟩ := h
  refine ⟨?_, h2, h3, h4, fun y hy hk => ?_, fun y hy hk => ?_, fun y hy hk => ?_, h6⟩
  · split at h1
    · assumption
    · cases h1
  · have := h5 y hy
    rw [hk] at this
    simp only at this
    split at this
    · rename_i e; exact .inl e
    · rename_i e; exact .inr e
    · cases this
  · have := h5 y hy
    rw [hk] at this
    simp only [Bool.or_eq_true, decide_eq_true_eq] at this
    exact this
  · have := h5 y hy
    rw [hk] at this
    cases this
section
variable {S : Su} {P : Ax} {g : Pg} {cl : Nat → CallF} {B : Ctx}
def SndE (S : Su) (P : Ax) (g : Pg) (cl : Nat → CallF) (B : Ctx) (k : Nat) : Prop := ∀ (Γ : Ctx) (n : Nat) (X : Cx) (e : Expr) (x : Ex), Same Γ B → XOk S P Γ n X → LK S P cl B n → cE k Γ e = some x →
  ∀ bo, PE X e (tEv S bo (evX g cl n bo x)) ∧ PT X e (tEvT S (truF (evX g cl n bo x)))
theorem opt_cons {α β : Type} {f : α → Option β} {x : α} {xs : List α} {l : List β} (h : optL f (x :: xs) = some l) : ∃ y ys, f x = some y ∧ optL f xs = some ys ∧ l = y :: ys := by
  unfold optL at h
  split at h
  · rename_i y ys h1 h2
    cases h
    exact ⟨y, ys, h1, h2, rfl⟩
  · cases h
theorem args_of {k : Nat} (ih : SndE S P g cl B k) {Γ : Ctx} {n : Nat} {X : Cx} (hs : Same Γ B) (hX : XOk S P Γ n X) (hL : LK S P cl B n) : ∀ {es : List Expr} {l : List Ex}, optL (cE k Γ) es = some l →
    PA X es (tEvs S false (evXs g cl n (exsOf l))) ∧ PA X es (tEvs S true (evBs g cl n (exsOf l))) ∧ NoStar X es ∧ l.length = es.length
  | [], l, h => by
    cases h
    exact ⟨r_nil, r_nil, fun e he => absurd he (List.not_mem_nil), rfl⟩
  | e :: es, l, h => by
    obtain ⟨y, ys, h1, h2, rfl⟩ := opt_cons h
    obtain ⟨i1, i2, i3, i4⟩ := args_of ih hs hX hL h2
    refine ⟨r_cons (ih Γ n X e y hs hX hL h1 false).1 i1 (cE_star h1 _ _), r_cons (ih Γ n X e y hs hX hL h1 true).1 i2 (cE_star h1 _ _), fun e' he' r => ?_, by simp [i4]⟩
    rcases List.mem_cons.mp he' with rfl | he'
    · exact cE_star h1 _ _
    · exact i3 e' he' r
theorem nest_and {k : Nat} (ih : SndE S P g cl B k) {Γ : Ctx} {n : Nat} {X : Cx} {pos : Pos} (hs : Same Γ B) (hX : XOk S P Γ n X) (hL : LK S P cl B n) : ∀ {es : List Expr} {l : List Ex} {x : Ex}, optL (cE k Γ) es = some l → nest .and l = some x →
    PE X (.BoolOp .And es pos) (tEv S false (evX g cl n false x)) ∧ PW X (.BoolOp .And es pos) (tEvT S (truF (evX g cl n false x)))
  | [], l, x, h, hn => by
    cases h
    cases hn
  | [e], l, x, h, hn => by
    obtain ⟨y, ys, h1, h2, rfl⟩ := opt_cons h
    cases h2
    cases hn
    obtain ⟨a, b⟩ := ih Γ n X e _ hs hX hL h1 false
    exact ⟨pe_one a, pw_and1 b⟩
  | e :: e2 :: es, l, x, h, hn => by
    obtain ⟨y, ys, h1, h2, rfl⟩ := opt_cons h
    have hn2 : ∃ z, nest .and ys = some z ∧ x = .and y z := by
      obtain ⟨y2, ys2, _, _, rfl⟩ := opt_cons h2
      have hn : (nest .and (y2 :: ys2)).map (Ex.and y) = some x := hn
      obtain ⟨z, hz, e⟩ := Option.map_eq_some_iff.mp hn
      exact ⟨z, hz, e.symm⟩
    obtain ⟨z, hz, rfl⟩ := hn2
    obtain ⟨a, b⟩ := ih Γ n X e y hs hX hL h1 false
    obtain ⟨c, d⟩ := nest_and ih hs hX hL (pos := pos) h2 hz
    have key : evX g cl n false (.and y z) = fAnd true (evX g cl n false y) (evX g cl n false z) := by
      funext env W
      simp only [evX, fAnd]
      split <;> simp_all
    rw [key]
    exact r_and a c b d
theorem nest_or {k : Nat} (ih : SndE S P g cl B k) {Γ : Ctx} {n : Nat} {X : Cx} {pos : Pos} (hs : Same Γ B) (hX : XOk S P Γ n X) (hL : LK S P cl B n) : ∀ {es : List Expr} {l : List Ex} {x : Ex}, optL (cE k Γ) es = some l → nest .or l = some x →
    PE X (.BoolOp .Or es pos) (tEv S false (evX g cl n false x)) ∧ PW X (.BoolOp .Or es pos) (tEvT S (truF (evX g cl n false x)))
  | [], l, x, h, hn => by
    cases h
    cases hn
  | [e], l, x, h, hn => by
    obtain ⟨y, ys, h1, h2, rfl⟩ := opt_cons h
    cases h2
    cases hn
    obtain ⟨a, b⟩ := ih Γ n X e _ hs hX hL h1 false
    exact ⟨pe_one a, pw_or1 b⟩
  | e :: e2 :: es, l, x, h, hn => by
    obtain ⟨y, ys, h1, h2, rfl⟩ := opt_cons h
    have hn2 : ∃ z, nest .or ys = some z ∧ x = .or y z := by
      obtain ⟨y2, ys2, _, _, rfl⟩ := opt_cons h2
      have hn : (nest .or (y2 :: ys2)).map (Ex.or y) = some x := hn
      obtain ⟨z, hz, e⟩ := Option.map_eq_some_iff.mp hn
      exact ⟨z, hz, e.symm⟩
    obtain ⟨z, hz, rfl⟩ := hn2
    obtain ⟨a, b⟩ := ih Γ n X e y hs hX hL h1 false
    obtain ⟨c, d⟩ := nest_or ih hs hX hL (pos := pos) h2 hz
    have key : evX g cl n false (.or y z) = fAnd false (evX g cl n false y) (evX g cl n false z) := by
      funext env W
      simp only [evX, fAnd]
      split <;> simp_all
    rw [key]
    exact r_or a c b d
theorem XOk.blk {Γ : Ctx} {n : Nat} {X : Cx} (hX : XOk S P Γ n X) (s : Shared) (H : Hp) (scope : Scope) (C : Addr) (cells : List (Str × Addr)) (fp : List Addr) : XOk S P (Γ.blk scope) n (X.blk s H scope (compEnvC scope cells C X.env) fp) where
  prog := hX.prog
  w := hX.w
  mg := hX.mg
  base := hX.base
  K := hX.K
  N := hX.N
  nd := hX.nd
  sc := by
    show relabel scope X.env = relS scope Γ.sc
    rw [← hX.sc]
    rfl
  fn := fun x h => h
  calm := hX.calm
  room := hX.room
  ge := fun h => by cases h
theorem XOk.gen {Γ : Ctx} {n m : Nat} {X : Cx} (hX : XOk S P Γ n X) (A' : Around) (s : Shared) (H : Hp) (scope : Scope) (C : Addr) (cells : List (Str × Addr)) (code : Value) (fp : List Addr) (hr : Room m A') :
    XOk S P (Γ.gen scope) m (GX.Cx.gex X A' s H (genEnv scope cells C code builtinsNs X.env) fp) where
  prog := hX.prog
  w := hX.w
  mg := hX.mg
  base := hX.base
  K := hX.K
  N := hX.N
  nd := hX.nd
  sc := rfl
  fn := fun x h => by cases h
  calm := rfl
  room := hr
  ge := fun h => by cases h
end
end Pv
end
section
set_option Elab.async false
set_option linter.all false
set_option maxRecDepth 100000
set_option maxHeartbeats 4000000
/-! The induction over the compiler of expressions. -/
namespace Pv
open PySem PySem.Spec PyProof.Rows L2
section
variable {S : Su} {P : Ax} {g : Pg} {cl : Nat → CallF} {B : Ctx}
def SndC (S : Su) (P : Ax) (g : Pg) (cl : Nat → CallF) (B : Ctx) (k : Nat) : Prop := ∀ (Γ : Ctx) (n : Nat) (X : Cx) (x : Str) (p pos : Pos) (es : List Expr) (y : Ex), Same Γ B → XOk S P Γ n X → LK S P cl B n → Γ.gl x = true → dotless x = true → cCall k Γ x es = some y →
  ∀ bo, PE X (.Call (.Name x p) es [] pos) (tEv S bo (evX g cl n bo y))
def SndF (S : Su) (P : Ax) (g : Pg) (cl : Nat → CallF) (B : Ctx) (k : Nat) : Prop := ∀ (Γ : Ctx) (n : Nat) (X : Cx) (e : Expr) (f : Fx), Same Γ B → XOk S P Γ n X → LK S P cl B n → cF k Γ e = some f → PE X e (tEvF S (evF g cl n f))
def SndI (S : Su) (P : Ax) (g : Pg) (cl : Nat → CallF) (B : Ctx) (k : Nat) : Prop := ∀ (Γ : Ctx) (n : Nat) (X : Cx) (tg e : Expr) (it : It), Same Γ B → XOk S P Γ n X → LK S P cl B n → cI k Γ (isTpl tg) e = some it →
  ∀ bo, PI X tg e (tI S bo (evI g cl n bo it)) ∧ OkFI (evI g cl n bo it)
theorem upto {X : Cx} {e : Expr} {f h : FX} {bo : Bool} (q : PE X e (tEv S false f)) (k : ∀ env W, h env W = f env W) : PE X e (tEv S bo h) := Pv.PE.to (Pv.PE.up q) k
theorem okStr_of {x : Str} (h : okStrB x = true) : okStr x := by
  unfold okStrB at h
  rw [Bool.and_eq_true] at h
  exact ⟨h.1, of_decide_eq_true h.2⟩
theorem opt_map {α β : Type} {f : α → β} {o : Option α} {y : β} (h : o.map f = some y) : ∃ x, o = some x ∧ y = f x := by
  obtain ⟨x, h1, h2⟩ := Option.map_eq_some_iff.mp h
  exact ⟨x, h1, h2.symm⟩
/-- a value rule gives both -/
theorem both {X : Cx} {e : Expr} {f : Bool → FX} (hK : X.K = S.K) (h : ∀ bo, PE X e (tEv S bo (f bo))) (ht : ∀ whole, isTrue e X.env whole = (do let v ← whole; standAt e.pos; holding [v] (truthy v))) :
    ∀ bo, PE X e (tEv S bo (f bo)) ∧ PT X e (tEvT S (truF (f bo))) := fun bo => ⟨h bo, r_tru hK (h bo) ht⟩
theorem po_of {k : Nat} (ih : SndE S P g cl B k) {Γ : Ctx} {n : Nat} {X : Cx} (hs : Same Γ B) (hX : XOk S P Γ n X) (hL : LK S P cl B n) {o : Option Expr} {y : Oe} (h : optO (α := Unit) (cE k Γ) o = some y) : PO X o (tEvO S (evO g cl n y)) := by
  cases o with
  | none =>
    cases h
    have := r_po (S := S) (X := X) (e := none) (f := none) True.intro
    have e : evO g cl n .no = fO none := by funext env W; rfl
    rw [e]
    exact this
  | some e =>
    obtain ⟨x, h1, rfl⟩ := opt_map h
    have := r_po (S := S) (X := X) (e := some e) (f := some (evX g cl n true x)) (ih Γ n X e x hs hX hL h1 true).1
    have e : evO g cl n (.yes x) = fO (some (evX g cl n true x)) := by funext env W; rfl
    rw [e]
    exact this
theorem cE_slice {k : Nat} {Γ : Ctx} {a b c : Option Expr} {p : Pos} {x : Ex} (h : cE k Γ (.Slice a b c p) = some x) : False := by
  cases k with
  | zero => cases h
  | succ k =>
    unfold cE at h
    rw [cF_none k Γ True.intro] at h
    cases h
theorem pairs_of {k : Nat} (ih : SndE S P g cl B k) {Γ : Ctx} {n : Nat} {X : Cx} {pos : Pos} (hs : Same Γ B) (hX : XOk S P Γ n X) (hL : LK S P cl B n) : ∀ {keys : List (Option Expr)} {vals : List Expr} {l : List Str} {es : List Ex}, strK keys = some l → optL (cE k Γ) vals = some es → keys.length = vals.length →
    ∃ trs, Pairs_ X S pos keys vals l trs (evXs g cl n (exsOf es)) ∧ keys.all (·.isSome) = true ∧ l.length = keys.length
  | [], [], l, es, h1, h2, _ => by
    cases h1
    cases h2
    exact ⟨[], .nil, rfl, rfl⟩
  | [], _ :: _, _, _, _, _, h => by cases h
  | _ :: _, [], _, _, _, _, h => by cases h
  | o :: keys, v :: vals, l, es, h1, h2, h3 => by
    obtain ⟨y, ys, g1, g2, rfl⟩ := opt_cons h2
    unfold strK at h1
    split at h1
    · rename_i heq
      cases heq
    · rename_i z a b r heq
      cases heq
      split at h1
      · rename_i ok
        obtain ⟨l', h4, rfl⟩ := opt_map h1
        obtain ⟨trs, i1, i2, i3⟩ := pairs_of ih hs hX hL (pos := pos) h4 g2 (by simpa using h3)
        exact ⟨_, .cons pe_str (ih Γ n X v y hs hX hL g1 false).1 i1, by simp [i2], by simp [i3]⟩
      · cases h1
    · cases h1
theorem no_dnew {X : Cx} {e : Expr} {bo : Bool} {f : FX} (h : ∀ env W, f env W = none) : PE X e (tEv S bo f) := ⟨fun pins s σ H Q I ⟨G, W, env, z, W2, hw, he, hf, k⟩ => by rw [h] at hf; cases hf⟩
theorem sndE_succ (hP : PK S P g B) {k : Nat} (ih : SndE S P g cl B k) (ihC : SndC S P g cl B k) (ihF : SndF S P g cl B k) : SndE S P g cl B (k + 1) := by
  intro Γ n X e x hs hX hL h
  have room := hX.room
  unfold cE at h
  cases hf : cF k Γ e with
  | some f =>
    rw [hf] at h
    simp only at h
    have tr : ∀ whole, isTrue e X.env whole = (do let v ← whole; standAt e.pos; holding [v] (truthy v)) := by
      cases e <;> first | (rw [cF_none k Γ True.intro] at hf; cases hf; done) | exact fun _ => rfl
    have h1 := ihF Γ n X e f hs hX hL hf
    cases h
    split
    · exact both hX.K (fun bo => upto (r_cel h1) fun env W => rfl) tr
    · exact both hX.K (fun bo => upto (r_fr h1) fun env W => rfl) tr
  | none =>
    rw [hf] at h
    simp only at h
    cases e with
    | Name y p =>
      simp only at h
      cases ha : Γ.at y with
      | some i =>
        rw [ha] at h
        cases h
        obtain ⟨a1, a2, a3, a4⟩ := hX.at ha
        exact both hX.K (fun bo => Pv.PE.to (r_var (pe_var a1 a2 a3 a4) bo) fun env W => rfl) fun _ => rfl
      | none =>
        rw [ha] at h
        simp only at h
        split at h
        · rename_i hg
          obtain ⟨d, hd, rfl⟩ := opt_map h
          rw [hs.cst] at hd
          obtain ⟨v, u, m1, m2, m3⟩ := hP.cst y d hd
          obtain ⟨g1, g2, _⟩ := hX.gl hg
          exact both hX.K (fun bo => upto (r_c (pe_glob g1 (by rw [hX.mg]; exact m1) m2 g2) m3) fun env W => rfl) fun _ => rfl
        · cases h
    | Constant c j p =>
      cases c with
      | none => cases h; exact both hX.K (fun bo => upto (r_c (d := .non) pe_non fun _ _ => rfl) fun env W => rfl) fun _ => rfl
      | bool b => cases h; exact both hX.K (fun bo => upto (r_c (d := .bl b) pe_bl fun _ _ => rfl) fun env W => rfl) fun _ => rfl
      | int i => cases h; exact both hX.K (fun bo => upto (r_c (d := .int i) pe_int fun _ _ => rfl) fun env W => rfl) fun _ => rfl
      | str z =>
        simp only at h
        split at h
        · rename_i ok
          cases h
          exact both hX.K (fun bo => upto (r_c (d := .str z) pe_str fun _ _ => ⟨rfl, okStr_of ok⟩) fun env W => rfl) fun _ => rfl
        · cases h
      | _ => cases h
    | Tuple es j p =>
      simp only at h
      obtain ⟨l, h1, rfl⟩ := opt_map h
      obtain ⟨a1, a2, a3, a4⟩ := args_of ih hs hX hL h1
      exact both hX.K (fun bo => upto (r_tup a1) fun env W => rfl) fun _ => rfl
    | BinOp a o b p =>
      simp only at h
      split at h
      · rename_i o' y z h1 h2 h3
        cases h
        exact both hX.K (fun bo => upto (r_op h1 (ih Γ n X a y hs hX hL h2 true).1 (ih Γ n X b z hs hX hL h3 true).1) fun env W => rfl) fun _ => rfl
      · cases h
    | UnaryOp o a p =>
      cases o with
      | USub =>
        obtain ⟨y, h1, rfl⟩ := opt_map h
        exact both hX.K (fun bo => upto (r_neg (ih Γ n X a y hs hX hL h1 true).1) fun env W => rfl) fun _ => rfl
      | Not =>
        obtain ⟨y, h1, rfl⟩ := opt_map h
        intro bo
        obtain ⟨q1, q2⟩ := r_not (pos := p) hX.K (ih Γ n X a y hs hX hL h1 true).1 (ih Γ n X a y hs hX hL h1 true).2
        exact ⟨upto q1 fun env W => rfl, pt_imp q2 fun σ H Q q => q⟩
      | _ => cases h
    | BoolOp o es p =>
      cases o with
      | And =>
        simp only at h
        split at h
        · split at h
          · rename_i l h1
            obtain ⟨q1, q2⟩ := nest_and ih hs hX hL (pos := p) h1 h
            have ev : ∀ bo, evX g cl n bo x = evX g cl n false x := by
              intro bo
              cases es with
              | nil => cases h1; cases h
              | cons e es =>
                cases es with
                | nil => rename_i h2; simp at h2
                | cons e2 es =>
                  obtain ⟨y, ys, g1, g2, rfl⟩ := opt_cons h1
                  obtain ⟨y2, ys2, _, _, rfl⟩ := opt_cons g2
                  have hn : (nest .and (y2 :: ys2)).map (Ex.and y) = some x := h
                  obtain ⟨z, _, rfl⟩ := opt_map hn
                  funext env W
                  rfl
            intro bo
            rw [ev bo]
            exact ⟨Pv.PE.up q1, q2.pt⟩
          · cases h
        · cases h
      | Or =>
        simp only at h
        split at h
        · split at h
          · rename_i l h1
            obtain ⟨q1, q2⟩ := nest_or ih hs hX hL (pos := p) h1 h
            have ev : ∀ bo, evX g cl n bo x = evX g cl n false x := by
              intro bo
              cases es with
              | nil => cases h1; cases h
              | cons e es =>
                cases es with
                | nil => rename_i h2; simp at h2
                | cons e2 es =>
                  obtain ⟨y, ys, g1, g2, rfl⟩ := opt_cons h1
                  obtain ⟨y2, ys2, _, _, rfl⟩ := opt_cons g2
                  have hn : (nest .or (y2 :: ys2)).map (Ex.or y) = some x := h
                  obtain ⟨z, _, rfl⟩ := opt_map hn
                  funext env W
                  rfl
            intro bo
            rw [ev bo]
            exact ⟨Pv.PE.up q1, q2.pt⟩
          · cases h
        · cases h
    | IfExp c a b p =>
      simp only at h
      split at h
      · rename_i z y w h1 h2 h3
        cases h
        intro bo
        obtain ⟨q1, q2⟩ := r_ite (pos := p) (ih Γ n X c z hs hX hL h1 true).2 (ih Γ n X a y hs hX hL h2 false).1 (ih Γ n X b w hs hX hL h3 false).1 (ih Γ n X a y hs hX hL h2 false).2 (ih Γ n X b w hs hX hL h3 false).2
        have ev : evX g cl n bo (.ite z y w) = fIte (evX g cl n true z) (evX g cl n false y) (evX g cl n false w) := by
          funext env W
          rfl
        rw [ev]
        exact ⟨Pv.PE.up q1, q2⟩
      · cases h
    | Attribute o f p =>
      simp only at h
      split at h
      · rename_i hn
        obtain ⟨y, h1, rfl⟩ := opt_map h
        exact both hX.K (fun bo => upto (r_fld hX.K hP.na (ih Γ n X o y hs hX hL h1 false).1 hn) fun env W => rfl) fun _ => rfl
      · cases h
    | Dict ks vs p =>
      cases ks with
      | nil =>
        cases vs with
        | nil => cases h; exact both hX.K (fun bo => upto r_newK fun env W => rfl) fun _ => rfl
        | cons _ _ => cases h
      | cons kk ks =>
        cases vs with
        | nil => cases h
        | cons v vs =>
          simp only at h
          split at h
          · rename_i hc
            split at h
            · rename_i l es h1 h2
              cases h
              obtain ⟨trs, i1, i2, i3⟩ := pairs_of ih hs hX hL (pos := p) h1 h2 (by simp [hc.1])
              exact both hX.K (fun bo => upto (r_disp i1 i2 (by simp [hc.1]) (by simp) i3 (by simp; omega)) fun env W => rfl) fun _ => rfl
            · cases h
          · cases h
    | Compare a os cs p =>
      have one : ∀ {o : CmpOp} {b : Expr}, (if behindInMarks o b = false then (match cC o, cE k Γ a, cE k Γ b with
          | some o, some x, some y => some (Ex.cmp o x y)
          | _, _, _ => none) else none) = some x → ∀ bo, PE X (.Compare a [o] [b] p) (tEv S bo (evX g cl n bo x)) ∧ PT X (.Compare a [o] [b] p) (tEvT S (truF (evX g cl n bo x))) := by
        intro o b h
        split at h
        · rename_i hb
          split at h
          · rename_i o' y z h1 h2 h3
            cases h
            intro bo
            obtain ⟨q1, q2⟩ := r_cmp (pos := p) room hX.K h1 (ih Γ n X a y hs hX hL h2 true).1 (ih Γ n X b z hs hX hL h3 true).1 hb
            have ev : evX g cl n bo (.cmp o' y z) = fCmp o' (evX g cl n true y) (evX g cl n true z) := by
              funext env W
              rfl
            rw [ev]
            exact ⟨Pv.PE.up q1, q2⟩
          · cases h
        · cases h
      have isn : ∀ {neg : Bool} {j : Nat} {kp : Pos}, (cE k Γ a).map (if neg then Ex.notN else Ex.isN) = some x → ∀ bo, PE X (.Compare a [if neg then .IsNot else .Is] [.Constant .none j kp] p) (tEv S bo (evX g cl n bo x)) ∧ PT X (.Compare a [if neg then .IsNot else .Is] [.Constant .none j kp] p) (tEvT S (truF (evX g cl n bo x))) := by
        intro neg j kp h bo
        obtain ⟨y, h1, rfl⟩ := opt_map h
        obtain ⟨q1, q2⟩ := r_isN (pos := p) (neg := neg) (j := j) (p' := kp) (ih Γ n X a y hs hX hL h1 true).1
        have ev : evX g cl n bo ((if neg then Ex.notN else Ex.isN) y) = fIsN neg (evX g cl n true y) := by
          cases neg <;> (funext env W; rfl)
        rw [ev]
        exact ⟨Pv.PE.up q1, q2⟩
      cases os with
      | nil => cases h
      | cons o os =>
        cases os with
        | nil =>
          cases cs with
          | nil => cases o <;> cases h
          | cons b cs =>
            cases cs with
            | cons _ _ => cases o <;> (cases b <;> first | (cases h; done) | (rename_i c _ _; cases c <;> cases h))
            | nil =>
              cases o with
              | Is =>
                cases b with
                | Constant c j kp =>
                  cases c with
                  | none => exact isn (neg := false) h
                  | _ => exact one h
                | _ => exact one h
              | IsNot =>
                cases b with
                | Constant c j kp =>
                  cases c with
                  | none => exact isn (neg := true) h
                  | _ => exact one h
                | _ => exact one h
              | _ => exact one h
        | cons o' os =>
          cases os with
          | cons _ _ => cases o <;> cases h
          | nil =>
            cases cs with
            | nil => cases o <;> cases h
            | cons b cs =>
              cases cs with
              | nil => cases o <;> cases h
              | cons c cs =>
                cases cs with
                | cons _ _ => cases o <;> cases h
                | nil =>
                  have h' : (if lastMarks [o, o'] [b, c] = false then (match cC o, cC o', cE k Γ a, cE k Γ b, cE k Γ c with
                    | some o, some o', some x, some y, some z => some (Ex.chain o o' x y z)
                    | _, _, _, _, _ => none) else none) = some x := by
                    cases o <;> exact h
                  split at h'
                  · rename_i hm
                    split at h'
                    · rename_i o1 o2 y z w h1 h2 h3 h4 h5
                      cases h'
                      intro bo
                      obtain ⟨q1, q2⟩ := r_chain (pos := p) room hX.K h1 h2 (ih Γ n X a y hs hX hL h3 true).1 (ih Γ n X b z hs hX hL h4 true).1 (ih Γ n X c w hs hX hL h5 true).1 hm
                      have ev : evX g cl n bo (.chain o1 o2 y z w) = fChain o1 o2 (evX g cl n true y) (evX g cl n true z) (evX g cl n true w) := by
                        funext env W
                        rfl
                      rw [ev]
                      exact ⟨Pv.PE.up q1, q2⟩
                    · cases h'
                  · cases h'
    | Subscript a b p =>
      have two : (match cE k Γ a, cE k Γ b with
          | some x, some y => some (Ex.ix x y)
          | _, _ => none) = some x → ∀ bo, PE X (.Subscript a b p) (tEv S bo (evX g cl n bo x)) ∧ PT X (.Subscript a b p) (tEvT S (truF (evX g cl n bo x))) := by
        intro h
        split at h
        · rename_i y z h1 h2
          cases h
          exact both hX.K (fun bo => upto (r_ix room hX.K (ih Γ n X a y hs hX hL h1 true).1 (ih Γ n X b z hs hX hL h2 true).1 (cE_ix h2)) fun env W => rfl) fun _ => rfl
        · cases h
      cases b with
      | Slice lo hi st p2 =>
        cases st with
        | none =>
          simp only at h
          split at h
          · rename_i y l u h1 h2 h3
            cases h
            exact both hX.K (fun bo => upto (r_sl hX.K (ih Γ n X a y hs hX hL h1 true).1 (po_of ih hs hX hL h2) (po_of ih hs hX hL h3)) fun env W => rfl) fun _ => rfl
          · cases h
        | some e => exact two h
      | _ => exact two h
    | Call f es kw p =>
      cases kw with
      | cons _ _ => cases f <;> cases h
      | nil =>
        cases f with
        | Name y q =>
          simp only at h
          split at h
          · rename_i hc
            exact both hX.K (ihC Γ n X y q p es x hs hX hL hc.1 hc.2 h) fun _ => rfl
          · cases h
        | Attribute o m q =>
          simp only at h
          split at h
          · rename_i hn
            split at h
            · rename_i hm
              subst hm
              split at h
              · split at h
                · rename_i hl
                  obtain ⟨y, h1, rfl⟩ := opt_map h
                  exact both hX.K (fun bo => upto (r_pop hX (ih Γ n X o y hs hX hL h1 false).1 hn hl) fun env W => rfl) fun _ => rfl
                · cases h
              · cases h
            · split at h
              · rename_i hc
                split at h
                · rename_i y l h1 h2
                  cases h
                  obtain ⟨a1, a2, a3, a4⟩ := args_of ih hs hX hL h2
                  refine both hX.K (fun bo => upto (r_meth (cl := cl n) (g := g) hX (fun c f hm => ?_) (ih Γ n X o y hs hX hL h1 false).1 hn hc.1 a3 hc.2 a1 ?_) fun env W => rfl) fun _ => rfl
                  · obtain ⟨c1, c2, c3⟩ := hP.mt c m f hm
                    exact ⟨c1, c2, hL n (Nat.le_refl _) f c3⟩
                  · intro e0
                    subst e0
                    cases h2
                    rfl
                · cases h
              · cases h
          · cases h
        | _ => cases h
    | _ => cases h
end
end Pv
end
section
set_option Elab.async false
set_option linter.all false
set_option maxRecDepth 100000
set_option maxHeartbeats 4000000
namespace Pv
open PySem PySem.Spec PyProof.Rows L2
section
variable {S : Su} {P : Ax} {g : Pg} {cl : Nat → CallF} {B : Ctx}
theorem name_pos {k : Nat} {Γ : Ctx} {t : Str} {p q : Pos} : cE k Γ (.Name t p) = cE k Γ (.Name t q) := by
  cases k with
  | zero => rfl
  | succ k =>
    unfold cE
    rw [cF_none k Γ True.intro, cF_none k Γ True.intro]
theorem pts_imp {X : Cx} {es : List Expr} {t t' : TT} (h : PTs X es t) (k : ∀ σ H Q, t' σ H Q → t σ H Q) : PTs X es t' := ⟨fun pins s σ H Q I q => h.run pins s σ H Q I (k σ H Q q)⟩
theorem pts_of {k : Nat} (ih : SndE S P g cl B k) {Γ : Ctx} {n : Nat} {X : Cx} (hs : Same Γ B) (hX : XOk S P Γ n X) (hL : LK S P cl B n) {ifs : List Expr} {c : Oe} (h : cIfs (cE k Γ) ifs = some c) : PTs X ifs (tEvT S (evC g cl n c)) := by
  cases ifs with
  | nil =>
    cases h
    refine pts_imp pts_nil fun σ H Q ⟨G, W, env, t, W2, hw, he, hf, q⟩ => ?_
    cases hf
    exact q H G Step.refl hw
  | cons e r =>
    cases r with
    | nil =>
      obtain ⟨x, h1, rfl⟩ := opt_map h
      exact pts_one (ih Γ n X e x hs hX hL h1 true).2
    | cons _ _ => cases h
theorem sndC_succ (hP : PK S P g B) {k : Nat} (ih : SndE S P g cl B k) (ihI : SndI S P g cl B k) : SndC S P g cl B (k + 1) := by
  intro Γ n X x p pos es y hs hX hL hg hd h bo
  obtain ⟨g1, g2, g3⟩ := hX.gl hg
  unfold cCall at h
  cases hf : Γ.fns.findIdx? (fun y => decide (y = x)) with
  | some f =>
    rw [hf] at h
    obtain ⟨l, h1, rfl⟩ := opt_map h
    obtain ⟨a1, a2, a3, a4⟩ := args_of ih hs hX hL h1
    rw [hs.fns] at hf
    obtain ⟨m1, m2⟩ := hP.fns x f hf hd
    have hlt : f < B.fns.length := (List.getElem?_eq_some_iff.mp (findIdx_at hf)).1
    exact upto (r_call hX (hL n (Nat.le_refl _) f hlt) g1 g2 m1 m2 a1 a3 (fun e0 => by subst e0; cases h1; rfl)) fun env W => rfl
  | none =>
    rw [hf] at h
    simp only at h
    cases hc : Γ.cls.findIdx? (fun y => decide (y = x)) with
    | some c =>
      rw [hc] at h
      obtain ⟨l, h1, rfl⟩ := opt_map h
      obtain ⟨a1, a2, a3, a4⟩ := args_of ih hs hX hL h1
      rw [hs.cls] at hc
      have m1 := hP.cls x c hc
      cases n with
      | zero => exact no_dnew fun env W => rfl
      | succ m =>
        cases hi : g.ini c with
        | none => exact no_dnew fun env W => by simp only [evX, hi]
        | some f =>
          obtain ⟨i1, i2⟩ := hP.ini c f hi
          exact upto (r_new hX (hL m (Nat.le_succ _) f i2) i1 g1 g2 m1 a1 a3 (fun e0 => by subst e0; cases h1; rfl)) fun env W => by
            simp only [evX, hi, fNew]
            all_goals rfl
    | none =>
      rw [hc] at h
      simp only at h
      split at h
      · rename_i hfr
        rw [hs.fr] at hfr
        have hm := hP.fr x hfr
        split at h
        · rename_i elt tg iter scope gp
          split at h
          · rename_i hx
            split at h
            · rename_i pt own it e h1 h2 h3
              split at h
              · rename_i hcc
                obtain ⟨c1, c2, c3⟩ := hcc
                cases h
                cases n with
                | zero => exact no_dnew fun env W => rfl
                | succ m =>
                  obtain ⟨cd, T, t1, t2, t3⟩ := hX.ge c2
                  have ok := gexC_ok c1
                  rw [← hX.N, ← hX.sc] at ok
                  obtain ⟨q1, q2⟩ := ihI Γ (m + 1) X tg iter it hs hX hL h2 true
                  have hs' : Same (Γ.gen scope) B := ⟨hs.fns, hs.cls, hs.cst, hs.fr⟩
                  have HG : ∀ (A' : Around) (s : Shared) (H : Hp) (C : Addr) (cl : List (Str × Addr)) (code : Value) (fp : List Addr), Room m A' → XOk S P (Γ.gen scope) m (GX.Cx.gex X A' s H (genEnv scope cl C code builtinsNs X.env) fp) :=
                    fun A' s H C cells code fp hr => hX.gen A' s H scope C cells code fp hr
                  have own_eq : own.map (·.2) = pt.slots := by
                    unfold cPat at h1
                    split at h1
                    · split at h1
                      · cases h1; rfl
                      · cases h1
                    · split at h1
                      · cases h1; rfl
                      · cases h1
                    · cases h1
                  have fin : ∀ stp : Bool, ∀ σ H Q, tEv S bo (evX g cl (m + 1) bo (.aa stp pt it e)) σ H Q → GX.tAA T stp (tI S true (evI g cl (m + 1) true it)) (gPat S pt) tYes (tEv S false (evX g cl m false e)) (own.map (·.2)) σ H Q := by
                    intro stp σ H Q q
                    rw [own_eq]
                    refine aa_core t3 q2 ?_
                    have q' : tEv S bo (fAA stp pt (evI g cl (m + 1) true it) (evX g cl m false e)) σ H Q := q
                    cases bo with
                    | false => exact q'
                    | true => exact tw_ q'
                  rcases hx with rfl | rfl
                  · refine pe_imp (GX.pe_all (X := X) (ifs := []) (tt := tYes) hX.room hX.calm hX.nd g1 (by rw [hX.mg]; exact hm) t2 t1 q1 ok (fun A' s H C cells code fp hr => (pg_pat (HG A' s H C cells code fp hr) h1).1)
                      (fun A' s H C cells code fp hr => pts_nil) (fun A' s H C cells code fp hr => (ih (Γ.gen scope) m _ elt e hs' (HG A' s H C cells code fp hr) (hL.mono (Nat.le_succ _)) h3 false).1) (fun v => genFold_of h2 c3 _ v)) (fin false)
                  · refine pe_imp (GX.pe_any (X := X) (ifs := []) (tt := tYes) hX.room hX.calm hX.nd g1 (by rw [hX.mg]; exact hm) t2 t1 q1 ok (fun A' s H C cells code fp hr => (pg_pat (HG A' s H C cells code fp hr) h1).1)
                      (fun A' s H C cells code fp hr => pts_nil) (fun A' s H C cells code fp hr => (ih (Γ.gen scope) m _ elt e hs' (HG A' s H C cells code fp hr) (hL.mono (Nat.le_succ _)) h3 false).1) (fun v => genFold_of h2 c3 _ v)) (fin true)
              · cases h
            · cases h
          · cases h
        · rename_i a t tp
          split at h
          · rename_i hx
            split at h
            · rename_i kk z h1 h2
              split at h
              · rename_i hcc
                cases h
                subst hx
                obtain ⟨u1, u2, u3⟩ := hX.gl hcc.1
                have hfr2 := hcc.2
                rw [hs.fr] at hfr2
                exact upto (r_isi hX h1 g1 hm u1 (hP.fr t hfr2) u2 u3 (ih Γ n X a z hs hX hL h2 true).1 (fun e' he' r => by
                  have : e' = a := by simpa using he'
                  subst this
                  exact cE_star h2 _ _)) fun env W => by
                    simp only [evX, evBs, fBi, fCons, fNil]
                    all_goals (cases evX g cl n true z env W <;> rfl)
              · cases h
            · cases h
          · split at h
            · rename_i kk y1 z1 h1 h2 h3
              cases h
              rw [name_pos (q := tp)] at h3
              have hl : optL (cE k Γ) [a, .Name t tp] = some [y1, z1] := by
                simp only [optL, h2, h3]
              obtain ⟨a1, a2, a3, a4⟩ := args_of ih hs hX hL hl
              exact upto (r_bi hX h1 g1 g2 g3 hm a2 a3 (by simp)) fun env W => rfl
            · cases h
        · split at h
          · rename_i kk l h1 h2
            cases h
            obtain ⟨a1, a2, a3, a4⟩ := args_of ih hs hX hL h2
            have hne : es ≠ [] := by
              intro e0
              subst e0
              unfold cBi at h1
              simp at h1
            exact upto (r_bi hX h1 g1 g2 g3 hm a2 a3 hne) fun env W => rfl
          · cases h
      · cases h
theorem sndI_succ (hP : PK S P g B) {k : Nat} (ih : SndE S P g cl B k) : SndI S P g cl B (k + 1) := by
  intro Γ n X tg e it hs hX hL h bo
  have seq : (cE k Γ e).map It.seq = some it → PI X tg e (tI S bo (evI g cl n bo it)) ∧ OkFI (evI g cl n bo it) := by
    intro h
    obtain ⟨x, h1, rfl⟩ := opt_map h
    have ev : evI g cl n bo (.seq x) = fSeq (evX g cl n bo x) := by funext env W; rfl
    rw [ev]
    exact ⟨r_seq hX.K (ih Γ n X e x hs hX hL h1 bo).1, ok_seq⟩
  have bn : ∀ {x : Str}, Γ.bn x = true → Gl X x ∧ P.mg x = none := by
    intro x hx
    unfold Ctx.bn at hx
    rw [Bool.and_eq_true] at hx
    have := hx.2
    rw [hs.fr] at this
    exact ⟨(hX.gl hx.1).1, hP.fr x this⟩
  unfold cI at h
  split at h
  · rename_i x p a pos
    split at h
    · rename_i hx
      subst hx
      split at h
      · rename_i hb
        obtain ⟨y, h1, rfl⟩ := opt_map h
        obtain ⟨b1, b2⟩ := bn hb
        have ev : evI g cl n bo (.rng1 y) = fRng1 (evX g cl n true y) := by funext env W; rfl
        rw [ev]
        exact ⟨r_rng1 hX b1 b2 (ih Γ n X a y hs hX hL h1 true).1 (fun e' he' r => by
          have : e' = a := by simpa using he'
          subst this
          exact cE_star h1 _ _), ok_rng1⟩
      · cases h
    · split at h
      · rename_i hx
        subst hx
        split at h
        · rename_i hb
          obtain ⟨y, h1, rfl⟩ := opt_map h
          obtain ⟨b1, b2⟩ := bn hb.1
          have ev : evI g cl n bo (.enum y) = fEnum (evX g cl n bo y) := by funext env W; rfl
          rw [ev]
          cases tg with
          | Tuple elts kk tp =>
            exact ⟨r_enum hX b1 b2 (ih Γ n X a y hs hX hL h1 bo).1 (fun e' he' r => by
              have : e' = a := by simpa using he'
              subst this
              exact cE_star h1 _ _), ok_enum⟩
          | _ => exact absurd (show false = true from hb.2) (by decide)
        · cases h
      · exact seq h
  · rename_i x p a b pos
    split at h
    · rename_i hx
      subst hx
      split at h
      · rename_i hb
        split at h
        · rename_i y z h1 h2
          cases h
          obtain ⟨b1, b2⟩ := bn hb
          have ev : evI g cl n bo (.rng2 y z) = fRng2 (evX g cl n true y) (evX g cl n true z) := by funext env W; rfl
          rw [ev]
          exact ⟨r_rng2 hX b1 b2 (ih Γ n X a y hs hX hL h1 true).1 (ih Γ n X b z hs hX hL h2 true).1 (fun e' he' r => by
            have : e' = a ∨ e' = b := by simpa using he'
            rcases this with rfl | rfl
            · exact cE_star h1 _ _
            · exact cE_star h2 _ _), ok_rng2⟩
        · cases h
      · cases h
    · exact seq h
  · cases h
  · exact seq h
end
end Pv
end
section
set_option Elab.async false
set_option linter.all false
set_option maxRecDepth 100000
set_option maxHeartbeats 4000000
namespace Pv
open PySem PySem.Spec PyProof.Rows L2
section
variable {S : Su} {P : Ax} {g : Pg} {cl : Nat → CallF} {B : Ctx}
/-- what is asked of sorted sets -/
structure SetRules (S : Su) (P : Ax) (g : Pg) (cl : Nat → CallF) (B : Ctx) : Prop where
  a : ∀ (k : Nat), SndE S P g cl B k → ∀ (Γ : Ctx) (n : Nat) (X : Cx) (b : Expr) (y : Ex) (p q r pos : Pos), Same Γ B → XOk S P Γ n X → LK S P cl B n → Gl X "sorted" → P.mg "sorted" = none → Gl X "set" → P.mg "set" = none → cE k Γ b = some y →
    PE X (.Call (.Name "sorted" p) [.Call (.Name "set" q) [b] [] r] [] pos) (tEvF S (evF g cl n (.srtset y)))
  b : ∀ (k : Nat), SndE S P g cl B k → SndI S P g cl B k → ∀ (Γ : Ctx) (n : Nat) (X : Cx) (elt t1 i1 t2 i2 : Expr) (ifs : List Expr) (scope : Scope) (p cp pos : Pos) (p1 p2 : Pat) (o1 o2 : List (Str × Nat)) (it1 it2 : It) (c : Oe) (e : Ex),
    Same Γ B → XOk S P Γ n X → LK S P cl B n → Gl X "sorted" → P.mg "sorted" = none → cPat (Γ.blk scope) t1 = some (p1, o1) → cPat (Γ.blk scope) t2 = some (p2, o2) → cI k Γ (isTpl t1) i1 = some it1 → cI k (Γ.blk scope) (isTpl t2) i2 = some it2 →
    cIfs (cE k (Γ.blk scope)) ifs = some c → cE k (Γ.blk scope) elt = some e → blkC Γ.N Γ.sc scope (o1 ++ o2) = true →
    PE X (.Call (.Name "sorted" p) [.SetComp elt [⟨t1, i1, [], 0⟩, ⟨t2, i2, ifs, 0⟩] scope cp] [] pos) (tEvF S (evF g cl n (.sset2 p1 it1 p2 it2 c e)))
theorem pat_own {Γ : Ctx} {e : Expr} {pt : Pat} {own : List (Str × Nat)} (h1 : cPat Γ e = some (pt, own)) : own.map (·.2) = pt.slots := by
  unfold cPat at h1
  split at h1
  · split at h1
    · cases h1; rfl
    · cases h1
  · split at h1
    · cases h1; rfl
    · cases h1
  · cases h1
/-- the parts of a list comprehension -/
theorem comp_parts {k : Nat} (ih : SndE S P g cl B k) (ihI : SndI S P g cl B k) {Γ : Ctx} {n : Nat} {X : Cx} {elt tg iter : Expr} {ifs : List Expr} {scope : Scope} {pt : Pat} {own : List (Str × Nat)} {it : It} {c : Oe} {e : Ex} (hs : Same Γ B) (hX : XOk S P Γ n X) (hL : LK S P cl B n)
    (h1 : cPat (Γ.blk scope) tg = some (pt, own)) (h2 : cI k Γ (isTpl tg) iter = some it) (h3 : cIfs (cE k (Γ.blk scope)) ifs = some c) (h4 : cE k (Γ.blk scope) elt = some e) (h5 : blkC Γ.N Γ.sc scope own = true) :
    PI X tg iter (tI S true (evI g cl n true it)) ∧ BlkOk X.N X.env.scope scope own ∧
    (∀ (s : Shared) (H : Hp) (C : Addr) (cl : List (Str × Addr)) (fp : List Addr), PG (X.blk s H scope (compEnvC scope cl C X.env) fp) tg (gPat S pt)) ∧
    (∀ (s : Shared) (H : Hp) (C : Addr) (cells : List (Str × Addr)) (fp : List Addr), PTs (X.blk s H scope (compEnvC scope cells C X.env) fp) ifs (tEvT S (evC g cl n c))) ∧
    (∀ (s : Shared) (H : Hp) (C : Addr) (cells : List (Str × Addr)) (fp : List Addr), PE (X.blk s H scope (compEnvC scope cells C X.env) fp) elt (tEv S false (evX g cl n false e))) ∧
    (∀ x, foldedSetIterable iter X.env x = pure x) ∧ (∀ σ H Q, tEvF S (evF g cl n (.comp pt it c e)) σ H Q → tLc (tI S true (evI g cl n true it)) (gPat S pt) (tEvT S (evC g cl n c)) (tEv S false (evX g cl n false e)) (own.map (·.2)) σ H Q) := by
  obtain ⟨q1, q2⟩ := ihI Γ n X tg iter it hs hX hL h2 true
  have hs' : Same (Γ.blk scope) B := ⟨hs.fns, hs.cls, hs.cst, hs.fr⟩
  refine ⟨q1, ?_, fun s H C cells fp => (pg_pat (hX.blk s H scope C cells fp) h1).1, fun s H C cells fp => pts_of ih hs' (hX.blk s H scope C cells fp) hL h3, fun s H C cells fp => (ih _ n _ elt e hs' (hX.blk s H scope C cells fp) hL h4 false).1, fun x => fold_of h2 _ x, fun σ H Q q => ?_⟩
  · rw [hX.N, hX.sc]
    exact blkOk_by h5
  · rw [pat_own h1]
    exact comp_core q2 q
theorem sndF_succ (hP : PK S P g B) (hR : SetRules S P g cl B) {k : Nat} (ih : SndE S P g cl B k) (ihI : SndI S P g cl B k) : SndF S P g cl B (k + 1) := by
  intro Γ n X e f hs hX hL h
  have bn : ∀ {x : Str}, Γ.bn x = true → Gl X x ∧ P.mg x = none := by
    intro x hx
    unfold Ctx.bn at hx
    rw [Bool.and_eq_true] at hx
    have := hx.2
    rw [hs.fr] at this
    exact ⟨(hX.gl hx.1).1, hP.fr x this⟩
  unfold cF at h
  split at h
  · obtain ⟨l, h1, rfl⟩ := opt_map h
    exact r_lst (args_of ih hs hX hL h1).1
  · rename_i elt tg iter ifs scope pos
    split at h
    · rename_i pt own it c e h1 h2 h3 h4
      split at h
      · rename_i h5
        cases h
        obtain ⟨a1, a2, a3, a4, a5, a6, a7⟩ := comp_parts ih ihI hs hX hL h1 h2 h3 h4 h5
        exact pe_imp (pe_lc hX.calm hX.nd a1 a2 a3 a4 a5 a6) a7
      · cases h
    · cases h
  · rename_i x p a pos
    have st : ∀ {y : Ex}, cE k Γ a = some y → NoStar X [a] := fun hy e' he' r => by
      have : e' = a := by simpa using he'
      subst this
      exact cE_star hy _ _
    split at h
    · rename_i hb
      obtain ⟨b1, b2⟩ := bn hb
      split at h
      · rename_i hx
        subst hx
        have srt : (cE k Γ a).map Fx.srt = some f → PE X (.Call (.Name "sorted" p) [a] [] pos) (tEvF S (evF g cl n f)) := by
          intro h
          obtain ⟨y, h1, rfl⟩ := opt_map h
          exact r_srt hX b1 b2 (ih Γ n X a y hs hX hL h1 true).1 (st h1)
        split at h
        · rename_i y q b r
          split at h
          · rename_i hy
            obtain ⟨hy1, hy2⟩ := hy
            subst hy1
            obtain ⟨z, h1, rfl⟩ := opt_map h
            obtain ⟨c1, c2⟩ := bn hy2
            exact hR.a k ih Γ n X b z p q r pos hs hX hL b1 b2 c1 c2 h1
          · exact srt h
        · rename_i elt t1 i1 t2 i2 ifs scope cp
          split at h
          · rename_i p1 o1 p2 o2 it1 it2 c e h1 h2 h3 h4 h5 h6
            split at h
            · rename_i h7
              cases h
              exact hR.b k ih ihI Γ n X elt t1 i1 t2 i2 ifs scope p cp pos p1 p2 o1 o2 it1 it2 c e hs hX hL b1 b2 h1 h2 h3 h4 h5 h6 h7
            · cases h
          · cases h
        · exact srt h
      · split at h
        · rename_i hx
          subst hx
          obtain ⟨y, h1, rfl⟩ := opt_map h
          exact r_list hX b1 b2 (ih Γ n X a y hs hX hL h1 true).1 (st h1)
        · cases h
    · cases h
  · cases h
/-- all of them -/
theorem snd_all (hP : PK S P g B) (hR : SetRules S P g cl B) : ∀ k, SndE S P g cl B k ∧ SndC S P g cl B k ∧ SndF S P g cl B k ∧ SndI S P g cl B k
  | 0 => by
    refine ⟨?_, ?_, ?_, ?_⟩
    · intro Γ n X e x h1 h2 h3 h
      cases h
    · intro Γ n X x p pos es y h1 h2 h3 h4 h5 h
      cases h
    · intro Γ n X e f h1 h2 h3 h
      cases h
    · intro Γ n X tg e it h1 h2 h3 h
      cases h
  | k + 1 => by
    obtain ⟨i1, i2, i3, i4⟩ := snd_all hP hR k
    exact ⟨sndE_succ hP i1 i2 i3, sndC_succ hP i1 i4, sndF_succ hP hR i1 i4, sndI_succ hP i1⟩
end
end Pv
end
section
set_option Elab.async false
set_option linter.all false
set_option maxRecDepth 100000
set_option maxHeartbeats 4000000
/-! Statements: the relation, the reading, rules. -/
namespace Pv
open PySem PySem.Spec PyProof.Rows L2
structure SS (S : Su) (G0 : Gh) (n0 : Nat) (H0 : Hp) (G : Gh) (W : Wd) (env : Evn) (σ : L2.St) (H : Hp) : Prop where
  sw : SW S G W H
  se : SE S G W.length env σ H
  st : Step S G0 n0 H0 G W.length H
  fr : ∀ (i : Nat) (ds : List D) (a : Addr), env[i]? = some (Sv.own ds) → σ[i]? = some (some (.ref a)) → H0 a = none
def EndOk (S : Su) (G0 : Gh) (n0 : Nat) (H0 : Hp) (G : Gh) (n : Nat) (D : Ends) : Out → Prop
  | .nx env' W' => ∀ (σ' : L2.St) (H' : Hp) (G' : Gh), SS S G0 n0 H0 G' W' env' σ' H' → Gx G n G' W'.length → D.nx σ' H'
  | .rt d W' => ∀ (v : V) (H' : Hp) (G' : Gh), Step S G0 n0 H0 G' W'.length H' → SW S G' W' H' → Rep S G' W'.length d v → D.rt v H'
  | .bk env' W' => ∀ (σ' : L2.St) (H' : Hp) (G' : Gh), SS S G0 n0 H0 G' W' env' σ' H' → Gx G n G' W'.length → D.bk σ' H'
  | .ct env' W' => ∀ (σ' : L2.St) (H' : Hp) (G' : Gh), SS S G0 n0 H0 G' W' env' σ' H' → Gx G n G' W'.length → D.ct σ' H'
def tS (S : Su) (G0 : Gh) (n0 : Nat) (H0 : Hp) (f : Evn → Wd → Option Out) : TS := fun D σ H => ∃ G W env o, SS S G0 n0 H0 G W env σ H ∧ f env W = some o ∧ EndOk S G0 n0 H0 G W.length D o
theorem ps_imp {X : Cx} {s : Stmt} {t t' : TS} (h : PS X s t) (k : ∀ D σ H, t' D σ H → t D σ H) : PS X s t' := ⟨fun pins s σ H D I q => h.run pins s σ H D I (k D σ H q)⟩
theorem pss_imp {X : Cx} {s : List Stmt} {t t' : TS} (h : PSs X s t) (k : ∀ D σ H, t' D σ H → t D σ H) : PSs X s t' := ⟨fun pins s σ H D I q => h.run pins s σ H D I (k D σ H q)⟩
section
variable {S : Su} {G0 G G' : Gh} {n0 : Nat} {H0 H H' : Hp} {W W' : Wd} {env : Evn} {σ : L2.St}
theorem SS.step (h : SS S G0 n0 H0 G W env σ H) (s : Step S G W.length H G' W'.length H') (w : SW S G' W' H') : SS S G0 n0 H0 G' W' env σ H' :=
  ⟨w, h.se.step h.sw rfl s, h.st.trans s, h.fr⟩
theorem SS.setv (h : SS S G0 n0 H0 G W env σ H) (i : Nat) {d : D} {v : V} (r : Rep S G W.length d v) : SS S G0 n0 H0 G W (env.set i (.val d)) (σ.set i (some v)) H := by
  refine ⟨h.sw, h.se.setv i r, h.st, fun j ds a hj hs => ?_⟩
  obtain ⟨q1, q2⟩ := own_set h.se hj (v := v)
  rw [q2] at hs
  exact h.fr j ds a q1 hs
/-- a list of one's own becomes a value -/
theorem SS.fz1 (h : SS S G0 n0 H0 G W env σ H) (i : Nat) : ∃ G', SS S G0 n0 H0 G' W (fz1 i env) σ H ∧ Gx G W.length G' W.length := by
  unfold Pv.fz1
  split
  · rename_i xs hx
    obtain ⟨a, vs, h1, h2, h3, h4, h5, h6⟩ := h.se.owns i xs hx
    have ht : a ∉ S.tabs := fun z => by
      obtain ⟨ps, hp, _⟩ := h.sw.tab a z
      rw [h2] at hp; cases hp
    have hi : i < env.length := (List.getElem?_eq_some_iff.mp hx).1
    have gx := Gx.frz (n := W.length) (o := .lst vs) h4
    refine ⟨G.frz a (.lst vs), ⟨h.sw.take h2 h4 h5 ht, ⟨by rw [List.length_set]; exact h.se.len, fun j d hj => ?_, fun j ds hj => ?_⟩, h.st.take (h.fr i xs a hx h1) h4, fun j ds b hj hs => ?_⟩, gx⟩
    · by_cases hij : i = j
      · subst hij
        rw [List.getElem?_set_self hi] at hj
        cases hj
        refine ⟨_, h1, a, vs, rfl, ?_, h3.mono gx⟩
        show upd G.F a _ a = _
        rw [upd_same]
      · rw [List.getElem?_set_ne hij] at hj
        obtain ⟨v, q1, q2⟩ := h.se.vals j d hj
        exact ⟨v, q1, q2.mono gx⟩
    · by_cases hij : i = j
      · subst hij
        rw [List.getElem?_set_self hi] at hj
        cases hj
      · rw [List.getElem?_set_ne hij] at hj
        obtain ⟨b, us, g1, g2, g3, g4, g5, g6⟩ := h.se.owns j ds hj
        have hne : b ≠ a := fun e => by
          subst e
          exact hij (h6 j ds hj g1).symm
        refine ⟨b, us, g1, g2, g3.mono gx, ?_, g5, fun k ds' hk hs => ?_⟩
        · show upd G.F a _ b = none
          rw [upd_ne hne]; exact g4
        · by_cases hik : i = k
          · subst hik
            rw [List.getElem?_set_self hi] at hk
            cases hk
          · rw [List.getElem?_set_ne hik] at hk
            exact g6 k ds' hk hs
    · by_cases hij : i = j
      · subst hij
        rw [List.getElem?_set_self hi] at hj
        cases hj
      · rw [List.getElem?_set_ne hij] at hj
        exact h.fr j ds b hj hs
  · exact ⟨G, h, Gx.refl _ _⟩
theorem SS.fz : ∀ (is : List Nat), SS S G0 n0 H0 G W env σ H → ∃ G', SS S G0 n0 H0 G' W (fz is env) σ H ∧ Gx G W.length G' W.length
  | [], h => ⟨G, h, Gx.refl _ _⟩
  | i :: is, h => by
    obtain ⟨G1, h1, x1⟩ := SS.fz is h
    obtain ⟨G2, h2, x2⟩ := h1.fz1 i
    exact ⟨G2, h2, x1.trans x2⟩
end
section
variable {S : Su} {X : Cx} {G0 : Gh} {n0 : Nat} {H0 : Hp} {e c : Expr} {fe : FX} {pos : Pos}
/-- x = e -/
def sAsg (i : Nat) (is : List Nat) (fe : FX) : Evn → Wd → Option Out := fun env W => match fe (fz is env) W with
  | some (d, W1) => some (.nx ((fz is env).set i (.val d)) W1)
  | none => none
theorem s_asg {i : Nat} {is : List Nat} {D : Ends} {σ : L2.St} {H : Hp} (h : tS S G0 n0 H0 (sAsg i is fe) D σ H) : tAsg (tEv S false fe) (gName i) D σ H := by
  obtain ⟨G, W, env, o, hS, hf, k⟩ := h
  obtain ⟨G1, h1, x1⟩ := hS.fz is
  unfold sAsg at hf
  cases q : fe (fz is env) W with
  | none => simp only [q] at hf; cases hf
  | some p =>
    obtain ⟨d, W1⟩ := p
    simp only [q] at hf
    cases hf
    exact ⟨G1, W, _, d, W1, h1.sw, h1.se, q, fun v H' G' s w r => k _ H' G' ((h1.step s w).setv i (r.elim id fun z => by cases z.1)) (x1.trans s.x)⟩
/-- x = e, e a new list that stays one's own -/
def sAsgF (i : Nat) (is : List Nat) (fe : FXs) : Evn → Wd → Option Out := fun env W => match fe (fz is env) W with
  | some (ds, W1) => some (.nx ((fz is env).set i (.own ds)) W1)
  | none => none
theorem SE.seto {G : Gh} {n : Nat} {env : Evn} {σ : L2.St} {H : Hp} (he : SE S G n env σ H) (i : Nat) {ds : List D} {vs : List V} {a : Addr} (h1 : H a = some (.lst vs)) (h2 : Reps S G n ds vs) (h3 : G.F a = none) (h4 : ∀ m, m < n → G.ι m ≠ a)
    (h5 : ∀ (j : Nat) (ds' : List D), env[j]? = some (Sv.own ds') → σ[j]? = some (some (V.ref a)) → j = i) : SE S G n (env.set i (.own ds)) (σ.set i (some (.ref a))) H := by
  refine ⟨by simp [he.len], fun j d' h => ?_, fun j ds' h => ?_⟩
  · by_cases hj : i = j
    · subst hj
      have hl : i < env.length := by
        have := (List.getElem?_eq_some_iff.mp h).1
        simpa using this
      rw [List.getElem?_set_self hl] at h
      cases h
    · rw [List.getElem?_set_ne hj] at h
      rw [List.getElem?_set_ne hj]
      exact he.vals j d' h
  · by_cases hj : i = j
    · subst hj
      have hl : i < env.length := by
        have := (List.getElem?_eq_some_iff.mp h).1
        simpa using this
      rw [List.getElem?_set_self hl] at h
      cases h
      refine ⟨a, vs, by rw [List.getElem?_set_self (by rw [← he.len]; exact hl)], h1, h2, h3, h4, fun k ds'' hk hs => ?_⟩
      by_cases hik : i = k
      · exact hik.symm
      · rw [List.getElem?_set_ne hik] at hk hs
        exact h5 k ds'' hk hs
    · rw [List.getElem?_set_ne hj] at h
      obtain ⟨b, us, g1, g2, g3, g4, g5, g6⟩ := he.owns j ds' h
      refine ⟨b, us, by rw [List.getElem?_set_ne hj]; exact g1, g2, g3, g4, g5, fun k ds'' hk hs => ?_⟩
      by_cases hik : i = k
      · subst hik
        have hl : i < σ.length := by
          have := (List.getElem?_eq_some_iff.mp hs).1
          simpa using this
        rw [List.getElem?_set_self hl] at hs
        cases hs
        exact absurd (h5 j ds' h g1).symm hj
      · rw [List.getElem?_set_ne hik] at hk hs
        exact g6 k ds'' hk hs
theorem s_asgF {i : Nat} {is : List Nat} {fs : FXs} {D : Ends} {σ : L2.St} {H : Hp} (h : tS S G0 n0 H0 (sAsgF i is fs) D σ H) : tAsg (tEvF S fs) (gName i) D σ H := by
  obtain ⟨G, W, env, o, hS, hf, k⟩ := h
  obtain ⟨G1, h1, x1⟩ := hS.fz is
  unfold sAsgF at hf
  cases q : fs (fz is env) W with
  | none => simp only [q] at hf; cases hf
  | some p =>
    obtain ⟨ds, W1⟩ := p
    simp only [q] at hf
    cases hf
    refine ⟨G1, W, _, ds, W1, h1.sw, h1.se, q, fun a vs H' G' s w hp r hF hc h0 => ?_⟩
    have h2 := h1.step s w
    have hfresh : H0 a = none := h1.st.back h0
    have old : ∀ (j : Nat) (ds' : List Pv.D), (fz is env)[j]? = some (Sv.own ds') → σ[j]? = some (some (V.ref a)) → False := fun j ds' hj hs => by
      obtain ⟨b, us, g1, g2, _⟩ := h1.se.owns j ds' hj
      rw [hs] at g1
      cases g1
      rw [h0] at g2; cases g2
    refine k _ H' G' ⟨h2.sw, h2.se.seto i hp r hF hc fun j ds' hj hs => (old j ds' hj hs).elim, h2.st, fun j ds' b hj hs => ?_⟩ (x1.trans s.x)
    by_cases hij : i = j
    · subst hij
      have hl : i < σ.length := by
        have := (List.getElem?_eq_some_iff.mp hs).1
        simpa using this
      rw [List.getElem?_set_self hl] at hs
      cases hs
      exact hfresh
    · rw [List.getElem?_set_ne hij] at hj hs
      exact h2.fr j ds' b hj hs
/-- return e -/
def sRet (is : List Nat) (fe : FX) : Evn → Wd → Option Out := fun env W => match fe (fz is env) W with
  | some (d, W1) => some (.rt d W1)
  | none => none
theorem s_ret {is : List Nat} {D : Ends} {σ : L2.St} {H : Hp} (h : tS S G0 n0 H0 (sRet is fe) D σ H) : tRet (tEv S false fe) D σ H := by
  obtain ⟨G, W, env, o, hS, hf, k⟩ := h
  obtain ⟨G1, h1, x1⟩ := hS.fz is
  unfold sRet at hf
  cases q : fe (fz is env) W with
  | none => simp only [q] at hf; cases hf
  | some p =>
    obtain ⟨d, W1⟩ := p
    simp only [q] at hf
    cases hf
    exact ⟨G1, W, _, d, W1, h1.sw, h1.se, q, fun v H' G' s w r => k v H' G' (h1.st.trans s) w (r.elim id fun z => by cases z.1)⟩
theorem s_retN {D : Ends} {σ : L2.St} {H : Hp} (h : tS S G0 n0 H0 (fun _ W => some (.rt .non W)) D σ H) : tRetN D σ H := by
  obtain ⟨G, W, env, o, hS, hf, k⟩ := h
  cases hf
  exact k _ H G hS.st hS.sw rfl
def sExpr (is : List Nat) (fe : FX) : Evn → Wd → Option Out := fun env W => match fe (fz is env) W with
  | some (_, W1) => some (.nx (fz is env) W1)
  | none => none
theorem s_expr {is : List Nat} {D : Ends} {σ : L2.St} {H : Hp} (h : tS S G0 n0 H0 (sExpr is fe) D σ H) : tDrop (tEv S false fe) D σ H := by
  obtain ⟨G, W, env, o, hS, hf, k⟩ := h
  obtain ⟨G1, h1, x1⟩ := hS.fz is
  unfold sExpr at hf
  cases q : fe (fz is env) W with
  | none => simp only [q] at hf; cases hf
  | some p =>
    obtain ⟨d, W1⟩ := p
    simp only [q] at hf
    cases hf
    exact ⟨G1, W, _, d, W1, h1.sw, h1.se, q, fun v H' G' s w r => k σ H' G' (h1.step s w) (x1.trans s.x)⟩
abbrev FS := Evn → Wd → Option Out
def sIte (is : List Nat) (fc : FX) (fa fb : FS) : FS := fun env W => match fc (fz is env) W with
  | some (v, W1) => (match truD v with
    | some true => fa (fz is env) W1
    | some false => fb (fz is env) W1
    | none => none)
  | none => none
theorem ends_gx {G G1 : Gh} {W W1 : Wd} {D : Ends} {o : Out} (x : Gx G W.length G1 W1.length) (k : EndOk S G0 n0 H0 G W.length D o) : EndOk S G0 n0 H0 G1 W1.length D o := by
  cases o with
  | nx e w => exact fun σ' H' G' h g => k σ' H' G' h (x.trans g)
  | rt d w => exact k
  | bk e w => exact fun σ' H' G' h g => k σ' H' G' h (x.trans g)
  | ct e w => exact fun σ' H' G' h g => k σ' H' G' h (x.trans g)
theorem s_ite {is : List Nat} {fc : FX} {fa fb : FS} {D : Ends} {σ : L2.St} {H : Hp} (h : tS S G0 n0 H0 (sIte is fc fa fb) D σ H) : tIfS (tEvT S (truF fc)) (tS S G0 n0 H0 fa) (tS S G0 n0 H0 fb) D σ H := by
  obtain ⟨G, W, env, o, hS, hf, k⟩ := h
  obtain ⟨G1, h1, x1⟩ := hS.fz is
  unfold sIte at hf
  cases q : fc (fz is env) W with
  | none => simp only [q] at hf; cases hf
  | some p =>
    obtain ⟨d, W1⟩ := p
    simp only [q] at hf
    cases ht : truD d with
    | none => simp only [ht] at hf; cases hf
    | some t =>
      refine ⟨G1, W, _, t, W1, h1.sw, h1.se, tru_of q ht, fun H' G' s w => ?_⟩
      cases t with
      | true =>
        rw [if_pos rfl]
        simp only [ht] at hf
        exact ⟨G', W1, _, o, h1.step s w, hf, ends_gx (x1.trans s.x) k⟩
      | false =>
        rw [if_neg (by decide)]
        simp only [ht] at hf
        exact ⟨G', W1, _, o, h1.step s w, hf, ends_gx (x1.trans s.x) k⟩
def sSeq (fa fb : FS) : FS := fun env W => match fa env W with
  | some (.nx env1 W1) => fb env1 W1
  | o => o
theorem s_seq {fa fb : FS} {D : Ends} {σ : L2.St} {H : Hp} (h : tS S G0 n0 H0 (sSeq fa fb) D σ H) : tSeq (tS S G0 n0 H0 fa) (tS S G0 n0 H0 fb) D σ H := by
  obtain ⟨G, W, env, o, hS, hf, k⟩ := h
  unfold sSeq at hf
  cases q : fa env W with
  | none => simp only [q] at hf; cases hf
  | some p =>
    refine ⟨G, W, env, p, hS, q, ?_⟩
    cases p with
    | nx env1 W1 =>
      simp only [q] at hf
      exact fun σ' H' G' h' g' => ⟨G', W1, env1, o, h', hf, ends_gx g' k⟩
    | rt d w => simp only [q] at hf; cases hf; exact k
    | bk a b => simp only [q] at hf; cases hf; exact k
    | ct a b => simp only [q] at hf; cases hf; exact k
/-! ### loops -/
def sBody (p : Pat) (fb : FS) : D → Evn → Wd → Option Out := fun x env W => match bindP W p x env with
  | some env1 => fb env1 W
  | none => none
def sFor (p : Pat) (is : List Nat) (fi : FI) (fb : FS) : FS := fun env W => match fi (fz is env) W with
  | some (xs, gd, W1) => forL (sBody p fb) gd W1 xs (fz is env) W1
  | none => none
theorem forL_cons {f : D → Evn → Wd → Option Out} {g : Option Nat} {W0 W : Wd} {x : D} {xs : List D} {env : Evn} {o : Out} (h : forL f g W0 (x :: xs) env W = some o) :
    ∃ o1, f x env W = some o1 ∧ (match o1 with
      | .nx env1 W1 => okW g W0 W1 = true ∧ forL f g W0 xs env1 W1 = some o
      | .ct env1 W1 => okW g W0 W1 = true ∧ forL f g W0 xs env1 W1 = some o
      | .bk env1 W1 => o = .nx env1 W1
      | .rt d W1 => o = .rt d W1) := by
  unfold forL at h
  cases q : f x env W with
  | none => simp only [q] at h; cases h
  | some o1 =>
    refine ⟨o1, rfl, ?_⟩
    cases o1 with
    | nx e w =>
      simp only [q] at h
      split at h
      · rename_i ok; exact ⟨ok, h⟩
      · cases h
    | ct e w =>
      simp only [q] at h
      split at h
      · rename_i ok; exact ⟨ok, h⟩
      · cases h
    | bk e w => simp only [q] at h; cases h; rfl
    | rt d w => simp only [q] at h; cases h; rfl
theorem s_for {p : Pat} {is : List Nat} {fi : FI} {fb : FS} {D : Ends} {σ : L2.St} {H : Hp} (hi : OkFI fi) (h : tS S G0 n0 H0 (sFor p is fi fb) D σ H) : tFor (tI S false fi) (gPat S p) (tS S G0 n0 H0 fb) D σ H := by
  obtain ⟨G, W, env, o, hS, hf, k⟩ := h
  obtain ⟨Gz, hz, xz⟩ := hS.fz is
  unfold sFor at hf
  cases q : fi (fz is env) W with
  | none => simp only [q] at hf; cases hf
  | some t =>
    obtain ⟨xs, gd, W1⟩ := t
    simp only [q] at hf
    refine ⟨Gz, W, _, xs, gd, W1, hz.sw, hz.se, q, fun J H1 G1 s1 w1 it => ?_⟩
    have h1 := hz.step s1 w1
    refine ⟨fun i m σ2 H2 => ∃ G2 W2 env2, m = xs.length - i ∧ i ≤ xs.length ∧ SS S G0 n0 H0 G2 W2 env2 σ2 H2 ∧ Gx G1 W1.length G2 W2.length ∧ okW gd W1 W2 = true ∧ forL (sBody p fb) gd W1 (xs.drop i) env2 W2 = some o,
      ⟨_, G1, W1, _, rfl, Nat.zero_le _, h1, Gx.refl _ _, hi _ _ _ _ _ q, hf⟩, ?_⟩
    rintro i m σ2 H2 ⟨G2, W2, env2, hm, hle, h2, x2, ok, hfor⟩
    have L : Later S false G1 W1 H1 gd G2 W2 H2 := ⟨h2.sw, ok, x2, fun z => by cases z⟩
    by_cases hi' : i < xs.length
    · right
      refine ⟨it.go i G2 W2 H2 L hi', fun σ3 H3 => ∃ m', m' < m ∧ ∃ G2 W2 env2, m' = xs.length - (i + 1) ∧ i + 1 ≤ xs.length ∧ SS S G0 n0 H0 G2 W2 env2 σ3 H3 ∧ Gx G1 W1.length G2 W2.length ∧ okW gd W1 W2 = true ∧ forL (sBody p fb) gd W1 (xs.drop (i + 1)) env2 W2 = some o, fun σ3 H3 h => h, fun x H3 hy => ?_⟩
      obtain ⟨d, G3, hd, s3, w3, r3⟩ := it.yld i G2 W2 H2 x H3 L hi' hy
      have hdrop : xs.drop i = d :: xs.drop (i + 1) := by
        rw [List.drop_eq_getElem_cons hi']
        have := List.getElem?_eq_getElem hi'
        rw [hd] at this
        cases this
        rfl
      rw [hdrop] at hfor
      obtain ⟨o1, hb, hcase⟩ := forL_cons hfor
      unfold sBody at hb
      cases hbp : bindP W2 p d env2 with
      | none => simp only [hbp] at hb; cases hb
      | some env3 =>
        simp only [hbp] at hb
        have h3 := h2.step s3 w3
        refine ⟨G3, W2, env2, d, env3, w3, h3.se, r3, hbp, fun σ4 e4 _ own4 => ?_⟩
        have h4 : SS S G0 n0 H0 G3 W2 env3 σ4 H3 := ⟨w3, e4, h3.st, fun j ds a hj hs => by
          obtain ⟨q1, q2⟩ := own4 j ds hj
          rw [q2] at hs
          exact h3.fr j ds a q1 hs⟩
        refine ⟨G3, W2, env3, o1, h4, hb, ?_⟩
        cases o1 with
        | nx e w =>
          obtain ⟨ok', hfor'⟩ := hcase
          exact fun σ' H' G' h' g' => ⟨_, by omega, G', w, e, rfl, hi', h', (x2.trans s3.x).trans g', ok', hfor'⟩
        | ct e w =>
          obtain ⟨ok', hfor'⟩ := hcase
          exact fun σ' H' G' h' g' => ⟨_, by omega, G', w, e, rfl, hi', h', (x2.trans s3.x).trans g', ok', hfor'⟩
        | bk e w =>
          have hcase : o = .nx e w := hcase
          subst hcase
          exact fun σ' H' G' h' g' => k σ' H' G' h' ((xz.trans s1.x).trans ((x2.trans s3.x).trans g'))
        | rt d' w =>
          have hcase : o = .rt d' w := hcase
          subst hcase
          exact k
    · left
      have hi2 : xs.length ≤ i := Nat.le_of_not_lt hi'
      refine ⟨it.stop i G2 W2 H2 L hi2, ?_⟩
      rw [List.drop_eq_nil_of_le hi2] at hfor
      cases hfor
      exact k σ2 H2 G2 h2 ((xz.trans s1.x).trans x2)
end
end Pv
end
section
set_option Elab.async false
set_option linter.all false
set_option maxRecDepth 100000
set_option maxHeartbeats 4000000
/-! Statements that change things. -/
namespace Pv
open PySem PySem.Spec PyProof.Rows L2
section
variable {S : Su} {X : Cx} {G0 : Gh} {n0 : Nat} {H0 : Hp} {e c : Expr} {fe fo fi : FX} {pos : Pos}
/-- xs.append(e), xs one's own -/
def sApp (i : Nat) (is : List Nat) (fe : FX) : FS := fun env W => match fe (fz is env) W with
  | some (d, W1) => (match (fz is env)[i]? with
    | some (.own xs) => if xs.length < PySem.sizeLine then some (.nx ((fz is env).set i (.own (xs ++ [d]))) W1) else none
    | _ => none)
  | none => none
theorem s_app (hK : X.K = S.K) {i : Nat} {is : List Nat} {D : Ends} {σ : L2.St} {H : Hp} (h : tS S G0 n0 H0 (sApp i is fe) D σ H) : tDrop (tBM X.K "list" rAppend (tVar i) (tCons (tEv S false fe) tNil)) D σ H := by
  obtain ⟨G, W, env, o, hS, hf, k⟩ := h
  obtain ⟨G1, h1, x1⟩ := hS.fz is
  unfold sApp at hf
  cases q : fe (fz is env) W with
  | none => simp only [q] at hf; cases hf
  | some p =>
    obtain ⟨d, W1⟩ := p
    simp only [q] at hf
    cases ho : (fz is env)[i]? with
    | none => simp only [ho] at hf; cases hf
    | some sl =>
      cases sl with
      | no => simp only [ho] at hf; cases hf
      | val _ => simp only [ho] at hf; cases hf
      | own xs =>
        simp only [ho] at hf
        split at hf
        · rename_i hl
          cases hf
          obtain ⟨a, vs, g1, g2, g3, g4, g5, g6⟩ := h1.se.owns i xs ho
          have ht : a ∉ S.tabs := fun z => by
            obtain ⟨ps, hp, _⟩ := h1.sw.tab a z
            rw [g2] at hp; cases hp
          refine ⟨.ref a, g1, .inl ⟨rfl, vs, .inl (.inl g2)⟩, G1, W, _, d, W1, h1.sw, h1.se, q, fun v H' G' s w r => ?_⟩
          have h2 := h1.step s w
          obtain ⟨a', vs', k1, k2, k3, k4, k5, k6⟩ := h2.se.owns i xs ho
          rw [g1] at k1
          cases k1
          refine ⟨a, vs', v, rfl, rfl, k2, by rw [k3.length]; exact hl, ?_⟩
          have hi : i < (fz is env).length := (List.getElem?_eq_some_iff.mp ho).1
          refine k σ _ G' ⟨w.redo _ k4 k5 ht, ⟨by rw [List.length_set]; exact h2.se.len, fun j d' hj => ?_, fun j ds hj => ?_⟩, h2.st.redo _ (h1.fr i xs a ho g1), fun j ds b hj hs => ?_⟩ (x1.trans s.x)
          · by_cases hij : i = j
            · subst hij
              rw [List.getElem?_set_self hi] at hj
              cases hj
            · rw [List.getElem?_set_ne hij] at hj
              exact h2.se.vals j d' hj
          · by_cases hij : i = j
            · subst hij
              rw [List.getElem?_set_self hi] at hj
              cases hj
              refine ⟨a, vs' ++ [v], g1, upd_same, k3.append ⟨v, [], rfl, r.elim id (fun z => by cases z.1), rfl⟩, k4, k5, fun j ds' hk hs => ?_⟩
              by_cases hij : i = j
              · exact hij.symm
              · rw [List.getElem?_set_ne hij] at hk
                exact k6 j ds' hk hs
            · rw [List.getElem?_set_ne hij] at hj
              obtain ⟨b, us, m1, m2, m3, m4, m5, m6⟩ := h2.se.owns j ds hj
              have hne : b ≠ a := fun e => by
                subst e
                exact hij (k6 j ds hj m1).symm
              refine ⟨b, us, m1, by rw [upd_ne hne]; exact m2, m3, m4, m5, fun l ds' hk hs => ?_⟩
              by_cases hil : i = l
              · subst hil
                rw [g1] at hs
                cases hs
                exact absurd rfl hne
              · rw [List.getElem?_set_ne hil] at hk
                exact m6 l ds' hk hs
          · by_cases hij : i = j
            · subst hij
              rw [g1] at hs
              cases hs
              exact h1.fr i xs _ ho g1
            · rw [List.getElem?_set_ne hij] at hj
              exact h2.fr j ds b hj hs
        · cases hf
/-- o.append(e), o a cell -/
def sAppx (is : List Nat) (fo fe : FX) : FS := fun env W => match fo (fz is env) W with
  | some (.ref r, W1) => (match W1[r]? with
    | some (.lst _) => (match fe (fz is env) W1 with
      | some (d, W2) => (match W2[r]? with
        | some (.lst xs) => if xs.length < PySem.sizeLine then some (.nx (fz is env) (W2.set r (.lst (xs ++ [d])))) else none
        | _ => none)
      | none => none)
    | _ => none)
  | _ => none
theorem s_appx (hK : X.K = S.K) {is : List Nat} {D : Ends} {σ : L2.St} {H : Hp} (h : tS S G0 n0 H0 (sAppx is fo fe) D σ H) : tDrop (tBM X.K "list" rAppend (tEv S false fo) (tCons (tEv S false fe) tNil)) D σ H := by
  obtain ⟨G, W, env, o, hS, hf, k⟩ := h
  obtain ⟨G1, h1, x1⟩ := hS.fz is
  unfold sAppx at hf
  split at hf
  · rename_i r W1 q1
    split at hf
    · rename_i zs hz
      cases q2 : fe (fz is env) W1 with
      | none => simp only [q2] at hf; cases hf
      | some p =>
        obtain ⟨d, W2⟩ := p
        simp only [q2] at hf
        split at hf
        · rename_i xs hx
          split at hf
          · rename_i hl
            cases hf
            refine ⟨G1, W, _, _, W1, h1.sw, h1.se, q1, fun v H1 G2 s1 w1 r1 => ?_⟩
            have h2 := h1.step s1 w1
            obtain ⟨e1, hr⟩ := r1.ref
            obtain ⟨u, hu, us, eu, ru⟩ := w1.cel r _ hz
            subst eu
            refine ⟨by rw [e1]; exact .inl ⟨rfl, us, .inl (.inl hu)⟩, G2, W1, _, d, W2, w1, h2.se, q2, fun y H2 G3 s2 w2 r2 => ?_⟩
            have h3 := h2.step s2 w2
            obtain ⟨u', hu', us', eu', ru'⟩ := w2.cel r _ hx
            subst eu'
            have hr2 : r < W2.length := (List.getElem?_eq_some_iff.mp hx).1
            have ei : G3.ι r = G2.ι r := s2.x.ι r hr
            refine ⟨G3.ι r, us', y, by rw [e1, ei], rfl, hu', by rw [ru'.length]; exact hl, ?_⟩
            obtain ⟨w4, s4⟩ := w2.put hr2 (c := .lst (xs ++ [d])) (o := .lst (us' ++ [y])) ⟨_, rfl, ru'.append ⟨y, [], rfl, r2.elim id (fun z => by cases z.1), rfl⟩⟩
            exact k σ _ G3 (h3.step s4 w4) (x1.trans (s1.x.trans (s2.x.trans s4.x)))
          · cases hf
        · cases hf
    · cases hf
  · cases hf
theorem kput_keys {κ α : Type} [DecidableEq κ] (k : κ) (d : α) : ∀ l : List (κ × α), (l.map (·.1)).Nodup → ((kput k d l).map (·.1)).Nodup ∧ ∀ x, x ∈ (kput k d l).map (·.1) → x = k ∨ x ∈ l.map (·.1)
  | [], _ => ⟨by simp [kput], fun x hx => .inl (by simpa [kput] using hx)⟩
  | (k', w) :: r, h => by
    rw [List.map_cons, List.nodup_cons] at h
    unfold kput
    split
    · exact ⟨by rw [List.map_cons, List.nodup_cons]; exact h, fun x hx => .inr hx⟩
    · rename_i hne
      obtain ⟨i1, i2⟩ := kput_keys k d r h.2
      refine ⟨by
        rw [List.map_cons, List.nodup_cons]
        refine ⟨fun hm => ?_, i1⟩
        rcases i2 _ hm with e | e
        · exact hne e
        · exact h.1 e, fun x hx => ?_⟩
      rw [List.map_cons] at hx ⊢
      rcases List.mem_cons.mp hx with e | e
      · exact .inr (by rw [e]; exact List.mem_cons_self ..)
      · rcases i2 _ e with e | e
        · exact .inl e
        · exact .inr (List.mem_cons_of_mem _ e)
/-- o[i] = e -/
def sSetix (is : List Nat) (fo fi fe : FX) : FS := fun env W => match fe (fz is env) W with
  | some (d, W1) => (match fo (fz is env) W1 with
    | some (.ref r, W2) => (match fi (fz is env) W2 with
      | some (k, W3) => (match W3[r]?, kyOf k with
        | some (.dK kvs), some (.one k) => if kvs.length < PySem.sizeLine then some (.nx (fz is env) (W3.set r (.dK (kput k d kvs)))) else none
        | some (.dT kvs), some (.row k) => if kvs.length < PySem.sizeLine then some (.nx (fz is env) (W3.set r (.dT (kput k d kvs)))) else none
        | _, _ => none)
      | none => none)
    | _ => none)
  | none => none
theorem s_setix {is : List Nat} {D : Ends} {σ : L2.St} {H : Hp} (h : tS S G0 n0 H0 (sSetix is fo fi fe) D σ H) : sDPut (tEv S false fo) (tEv S false fi) (tEv S false fe) D σ H := by
  obtain ⟨G, W, env, o, hS, hf, k⟩ := h
  obtain ⟨G1, h1, x1⟩ := hS.fz is
  unfold sSetix at hf
  cases q1 : fe (fz is env) W with
  | none => simp only [q1] at hf; cases hf
  | some p =>
    obtain ⟨d, W1⟩ := p
    simp only [q1] at hf
    split at hf
    · rename_i r W2 q2
      cases q3 : fi (fz is env) W2 with
      | none => simp only [q3] at hf; cases hf
      | some p =>
        obtain ⟨kk, W3⟩ := p
        simp only [q3] at hf
        refine ⟨G1, W, _, d, W1, h1.sw, h1.se, q1, fun v H1 G2 s1 w1 r1 => ?_⟩
        have h2 := h1.step s1 w1
        refine ⟨G2, W1, _, _, W2, w1, h2.se, q2, fun vo H2 G3 s2 w2 r2 => ?_⟩
        have h3 := h2.step s2 w2
        refine ⟨G3, W2, _, kk, W3, w2, h3.se, q3, fun vk H3 G4 s3 w3 r3 => ?_⟩
        have h4 := h3.step s3 w3
        obtain ⟨e2, hr⟩ := r2.ref
        have hr3 : r < W3.length := Nat.lt_of_lt_of_le hr s3.x.n
        have ei : G4.ι r = G3.ι r := s3.x.ι r hr
        have rv : Rep S G4 W3.length d v := (r1.elim id (fun z => by cases z.1) : Rep S G2 W1.length d v).mono (s2.x.trans s3.x)
        have xx := x1.trans (s1.x.trans (s2.x.trans s3.x))
        split at hf
        · rename_i kvs key hc hk
          split at hf
          · rename_i hl
            cases hf
            obtain ⟨u, hu, us, eu, ru, hn⟩ := w3.cel r _ hc
            subst eu
            have ek := r3.key hk
            have lu : us.length = kvs.length := ru.length
            have nu : (us.map (·.1)).Nodup := by rw [kv_keys ru]; exact hn
            obtain ⟨w5, s5⟩ := w3.put hr3 (c := .dK (kput key d kvs)) (o := .dK (putK us key v)) ⟨_, rfl, kv_put rv ru nu, (kput_keys key d kvs hn).1⟩
            refine ⟨G4.ι r, _, by rw [e2, ei], by rw [ek]; exact .k hu (by rw [lu]; exact hl), ?_⟩
            exact k σ _ G4 (h4.step s5 w5) (xx.trans s5.x)
          · cases hf
        · rename_i kvs key hc hk
          split at hf
          · rename_i hl
            cases hf
            obtain ⟨u, hu, us, eu, ru, hn⟩ := w3.cel r _ hc
            subst eu
            obtain ⟨a, ea, ha⟩ := r3.keyT w3 hk
            have lu : us.length = kvs.length := ru.length
            have nu : (us.map (·.1)).Nodup := by rw [kv_keys ru]; exact hn
            obtain ⟨w5, s5⟩ := w3.put hr3 (c := .dT (kput key d kvs)) (o := .dT (putK us key v)) ⟨_, rfl, kv_put rv ru nu, (kput_keys key d kvs hn).1⟩
            refine ⟨G4.ι r, _, by rw [e2, ei], by rw [ea]; exact .t hu ha (by rw [lu]; exact hl), ?_⟩
            exact k σ _ G4 (h4.step s5 w5) (xx.trans s5.x)
          · cases hf
        · cases hf
    · cases hf
theorem put_fields {G : Gh} {n : Nat} {f : Str} {d : D} {v : V} (r : Rep S G n d v) : ∀ {fs : List (Str × D)} {us : List (Str × V)}, RepKV S G n fs us → RepKV S G n (fput f d fs) (putF f v us)
  | [], us, h => by cases h; exact ⟨v, [], rfl, r, rfl⟩
  | (g', w) :: rs, us, ⟨u, t, e, r1, r2⟩ => by
    subst e
    unfold fput putF
    by_cases hg : g' = f
    · rw [if_pos hg, if_pos hg]
      exact ⟨v, t, rfl, r, r2⟩
    · rw [if_neg hg, if_neg hg]
      exact ⟨u, _, rfl, r1, put_fields r r2⟩
/-- o.f = e -/
def sSetfld (g : Pg) (is : List Nat) (fo : FX) (f : Str) (fe : FX) : FS := fun env W => match fe (fz is env) W with
  | some (d, W1) => (match fo (fz is env) W1 with
    | some (.ref r, W2) => (match W2[r]? with
      | some (.ins c fs) => if fs.length < 1000 ∧ g.na c f = true then some (.nx (fz is env) (W2.set r (.ins c (fput f d fs)))) else none
      | _ => none)
    | _ => none)
  | none => none
theorem s_setfld (hK : X.K = S.K) {g : Pg} (hna : ∀ c f, g.na c f = true → Cls S.K (S.cA c) ∧ NoAttr S.K (S.cA c) f) {is : List Nat} {f : Str} {D : Ends} {σ : L2.St} {H : Hp} (h : tS S G0 n0 H0 (sSetfld g is fo f fe) D σ H) : sFld X.K (tEv S false fo) (tEv S false fe) f D σ H := by
  obtain ⟨G, W, env, o, hS, hf, k⟩ := h
  obtain ⟨G1, h1, x1⟩ := hS.fz is
  unfold sSetfld at hf
  cases q1 : fe (fz is env) W with
  | none => simp only [q1] at hf; cases hf
  | some p =>
    obtain ⟨d, W1⟩ := p
    simp only [q1] at hf
    split at hf
    · rename_i r W2 q2
      split at hf
      · rename_i c fs hc
        split at hf
        · rename_i hl
          cases hf
          refine ⟨G1, W, _, d, W1, h1.sw, h1.se, q1, fun v H1 G2 s1 w1 r1 => ?_⟩
          have h2 := h1.step s1 w1
          refine ⟨G2, W1, _, _, W2, w1, h2.se, q2, fun vo H2 G3 s2 w2 r2 => ?_⟩
          have h3 := h2.step s2 w2
          obtain ⟨e2, hr⟩ := r2.ref
          obtain ⟨u, hu, dx, us, eu, ru⟩ := w2.cel r _ hc
          subst eu
          obtain ⟨c1, c2⟩ := hna c f hl.2
          have lu : us.length = fs.length := ru.length
          have rv : Rep S G3 W2.length d v := (r1.elim id (fun z => by cases z.1) : Rep S G2 W1.length d v).mono s2.x
          obtain ⟨w5, s5⟩ := w2.put hr (c := .ins c (fput f d fs)) (o := .ins (S.cA c) dx (putF f v us)) ⟨dx, _, rfl, put_fields rv ru⟩
          refine ⟨_, S.cA c, dx, us, e2, hu, by rw [hK]; exact c1, by rw [hK]; exact c2, by rw [lu]; exact hl.1, ?_⟩
          exact k σ _ G3 (h3.step s5 w5) (x1.trans (s1.x.trans (s2.x.trans s5.x)))
        · cases hf
      · cases hf
    · cases hf
/-- a, b, .. = e -/
def sUnp (ps : List Nat) (is : List Nat) (fe : FX) : FS := fun env W => match fe (fz is env) W with
  | some (.tup ds, W1) => (match unpack ps ds (fz is env) with
    | some env1 => some (.nx env1 W1)
    | none => none)
  | _ => none
theorem s_unp {ps is : List Nat} {D : Ends} {σ : L2.St} {H : Hp} (h : tS S G0 n0 H0 (sUnp ps is fe) D σ H) : tAsg (tEv S false fe) (gPat S (.tup ps)) D σ H := by
  obtain ⟨G, W, env, o, hS, hf, k⟩ := h
  obtain ⟨G1, h1, x1⟩ := hS.fz is
  unfold sUnp at hf
  split at hf
  · rename_i ds W1 q
    cases hu : unpack ps ds (fz is env) with
    | none => simp only [hu] at hf; cases hf
    | some env1 =>
      simp only [hu] at hf
      cases hf
      refine ⟨G1, W, _, _, W1, h1.sw, h1.se, q, fun v H' G' s w r => ?_⟩
      have h2 := h1.step s w
      refine ⟨G', W1, _, .tup ds, env1, w, h2.se, r.elim id (fun z => by cases z.1), hu, fun σ' e' _ own => ?_⟩
      exact k σ' H' G' ⟨w, e', h2.st, fun j ds' a hj hs => by
        obtain ⟨q1, q2⟩ := own j ds' hj
        rw [q2] at hs
        exact h2.fr j ds' a q1 hs⟩ (x1.trans s.x)
  · cases hf
/-- a, b = e1, e2 -/
def sPar (i j : Nat) (is : List Nat) (fa fb : FX) : FS := fun env W => match fa (fz is env) W with
  | some (x, W1) => (match fb (fz is env) W1 with
    | some (y, W2) => some (.nx (((fz is env).set i (.val x)).set j (.val y)) W2)
    | none => none)
  | none => none
theorem s_par {i j : Nat} {is : List Nat} {fa fb : FX} {D : Ends} {σ : L2.St} {H : Hp} (h : tS S G0 n0 H0 (sPar i j is fa fb) D σ H) : tPar i j (tCons (tEv S false fa) (tCons (tEv S false fb) tNil)) D σ H := by
  obtain ⟨G, W, env, o, hS, hf, k⟩ := h
  obtain ⟨G1, h1, x1⟩ := hS.fz is
  unfold sPar at hf
  cases q1 : fa (fz is env) W with
  | none => simp only [q1] at hf; cases hf
  | some p =>
    obtain ⟨x, W1⟩ := p
    simp only [q1] at hf
    cases q2 : fb (fz is env) W1 with
    | none => simp only [q2] at hf; cases hf
    | some p =>
      obtain ⟨y, W2⟩ := p
      simp only [q2] at hf
      cases hf
      refine ⟨G1, W, _, x, W1, h1.sw, h1.se, q1, fun v H1 G2 s1 w1 r1 => ?_⟩
      have h2 := h1.step s1 w1
      refine ⟨G2, W1, _, y, _, w1, h2.se, q2, fun u H2 G3 s2 w2 r2 => ⟨v, u, rfl, ?_⟩⟩
      have h3 := h2.step s2 w2
      have rv : Rep S G3 W2.length x v := (r1.elim id (fun z => by cases z.1) : Rep S G2 W1.length x v).mono s2.x
      exact k _ H2 G3 ((h3.setv i rv).setv j (r2.elim id (fun z => by cases z.1))) (x1.trans (s1.x.trans s2.x))
end
end Pv
end
section
set_option Elab.async false
set_option linter.all false
set_option maxRecDepth 100000
set_option maxHeartbeats 4000000
/-! The induction over the compiler of statements. -/
namespace Pv
open PySem PySem.Spec PyProof.Rows L2
section
variable {S : Su} {P : Ax} {g : Pg} {cl : Nat → CallF} {B : Ctx}
def SndS (S : Su) (P : Ax) (g : Pg) (cl : Nat → CallF) (B : Ctx) (k : Nat) : Prop := ∀ (Γ : Ctx) (n : Nat) (X : Cx) (s : Stmt) (st : St) (G0 : Gh) (n0 : Nat) (H0 : Hp), Same Γ B → XOk S P Γ n X → LK S P cl B n → PassesOwn (model X.prog X.w) X.A X.env X.xe → cS k Γ s = some st → PS X s (tS S G0 n0 H0 (exS g cl n st))
def SndSs (S : Su) (P : Ax) (g : Pg) (cl : Nat → CallF) (B : Ctx) (k : Nat) : Prop := ∀ (Γ : Ctx) (n : Nat) (X : Cx) (s : List Stmt) (st : List St) (G0 : Gh) (n0 : Nat) (H0 : Hp), Same Γ B → XOk S P Γ n X → LK S P cl B n → PassesOwn (model X.prog X.w) X.A X.env X.xe → cSs k Γ s = some st → PSs X s (tS S G0 n0 H0 (exSs g cl n st))
theorem noComp_swap {e : Expr} {o : Option Expr} {l : Nat} {env : Env} (h : match e with | .ListComp _ _ _ _ => False | .SetComp _ _ _ _ => False | .DictComp _ _ _ _ _ => False | _ => True) : swapsWith e o l env = pure false := by
  cases e <;> first | rfl | exact h.elim
theorem cE_noset {k : Nat} {Γ : Ctx} {e : Expr} {x : Ex} (h : cE k Γ e = some x) : match e with | .SetComp _ _ _ _ => False | .DictComp _ _ _ _ _ => False | _ => True := by
  cases k with
  | zero => cases h
  | succ k =>
    cases e with
    | SetComp a b c d =>
      unfold cE at h
      rw [cF_none k Γ True.intro] at h
      cases h
    | DictComp a b c d f =>
      unfold cE at h
      rw [cF_none k Γ True.intro] at h
      cases h
    | _ => exact True.intro
theorem swap_item {k : Nat} {Γ : Ctx} {e : Expr} {x : Ex} (h : cE k Γ e = some x) {o : Expr} {l : Nat} {env : Env} (ho : match o with | .Name _ _ => False | _ => True) : swapsWith e (some o) l env = pure false := by
  have h1 := cE_noset h
  cases e <;> first | (cases o <;> first | rfl | exact ho.elim) | exact h1.elim
theorem cF_noset {k : Nat} {Γ : Ctx} {e : Expr} {f : Fx} (h : cF k Γ e = some f) : match e with | .SetComp _ _ _ _ => False | .DictComp _ _ _ _ _ => False | _ => True := by
  cases e with
  | SetComp a b c d => rw [cF_none k Γ True.intro] at h; cases h
  | DictComp a b c d f => rw [cF_none k Γ True.intro] at h; cases h
  | _ => exact True.intro
theorem asg_imp {te te' : TE} {g : TG} (h : ∀ σ H Q, te' σ H Q → te σ H Q) : ∀ D σ H, tAsg te' g D σ H → tAsg te g D σ H := fun D σ H q => h σ H _ q
/-- x = e, e a new list -/
theorem asgF_rule (hP : PK S P g B) (hR : SetRules S P g cl B) {k : Nat} {Γ : Ctx} {n : Nat} {X : Cx} {x : Str} {p pos : Pos} {e : Expr} {f : Fx} {i : Nat} (hs : Same Γ B) (hX : XOk S P Γ n X) (hL : LK S P cl B n) (hi : Γ.to x = some i) (h : cF k Γ e = some f) :
    PS X (.Assign [.Name x p] e pos) (tAsg (tEvF S (evF g cl n f)) (gName i)) := by
  obtain ⟨a1, a2, a3⟩ := hX.to hi
  obtain ⟨i1, i2, i3, i4⟩ := snd_all (cl := cl) hP hR k
  have he := i3 Γ n X e f hs hX hL h
  have h1 := cF_noset h
  cases e with
  | ListComp elt gs scope q =>
    have sw : swapsWith (.ListComp elt gs scope q) (some (.Name x p)) pos.line X.env = pure (X.env.blockKind == .function && X.env.kindOf x == some .local && p.line == q.line && !(scope.names.any fun (n, k) => n == x && (k == .local || k == .cell))) := rfl
    cases hb : (X.env.blockKind == .function && X.env.kindOf x == some .local && p.line == q.line && !(scope.names.any fun (n, k) => n == x && (k == .local || k == .cell))) with
    | false => exact ps_set hX.nd a1 a2 he (by rw [sw, hb]) a3
    | true =>
      have loc : X.env.scope.names.lookup x = some .local := by
        simp only [Bool.and_eq_true, beq_iff_eq] at hb
        exact hb.1.1.2
      clear h1 he i1 i2 i3 i4
      cases k with
      | zero => cases h
      | succ k =>
        unfold cF at h
        split at h
        · rename_i heq
          cases heq
        · rename_i elt' tg iter ifs scope' pos' heq
          cases heq
          split at h
          · rename_i pt own it c e' h1 h2 h3 h4
            split at h
            · rename_i h5
              cases h
              obtain ⟨j1, _, _, j4⟩ := snd_all (cl := cl) hP hR k
              obtain ⟨b1, b2, b3, b4, b5, b6, b7⟩ := comp_parts j1 j4 hs hX hL h1 h2 h3 h4 h5
              exact ps_imp (ps_setLc hX.calm hX.nd a1 loc (by rw [sw, hb]) b1 b2 b3 b4 b5 b6) (asg_imp b7)
            · cases h
          · cases h
        · rename_i heq
          cases heq
        · cases h
  | SetComp a b c d => exact h1.elim
  | DictComp a b c d f => exact h1.elim
  | _ => exact ps_set hX.nd a1 a2 he rfl a3
end
end Pv
end
section
set_option Elab.async false
set_option linter.all false
set_option maxRecDepth 100000
set_option maxHeartbeats 4000000
namespace Pv
open PySem PySem.Spec PyProof.Rows L2
section
variable {S : Su} {P : Ax} {g : Pg} {cl : Nat → CallF} {B : Ctx}
theorem asg_rule (hP : PK S P g B) (hR : SetRules S P g cl B) {k : Nat} {Γ : Ctx} {n : Nat} {X : Cx} {y : Str} {p pos : Pos} {e : Expr} {x : Ex} {i : Nat} (hs : Same Γ B) (hX : XOk S P Γ n X) (hL : LK S P cl B n) (hi : Γ.to y = some i) (h : cE k Γ e = some x) :
    PS X (.Assign [.Name y p] e pos) (tAsg (tEv S false (evX g cl n false x)) (gName i)) := by
  have he := (snd_all (cl := cl) hP hR k).1 Γ n X e x hs hX hL h false
  obtain ⟨a1, a2, a3⟩ := hX.to hi
  have h1 := cE_noset h
  cases k with
  | zero => cases h
  | succ k =>
    unfold cE at h
    cases hf : cF k Γ e with
    | some f =>
      rw [hf] at h
      simp only at h
      have r := asgF_rule (p := p) (pos := pos) hP hR hs hX hL hi hf
      cases h
      split
      · exact ps_imp r (asg_imp fun σ H Q q => cel_imp q)
      · exact ps_imp r (asg_imp fun σ H Q q => fr_imp q)
    | none =>
      rw [hf] at h
      simp only at h
      cases e with
      | ListComp a b c d => cases h
      | SetComp a b c d => cases h
      | DictComp a b c d f => cases h
      | _ => exact ps_set hX.nd a1 a2 he.1 rfl a3
theorem new_rule (hP : PK S P g B) (hR : SetRules S P g cl B) {k : Nat} {Γ : Ctx} {n : Nat} {X : Cx} {tk : Bool} {e : Expr} {x : Ex} (hs : Same Γ B) (hX : XOk S P Γ n X) (hL : LK S P cl B n) (h : cNew k Γ tk e = some x) :
    PE X e (tEv S false (evX g cl n false x)) ∧ ∀ (o : Expr) (l : Nat), (match o with | .Name _ _ => False | _ => True) → swapsWith e (some o) l X.env = pure false := by
  unfold cNew at h
  split at h
  · cases h
    exact ⟨upto (r_cel (r_lst r_nil)) fun env W => rfl, fun o l _ => rfl⟩
  · cases h
    cases tk with
    | true => exact ⟨upto r_newT fun env W => rfl, fun o l _ => rfl⟩
    | false => exact ⟨upto r_newK fun env W => rfl, fun o l _ => rfl⟩
  · exact ⟨((snd_all (cl := cl) hP hR k).1 Γ n X _ x hs hX hL h false).1, fun o l ho => swap_item h ho⟩
theorem swapped_par {Γ : Ctx} {n : Nat} {X : Cx} {x y : Str} {px py pt pt2 : Pos} {a b : Expr} {kt k2 : Nat} (hX : XOk S P Γ n X) (h : parC Γ x y px py a b = true) :
    swappedStores [.Tuple [.Name x px, .Name y py] kt pt] (.Tuple [a, b] k2 pt2) X.env = pure (some [x, y]) ∧ X.env.scope.names.lookup x = some .local ∧ X.env.scope.names.lookup y = some .local := by
  unfold parC at h
  simp only [Bool.and_eq_true, decide_eq_true_eq, Bool.not_eq_true'] at h
  obtain ⟨⟨⟨⟨⟨⟨⟨⟨h1, h2⟩, h3⟩, h4⟩, h5⟩, h6⟩, h7⟩, h8⟩, h9⟩ := h
  rw [← hX.sc] at h1 h2 h3
  have hk : X.env.scope.kind = .function := by
    split at h1
    · assumption
    · cases h1
  refine ⟨?_, h2, h3⟩
  have hbk : X.env.blockKind = .function := by
    unfold Env.blockKind
    rw [hk]; rfl
  have kx : X.env.kindOf x = some .local := h2
  have ky : X.env.kindOf y = some .local := h3
  simp only [List.all_cons, List.all_nil, Bool.and_true] at h8 h9
  have sa : ∀ {α : Type} (u v : α), (match a with | .Starred _ _ => u | _ => v) = v := by
    intro α u v
    cases a <;> first | rfl | cases h6
  have sb : ∀ {α : Type} (u v : α), (match b with | .Starred _ _ => u | _ => v) = v := by
    intro α u v
    cases b <;> first | rfl | cases h7
  have hyx : ¬ y = x := fun e => h5 e.symm
  simp [swappedStores, hbk, kx, ky, ← h4, h8, h9, List.eraseDups, List.eraseDupsBy, List.eraseDupsBy.loop, hyx, Expr.pos]
  have hb : (y == x) = false := beq_eq_false_iff_ne.mpr hyx
  rw [hb]
  clear sa sb h8 h9
  cases a <;> first | (cases h6; done) | (cases b <;> first | (cases h7; done) | rfl)

theorem sndS_succ (hP : PK S P g B) (hR : SetRules S P g cl B) {k : Nat} (ihS : SndSs S P g cl B k) : SndS S P g cl B (k + 1) := by
  intro Γ n X s st G0 n0 H0 hs hX hL po h
  obtain ⟨i1, i2, i3, i4⟩ := snd_all (cl := cl) hP hR k
  have ex : ∀ {e : Expr} {x : Ex}, cE k Γ e = some x → PE X e (tEv S false (evX g cl n false x)) := fun h => (i1 Γ n X _ _ hs hX hL h false).1
  have hu := hu_of hX.room
  unfold cS at h
  split at h
  · cases h
    exact ps_imp ps_retN fun D σ H q => s_retN q
  · obtain ⟨x, h1, rfl⟩ := opt_map h
    exact ps_imp (ps_ret (ex h1)) fun D σ H q => s_ret (is := esc x) q
  · rename_i y p e q
    split at h
    · rename_i i hi
      split at h
      · rename_i f hf
        split at h
        · obtain ⟨x, h1, rfl⟩ := opt_map h
          exact ps_imp (asg_rule hP hR hs hX hL hi h1) fun D σ H q => s_asg (is := esc x) q
        · cases h
          exact ps_imp (asgF_rule hP hR hs hX hL hi hf) fun D σ H q => s_asgF (is := escF f) q
      · obtain ⟨x, h1, rfl⟩ := opt_map h
        exact ps_imp (asg_rule hP hR hs hX hL hi h1) fun D σ H q => s_asg (is := esc x) q
    · cases h
  · rename_i ts kk p vs k2 p2 q
    split at h
    · rename_i x px y py a b
      split at h
      · rename_i i j u v h1 h2 h3 h4
        split at h
        · rename_i hc
          cases h
          obtain ⟨sw, lx, ly⟩ := swapped_par (pt := p) (pt2 := p2) (kt := kk) (k2 := k2) hX hc.2
          obtain ⟨a1, _, _⟩ := hX.to h1
          obtain ⟨b1, _, _⟩ := hX.to h2
          exact ps_imp (ps_par hX.calm hX.nd a1 b1 hc.1 lx ly (pa_cons (ex h3) (pa_cons (ex h4) pa_nil (cE_star h4 _ _)) (cE_star h3 _ _)) sw rfl) fun D σ H q => s_par (is := esc u ++ esc v) q
        · cases h
      · cases h
    · cases h
  · rename_i ts kk p e q hne
    split at h
    · rename_i l u h1 h2
      cases h
      have hp : cPat Γ (.Tuple ts kk p) = some (.tup (l.map (·.2)), l) := by
        unfold cPat
        simp only [h1]
      have hg := (pg_pat hX hp).1
      refine ps_imp (ps_asg (ex h2) hg (show swapsWithSole [.Tuple ts kk p] e q.line X.env = pure false from swap_item (o := .Tuple ts kk p) (l := q.line) (env := X.env) h2 True.intro) ?_ rfl) fun D σ H q => s_unp (is := esc u) q
      cases e <;> first | rfl | exact absurd rfl (hne _ _ _)
    · cases h
  · rename_i o i p e q
    split at h
    · rename_i x y z h1 h2 h3
      cases h
      obtain ⟨e1, e2⟩ := new_rule hP hR hs hX hL h3
      exact ps_imp (ps_dput hu (ex h1) (ex h2) e1 (e2 _ _ True.intro)) fun D σ H q => s_setix (is := esc z ++ esc x ++ esc y) q
    · cases h
  · rename_i o f p e q
    split at h
    · cases h
    · split at h
      · rename_i x z h1 h2
        cases h
        obtain ⟨e1, e2⟩ := new_rule hP hR hs hX hL h2
        exact ps_imp (ps_fld (ex h1) e1 (e2 _ _ True.intro)) fun D σ H q => s_setfld hX.K hP.na (is := esc z ++ esc x) q
      · cases h
  · rename_i o m p e q r
    split at h
    · rename_i hc
      obtain ⟨hm, hl, hn⟩ := hc
      subst hm
      split at h
      · rename_i y py
        split at h
        · rename_i i x hi h1
          cases h
          obtain ⟨a1, a2, a3, a4⟩ := hX.at hi
          have st := cE_star h1 X.env []
          exact ps_imp (ps_expr (pe_bm (r := rAppend) F.plainAttrs_list F.slot_list_append F.type_list_append mt_append (pe_var a1 a2 a3 a4) (pa_cons (ex h1) pa_nil st) (base_of hn "append") (by rw [st]; rfl) hl st rfl) rfl) fun D σ H q => s_app hX.K (is := esc x) q
        · cases h
      · split at h
        · rename_i x y h1 h2
          cases h
          have st := cE_star h2 X.env []
          exact ps_imp (ps_expr (pe_bm (r := rAppend) F.plainAttrs_list F.slot_list_append F.type_list_append mt_append (ex h1) (pa_cons (ex h2) pa_nil st) (base_of hn "append") (by rw [st]; rfl) hl st rfl) rfl) fun D σ H q => s_appx hX.K (is := esc x ++ esc y) q
        · cases h
    · obtain ⟨x, h1, rfl⟩ := opt_map h
      exact ps_imp (ps_expr (ex h1) rfl) fun D σ H q => s_expr (is := esc x) q
  · rename_i e p hne
    split at h
    · rename_i hcomp
      obtain ⟨x, h1, rfl⟩ := opt_map h
      refine ps_imp (ps_expr (ex h1) ?_) fun D σ H q => s_expr (is := esc x) q
      have := cE_noset h1
      cases e <;> first | rfl | (cases hcomp; done) | exact this.elim
    · cases h
  · rename_i c a b p
    split at h
    · rename_i z x y h1 h2 h3
      cases h
      exact ps_imp (ps_if (i1 Γ n X c z hs hX hL h1 true).2 (ihS Γ n X a x G0 n0 H0 hs hX hL po h2) (ihS Γ n X b y G0 n0 H0 hs hX hL po h3)) fun D σ H q => s_ite (is := escB z) q
    · cases h
  · rename_i tg iter b p
    split at h
    · rename_i pt own it x h1 h2 h3
      cases h
      obtain ⟨q1, q2⟩ := i4 Γ n X tg iter it hs hX hL h2 false
      exact ps_imp (ps_for po hX.calm q1 (pg_pat hX h1).1 (ihS Γ n X b x G0 n0 H0 hs hX hL po h3) (fun v => fold_of h2 _ v)) fun D σ H q => s_for q2 (is := escJ it) q
    · cases h
  · cases h
    exact ps_imp ps_break fun D σ H ⟨G, W, env, o, hS, hf, q⟩ => by
      cases hf
      exact q σ H G hS (Gx.refl _ _)
  · cases h
    exact ps_imp ps_continue fun D σ H ⟨G, W, env, o, hS, hf, q⟩ => by
      cases hf
      exact q σ H G hS (Gx.refl _ _)
  · cases h
theorem sndSs_succ (hP : PK S P g B) {k : Nat} (ih : SndS S P g cl B k) (ihS : SndSs S P g cl B k) : SndSs S P g cl B (k + 1) := by
  intro Γ n X ss st G0 n0 H0 hs hX hL po h
  cases ss with
  | nil =>
    have e : st = [] := by
      unfold cSs at h
      cases h
      rfl
    subst e
    exact pss_imp pss_nil fun D σ H ⟨G, W, env, o, hS, hf, q⟩ => by
      cases hf
      exact q σ H G hS (Gx.refl _ _)
  | cons s r =>
    unfold cSs at h
    split at h
    · exact pss_imp (pss_cons ps_pass (ihS Γ n X r st G0 n0 H0 hs hX hL po h)) fun D σ H q => q
    · split at h
      · rename_i y h1
        cases h
        have hr := ihS Γ n X r y G0 n0 H0 hs hX hL po h1
        cases hc : cS k Γ s with
        | none =>
          refine pss_imp (pss_cons ps_never hr) fun D σ H ⟨G, W, env, o, hS, hf, q⟩ => ?_
          cases hf
        | some x =>
          have h2 := ih Γ n X s x G0 n0 H0 hs hX hL po hc
          refine pss_imp (pss_cons h2 hr) fun D σ H q => s_seq (fa := exS g cl n x) (fb := exSs g cl n y) ?_
          have ev : exSs g cl n (x :: y) = sSeq (exS g cl n x) (exSs g cl n y) := by
            funext env W
            simp only [exSs, sSeq]
            all_goals rfl
          rw [← ev]
          exact q
      · cases h
theorem snd_stmts (hP : PK S P g B) (hR : SetRules S P g cl B) : ∀ k, SndS S P g cl B k ∧ SndSs S P g cl B k
  | 0 => by
    refine ⟨?_, ?_⟩
    · intro Γ n X s st G0 n0 H0 h1 h2 h3 h4 h
      cases h
    · intro Γ n X ss st G0 n0 H0 h1 h2 h3 h4 h
      cases ss with
      | nil =>
        cases h
        exact pss_imp pss_nil fun D σ H ⟨G, W, env, o, hS, hf, q⟩ => by
          cases hf
          exact q σ H G hS (Gx.refl _ _)
      | cons _ _ => cases h
  | k + 1 => by
    obtain ⟨a, b⟩ := snd_stmts hP hR k
    exact ⟨sndS_succ hP hR b, sndSs_succ hP a b⟩
end
end Pv
end
section
set_option Elab.async false
set_option linter.all false
set_option maxRecDepth 100000
set_option maxHeartbeats 4000000
/-! Defs. -/
namespace Pv
open PySem PySem.Spec PyProof.Rows L2
section
variable {S : Su} {G : Gh} {N n : Nat}
mutual
theorem Rep.lower : ∀ {d : D} {v : V}, bnd n d = true → Rep S G N d v → Rep S G n d v
  | .non, _, _, h => h
  | .bl _, _, _, h => h
  | .int _, _, _, h => h
  | .str _, _, _, h => h
  | .tup ds, _, hb, ⟨a, vs, e, h, r⟩ => ⟨a, vs, e, h, Reps.lower (by simpa [bnd] using hb) r⟩
  | .ctp ds, _, hb, ⟨a, vs, e, h, r⟩ => ⟨a, vs, e, h, Reps.lower (by simpa [bnd] using hb) r⟩
  | .lst ds, _, hb, ⟨a, vs, e, h, r⟩ => ⟨a, vs, e, h, Reps.lower (by simpa [bnd] using hb) r⟩
  | .scr ns, _, _, h => h
  | .ref m, _, hb, ⟨e, _⟩ => ⟨e, by simpa [bnd] using hb⟩
theorem Reps.lower : ∀ {ds : List D} {vs : List V}, bnds n ds = true → Reps S G N ds vs → Reps S G n ds vs
  | [], _, _, h => h
  | d :: ds, _, hb, ⟨v, r, e, h, t⟩ => by
    have hb' : (bnd n d && bnds n ds) = true := hb
    rw [Bool.and_eq_true] at hb'
    exact ⟨v, r, e, Rep.lower hb'.1 h, Reps.lower hb'.2 t⟩
end
theorem RepKV.lower {κ : Type} : ∀ {ds : List (κ × D)} {vs : List (κ × V)}, (ds.all fun p => bnd n p.2) = true → RepKV S G N ds vs → RepKV S G n ds vs
  | [], _, _, h => h
  | (k, d) :: ds, _, hb, ⟨v, r, e, h, t⟩ => by
    rw [List.all_cons, Bool.and_eq_true] at hb
    exact ⟨v, r, e, h.lower hb.1, RepKV.lower hb.2 t⟩
theorem RepC.lower : ∀ {c : Cell} {o : HO}, bndC n c = true → RepC S G N c o → RepC S G n c o
  | .lst _, _, hb, ⟨vs, e, r⟩ => ⟨vs, e, r.lower hb⟩
  | .dK _, _, hb, ⟨us, e, r, h⟩ => ⟨us, e, r.lower hb, h⟩
  | .dT _, _, hb, ⟨us, e, r, h⟩ => ⟨us, e, r.lower hb, h⟩
  | .ins _ _, _, hb, ⟨dx, us, e, r⟩ => ⟨dx, us, e, r.lower hb⟩
theorem SW.trunc {W : Wd} {H : Hp} (h : SW S G W H) (hn : n ≤ W.length) (hb : (W.take n).all (bndC n) = true) : SW S G (W.take n) H := by
  have len : (W.take n).length = n := by rw [List.length_take]; exact Nat.min_eq_left hn
  refine ⟨h.sub, fun m c hm => ?_, fun m hm => h.fc m (by omega), fun m m' hm hm' => h.inj m m' (by omega) (by omega), h.tab, h.ft⟩
  have hlt : m < (W.take n).length := (List.getElem?_eq_some_iff.mp hm).1
  have hmem : c ∈ W.take n := List.mem_of_getElem? hm
  rw [List.getElem?_take_of_lt (by omega)] at hm
  obtain ⟨o, h1, h2⟩ := h.cel m c hm
  rw [len]
  exact ⟨o, h1, h2.lower (List.all_eq_true.mp hb c hmem)⟩
theorem Step.trunc {G' : Gh} {H H' : Hp} {n' : Nat} (s : Step S G n H G' n' H') : Step S G n H G' n H' :=
  ⟨⟨s.x.F, s.x.ι, Nat.le_refl _⟩, s.keep, s.there, s.newF, fun m h1 h2 => absurd h2 (Nat.not_lt.mpr h1)⟩
end
theorem start_se {S : Su} {G : Gh} {n : Nat} {H : Hp} {N : List Str} {ds : List D} {vs : List V} (r : Reps S G n ds vs) : SE S G n (startE N.length ds) (start N vs) H := by
  have hl := r.length
  refine ⟨?_, fun i d h => ?_, fun i ds' h => ?_⟩
  · unfold startE L2.start
    simp [hl]
  · unfold startE at h
    unfold L2.start
    by_cases hi : i < ds.length
    · rw [List.getElem?_append_left (by simpa using hi), List.getElem?_map] at h
      rw [List.getElem?_append_left (by simpa [hl] using hi), List.getElem?_map]
      cases q : ds[i]? with
      | none => rw [q] at h; cases h
      | some d' =>
        rw [q] at h
        cases h
        obtain ⟨v, h1, h2⟩ := r.at q
        exact ⟨v, by rw [h1]; rfl, h2⟩
    · rw [List.getElem?_append_right (by simpa using hi)] at h
      have := List.mem_of_getElem? h
      rw [List.mem_replicate] at this
      cases this.2
  · unfold startE at h
    by_cases hi : i < ds.length
    · rw [List.getElem?_append_left (by simpa using hi), List.getElem?_map] at h
      cases q : ds[i]? with
      | none => rw [q] at h; cases h
      | some d' => rw [q] at h; cases h
    · rw [List.getElem?_append_right (by simpa using hi)] at h
      have := List.mem_of_getElem? h
      rw [List.mem_replicate] at this
      cases this.2
theorem start_no {N : Nat} {ds ds' : List D} {i : Nat} (h : (startE N ds)[i]? = some (Sv.own ds')) : False := by
  unfold startE at h
  by_cases hi : i < ds.length
  · rw [List.getElem?_append_left (by simpa using hi), List.getElem?_map] at h
    cases q : ds[i]? with
    | none => rw [q] at h; cases h
    | some d' => rw [q] at h; cases h
  · rw [List.getElem?_append_right (by simpa using hi)] at h
    have := List.mem_of_getElem? h
    rw [List.mem_replicate] at this
    cases this.2
section
variable {S : Su} {P : Ax} {g : Pg} {cl : Nat → CallF} {B : Ctx}
/-- what stands at a def -/
structure DefAt (S : Su) (P : Ax) (B : Ctx) (f : Nat) (Γ : Ctx) (df : Df) : Prop where
  fn : ∃ (name qual : Str) (params : Arguments) (body : List Stmt) (scope : Scope) (dV kV doc pm cdv ct oc : Value) (an od : Option Addr) (osl : Array (Option Value)) (k : Nat),
    P.fd f = PySem.W.fnOf name qual params body scope dV kV doc pm an cdv ct ∧ S.K.lookup (P.fa f) = some ⟨oc, od, .func (PySem.W.fnOf name qual params body scope dV kV doc pm an cdv ct), osl⟩ ∧ PySem.W.codeIn S.K cdv qual = true ∧
    FnScope Γ.N (P.ps f) scope ∧ Γ.sc = scope ∧ cSs k Γ body = some df.body ∧ (Γ.ge = true → ∃ c T, cdv = .ref c ∧ GxR.TabB P.base P.mg c T ∧ T ∈ S.tabs)
  bind : Binds S.K (P.fd f) (P.ps f) []
  same : Same Γ B
  ps : df.ps = (P.ps f).length
  sz : df.sz = Γ.N.length
theorem fn_level (hP : PK S P g B) (hR : ∀ cl, SetRules S P g cl B) {n f : Nat} {Γ : Ctx} {df : Df} (hL : LK S P cl B n) (h : DefAt S P B f Γ df) : FnAt S P (n + 1) f (runD g cl n df) := by
  obtain ⟨name, qual, params, body, scope, dV, kV, doc, pm, cdv, ct, oc, an, od, osl, k, hfd, lk, hcd, FS, hsc, hc, hge⟩ := h.fn
  refine ⟨?_, h.bind⟩
  rw [hfd]
  refine fn_of lk hcd FS (fun vs H Q E q => ?_) fun A outer s H vs Q E hr q => ?_
  · obtain ⟨G, W, ds, r, W', hw, rd, hrun, _⟩ := q
    unfold runD at hrun
    split at hrun
    · rename_i hl
      rw [rd.length, hl, h.ps]
    · cases hrun
  · obtain ⟨G, W, ds, r, W', hw, rd, hrun, k2⟩ := q
    have hX : XOk S P Γ n (cxOf noX P.prog P.w S.K P.mg P.base Γ.N qual scope (P.fa f) cdv A outer s H E).nox := {
      prog := rfl
      w := rfl
      mg := rfl
      base := rfl
      K := rfl
      N := rfl
      nd := FS.nd
      sc := hsc.symm
      fn := fun x _ => rfl
      calm := rfl
      room := hr
      ge := fun hg => by
        obtain ⟨c, T, e1, e2, e3⟩ := hge hg
        exact ⟨c, T, e1, e2, e3⟩ }
    refine ⟨_, PSs.nox ((snd_stmts (cl := cl) hP (hR cl) k).2 Γ n _ body df.body G W.length H h.same hX hL PassesOwn.never hc), ?_⟩
    unfold runD at hrun
    split at hrun
    · rename_i hl
      have hS : SS S G W.length H G W (startE df.sz ds) (start Γ.N vs) H := ⟨hw, by rw [h.sz]; exact start_se rd, Step.refl, fun i ds' a hi => (start_no hi).elim⟩
      have fin : ∀ (d : D) (W2 : Wd), leave df.hp W d W2 = some (r, W') → ∀ (v : V) (H' : Hp) (G' : Gh), Step S G W.length H G' W2.length H' → SW S G' W2 H' → Rep S G' W2.length d v → Q v H' := by
        intro d W2 hlv v H' G' s' w' r'
        unfold leave at hlv
        split at hlv
        · cases hlv
          exact k2 v H' G' s' w' r'
        · split at hlv
          · rename_i hb
            cases hlv
            have hn : W.length ≤ W2.length := s'.x.n
            have len : (W2.take W.length).length = W.length := by rw [List.length_take]; exact Nat.min_eq_left hn
            exact k2 v H' G' (by rw [len]; exact s'.trunc) (w'.trunc hn hb.2) (by rw [len]; exact r'.lower hb.1)
          · cases hlv
      split at hrun
      · rename_i env' W2 hx
        exact ⟨G, W, _, _, hS, hx, fun σ' H' G' h' g' => fin .non W2 hrun .non H' G' h'.st h'.sw rfl⟩
      · rename_i d W2 hx
        exact ⟨G, W, _, _, hS, hx, fun v H' G' s' w' r' => fin d W2 hrun v H' G' s' w' r'⟩
      · cases hrun
    · cases hrun
end
end Pv
end
section
set_option Elab.async false
set_option linter.all false
set_option maxRecDepth 100000
set_option maxHeartbeats 4000000
/-! From what the head tells to the law. -/
namespace Pv
open PySem PySem.Spec PyProof.Rows L2
/-- a def: where it stands, its context, its pure body, its parameters -/
structure Rw where
  d : He.DefD
  Γ : Ctx
  df : Df
  ps : List Str
/-- a whole program -/
structure LT where
  rows : List Rw
  B : Ctx
  fa : List He.Fa
  tf : List He.Defn
  g : Pg
def LT.dfs (T : LT) (f : Nat) : Option Df := (T.rows[f]?).map (·.df)
def LT.fn (T : LT) : List He.DefD := T.rows.map (·.d)
structure RwOk (T : LT) (r : Rw) : Prop where
  fs : FnScope r.Γ.N r.ps r.d.scope
  sc : r.Γ.sc = r.d.scope
  cs : ∃ k, cSs k r.Γ r.d.body = some r.df.body
  same : Same r.Γ T.B
  ps : r.df.ps = r.ps.length
  sz : r.df.sz = r.Γ.N.length
  dfl : r.d.dfl = []
  kwd : r.d.kwd = []
  bind : ∀ (kV doc pm : Value) (an : Option Addr) (cdv ct : Value) (us : List Value), us.length = r.ps.length → bindArgs (PySem.W.fnOf r.d.name r.d.qual r.d.params r.d.body r.d.scope .none kV doc pm an cdv ct) ⟨us, []⟩ = pure (r.ps.zip us)
  ge : r.Γ.ge = true → r.d.at_ ∈ T.tf
/-- what the text must show of the names -/
structure LTOk (T : LT) : Prop where
  row : ∀ r ∈ T.rows, RwOk T r
  len : T.B.fns.length = T.rows.length
  fr : ∀ x ∈ T.B.fr, He.Fa.free x ∈ T.fa
  fns : ∀ p ∈ T.B.fns.zip T.rows, dotless p.1 = true → p.2.d.at_ = (p.1, none) ∧ He.Fa.glo p.1 ∈ T.fa
  cls : ∀ x ∈ T.B.cls, He.Fa.glo x ∈ T.fa
  ini : ∀ c f, T.g.ini c = some f → ∃ x r, T.B.cls[c]? = some x ∧ T.rows[f]? = some r ∧ r.d.at_ = (x, some ("__init__" : Str)) ∧ He.Fa.mkr x ∈ T.fa
  mt : ∀ c m f, T.g.mt c m = some f → ∃ x r, T.B.cls[c]? = some x ∧ T.rows[f]? = some r ∧ r.d.at_ = (x, some m) ∧ He.Fa.cls x ∈ T.fa ∧ He.Fa.meth x m ∈ T.fa
  na : ∀ c f, T.g.na c f = true → ∃ x, T.B.cls[c]? = some x ∧ He.Fa.cls x ∈ T.fa ∧ He.Fa.noat x f ∈ T.fa
section
variable {T : LT} {K : Frag} {w : World} {h : Heap} {mg : Str → Option Value} {ex : Frag → Bool} {prog : Program} {base : Heap}
def LT.S (T : LT) (K : Frag) : Su := ⟨K, fun c => He.ga K ((T.B.cls[c]?).getD Str.empty), T.tf.map fun p => (He.cT K p).2⟩
def LT.fA (T : LT) (K : Frag) (f : Nat) : Addr := match T.rows[f]? with
  | some r => He.fAd K r.d.at_
  | none => 0
def LT.P (T : LT) (K : Frag) (prog : Program) (w : World) (mg : Str → Option Value) (base : Heap) : Ax where
  prog := prog
  w := w
  mg := mg
  base := base
  fa := T.fA K
  fd := fun f => match K.lookup (T.fA K f) with
    | some ⟨_, _, .func fd, _⟩ => fd
    | _ => default
  ps := fun f => match T.rows[f]? with
    | some r => r.ps
    | none => []
theorem at_idx {x : Str} {N : List Str} {i : Nat} (h : N.findIdx? (fun y => decide (y = x)) = some i) : N[i]? = some x := findIdx_at h
theorem pk_of (O : LTOk T) (c : He.SaysX T.fa T.fn [] T.tf ex w h K) (KX : K.In h) (G : h.Ns mainGlobals mg)
    (hcst : ∀ x d, T.B.cst.lookup x = some d → ∃ v u, mg x = some u ∧ RelV v u ∧ ∀ G n, Rep (T.S K) G n d v) : PK (T.S K) (T.P K prog w mg base) T.g T.B := by
  have fact : ∀ {f : He.Fa}, f ∈ T.fa → f.ok K = true := fun hf => c.t.d.facts hf
  have clA : ∀ {i : Nat} {x : Str}, T.B.cls[i]? = some x → (T.S K).cA i = He.ga K x := fun {i x} e => by
    show He.ga K ((T.B.cls[i]?).getD Str.empty) = _
    rw [e]; rfl
  have rowA : ∀ {f : Nat} {r : Rw}, T.rows[f]? = some r → T.fA K f = He.fAd K r.d.at_ := fun {f r} e => by
    unfold LT.fA
    rw [e]
  have lt_of : ∀ {f : Nat} {r : Rw}, T.rows[f]? = some r → f < T.B.fns.length := fun {f r} e => by
    rw [O.len]
    exact (List.getElem?_eq_some_iff.mp e).1
  refine ⟨fun x hx => ?_, hcst, fun x f hf hd => ?_, fun x i hi => ?_, fun i f hi => ?_, fun i m f hi => ?_, fun i f hi => ?_⟩
  · exact He.free_ok KX G (fact (O.fr x (by simpa using hx)))
  · have hx := findIdx_at hf
    have hlt : f < T.rows.length := by
      rw [← O.len]
      exact (List.getElem?_eq_some_iff.mp hx).1
    obtain ⟨h1, h2⟩ := O.fns (x, T.rows[f]) (List.mem_of_getElem? (i := f) (by rw [List.getElem?_zip_eq_some]; exact ⟨hx, List.getElem?_eq_getElem hlt⟩)) hd
    have e : T.fA K f = He.ga K x := by
      rw [rowA (List.getElem?_eq_getElem hlt), h1]; rfl
    refine ⟨?_, ?_⟩
    · show mg x = some (.ref (T.fA K f))
      rw [e]
      exact He.glo_ok KX G (fact h2)
    · show PySem.W.keepIn K (.ref (T.fA K f)) = true
      have hm : T.rows[f].d ∈ T.fn := List.mem_map.mpr ⟨_, List.getElem_mem _, rfl⟩
      obtain ⟨fd, FD⟩ := c.t.d.defs hm
      rw [rowA (List.getElem?_eq_getElem hlt)]
      exact FD.kp
  · have hx := findIdx_at hi
    show mg x = some (.ref ((T.S K).cA i))
    rw [clA hx]
    exact He.glo_ok KX G (fact (O.cls x (List.mem_of_getElem? hx)))
  · obtain ⟨x, r, h1, h2, h3, h4⟩ := O.ini i f hi
    refine ⟨?_, lt_of h2⟩
    show Mk K ((T.S K).cA i) (T.fA K f)
    rw [clA h1, rowA h2, h3]
    exact He.mkr_ok (fact h4)
  · obtain ⟨x, r, h1, h2, h3, h4, h5⟩ := O.mt i m f hi
    refine ⟨?_, ?_, lt_of h2⟩
    · show Cls K ((T.S K).cA i)
      rw [clA h1]
      exact He.cls_ok (fact h4)
    · show Meth K ((T.S K).cA i) m (T.fA K f)
      rw [clA h1, rowA h2, h3]
      exact He.meth_ok (fact h5)
  · obtain ⟨x, h1, h2, h3⟩ := O.na i f hi
    refine ⟨?_, ?_⟩
    · show Cls K ((T.S K).cA i)
      rw [clA h1]
      exact He.cls_ok (fact h2)
    · show NoAttr K ((T.S K).cA i) f
      rw [clA h1]
      exact He.noat_ok (fact h3)
theorem def_of (O : LTOk T) (c : He.SaysX T.fa T.fn [] T.tf ex w h K) (hB : ∀ p ∈ T.tf, GxR.TabB base mg (He.cT K p).1 (He.cT K p).2) {f : Nat} {r : Rw} (hr : T.rows[f]? = some r) : DefAt (T.S K) (T.P K prog w mg base) T.B f r.Γ r.df := by
  have hmem : r ∈ T.rows := List.mem_of_getElem? hr
  have R := O.row r hmem
  have hm : r.d ∈ T.fn := List.mem_map.mpr ⟨_, hmem, rfl⟩
  obtain ⟨fd, FD⟩ := c.t.d.defs hm
  have rowA : T.fA K f = He.fAd K r.d.at_ := by
    unfold LT.fA
    rw [hr]
  have hps : (T.P K prog w mg base).ps f = r.ps := by
    show (match T.rows[f]? with
      | some r => r.ps
      | none => []) = _
    rw [hr]
  have e1 : r.d.dvs K = [] := by unfold He.DefD.dvs; rw [R.dfl]; rfl
  have e2 : r.d.kws K = [] := by unfold He.DefD.kws; rw [R.kwd]; rfl
  rw [e1, e2] at FD
  obtain ⟨oc, od, dV, kV, doc, pm, an, cdv, ct, osl, hfd, lk, hcd, _, _⟩ := id FD.ex
  have hfd2 : (T.P K prog w mg base).fd f = fd := by
    show (match K.lookup (T.fA K f) with
      | some ⟨_, _, .func fd, _⟩ => fd
      | _ => default) = _
    rw [rowA, lk]
  obtain ⟨k, hc⟩ := R.cs
  refine ⟨⟨r.d.name, r.d.qual, r.d.params, r.d.body, r.d.scope, dV, kV, doc, pm, cdv, ct, oc, an, od, osl, k, by rw [hfd2, hfd], ?_, hcd, by rw [hps]; exact R.fs, R.sc, hc, fun hg => ?_⟩, ?_, R.same, by rw [hps]; exact R.ps, R.sz⟩
  · show K.lookup (T.fA K f) = _
    rw [rowA, lk, hfd]
  · have ht := R.ge hg
    obtain ⟨cd, hcd2⟩ := He.codeIn_ref hcd
    have hco : He.codeOf K r.d.at_ = cd := He.codeOf_eq lk (by rw [hfd]; exact hcd2)
    have := hB _ ht
    refine ⟨(He.cT K r.d.at_).1, (He.cT K r.d.at_).2, ?_, this, List.mem_map.mpr ⟨_, ht, rfl⟩⟩
    rw [hcd2]
    show Value.ref cd = Value.ref (He.codeOf K r.d.at_)
    rw [hco]
  · rw [hfd2, hps]
    exact FD.bindsN R.bind
theorem levels (O : LTOk T) {S : Su} {P : Ax} (hP : PK S P T.g T.B) (hR : ∀ cl, SetRules S P T.g cl T.B) (hD : ∀ f r, T.rows[f]? = some r → DefAt S P T.B f r.Γ r.df) : ∀ n, LK S P (run T.g T.dfs n) T.B n
  | 0 => fun m hm f hf => by
    rw [O.len] at hf
    have D := hD f _ (List.getElem?_eq_getElem hf)
    refine ⟨⟨fun vs H Q E q => ?_, fun A outer s H args us vs Q E hr e0 hb hv q => ?_⟩, D.bind⟩
    · obtain ⟨G, W, ds, r, W', _, _, hx, _⟩ := q
      cases hx
    · obtain ⟨G, W, ds, r, W', _, _, hx, _⟩ := q
      cases hx
  | n + 1 => fun m hm f hf => by
    have ih := levels O hP hR hD n
    by_cases hmn : m ≤ n
    · have e : run T.g T.dfs (n + 1) m = run T.g T.dfs n m := by
        show (if m ≤ n then run T.g T.dfs n m else _) = _
        rw [if_pos hmn]
      rw [e]
      exact ih m hmn f hf
    · have hm1 : m = n + 1 := by omega
      subst hm1
      rw [O.len] at hf
      have hr := List.getElem?_eq_getElem hf
      have e : run T.g T.dfs (n + 1) (n + 1) f = runD T.g (run T.g T.dfs n) n T.rows[f].df := by
        funext ds W
        show (if n + 1 ≤ n then run T.g T.dfs n (n + 1) else if n + 1 = n + 1 then fun f ds W => (match T.dfs f with
          | some d => runD T.g (run T.g T.dfs n) n d ds W
          | none => none) else fun _ _ _ => none) f ds W = _
        rw [if_neg (by omega), if_pos rfl]
        have : T.dfs f = some T.rows[f].df := by
          unfold LT.dfs
          rw [hr]; rfl
        simp only [this]
      rw [e]
      exact fn_level hP hR ih (hD f _ hr)
/-- the law -/
theorem law_at {l : PySem.W.OpenLaw} (O : LTOk T) (c : He.SaysX T.fa T.fn [] T.tf ex w h K) (KX : K.In h) (G : h.Ns mainGlobals mg) {N L : Nat} {r : Rw} (hL : T.rows[L]? = some r) (hps : r.ps = [("script" : Str)])
    (hcst : ∀ x d, T.B.cst.lookup x = some d → ∃ v u, mg x = some u ∧ RelV v u ∧ ∀ G n, Rep (T.S K) G n d v)
    (hR : ∀ (base : Heap) cl, SetRules (T.S K) (T.P K l.prog w mg base) T.g cl T.B)
    (hpure : ∀ ns : List Int, ns.length ≤ 63 → (∀ z ∈ ns, Builtin.Int.intBits z ≤ 1048576) → ∃ W, run T.g T.dfs N N L [.scr ns] [] = some (.bl true, W)) :
    LamX.LawAtS l w K noX N 63 ("script" : Str) mg (T.fA K L) h := by
  have hLt : L < T.B.fns.length := by
    rw [O.len]
    exact (List.getElem?_eq_some_iff.mp hL).1
  have hB : ∀ base : Heap, (∀ p ∈ T.tf.map (He.cT K), LamX.TabB base mg p.1 p.2) → ∀ p ∈ T.tf, GxR.TabB base mg (He.cT K p).1 (He.cT K p).2 := fun base hb p hp => by
    obtain ⟨a, b, d⟩ := hb _ (List.mem_map.mpr ⟨p, hp, rfl⟩)
    exact ⟨a, b, d⟩
  have fnat : ∀ base : Heap, (∀ p ∈ T.tf.map (He.cT K), LamX.TabB base mg p.1 p.2) → FnAt (T.S K) (T.P K l.prog w mg base) N L (run T.g T.dfs N N L) := fun base hb =>
    levels O (pk_of O c KX G hcst) (hR base) (fun f r hr => def_of O c (hB base hb) hr) N N (Nat.le_refl _) L hLt
  have hmem : r ∈ T.rows := List.mem_of_getElem? hL
  have R := O.row r hmem
  have hm : r.d ∈ T.fn := List.mem_map.mpr ⟨_, hmem, rfl⟩
  obtain ⟨fd, FD⟩ := c.t.d.defs hm
  have rowA : T.fA K L = He.fAd K r.d.at_ := by
    unfold LT.fA
    rw [hL]
  have e1 : r.d.dvs K = [] := by unfold He.DefD.dvs; rw [R.dfl]; rfl
  have e2 : r.d.kws K = [] := by unfold He.DefD.kws; rw [R.kwd]; rfl
  rw [e1, e2] at FD
  obtain ⟨oc, od, dV, kV, doc, pm, an, cdv, ct, osl, hfd, lk, hcd, hdV, _⟩ := id FD.ex
  have hpsP : ∀ base, (T.P K l.prog w mg base).ps L = [("script" : Str)] := fun base => by
    show (match T.rows[L]? with
      | some r => r.ps
      | none => []) = _
    rw [hL]
    exact hps
  have hfdP : ∀ base, (T.P K l.prog w mg base).fd L = fd := fun base => by
    show (match K.lookup (T.fA K L) with
      | some ⟨_, _, .func fd, _⟩ => fd
      | _ => default) = _
    rw [rowA, lk]
  refine ⟨fd, T.tf.map (He.cT K), spRun (T.S K) (run T.g T.dfs N N L), fun p hp => ?_, fun p hp => ?_, fun p hp => ?_, fun s u => ?_, fun H a ns hlen hbits hH hS => ?_, fun base KB GB hb => ?_⟩
  · obtain ⟨q, hq, rfl⟩ := List.mem_map.mp hp
    exact c.empty q hq
  · obtain ⟨q, hq, rfl⟩ := List.mem_map.mp hp
    exact c.out q hq
  · obtain ⟨q, hq, rfl⟩ := List.mem_map.mp hp
    exact PySem.W.codeHd_of_K KX (c.hd q hq)
  · have hdV' : dV = .none := by
      rcases hdV with ⟨_, e⟩ | ⟨e, _⟩
      · exact e
      · exact absurd rfl e
    subst hdV'
    rw [hfd]
    have := R.bind kV doc pm an cdv ct [u] (by rw [hps]; rfl)
    rw [hps] at this
    exact .of_eq this
  · obtain ⟨W, hW⟩ := hpure ns hlen hbits
    have tabsE : ∀ P ∈ (T.S K).tabs, H P = some (.tbl #[]) ∧ K.lookup P = none := fun P hP => by
      obtain ⟨q, hq, rfl⟩ := List.mem_map.mp hP
      exact ⟨hH _ (List.mem_map.mpr ⟨q, hq, rfl⟩), c.out q hq⟩
    have fin : ∀ F : Hp, (∀ a o, F a = some o → H a = some o) → (∀ P ∈ (T.S K).tabs, F P = none) → SqL K F a (ns.map V.int) → spRun (T.S K) (run T.g T.dfs N N L) [.ref a] H (fun v _ => v = .bl true) fun _ _ _ => False := fun F h1 h2 h3 => by
      refine ⟨⟨F, fun _ => 0⟩, [], [.scr ns], .bl true, W, ⟨h1, fun m c hm => by simp at hm, fun m hm => absurd hm (Nat.not_lt_zero _), fun m m' hm => absurd hm (Nat.not_lt_zero _), fun P hP => ⟨#[], (tabsE P hP).1, ?_⟩, h2⟩, ⟨.ref a, [], rfl, ⟨a, rfl, h3⟩, rfl⟩, hW, fun v H' G' s' w' r' => r'⟩
      first
        | exact .nil
        | exact True.intro
        | (intro z hz; cases hz)
    rcases hS with hS | hS
    · refine fin (fun b => if b = a then H a else none) (fun b o e => ?_) (fun P hP => ?_) (.inl ?_)
      · split at e
        · rename_i hb; rw [hb]; exact e
        · cases e
      · rw [if_neg]
        intro hPa
        have := (tabsE P hP).1
        rw [hPa] at this
        rcases hS with e | ⟨o, e⟩
        · rw [this] at e; cases e
        · rw [this] at e; cases e
      · rcases hS with e | ⟨o, e⟩
        · exact .inl ((if_pos rfl).trans e)
        · exact .inr ⟨o, (if_pos rfl).trans e⟩
    · exact fin (fun _ => none) (fun b o e => by cases e) (fun _ _ => rfl) (.inr hS)
  · have F := (fnat base hb).ok
    rw [hpsP base, hfdP base] at F
    exact F
end
end Pv
end
section
set_option Elab.async false
set_option linter.all false
set_option maxRecDepth 100000
set_option maxHeartbeats 4000000
/-! Constants. -/
namespace Pv
open PySem PySem.Spec PyProof.Rows L2
/-- a plain constant as the head's value -/
def dvOf : D → He.Dv
  | .int i => .int i
  | .str x => .str x
  | .bl b => .bl b
  | _ => .non
def plainD : D → Bool
  | .int _ => true
  | .str x => okStrB x
  | .bl _ => true
  | .non => true
  | _ => false
/-- a constant of the module is told by the head -/
def cstOk (fa : List He.Fa) (p : Str × D) : Prop := match p.2 with
  | .int i => He.Fa.int p.1 i ∈ fa
  | .str z => He.Fa.str p.1 z ∈ fa ∧ okStrB z = true
  | .ctp ds => He.Fa.glo p.1 ∈ fa ∧ ds.all plainD = true
  | _ => False
/-- the tuples among them -/
def tupsB (cst : List (Str × D)) (K : Frag) : Bool := cst.all fun p => match p.2 with
  | .ctp ds => He.tupB K p.1 (ds.map dvOf)
  | _ => true
theorem plain_rep {S : Su} {K : Frag} {G : Gh} {n : Nat} {d : D} (h : plainD d = true) : Rep S G n d ((dvOf d).v K) := by
  cases d with
  | int i => rfl
  | str x => exact ⟨rfl, okStr_of h⟩
  | bl b => rfl
  | non => rfl
  | _ => cases h
theorem plains_rep {S : Su} {K : Frag} {G : Gh} {n : Nat} : ∀ {ds : List D}, ds.all plainD = true → Reps S G n ds ((ds.map dvOf).map (He.Dv.v K))
  | [], _ => rfl
  | d :: ds, h => by
    rw [List.all_cons, Bool.and_eq_true] at h
    exact ⟨_, _, rfl, plain_rep h.1, plains_rep h.2⟩
theorem mem_of_lookup {α : Type} {x : Str} {d : α} : ∀ {l : List (Str × α)}, l.lookup x = some d → (x, d) ∈ l
  | [], h => by cases h
  | (k, v) :: l, h => by
    rw [List.lookup_cons] at h
    split at h
    · rename_i e
      cases h
      have : x = k := by simpa using e
      rw [this]; simp
    · exact List.mem_cons_of_mem _ (mem_of_lookup h)
theorem csts_of {T : LT} {K : Frag} {w : World} {h : Heap} {mg : Str → Option Value} (hc : ∀ p ∈ T.B.cst, cstOk T.fa p) (c : He.SaysX T.fa T.fn [] T.tf (tupsB T.B.cst) w h K) (KX : K.In h) (G : h.Ns mainGlobals mg) :
    ∀ x d, T.B.cst.lookup x = some d → ∃ v u, mg x = some u ∧ RelV v u ∧ ∀ G n, Rep (T.S K) G n d v := by
  intro x d hx
  have hm : (x, d) ∈ T.B.cst := mem_of_lookup hx
  have h1 := hc _ hm
  have fact : ∀ {f : He.Fa}, f ∈ T.fa → f.ok K = true := fun hf => c.t.d.facts hf
  cases d with
  | int i =>
    obtain ⟨t, e⟩ := He.int_ok KX G (fact h1)
    exact ⟨.int i, _, e, ⟨t, rfl⟩, fun _ _ => rfl⟩
  | str z =>
    obtain ⟨t, e⟩ := He.str_ok KX G (fact h1.1)
    exact ⟨.str z, _, e, ⟨t, rfl⟩, fun _ _ => ⟨rfl, okStr_of h1.2⟩⟩
  | ctp ds =>
    refine ⟨.ref (He.ga K x), _, He.glo_ok KX G (fact h1.1), rfl, fun G n => ⟨_, _, rfl, ?_, plains_rep (K := K) h1.2⟩⟩
    have := c.more
    unfold tupsB at this
    rw [List.all_eq_true] at this
    exact He.tupB_ok (this _ hm) G.F
  | _ => exact h1.elim
end Pv
end
section
set_option Elab.async false
set_option linter.all false
set_option maxRecDepth 100000
set_option maxHeartbeats 4000000
/-! Sets of texts. -/
namespace Pv
open PySem PySem.Spec PyProof.Rows L2
open PySem.Froz (SD sObj TxOk addTx tailTx)
/-- the set of texts at a: l its members, each once; it can be walked -/
structure SetS (P : Program) (w : World) (h : Heap) (a : Addr) (l : List Str) : Prop where
  ex : ∃ D : SD, h.get? a = some (sObj "set" D) ∧ TxOk P w D l ∧ Ris D.2.2.place.toList ∧ (w.params.followText "set-order" = true ∨ D.2.2.led = true)
  nd : l.Nodup
  few : l.length < scanBound
section
variable {P : Program} {w : World} {A : Around} {E : Value → Shared → Prop} {s : Shared} {h h' : Heap} {a : Addr} {l : List Str}
theorem SetS.at (R : SetS P w h a l) (k : ∀ o, h.get? a = some o → h'.get? a = some o) : SetS P w h' a l := by
  obtain ⟨⟨D, h1, h2⟩, nd, fw⟩ := R
  exact ⟨⟨D, k _ h1, h2⟩, nd, fw⟩
theorem plain_off {t : SetTable} : (if t.plain = true then { t with plain := false } else t).place = t.place ∧ (if t.plain = true then { t with plain := false } else t).led = t.led := by
  split <;> exact ⟨rfl, rfl⟩
theorem tail_keeps {ep : Nat} {es1 : Array (Int × Value)} {t2 : SetTable} {wd : Bool} (hr : Ris t2.place.toList) : Ris (tailTx ep es1 t2 wd).2.2.place.toList ∧ (tailTx ep es1 t2 wd).2.2.led = t2.led := by
  unfold tailTx
  by_cases c : (!wd && t2.tooFull) = true
  · rw [if_pos c]
    exact ⟨relayAll_ris _ _ _, relayAll_led _ _ _⟩
  · rw [if_neg c]
    exact ⟨hr, rfl⟩
/-- what an added text leaves as it was -/
theorem addTx_keeps {D : SD} {hs : Int} {v : Value} (hr : Ris D.2.2.place.toList) : Ris (addTx hs v D).2.2.place.toList ∧ (addTx hs v D).2.2.led = D.2.2.led := by
  have r1 := layNew_ris D.2.2 D.1 hs v hr
  have l1 := layNew_led D.2.2 D.1 hs v
  have p := plain_off (t := (layNew D.2.2 D.1 hs v).2.1)
  rw [← p.1] at r1
  obtain ⟨a, b⟩ := tail_keeps (ep := D.2.1) (es1 := (layNew D.2.2 D.1 hs v).1) (wd := (layNew D.2.2 D.1 hs v).2.2.1) r1
  exact ⟨a, b.trans (p.2.trans l1)⟩
theorem SetS.add (R : SetS P w h a l) {k : Str} {u : Tok} (hk : k ∉ l) (hb : l.length + 1 < scanBound) {D : SD} (hD : h.get? a = some (sObj "set" D)) (ok : TxOk P w D l) (hr : Ris D.2.2.place.toList) (hl : w.params.followText "set-order" = true ∨ D.2.2.led = true) :
    SetS P w (h.update a (fun _ => sObj "set" (addTx (hashStr w k) (.str k u) D))) a (k :: l) := by
  obtain ⟨a1, a2⟩ := addTx_keeps (hs := hashStr w k) (v := .str k u) hr
  refine ⟨⟨_, Heap.get?_update_self _ hD rfl, PySem.Froz.add_ok u ok, a1, hl.imp id fun z => a2.trans z⟩, List.nodup_cons.mpr ⟨hk, R.nd⟩, by simpa using hb⟩
theorem SetS.setOf (R : SetS P w h a l) : h.SetOf (strKind P w) a (fun k => decide (k ∈ l)) l.length := by
  obtain ⟨⟨D, h1, ok, hr, hl⟩, nd, few⟩ := R
  exact ⟨_, D.1, D.2.1, D.2.2, h1, ⟨rfl, rfl, rfl⟩, rfl, ok.el, fun k => by rw [decide_eq_true_eq]; exact ok.mem k, by rw [ok.sz]; exact few, ok.fit, ok.sz⟩
/-- a text that is there is not added -/
theorem add_there {D : SD} {k : Str} {u : Tok} {Q : Bool → Shared → Prop} (hD : s.heap.get? a = some (sObj "set" D)) (ok : TxOk P w D l) (few : l.length < scanBound) (hk : k ∈ l) (hQ : Q false s) :
    wpAny (model P w) A (setAddHashed a (.str k u) (hashStr w k)) Q E s := by
  have hb : D.1.size < scanBound := by rw [ok.sz]; exact few
  unfold setAddHashed setAddHashedIn
  refine wpAny_holding (wpAny_bind (wpAny_setState_of hD rfl ok.fit ?_))
  dsimp only
  rw [byScan_of (knd := strKind P w) (show (Value.str k u).scannable = true from rfl) hb ok.el]
  simp only [↓reduceIte]
  unfold setAddByScan
  refine wpAny_bind ?_
  refine wpAny_bind (wpAny_rule ?_)
  refine wpAny_bind (wpAny_setScan_of (strKind_is P w k u) hD rfl ok.fit ok.el ?_)
  cases hf : List.findIdx? (fun e => (strKind P w).is k e.2) D.1.toList with
  | some j =>
    dsimp only
    exact wpAny_pure (wpAny_pure hQ)
  | none =>
    obtain ⟨e, he, q⟩ := (ok.mem k).mp hk
    have := List.findIdx?_eq_none_iff.mp hf e he
    rw [q] at this
    cases this
theorem set_add {k : Str} {u : Tok} {Q : Value → Shared → Prop} (R : SetS P w s.heap a l) (room : l.length + 1 < scanBound)
    (hQ : ∀ h', Heap.SameBut a s.heap h' → SetS P w h' a (if k ∈ l then l else k :: l) → Q .none { s with heap := h', toks := s.toks + 1 }) :
    wpAny (model P w) A (call (.builtin "set.add") [.ref a, .str k u]) Q E s := by
  have hS := R.setOf
  refine wpAny_call_entry F.slot_set_add hS.typeIs F.entry_set_add ?_ (F.args_set_add_2 _ _)
  unfold Builtin.«set.add» Builtin.Frozenset.oneOther
  simp only [List.isEmpty_nil, bind_assoc]
  unfold Builtin.Frozenset.addrOf setAdd
  refine wpAny_bind (wpAny_pure ?_)
  try dsimp only
  refine wpAny_bind (wpAny_pure ?_)
  try dsimp only
  refine wpAny_bind ?_
  refine wpAny_holding ?_
  refine wpAny_bind ((strKind P w).pyHash (strKind_is P w k u) ?_)
  obtain ⟨⟨D, h1, ok, hr, hl⟩, nd, few⟩ := id R
  by_cases hk : k ∈ l
  · refine add_there (s := { s with toks := s.toks + 1 }) h1 ok few hk ?_
    show wpAny _ _ (ret Value.none) _ _ _
    refine wpAny_pure ⟨_, rfl, hQ s.heap (Heap.SameBut.refl a s.heap) ?_⟩
    rw [if_pos hk]
    exact R
  · refine PySem.Froz.add_x (s := { s with toks := s.toks + 1 }) h1 ok hk room ?_
    show wpAny _ _ (ret Value.none) _ _ _
    refine wpAny_pure ⟨_, rfl, hQ _ (Heap.SameBut.update _ a _) ?_⟩
    rw [if_neg hk]
    exact R.add hk room h1 ok hr hl
theorem perm_of_sub : ∀ {l N : List Str}, l.Nodup → (∀ x ∈ l, x ∈ N) → N.length = l.length → N.Perm l
  | [], N, _, _, h => by
    have : N = [] := List.length_eq_zero_iff.mp h
    rw [this]
  | x :: l, N, hn, hs, hl => by
    rw [List.nodup_cons] at hn
    have hx : x ∈ N := hs x (by simp)
    have p := List.perm_cons_erase hx
    have h2 : (N.erase x).Perm l := perm_of_sub hn.2 (fun y hy => by
      have hyx : y ≠ x := fun e => hn.1 (e ▸ hy)
      exact (List.mem_erase_of_ne hyx).mpr (hs y (by simp [hy]))) (by
        have := p.length_eq
        simp at this hl
        omega)
    exact p.trans (h2.cons x)
def strV : Value → Str
  | .str x _ => x
  | _ => Str.empty
theorem strs_all : ∀ vs : List Value, (∀ v ∈ vs, ∃ x tk, v = Value.str x tk) → StrsAre vs (vs.map strV)
  | [], _ => .nil
  | v :: vs, h => by
    obtain ⟨x, tk, rfl⟩ := h v (by simp)
    exact .cons x tk (strs_all vs fun u hu => h u (by simp [hu]))
theorem sorted_setS {Q : Value → Shared → Prop} (R : SetS P w s.heap a l) (hh : A.handled = none) (hz : l.length ≤ sizeLine)
    (hQ : ∀ s' p (out : Array Value) (c : Nat), (∀ b o, s.heap.get? b = some o → s'.heap.get? b = some o) → s'.gens = s.gens → s'.os = s.os → s.heap.objs.size ≤ p →
      s'.heap.get? p = some (seqObj "list" out c) → StrsAre out.toList (sortS l) → Q (.ref p) s') :
    wpAny (model P w) A (call (.builtin "sorted") [.ref a]) Q E s := by
  obtain ⟨⟨D, h1, ok, hr, hl⟩, nd, few⟩ := R
  have hb : D.1.size < scanBound := by rw [ok.sz]; exact few
  refine Calls.call_function_entry kind_sorted plain_sorted entry_sorted (args_sorted1 _) ?_
  unfold Builtin.«sorted»
  refine wpAny_bind (m := checkCount "sorted" 1 1 _) (wpAny_pure ?_)
  refine wpAny_bind (collect_set (A := A.in1) hh (es := D.1) (ep := D.2.1) (t := D.2.2) ⟨_, h1, rfl, rfl⟩ ok.fit hb hr hl fun s1 vs k1 hz1 g1 o1 pm => ?_)
  have shape : ∀ v ∈ vs, ∃ x tk, v = Value.str x tk := fun v hv => by
    obtain ⟨e, he, q⟩ := List.mem_map.mp (pm.mem_iff.mp hv)
    obtain ⟨⟨k, hk, _⟩, _⟩ := ok.el e he
    obtain ⟨tk, e2⟩ := Value.isStrOf_shape hk
    exact ⟨k, tk, by rw [← q]; exact e2⟩
  have hS := strs_all vs shape
  have hlen : vs.length = l.length := by rw [pm.length_eq, List.length_map, Array.length_toList, ok.sz]
  have pn : (vs.map strV).Perm l := perm_of_sub nd (fun x hx => by
    obtain ⟨e, he, hk⟩ := (ok.mem x).mp hx
    obtain ⟨tk, e2⟩ := Value.isStrOf_shape hk
    exact List.mem_map.mpr ⟨e.2, pm.mem_iff.mpr (List.mem_map.mpr ⟨e, he, rfl⟩), by rw [e2]; rfl⟩) (by rw [List.length_map, hlen])
  refine wpAny_bind (wpAny_newList ?_ (by rw [hlen]; exact hz))
  have hoL : (s1.heap.push (seqObj "list" vs.toArray 0)).get? s1.heap.objs.size = some (seqObj "list" vs.toArray 0) := Heap.get?_push_size _ rfl
  refine wpAny_bind (wpAny_holding (wpAny_call_entry slot_list_sort ⟨_, hoL, rfl⟩ entry_list_sort
    (list_sort_treeKAny strKind_oneLt (s := { s1 with heap := s1.heap.push (seqObj "list" vs.toArray 0) }) hoL hS.keysOf (fun v₁ v₂ rest e => keyKind_strs (by rw [← e]; exact hS)) (by rw [hlen]; exact hz) fun st' hp hs => ⟨_, rfl, ?_⟩) (args_list_sort _)))
  obtain ⟨ys, q1, q2, q3⟩ := sorted_out_str hS hp hs
  obtain ⟨c, hc⟩ := sortedHeap_at (vs := vs) (out := (arrOf st').map (·.2)) hoL
  have ey : ys = sortS l := sorted_is (q2.trans pn) q3
  subst ey
  refine wpAny_pure ⟨_, rfl, hQ _ s1.heap.objs.size ((arrOf st').map (·.2)) c (fun b u e => ?_) g1 o1 hz1 hc q1⟩
  have q := k1 b u e
  have hlt := Heap.lt_size q
  show (sortedHeap (s1.heap.push (seqObj "list" vs.toArray 0)) s1.heap.objs.size vs ((arrOf st').map (·.2))).get? b = some u
  rw [sortedHeap_old (Nat.ne_of_lt hlt) (by rw [size_push']; exact Nat.lt_succ_of_lt hlt)]
  exact Heap.get?_push_of_some _ q
end
end Pv
end
section
set_option Elab.async false
set_option linter.all false
set_option maxRecDepth 100000
set_option maxHeartbeats 4000000
/-! sorted(set([])). -/
namespace Pv
open PySem PySem.Spec PyProof.Rows L2
section
variable {S : Su} {P : Ax} {g : Pg} {cl : Nat → CallF} {B : Ctx}
theorem lst_at {G : Gh} {W : Wd} {H : Hp} {env : Evn} {σ : L2.St} {d : D} {v : V} {xs : List D} {bo : Bool} (hw : SW S G W H) (r : RepB S G W.length env σ H bo d v) (h : lstOf W d = some xs) : ∃ p vs, v = .ref p ∧ SqL S.K H p vs ∧ Reps S G W.length xs vs := by
  unfold lstOf at h
  split at h
  · cases h
    obtain ⟨a, vs, e, h1, h2⟩ := r.lst hw
    exact ⟨a, vs, e, .inl (.inl h1), h2⟩
  · rename_i m
    split at h
    · rename_i ys hy
      cases h
      obtain ⟨u, hu, vs, e, rr⟩ := hw.cel m _ hy
      subst e
      exact ⟨_, vs, r.ref.1, .inl (.inl hu), rr⟩
    · cases h
  · cases h
theorem set_a (k : Nat) (ih : SndE S P g cl B k) (Γ : Ctx) (n : Nat) (X : Cx) (b : Expr) (y : Ex) (p q r pos : Pos) (hs : Same Γ B) (hX : XOk S P Γ n X) (hL : LK S P cl B n) (g1 : Gl X "sorted") (m1 : P.mg "sorted" = none) (g2 : Gl X "set") (m2 : P.mg "set" = none) (hb : cE k Γ b = some y) :
    PE X (.Call (.Name "sorted" p) [.Call (.Name "set" q) [b] [] r] [] pos) (tEvF S (evF g cl n (.srtset y))) := by
  have st := cE_star hb X.env []
  have e1 := (ih Γ n X b y hs hX hL hb true).1
  have hu := hX.room.units
  refine pe_imp (pe_callB (cr_sortedT hX.calm) g1 (by rw [hX.mg]; exact m1) (by decide +kernel : bootBuiltins "sorted" = some (.builtin "sorted")) (pa_cons (pe_callTy (cr_setOfT hX.calm hu) g2 (by rw [hX.mg]; exact m2) (by decide +kernel : bootBuiltins "set" = some (.type "set")) (pa_cons e1 pa_nil st) (by decide) (by decide) st rfl) pa_nil rfl) (by decide) (by decide) rfl rfl) fun σ H Q ⟨G, W, env, z, W2, hw, he, hf, k2⟩ => ?_
  have hf : (match evX g cl n true y env W with
    | some (d, W1) => (match lstOf W1 d with
      | some [] => some ([], W1)
      | _ => none)
    | none => none) = some (z, W2) := hf
  cases h1 : evX g cl n true y env W with
  | none => simp only [h1] at hf; cases hf
  | some pp =>
    obtain ⟨d, W1⟩ := pp
    simp only [h1] at hf
    split at hf
    · rename_i h2
      cases hf
      refine ⟨G, W, env, d, _, hw, he, h1, fun v H1 G1 s1 w1 r1 => ?_⟩
      obtain ⟨l, vs, ev, hl, hr⟩ := lst_at w1 r1 h2
      have hvs : vs = [] := hr
      subst hvs
      refine ⟨l, [], by rw [ev], by rw [hX.K]; exact hl, fun _ h => absurd h (List.not_mem_nil), by decide, fun a L ha hL1 _ => ?_⟩
      have hL0 : L = [] := by
        cases L with
        | nil => rfl
        | cons x L => exact absurd (hL1 x (by simp)) (List.not_mem_nil)
      subst hL0
      refine ⟨a, [], 1, 1, rfl, upd_same, fun _ h => absurd h (List.not_mem_nil), Nat.le_refl _, fun _ h => absurd h (List.not_mem_nil), fun L' p' pm _ _ _ hp => ?_⟩
      have : L' = [] := List.Perm.eq_nil pm
      subst this
      obtain ⟨w2, s2⟩ := w1.loose (o := SetTO X.prog X.w a []) ha
      obtain ⟨w3, s3⟩ := w2.loose (o := .lst []) hp
      exact k2 p' [] _ G1 ((s1.trans s2).trans s3) w3 upd_same rfl (w2.notF hp) (w2.notC hp) ((s1.trans s2).back hp)
    · cases hf
end
end Pv
end
section
set_option Elab.async false
set_option linter.all false
set_option maxRecDepth 100000
set_option maxHeartbeats 4000000
/-! A set of texts made by a comprehension of two fors (after HandS.Comp's lc2_core, HandS.SetBool's sc_core). -/
namespace Pv
open PySem PySem.Spec PyProof.Rows L2
/-- the set of texts at a -/
def SetSO (P : Program) (w : World) (a : Addr) (l : List Str) : HO := .ext fun h => SetS P w h a l
theorem setSO_new {P : Program} {w : World} {H : Hp} {h : Heap} {a : Addr} {l : List Str} (R : SetS P w h a l) : ObjOk P w H h a (SetSO P w a l) := by
  obtain ⟨⟨D, h1, _⟩, _, _⟩ := id R
  exact ⟨R, ⟨_, h1⟩, fun h1 h2 p k => SetS.at p k⟩
theorem setS_fresh {P : Program} (w : World) {h : Heap} : SetS P w (h.push { cls := .type "set", dict := none, data := .set #[] 0 (.fresh 0 0 (!w.params.followText "set-order")) }) h.objs.size [] := by
  refine ⟨⟨(#[], 0, .fresh 0 0 (!w.params.followText "set-order")), Heap.get?_push_size _ rfl, PySem.Froz.TxOk.nil rfl, List.Pairwise.nil, ?_⟩, List.nodup_nil, by decide⟩
  cases hb : w.params.followText "set-order" with
  | true => exact .inl rfl
  | false => exact .inr rfl
theorem turnS_out (elt t0 i0 t1 i1 : Expr) (ifs0 ifs1 : List Expr) (scope : Scope) (pos : Pos) (it acc : Value) (env : Env) :
    compTurn (.SetComp elt [⟨t0, i0, ifs0, 0⟩, ⟨t1, i1, ifs1, 0⟩] scope pos) 0 it acc env = (do
      standAt i0.pos
      match ← pyNext it with
      | none => pure (.done .next)
      | some v =>
        letOwnedTupleGo t0 it v
        assign t0 env v
        let mut ok := true
        for c in ifs0 do
          if ok then ok ← isTrue c env (eval c env)
        if ok then
          let x ← eval i1 env
          standAt i1.pos
          let x ← foldedSetIterable i1 env x
          let _ ← runOwn (.compStart (.SetComp elt [⟨t0, i0, ifs0, 0⟩, ⟨t1, i1, ifs1, 0⟩] scope pos) 1 (← holding [x] (pyIter x)) acc env) env
        again (.compLoop (.SetComp elt [⟨t0, i0, ifs0, 0⟩, ⟨t1, i1, ifs1, 0⟩] scope pos) 0 it acc env)) := by rfl
theorem turnS_in (elt t0 i0 t1 i1 : Expr) (ifs0 ifs1 : List Expr) (scope : Scope) (pos : Pos) (it acc : Value) (env : Env) :
    compTurn (.SetComp elt [⟨t0, i0, ifs0, 0⟩, ⟨t1, i1, ifs1, 0⟩] scope pos) 1 it acc env = (do
      standAt i1.pos
      match ← pyNext it with
      | none => pure (.done .next)
      | some v =>
        letOwnedTupleGo t1 it v
        assign t1 env v
        let mut ok := true
        for c in ifs1 do
          if ok then ok ← isTrue c env (eval c env)
        if ok then
          (do let v ← eval elt env; standAt elt.pos; let _ ← call (.builtin "set.add") [acc, v])
        again (.compLoop (.SetComp elt [⟨t0, i0, ifs0, 0⟩, ⟨t1, i1, ifs1, 0⟩] scope pos) 1 it acc env)) := by rfl

section
variable {prog : Program} {w : World} {A : Around} {R : Result → Shared → Prop} {s : Shared} {elt t0 i0 t1 i1 : Expr} {ifs0 ifs1 : List Expr} {scope : Scope} {pos : Pos} {it acc : Value} {env : Env}
/-- the loop of the first clause -/
theorem loopS_out (hs : ∀ x, foldedSetIterable i1 env x = pure x) (I : Nat → Shared → Prop)
    (turn : ∀ n s, I n s → wpAny (model prog w) A (pyNext it) (fun r s₁ => match r with
      | none => R (.ok .next) s₁
      | some v => wpAny (model prog w) A (letOwnedTupleGo t0 it v) (fun _ s₁' => wpAny (model prog w) A (assign t0 env v) (fun _ s₂ =>
          wpAny (model prog w) A (forIn ifs0 true fun c r => if r = true then do let ok ← isTrue c env (eval c env); pure (ForInStep.yield ok) else pure (ForInStep.yield r)) (fun ok s₃ =>
            if ok = true then wpAny (model prog w) A (eval i1 env) (fun x s₄ => wpAny (model prog w) A (pyIter x) (fun it1 s₅ =>
              codeAny (model prog w) A (.compStart (.SetComp elt [⟨t0, i0, ifs0, 0⟩, ⟨t1, i1, ifs1, 0⟩] scope pos) 1 it1 acc env) (fun r s' => match r with
                | .ok _ => ∃ m, m < n ∧ I m s'
                | .error _ => False) s₅) (notedBy (model prog w) A env fun e s' => R (.error e) s') s₄) (notedBy (model prog w) A env fun e s' => R (.error e) s') s₃
            else ∃ m, m < n ∧ I m s₃) (notedBy (model prog w) A env fun e s' => R (.error e) s') s₂) (notedBy (model prog w) A env fun e s' => R (.error e) s') s₁') (notedBy (model prog w) A env fun e s' => R (.error e) s') s₁) (notedBy (model prog w) A env fun e s' => R (.error e) s') s)
    (n : Nat) (h : I n s) :
    codeAny (model prog w) A (.compLoop (.SetComp elt [⟨t0, i0, ifs0, 0⟩, ⟨t1, i1, ifs1, 0⟩] scope pos) 0 it acc env) R s := by
  refine codeAny_loop rfl I (fun n s hI => ?_) n h
  show wpAny _ A ((compTurn (.SetComp elt [⟨t0, i0, ifs0, 0⟩, ⟨t1, i1, ifs1, 0⟩] scope pos) 0 it acc env).onRaise (fun x => do noteFrame x env; theTreesLotGoes x)) _ _ s
  refine wpAny_noted ?_
  rw [turnS_out]
  refine wpAny_bind (wpAny_standAt (wpAny_bind (wpAny_mono (turn n s hI) (fun r s₁ h₁ => ?_) fun _ _ h' => h')))
  cases r with
  | none => exact wpAny_pure h₁
  | some v =>
    refine wpAny_bind (wpAny_mono h₁ (fun _ s₁' h₁' => ?_) fun _ _ h' => h')
    refine wpAny_bind (wpAny_mono h₁' (fun _ s₂ h₂ => wpAny_bind (wpAny_mono h₂ (fun ok s₃ h₃ => ?_) fun _ _ h' => h')) fun _ _ h' => h')
    cases ok with
    | false => exact wpAny_pure ⟨rfl, h₃⟩
    | true =>
      refine wpAny_bind (wpAny_mono h₃ (fun x s₄ h₄ => ?_) fun _ _ h' => h')
      refine wpAny_bind (wpAny_standAt (wpAny_bind (wpAny_of_eq (hs x) (wpAny_bind (wpAny_holding (wpAny_mono h₄ (fun it1 s₅ h₅ => ?_) fun _ _ h' => h'))))))
      refine wpAny_bind (wpAny_runOwn ?_)
      rw [Around.mark_none]
      refine codeAny_mono h₅ fun r s' hr => ?_
      cases r with
      | ok f =>
        first
          | exact wpAny_pure ⟨rfl, hr⟩
          | exact wpAny_bind (wpAny_pure (wpAny_pure ⟨rfl, hr⟩))
      | error e => exact hr.elim
/-- the loop of the second -/
theorem loopS_in (I : Nat → Shared → Prop)
    (turn : ∀ n s, I n s → wpAny (model prog w) A (pyNext it) (fun r s₁ => match r with
      | none => R (.ok .next) s₁
      | some v => wpAny (model prog w) A (letOwnedTupleGo t1 it v) (fun _ s₁' => wpAny (model prog w) A (assign t1 env v) (fun _ s₂ =>
          wpAny (model prog w) A (forIn ifs1 true fun c r => if r = true then do let ok ← isTrue c env (eval c env); pure (ForInStep.yield ok) else pure (ForInStep.yield r)) (fun ok s₃ =>
            if ok = true then wpAny (model prog w) A (eval elt env) (fun x s₄ =>
              wpAny (model prog w) A (call (.builtin "set.add") [acc, x]) (fun _ s₅ => ∃ m, m < n ∧ I m s₅) (notedBy (model prog w) A env fun e s' => R (.error e) s') s₄) (notedBy (model prog w) A env fun e s' => R (.error e) s') s₃
            else ∃ m, m < n ∧ I m s₃) (notedBy (model prog w) A env fun e s' => R (.error e) s') s₂) (notedBy (model prog w) A env fun e s' => R (.error e) s') s₁') (notedBy (model prog w) A env fun e s' => R (.error e) s') s₁) (notedBy (model prog w) A env fun e s' => R (.error e) s') s)
    (n : Nat) (h : I n s) :
    codeAny (model prog w) A (.compLoop (.SetComp elt [⟨t0, i0, ifs0, 0⟩, ⟨t1, i1, ifs1, 0⟩] scope pos) 1 it acc env) R s := by
  refine codeAny_loop rfl I (fun n s hI => ?_) n h
  show wpAny _ A ((compTurn (.SetComp elt [⟨t0, i0, ifs0, 0⟩, ⟨t1, i1, ifs1, 0⟩] scope pos) 1 it acc env).onRaise (fun x => do noteFrame x env; theTreesLotGoes x)) _ _ s
  refine wpAny_noted ?_
  rw [turnS_in]
  refine wpAny_bind (wpAny_standAt (wpAny_bind (wpAny_mono (turn n s hI) (fun r s₁ h₁ => ?_) fun _ _ h' => h')))
  cases r with
  | none => exact wpAny_pure h₁
  | some v =>
    refine wpAny_bind (wpAny_mono h₁ (fun _ s₁' h₁' => ?_) fun _ _ h' => h')
    refine wpAny_bind (wpAny_mono h₁' (fun _ s₂ h₂ => wpAny_bind (wpAny_mono h₂ (fun ok s₃ h₃ => ?_) fun _ _ h' => h')) fun _ _ h' => h')
    cases ok with
    | false => exact wpAny_pure ⟨rfl, h₃⟩
    | true =>
      exact wpAny_bind (wpAny_bind (wpAny_mono h₃ (fun x s₄ h₄ => wpAny_bind (wpAny_standAt (wpAny_bind (wpAny_mono h₄ (fun _ s₅ h₅ => wpAny_pure (wpAny_pure ⟨rfl, h₅⟩)) fun _ _ h' => h')))) fun _ _ h' => h'))
/-- the second clause's start -/
theorem startS_ok (h0 : codeAny (model prog w) A (.compLoop (.SetComp elt [⟨t0, i0, ifs0, 0⟩, ⟨t1, i1, ifs1, 0⟩] scope pos) 1 it acc env) R s)
    (h : wpAny (model prog w) A (pyIter it) (fun it' s' => codeAny (model prog w) A (.compLoop (.SetComp elt [⟨t0, i0, ifs0, 0⟩, ⟨t1, i1, ifs1, 0⟩] scope pos) 1 it' acc env) R s')
      (notedBy (model prog w) A env fun x s' => R (.error x) s') s) :
    codeAny (model prog w) A (.compStart (.SetComp elt [⟨t0, i0, ifs0, 0⟩, ⟨t1, i1, ifs1, 0⟩] scope pos) 1 it acc env) R s := by
  refine codeAny_of_tree ?_
  show wpAny _ _ ((compStart (.SetComp elt [⟨t0, i0, ifs0, 0⟩, ⟨t1, i1, ifs1, 0⟩] scope pos) 1 it acc env).onRaise (fun x => do noteFrame x env; standAt theWindowsPlace)) _ _ s
  refine wpAny_notedAt ?_
  unfold compStart
  show wpAny _ _ (ask >>= _) _ _ s
  refine wpAny_bind (wpAny_askSetting (wpAny_ite ?_))
  split
  · first
      | exact wpAny_bind (wpAny_pure (wpAny_pure (And.intro rfl h0)))
      | exact wpAny_pure (And.intro rfl h0)
  · first
      | exact wpAny_bind (wpAny_rule (wpAny_bind (wpAny_standAt (wpAny_bind (wpAny_mono h (fun it' s' h' => wpAny_pure (And.intro rfl h')) fun _ _ x => x)))))
      | (refine wpAny_bind (wpAny_rule ?_); show wpAny _ _ (standAt i1.pos >>= _) _ _ s; exact wpAny_bind (wpAny_standAt (wpAny_bind (wpAny_mono h (fun it' s' h' => wpAny_pure (And.intro rfl h')) fun _ _ x => x))))
end

section
variable {X : Cx}
def tSs2 (P : Program) (w : World) (wi : TI) (g : TG) (tt : TT) (wi1 : TI) (g1 : TG) (tt1 : TT) (te : TE) (vs vs1 : List Nat) : TE := fun σ H Q => wi σ H fun J H1 => ∀ D, H1 D = none → ∃ W : Nat → Nat → Hp → Prop, (∃ m, W 0 m (upd H1 D (SetSO P w D []))) ∧ ∀ i m H, W i m H →
  (J.stop i H ∧ Q (.ref D) H) ∨ (J.go i H ∧ ∃ Nx : Hp → Prop, (∀ H', Nx H' → ∃ m', m' < m ∧ W (i + 1) m' H') ∧ ∀ x H', J.yld i H x H' → g x (wipe σ vs) H' fun σ2 H2 => wipe σ2 vs = wipe σ vs ∧ tt σ2 H2 fun b H3 =>
    if b = true then wi1 σ2 H3 fun J1 H4 => ∃ W1 : Nat → Nat → Hp → Prop, (∃ m, W1 0 m H4) ∧ ∀ j k H, W1 j k H →
      (J1.stop j H ∧ Nx H) ∨ (J1.go j H ∧ ∃ Nx1 : Hp → Prop, (∀ H', Nx1 H' → ∃ k', k' < k ∧ W1 (j + 1) k' H') ∧ ∀ x H', J1.yld j H x H' → g1 x (wipe σ2 vs1) H' fun σ3 H5 => wipe σ3 vs1 = wipe σ2 vs1 ∧ tt1 σ3 H5 fun b H6 =>
        if b = true then te σ3 H6 fun y H7 => ∃ (k : Str) (l : List Str), y = .str k ∧ H7 D = some (SetSO P w D l) ∧ l.length + 1 < scanBound ∧ Nx1 (upd H7 D (SetSO P w D (if k ∈ l then l else k :: l))) else Nx1 H6)
    else Nx H3)
theorem ss2_core {pins : List (Addr × Obj)} {s : Shared} {σ : L2.St} {H : Hp} {Q : VK} {elt tg iter tg1 iter1 : Expr} {ifs ifs1 : List Expr} {scope : Scope} {own : List (Str × Nat)} {vs1 : List Nat} {pos pos' : Pos} {wi wi1 : TI} {g g1 : TG} {tt tt1 : TT} {te : TE} {use : Option (Value → Sem Unit)} {Qf : Value → Shared → Prop}
    (hc : X.calm = true) (hN : X.N.Nodup) (I : L2.Inv X pins σ H s) (hi : PI X tg iter wi) (ok : BlkOk X.N X.env.scope scope own) (hv : ∀ i ∈ vs1, i ∈ own.map (·.2))
    (hg : ∀ (s : Shared) (H : Hp) (C : Addr) (cl : List (Str × Addr)) (fp : List Addr), PG (X.blk s H scope (compEnvC scope cl C X.env) fp) tg g) (ht : ∀ (s : Shared) (H : Hp) (C : Addr) (cl : List (Str × Addr)) (fp : List Addr), PTs (X.blk s H scope (compEnvC scope cl C X.env) fp) ifs tt)
    (he : ∀ (s : Shared) (H : Hp) (C : Addr) (cl : List (Str × Addr)) (fp : List Addr), PE (X.blk s H scope (compEnvC scope cl C X.env) fp) elt te) (hs : ∀ x, foldedSetIterable iter X.env x = pure x)
    (hi1 : ∀ (s : Shared) (H : Hp) (C : Addr) (cl : List (Str × Addr)) (fp : List Addr), PI (X.blk s H scope (compEnvC scope cl C X.env) fp) tg1 iter1 wi1)
    (hg1 : ∀ (s : Shared) (H : Hp) (C : Addr) (cl : List (Str × Addr)) (fp : List Addr), PG (X.blk s H scope (compEnvC scope cl C X.env) fp) tg1 g1)
    (ht1 : ∀ (s : Shared) (H : Hp) (C : Addr) (cl : List (Str × Addr)) (fp : List Addr), PTs (X.blk s H scope (compEnvC scope cl C X.env) fp) ifs1 tt1)
    (hs1 : ∀ env x, foldedSetIterable iter1 env x = pure x)
    (h : tSs2 X.prog X.w wi g tt wi1 g1 tt1 te (own.map (·.2)) vs1 σ H Q)
    (hRR : ∀ D C s' m H', L2.Inv X pins σ H' s' → Q (.ref D) H' → s'.heap.Ns C m → FpOk X pins H' C → compPost (model X.prog X.w) X.A X.xe use Qf (.ref D) C (.ok .next) s') :
    wpAny (model X.prog X.w) X.A (comprehension (.SetComp elt [⟨tg, iter, ifs, 0⟩, ⟨tg1, iter1, ifs1, 0⟩] scope pos) scope X.env pos' (newSet (.type "set")) false (eval iter X.env) use) Qf X.xe s := by
  have hfree : ∀ y ∈ scope.names, y.2 = .free → ∃ c, X.env.cells.lookup y.1 = some c := fun y hy e => by
    rcases ok.free y hy e with k | k
    · exact I.ok.has _ (.inl k)
    · exact I.ok.has _ (.inr k)
  refine wpAny_comprehension_free (use := use) rfl hs (closure_ok hfree) ok.kind (fun y hy e => by rw [ok.uniq y hy, e])
    (thn (hi.run pins s σ H _ I h) fun xv s1 hx => thn hx fun itv s2 h2 => ?_)
  obtain ⟨it, fp, tn, J, H2, e, I2, T, st2, f2, q⟩ := h2
  subst e
  refine PpSet.newSet_ok (newEnv_comp ?_)
  generalize hD : s2.heap.objs.size = D
  have hDn : H2 D = none := I2.hok.fresh (Nat.le_of_eq hD)
  obtain ⟨W, ⟨m0, w0⟩, turn⟩ := q D hDn
  -- the new list
  generalize hs3 : ({ s2 with heap := s2.heap.push { cls := .type "set", dict := none, data := .set #[] 0 (.fresh 0 0 (!X.w.params.followText "set-order")) } } : Shared) = s3
  have I3 : L2.Inv X pins σ (upd H2 D (SetSO X.prog X.w D [])) s3 := by
    rw [← hs3]
    refine I2.laid (t' := s2.toks) (fun b o e => Heap.get?_push_of_some _ e) (Nat.le_of_eq hD) ?_
    rw [← hD]
    exact setSO_new (setS_fresh X.w)
  have h3 : s3.heap = s2.heap.push { cls := .type "set", dict := none, data := .set #[] 0 (.fresh 0 0 (!X.w.params.followText "set-order")) } := by rw [← hs3]
  have sz : ∀ b ∈ fp, b < s2.heap.objs.size := fun b hb => by
    obtain ⟨o, e, _⟩ := T.obj _ _ st2 b hb
    exact Heap.lt_size e
  have f3 : ∀ b ∈ fp, FpOk X pins (upd H2 D (SetSO X.prog X.w D [])) b ∧ b < s3.heap.objs.size := fun b hb => by
    have hlt := sz b hb
    refine ⟨⟨?_, (f2 b hb).2⟩, by rw [h3, Heap.size_push]; exact Nat.lt_succ_of_lt hlt⟩
    rw [upd_ne (by rw [← hD]; exact Nat.ne_of_lt hlt)]
    exact (f2 b hb).1
  have st3 : tn 0 s3.heap := T.keep _ _ _ st2 fun b _ o e => by rw [h3]; exact Heap.get?_push_of_some _ e
  have I4 := block_start I3 ok hN f3
  have pg := hg s3 (upd H2 D (SetSO X.prog X.w D [])) s3.heap.objs.size (cellsFrom (s3.heap.objs.size + 1) scope.names (cloFrom X.env.cells scope.names [])) fp
  have pt := ht s3 (upd H2 D (SetSO X.prog X.w D [])) s3.heap.objs.size (cellsFrom (s3.heap.objs.size + 1) scope.names (cloFrom X.env.cells scope.names [])) fp
  have pe := he s3 (upd H2 D (SetSO X.prog X.w D [])) s3.heap.objs.size (cellsFrom (s3.heap.objs.size + 1) scope.names (cloFrom X.env.cells scope.names [])) fp
  have pi1 := hi1 s3 (upd H2 D (SetSO X.prog X.w D [])) s3.heap.objs.size (cellsFrom (s3.heap.objs.size + 1) scope.names (cloFrom X.env.cells scope.names [])) fp
  have pg1 := hg1 s3 (upd H2 D (SetSO X.prog X.w D [])) s3.heap.objs.size (cellsFrom (s3.heap.objs.size + 1) scope.names (cloFrom X.env.cells scope.names [])) fp
  have pt1 := ht1 s3 (upd H2 D (SetSO X.prog X.w D [])) s3.heap.objs.size (cellsFrom (s3.heap.objs.size + 1) scope.names (cloFrom X.env.cells scope.names [])) fp
  show codeAny _ _ (.compStart (.SetComp elt [⟨tg, iter, ifs, 0⟩, ⟨tg1, iter1, ifs1, 0⟩] scope pos) 0 (.ref it) (.ref D) (compEnvC scope (cellsFrom (s3.heap.objs.size + 1) scope.names (cloFrom X.env.cells scope.names [])) s3.heap.objs.size X.env)) (compPost (model X.prog X.w) X.A X.xe use Qf (.ref D) s3.heap.objs.size) { s3 with heap := pushCells (s3.heap.push { cls := .type "dict", data := .dict #[] }) scope.names }
  have nfp : ∀ b ∈ fp, (upd H2 D (SetSO X.prog X.w D [])) b = none := fun b hb => (f3 b hb).1.1
  generalize hce : compEnvC scope (cellsFrom (s3.heap.objs.size + 1) scope.names (cloFrom X.env.cells scope.names [])) s3.heap.objs.size X.env = ce at I4 pg pt pe pi1 pg1 pt1 ⊢
  have cL : ce.locals = s3.heap.objs.size := by subst hce; rfl
  generalize hH3 : upd H2 D (SetSO X.prog X.w D []) = H3 at I3 I4 pg pt pe pi1 pg1 pt1 w0 nfp f3
  generalize hs4 : ({ s3 with heap := pushCells (s3.heap.push { cls := .type "dict", data := .dict #[] }) scope.names } : Shared) = s4 at I4 ⊢
  have st4 : tn 0 s4.heap := T.keep _ _ _ st3 fun b _ o e => by rw [← hs4]; exact pushCells_keeps _ _ _ _ (Heap.get?_push_of_some _ e)
  have stat : ∀ {σ' : L2.St} {H' : Hp} {s' : Shared}, L2.Inv (X.blk s3 H3 scope ce fp) [] σ' H' s' → (∀ b ∈ fp, H' b = none) → ∀ b ∈ fp, FpOk (X.blk s3 H3 scope ce fp) [] H' b := fun {σ' H' s'} I' hn b hb =>
    ⟨hn b hb, (I'.ok.exf b hb).1, I'.ok.exfs b hb, .inl hb, fun x c e => (I'.ok.exf b hb).2 x c e, fun p hp => absurd (show p ∈ ([] : List (Addr × Obj)) ++ [] from hp) (by simp)⟩
  have loop : codeAny (model X.prog X.w) X.A (.compLoop (.SetComp elt [⟨tg, iter, ifs, 0⟩, ⟨tg1, iter1, ifs1, 0⟩] scope pos) 0 (.ref it) (.ref D) ce) (compPost (model X.prog X.w) X.A X.xe use Qf (.ref D) s3.heap.objs.size) s4 := by
    refine loopS_out (hs1 ce) (fun n s' => ∃ i H', L2.Inv (X.blk s3 H3 scope ce fp) [] (wipe σ (own.map (·.2))) H' s' ∧ tn i s'.heap ∧ (∀ b ∈ fp, H' b = none) ∧ W i n H') ?_ m0 ⟨0, H3, I4, st4, nfp, w0⟩
    rintro n s5 ⟨i, H5, I5, st5, n5, w5⟩
    rcases turn i n H5 w5 with ⟨stop, qq⟩ | ⟨go, Nx, hNx, step⟩
    · have td := T.done (X.blk s3 H3 scope ce fp) rfl rfl rfl hc i [] s5 _ H5 (fun _ _ => False) I5 (stat I5 n5) st5 stop
      refine thnF td fun r s6 ⟨hr, I6⟩ => ?_
      subst hr
      -- back in the def's context
      have I7 : L2.Inv X pins σ H5 s6 := I3.call' (ch := fp) I6.os I6.base I6.hok I6.bare fun b hb => ⟨(f3 b hb).1.2.2.2.1, (f3 b hb).1.2.1, (f3 b hb).1.2.2.2.2.1, (f3 b hb).1.2.2.2.2.2⟩
      have nC : H5 s3.heap.objs.size = none := by
        have z : H5 ce.locals = none := I6.free
        rw [cL] at z
        exact z
      obtain ⟨m, hn, _⟩ := I6.loc
      have hn : s6.heap.Ns ce.locals m := hn
      rw [cL] at hn
      exact hRR D s3.heap.objs.size s6 m H5 I7 qq hn (I3.fpOk (Nat.le_refl _) nC)
    · have ti := T.item (X.blk s3 H3 scope ce fp) rfl rfl rfl hc i [] s5 _ H5 (fun _ _ => False) I5 (stat I5 n5) st5 go
      refine thnF ti fun r s6 ⟨u, hr, h6⟩ => ?_
      subst hr
      refine thnF h6 fun _ s7 ⟨x, H7, I7, r7, y7, st7, n7⟩ => ?_
      have I7' := I7.pinned (stat I7 n7) (T.obj _ _ st7)
      refine thnF (pg.run _ s7 _ H7 x u _ I7' r7 (step x H7 y7)) fun _ s8 ⟨σ8, H8, I8, hw8, q8⟩ => ?_
      refine thnF (pt.run _ s8 σ8 H8 _ I8 q8) fun b s9 ⟨H9, I9, q9⟩ => ?_
      -- the turn's end, from any slots that know what the block knew at its start
      have fin : ∀ {σ9 : L2.St} {s' : Shared} {H' : Hp}, L2.Inv (X.blk s3 H3 scope ce fp) ([] ++ pinsAt fp s7.heap) σ9 H' s' → (wipe σ (own.map (·.2))).length = σ9.length → (∀ (j : Nat) v, (wipe σ (own.map (·.2)))[j]? = some (some v) → σ9[j]? = some (some v)) → Nx H' →
          ∃ m, m < n ∧ ∃ i H', L2.Inv (X.blk s3 H3 scope ce fp) [] (wipe σ (own.map (·.2))) H' s' ∧ tn i s'.heap ∧ (∀ b ∈ fp, H' b = none) ∧ W i m H' := fun {σ9 s' H'} I' hl hk nx => by
        obtain ⟨m', hm, w'⟩ := hNx H' nx
        have pin' : ∀ b ∈ fp, ∀ o, s7.heap.get? b = some o → s'.heap.get? b = some o ∧ H' b = none := fun b hb o e =>
          let z := I'.pin (b, o) (List.mem_append_right _ (List.mem_append_right _ (mem_pinsAt hb e)))
          ⟨z.1, z.2.1⟩
        refine ⟨m', hm, i + 1, H', (I'.unpinned (pins := [])).weak hl hk, T.keep _ _ _ st7 fun b hb o e => (pin' b hb o e).1, fun b hb => ?_, w'⟩
        obtain ⟨o, e, _⟩ := T.obj _ _ st7 b hb
        exact (pin' b hb o e).2
      have hl8 : (wipe σ (own.map (·.2))).length = σ8.length := by rw [← hw8, wipe_length]
      have hk8 : ∀ (j : Nat) v, (wipe σ (own.map (·.2)))[j]? = some (some v) → σ8[j]? = some (some v) := fun j v e => by
        rw [← hw8] at e
        exact (wipe_some e).1
      have hk9 : ∀ (j : Nat) v, (wipe σ (own.map (·.2)))[j]? = some (some v) → (wipe σ8 vs1)[j]? = some (some v) := fun j v e => by
        rw [← hw8] at e
        obtain ⟨e1, e2⟩ := wipe_some e
        rw [L2.wipe_out fun z => e2 (hv j z)]
        exact e1
      cases b with
      | false =>
        simp only [Bool.false_eq_true, if_false] at q9 ⊢
        exact fin I9 hl8 hk8 q9
      | true =>
        simp only [if_true] at q9 ⊢
        refine thnF (pi1.run _ s9 σ8 H9 _ I9 q9) fun xv s10 hx => thnF hx fun itv s11 h11 => ?_
        obtain ⟨it1, fp1, tn1, J1, H11, e1, I11, T1, st11, f11, W1, ⟨m1, w1⟩, turn1⟩ := h11
        subst e1
        -- the inner loop
        have stat1 : ∀ {H' : Hp}, (∀ b ∈ fp1, H' b = none) → ∀ b ∈ fp1, FpOk (X.blk s3 H3 scope ce fp) ([] ++ pinsAt fp s7.heap) H' b := fun hn b hb => ⟨hn b hb, (f11 b hb).2⟩
        have loop1 : codeAny (model X.prog X.w) X.A (.compLoop (.SetComp elt [⟨tg, iter, ifs, 0⟩, ⟨tg1, iter1, ifs1, 0⟩] scope pos) 1 (.ref it1) (.ref D) ce)
            (fun r s' => match r with
              | .ok _ => ∃ m, m < n ∧ ∃ i H', L2.Inv (X.blk s3 H3 scope ce fp) [] (wipe σ (own.map (·.2))) H' s' ∧ tn i s'.heap ∧ (∀ b ∈ fp, H' b = none) ∧ W i m H'
              | .error _ => False) s11 := by
          refine loopS_in (fun k s' => ∃ j H', L2.Inv (X.blk s3 H3 scope ce fp) ([] ++ pinsAt fp s7.heap) (wipe σ8 vs1) H' s' ∧ tn1 j s'.heap ∧ (∀ b ∈ fp1, H' b = none) ∧ W1 j k H') ?_ m1 ⟨0, H11, I11.weak (wipe_length _ _) (fun j v e => (wipe_some e).1), st11, fun b hb => (f11 b hb).1, w1⟩
          rintro k s12 ⟨j, H12, I12, st12, n12, w12⟩
          rcases turn1 j k H12 w12 with ⟨stop1, nx1⟩ | ⟨go1, Nx1, hNx1, step1⟩
          · refine thnF (T1.done (X.blk s3 H3 scope ce fp) rfl rfl rfl hc j _ s12 (wipe σ8 vs1) H12 (fun _ _ => False) I12 (stat1 n12) st12 stop1) fun r s13 ⟨hr, I13⟩ => ?_
            subst hr
            exact fin I13 (hl8.trans (wipe_length σ8 vs1).symm) hk9 nx1
          · refine thnF (T1.item (X.blk s3 H3 scope ce fp) rfl rfl rfl hc j _ s12 (wipe σ8 vs1) H12 (fun _ _ => False) I12 (stat1 n12) st12 go1) fun r s13 ⟨u1, hr, h13⟩ => ?_
            subst hr
            refine thnF h13 fun _ s14 ⟨x1, H14, I14, r14, y14, st14, n14⟩ => ?_
            have I14' := I14.pinned (stat1 n14) (T1.obj _ _ st14)
            refine thnF (pg1.run _ s14 (wipe σ8 vs1) H14 x1 u1 _ I14' r14 (step1 x1 H14 y14)) fun _ s15 ⟨σ15, H15, I15, hw15, q15⟩ => ?_
            refine thnF (pt1.run _ s15 σ15 H15 _ I15 q15) fun b1 s16 ⟨H16, I16, q16⟩ => ?_
            have fin1 : ∀ {s' : Shared} {H' : Hp}, L2.Inv (X.blk s3 H3 scope ce fp) (([] ++ pinsAt fp s7.heap) ++ pinsAt fp1 s14.heap) σ15 H' s' → Nx1 H' → ∃ m, m < k ∧ ∃ j H', L2.Inv (X.blk s3 H3 scope ce fp) ([] ++ pinsAt fp s7.heap) (wipe σ8 vs1) H' s' ∧ tn1 j s'.heap ∧ (∀ b ∈ fp1, H' b = none) ∧ W1 j m H' := fun {s' H'} I' nx => by
              obtain ⟨m', hm, w'⟩ := hNx1 H' nx
              have pin' : ∀ b ∈ fp1, ∀ o, s14.heap.get? b = some o → s'.heap.get? b = some o ∧ H' b = none := fun b hb o e =>
                let z := I'.pin (b, o) (List.mem_append_right _ (List.mem_append_right _ (mem_pinsAt hb e)))
                ⟨z.1, z.2.1⟩
              refine ⟨m', hm, j + 1, H', I'.unpinned.weak (by rw [← hw15, wipe_length]) (fun j v e => by rw [← hw15] at e; exact (wipe_some e).1), T1.keep _ _ _ st14 fun b hb o e => (pin' b hb o e).1, fun b hb => ?_, w'⟩
              obtain ⟨o, e, _⟩ := T1.obj _ _ st14 b hb
              exact (pin' b hb o e).2
            cases b1 with
            | false =>
              simp only [Bool.false_eq_true, if_false] at q16 ⊢
              exact fin1 I16 q16
            | true =>
              simp only [if_true] at q16 ⊢
              refine thnF (pe.run _ s16 σ15 H16 _ I16 q16) fun z s17 ⟨yv, H17, I17, r17, kk, l0, ey, hD17, hz17, nx⟩ => ?_
              subst ey
              obtain ⟨tk, ez⟩ := r17
              subst ez
              have R17 : SetS X.prog X.w s17.heap D l0 := (I17.hok D _ hD17).1
              refine set_add R17 hz17 fun h' sb new => ?_
              have he' : ∃ u, h'.get? D = some u := by
                obtain ⟨⟨Dd, q1, _⟩, _, _⟩ := new
                exact ⟨_, q1⟩
              have I18 := I17.write (x := D) (e := D) (o := SetSO X.prog X.w D (if kk ∈ l0 then l0 else kk :: l0)) (t' := s17.toks + 1) (by rw [hD17]; trivial) (.inl rfl) (fun b u hb hu => (sb.2 b hb).trans hu) he' (setSO_new new)
              exact fin1 I18 nx
        exact startS_ok loop1 (T1.self X.A 0 _ _ _ st11 loop1)
  exact PpSet.codeAny_compStart_set loop (T.self X.A 0 _ _ _ st4 loop)
end
end Pv
end
section
set_option Elab.async false
set_option linter.all false
set_option maxRecDepth 100000
set_option maxHeartbeats 4000000
namespace Pv
open PySem PySem.Spec PyProof.Rows L2
section
variable {S : Su} {X : Cx}
def fE2 (p2 : Pat) (fc : FT) (fe : FX) (env1 : Evn) : D → Wd → Option (List Str × Wd) := fun y W => match bindP W p2 y (wipeE env1 p2.slots) with
  | some env2 => (match fc env2 W with
    | some (true, W3) => (match fe env2 W3 with
      | some (.str z, W4) => some ([z], W4)
      | _ => none)
    | some (false, W3) => some ([], W3)
    | none => none)
  | none => none
def fE1 (p1 p2 : Pat) (fi2 : FI) (fc : FT) (fe : FX) (env : Evn) : D → Wd → Option (List Str × Wd) := fun x W => match bindP W p1 x (wipeE env (p1.slots ++ p2.slots)) with
  | some env1 => (match fi2 env1 W with
    | some (ys, gd2, W2) => flatL (fE2 p2 fc fe env1) gd2 W2 ys W2
    | none => none)
  | none => none
def fSS2 (p1 : Pat) (fi1 : FI) (p2 : Pat) (fi2 : FI) (fc : FT) (fe : FX) : FXs := fun env W => match fi1 env W with
  | some (xs, gd, W1) => (match flatL (fE1 p1 p2 fi2 fc fe env) gd W1 xs W1 with
    | some (zs, W2) => if zs.length < 64 then some ((sortS (zs.foldl addS [])).map .str, W2) else none
    | none => none)
  | none => none
theorem flatL_cons {f : D → Wd → Option (List Str × Wd)} {g : Option Nat} {W0 W W' : Wd} {x : D} {xs : List D} {zs : List Str} (h : flatL f g W0 (x :: xs) W = some (zs, W')) :
    ∃ z1 W1 z2, f x W = some (z1, W1) ∧ okW g W0 W1 = true ∧ flatL f g W0 xs W1 = some (z2, W') ∧ zs = z1 ++ z2 := by
  unfold flatL at h
  cases h1 : f x W with
  | none => simp only [h1] at h; cases h
  | some p =>
    obtain ⟨o, W1⟩ := p
    simp only [h1] at h
    split at h
    · rename_i ok
      cases h2 : flatL f g W0 xs W1 with
      | none => simp only [h2] at h; cases h
      | some q =>
        obtain ⟨z2, W2⟩ := q
        simp only [h2] at h
        cases h
        exact ⟨o, W1, z2, rfl, ok, h2, rfl⟩
    · cases h
theorem addS_len : ∀ (zs : List Str) (l : List Str), (zs.foldl addS l).length ≤ l.length + zs.length
  | [], l => Nat.le_refl _
  | z :: zs, l => by
    have := addS_len zs (addS l z)
    have h2 : (addS l z).length ≤ l.length + 1 := by
      unfold addS
      split
      · exact Nat.le_succ _
      · simp
    simp only [List.foldl_cons, List.length_cons]
    omega
theorem addS_mem : ∀ (zs : List Str) (l : List Str) (s : Str), s ∈ zs.foldl addS l → s ∈ l ∨ s ∈ zs
  | [], l, s, h => .inl h
  | z :: zs, l, s, h => by
    rcases addS_mem zs (addS l z) s h with h | h
    · unfold addS at h
      split at h
      · exact .inl h
      · rcases List.mem_cons.mp h with e | h
        · exact .inr (by rw [e]; exact List.mem_cons_self ..)
        · exact .inl h
    · exact .inr (List.mem_cons_of_mem _ h)
def rSrtS (P : Program) (w : World) : List V → Hp → VK → Prop := fun vs H Q => ∃ (a : Addr) (l : List Str), vs = [V.ref a] ∧ H a = some (SetSO P w a l) ∧ l.length ≤ 64 ∧ ∀ p, H p = none → Q (.ref p) (upd H p (.lst ((sortS l).map V.str)))
theorem cr_srtS (hc : X.calm = true) : CallR X (.builtin "sorted") (rSrtS X.prog X.w) := by
  intro pins s σ H vs us Q I r h
  obtain ⟨a, l, rfl, ha, h64, q⟩ := h
  have R : SetS X.prog X.w s.heap a l := (I.hok a _ ha).1
  rw [Vals.ref1 r]
  refine sorted_setS R (I.ok.hd hc) (by rw [sizeLine_eq]; omega) fun s' p out c k g o hp hg hi => ?_
  have hlen : ((sortS l).map V.str).length ≤ sizeLine := by rw [List.length_map, (sortS_perm l).length_eq, sizeLine_eq]; omega
  have hn : H p = none := I.hok.fresh hp
  have J : L2.Inv X pins σ (upd H p (.lst ((sortS l).map V.str))) { s with heap := s'.heap, gens := s'.gens, drawn := s'.drawn, toks := s'.toks } :=
    I.call (ch := []) (Un.laid k hp hn) (I.hok.laid k hp ⟨hlen, out.toList, c, vals_of_strs hi, hg⟩) (by rw [g]; exact I.bare) (fun _ z => nomatch z)
  have e : s' = { s with heap := s'.heap, gens := s'.gens, drawn := s'.drawn, toks := s'.toks } := by
    cases s'
    cases s
    cases o
    rfl
  rw [e]
  exact ⟨.ref p, _, J, rfl, q p hn⟩
theorem ss2_read {p1 p2 : Pat} {fi1 fi2 : FI} {fc : FT} {fe : FX} {prog : Program} {w : World} {σ : L2.St} {H : Hp} {Q : VK} (hi1 : OkFI fi1) (hi2 : OkFI fi2) (h : tEvF S (fSS2 p1 fi1 p2 fi2 fc fe) σ H Q) :
    tSs2 prog w (tI S true fi1) (gPat S p1) tYes (tI S false fi2) (gPat S p2) (tEvT S fc) (tEv S false fe) (p1.slots ++ p2.slots) p2.slots σ H (fun v H' => rSrtS prog w [v] H' Q) := by
  obtain ⟨G, W, env, ds, W', hw, he, hf, k⟩ := h
  unfold fSS2 at hf
  cases h1 : fi1 env W with
  | none => simp only [h1] at hf; cases hf
  | some q =>
    obtain ⟨xs, gd, W1⟩ := q
    simp only [h1] at hf
    cases h2 : flatL (fE1 p1 p2 fi2 fc fe env) gd W1 xs W1 with
    | none => simp only [h2] at hf; cases hf
    | some q =>
      obtain ⟨zs, Wf⟩ := q
      simp only [h2] at hf
      split at hf
      · rename_i hz
        cases hf
        refine ⟨G, W, env, xs, gd, W1, hw, he, h1, fun J H1 G1 s1 w1 it => ?_⟩
        intro Dp hDp
        have e1 := he.step hw rfl s1
        have hTab := w1.notTab hDp
        -- the set so far, what is left
        let InvO : Nat → Gh → Wd → Hp → List Str → List Str → Prop := fun i G2 W2 H2 done left => Step S G1 W1.length H1 G2 W2.length H2 ∧ SW S G2 W2 H2 ∧ H2 Dp = some (SetSO prog w Dp (done.foldl addS [])) ∧ G2.F Dp = none ∧ (∀ j, j < W2.length → G2.ι j ≠ Dp) ∧ okW gd W1 W2 = true ∧
          flatL (fE1 p1 p2 fi2 fc fe env) gd W1 (xs.drop i) W2 = some (left, W') ∧ done ++ left = zs ∧ ∀ s ∈ done, okStr s
        refine ⟨fun i m H2 => ∃ G2 W2 done left, m = xs.length - i ∧ i ≤ xs.length ∧ InvO i G2 W2 H2 done left, ?_, ?_⟩
        · obtain ⟨w2, s2⟩ := w1.loose (o := SetSO prog w Dp []) hDp
          exact ⟨_, G1, W1, [], zs, rfl, Nat.zero_le _, s2, w2, upd_same, w1.notF hDp, w1.notC hDp, hi1 _ _ _ _ _ h1, h2, rfl, fun _ h => absurd h (List.not_mem_nil)⟩
        · rintro i m H2 ⟨G2, W2, done, left, hm, hle, s2, w2, hD, hF, hc, ok, hmap, hzs, hok⟩
          have L : Later S true G1 W1 H1 gd G2 W2 H2 := ⟨w2, ok, s2.x, fun _ => s2⟩
          by_cases hi' : i < xs.length
          · right
            refine ⟨it.go i G2 W2 H2 L hi', fun H3 => ∃ m', m' < m ∧ ∃ G2 W2 done left, m' = xs.length - (i + 1) ∧ i + 1 ≤ xs.length ∧ InvO (i + 1) G2 W2 H3 done left, fun H3 h => h, fun x H3 hy => ?_⟩
            obtain ⟨d, G3, hd, s3, w3, r3⟩ := it.yld i G2 W2 H2 x H3 L hi' hy
            have hdrop : xs.drop i = d :: xs.drop (i + 1) := by
              rw [List.drop_eq_getElem_cons hi']
              have := List.getElem?_eq_getElem hi'
              rw [hd] at this
              cases this
              rfl
            rw [hdrop] at hmap
            obtain ⟨z1, W4, z2, hel, ok4, hmap2, hleft⟩ := flatL_cons hmap
            unfold fE1 at hel
            cases hb : bindP W2 p1 d (wipeE env (p1.slots ++ p2.slots)) with
            | none => simp only [hb] at hel; cases hel
            | some env1 =>
              simp only [hb] at hel
              have eW : SE S G3 W2.length (wipeE env (p1.slots ++ p2.slots)) (L2.wipe σ (p1.slots ++ p2.slots)) H3 := ((e1.step w1 rfl s2).step w2 rfl s3).wipe _
              refine ⟨G3, W2, _, d, env1, w3, eW, r3, hb, fun σ2 e3 hwp own3 => ?_⟩
              refine ⟨by rw [hwp (p1.slots ++ p2.slots) fun _ h => List.mem_append_left _ h, wipe_wipe fun _ h => h], ?_⟩
              unfold tYes
              dsimp only
              rw [if_pos rfl]
              have tD3 : H3 Dp = some (SetSO prog w Dp (done.foldl addS [])) := s3.keep Dp _ hD hc hTab
              have hF3 := s3.noF hD hF
              have hc3 := s3.nocell hD hc
              cases hi2' : fi2 env1 W2 with
              | none => simp only [hi2'] at hel; cases hel
              | some t =>
                obtain ⟨ys, gd2, W3⟩ := t
                simp only [hi2'] at hel
                refine ⟨G3, W2, env1, ys, gd2, W3, w3, e3, hi2', fun J1 H4 G4 s4 w4 it1 => ?_⟩
                have tD4 : H4 Dp = some (SetSO prog w Dp (done.foldl addS [])) := s4.keep Dp _ tD3 hc3 hTab
                have hF4 := s4.noF tD3 hF3
                have hc4 := s4.nocell tD3 hc3
                have e4 := e3.step w3 rfl s4
                let InvI : Nat → Gh → Wd → Hp → List Str → List Str → Prop := fun j G5 W5 H5 d2 l2 => Step S G1 W1.length H1 G5 W5.length H5 ∧ Gx G4 W3.length G5 W5.length ∧ SW S G5 W5 H5 ∧ H5 Dp = some (SetSO prog w Dp ((done ++ d2).foldl addS [])) ∧ G5.F Dp = none ∧ (∀ j, j < W5.length → G5.ι j ≠ Dp) ∧ okW gd2 W3 W5 = true ∧
                  flatL (fE2 p2 fc fe env1) gd2 W3 (ys.drop j) W5 = some (l2, W4) ∧ d2 ++ l2 = z1 ∧ ∀ s ∈ d2, okStr s
                refine ⟨fun j k H5 => ∃ G5 W5 d2 l2, k = ys.length - j ∧ j ≤ ys.length ∧ InvI j G5 W5 H5 d2 l2, ⟨_, G4, W3, [], z1, rfl, Nat.zero_le _, (s2.trans s3).trans s4, Gx.refl _ _, w4, by rw [List.append_nil]; exact tD4, hF4, hc4, hi2 _ _ _ _ _ hi2', hel, rfl, fun _ h => absurd h (List.not_mem_nil)⟩, ?_⟩
                rintro j k H5 ⟨G5, W5, d2, l2, hk, hlj, s5, x5, w5, tD5, hF5, hc5, ok5, hm5, hz5, hok2⟩
                have L2' : Later S false G4 W3 H4 gd2 G5 W5 H5 := ⟨w5, ok5, x5, fun z => by cases z⟩
                have eW5 := (e1.step w1 rfl s5).wipe (p1.slots ++ p2.slots)
                have e5 : SE S G5 W5.length env1 σ2 H5 := by
                  refine ⟨e4.len, fun q dq hq => ?_, fun q dq hq => ?_⟩
                  · obtain ⟨v, q1, q2⟩ := e4.vals q dq hq
                    exact ⟨v, q1, q2.mono x5⟩
                  · obtain ⟨o1, o2⟩ := own3 q dq hq
                    obtain ⟨aa, us, g1, g2, g3, g4, g5, g6⟩ := eW5.owns q dq o1
                    refine ⟨aa, us, o2.trans g1, g2, g3, g4, g5, fun q' dq' hq' hs' => ?_⟩
                    obtain ⟨o1', o2'⟩ := own3 q' dq' hq'
                    exact g6 q' dq' o1' (o2'.symm.trans hs')
                by_cases hj : j < ys.length
                · right
                  refine ⟨it1.go j G5 W5 H5 L2' hj, fun H6 => ∃ k', k' < k ∧ ∃ G5 W5 d2 l2, k' = ys.length - (j + 1) ∧ j + 1 ≤ ys.length ∧ InvI (j + 1) G5 W5 H6 d2 l2, fun H6 h => h, fun y H6 hy6 => ?_⟩
                  obtain ⟨dd, G6, hdd, s6, w6, r6⟩ := it1.yld j G5 W5 H5 y H6 L2' hj hy6
                  have hdrop2 : ys.drop j = dd :: ys.drop (j + 1) := by
                    rw [List.drop_eq_getElem_cons hj]
                    have := List.getElem?_eq_getElem hj
                    rw [hdd] at this
                    cases this
                    rfl
                  rw [hdrop2] at hm5
                  obtain ⟨za, W7, zb, hel2, ok7, hm7, hl2⟩ := flatL_cons hm5
                  unfold fE2 at hel2
                  cases hb2 : bindP W5 p2 dd (wipeE env1 p2.slots) with
                  | none => simp only [hb2] at hel2; cases hel2
                  | some env2 =>
                    simp only [hb2] at hel2
                    have eW2 : SE S G6 W5.length (wipeE env1 p2.slots) (L2.wipe σ2 p2.slots) H6 := (e5.step w5 rfl s6).wipe _
                    refine ⟨G6, W5, _, dd, env2, w6, eW2, r6, hb2, fun σ3 e6 hwp2 _ => ?_⟩
                    refine ⟨by rw [hwp2 p2.slots fun _ h => h, wipe_wipe fun _ h => h], ?_⟩
                    have tD6 := s6.keep Dp _ tD5 hc5 hTab
                    have hF6 := s6.noF tD5 hF5
                    have hc6 := s6.nocell tD5 hc5
                    cases hcc : fc env2 W5 with
                    | none => simp only [hcc] at hel2; cases hel2
                    | some tb =>
                      obtain ⟨t, W6⟩ := tb
                      simp only [hcc] at hel2
                      refine ⟨G6, W5, env2, t, W6, w6, e6, hcc, fun H7 G7 s7 w7 => ?_⟩
                      have tD7 := s7.keep Dp _ tD6 hc6 hTab
                      have hF7 := s7.noF tD6 hF6
                      have hc7 := s7.nocell tD6 hc6
                      have e7 := e6.step w6 rfl s7
                      cases t with
                      | false =>
                        simp only at hel2
                        cases hel2
                        dsimp only
                        rw [if_neg (by decide)]
                        exact ⟨_, by omega, G7, _, d2, zb, rfl, hj, (s5.trans s6).trans s7, x5.trans (s6.x.trans s7.x), w7, tD7, hF7, hc7, ok7, hm7, by rw [← hz5, hl2]; rfl, hok2⟩
                      | true =>
                        dsimp only
                        rw [if_pos rfl]
                        simp only at hel2
                        split at hel2
                        · rename_i z W8 hee
                          cases hel2
                          refine ⟨G7, W6, env2, .str z, _, w7, e7, hee, fun vy H8 G8 s8 w8 r8 => ?_⟩
                          obtain ⟨ev, oz⟩ := r8.str
                          have tD8 := s8.keep Dp _ tD7 hc7 hTab
                          have hF8 := s8.noF tD7 hF7
                          have hc8 := s8.nocell tD7 hc7
                          have hlen : ((done ++ d2).foldl addS []).length ≤ zs.length := by
                            have := addS_len (done ++ d2) []
                            have h9 : (done ++ d2).length ≤ zs.length := by
                              rw [← hzs, hleft, ← hz5]
                              simp only [List.length_append]
                              omega
                            simp only [List.length_nil, Nat.zero_add] at this
                            omega
                          refine ⟨z, _, ev, tD8, by unfold scanBound; omega, _, by omega, G8, _, d2 ++ [z], zb, rfl, hj, (((s5.trans s6).trans s7).trans s8).redo _ hDp, x5.trans (s6.x.trans (s7.x.trans s8.x)), w8.redo _ hF8 hc8 hTab, ?_, hF8, hc8, ok7, hm7, by rw [← hz5, hl2]; simp, fun s hs => ?_⟩
                          · rw [upd_same, ← List.append_assoc, List.foldl_append (l := done ++ d2)]
                            rfl
                          · rcases List.mem_append.mp hs with hs | hs
                            · exact hok2 s hs
                            · have : s = z := by simpa using hs
                              rw [this]; exact oz
                        · cases hel2
                · left
                  have hj2 : ys.length ≤ j := Nat.le_of_not_lt hj
                  refine ⟨it1.stop j G5 W5 H5 L2' hj2, ?_⟩
                  rw [List.drop_eq_nil_of_le hj2] at hm5
                  cases hm5
                  rw [List.append_nil] at hz5
                  subst hz5
                  exact ⟨_, by omega, G5, _, done ++ d2, z2, rfl, hi', s5, w5, tD5, hF5, hc5, ok4, hmap2, by rw [List.append_assoc, ← hleft]; exact hzs, fun s hs => (List.mem_append.mp hs).elim (hok s) (hok2 s)⟩
          · left
            have hi2 : xs.length ≤ i := Nat.le_of_not_lt hi'
            refine ⟨it.stop i G2 W2 H2 L hi2, ?_⟩
            rw [List.drop_eq_nil_of_le hi2] at hmap
            cases hmap
            rw [List.append_nil] at hzs
            subst hzs
            have hlen : (done.foldl addS []).length ≤ 64 := by
              have := addS_len done []
              simp only [List.length_nil, Nat.zero_add] at this
              omega
            refine ⟨Dp, _, rfl, hD, hlen, fun p hp => ?_⟩
            obtain ⟨w5, s5⟩ := w2.loose (o := .lst ((sortS (done.foldl addS [])).map V.str)) hp
            have hmem : ∀ s ∈ sortS (done.foldl addS []), okStr s := fun s hs => by
              rcases addS_mem done [] s ((sortS_perm _).mem_iff.mp hs) with h | h
              · exact absurd h (List.not_mem_nil)
              · exact hok s h
            exact k p _ _ G2 ((s1.trans s2).trans s5) w5 upd_same (reps_strs hmem) (w2.notF hp) (w2.notC hp) ((s1.trans s2).back hp)
      · cases hf
end
end Pv
end
section
set_option Elab.async false
set_option linter.all false
set_option maxRecDepth 100000
set_option maxHeartbeats 4000000
namespace Pv
open PySem PySem.Spec PyProof.Rows L2
section
variable {S : Su} {P : Ax} {g : Pg} {cl : Nat → CallF} {B : Ctx}
theorem set_b (k : Nat) (ih : SndE S P g cl B k) (ihI : SndI S P g cl B k) (Γ : Ctx) (n : Nat) (X : Cx) (elt t1 i1 t2 i2 : Expr) (ifs : List Expr) (scope : Scope) (p cp pos : Pos) (p1 p2 : Pat) (o1 o2 : List (Str × Nat)) (it1 it2 : It) (c : Oe) (e : Ex)
    (hs : Same Γ B) (hX : XOk S P Γ n X) (hL : LK S P cl B n) (g1 : Gl X "sorted") (m1 : P.mg "sorted" = none) (h1 : cPat (Γ.blk scope) t1 = some (p1, o1)) (h2 : cPat (Γ.blk scope) t2 = some (p2, o2)) (h3 : cI k Γ (isTpl t1) i1 = some it1) (h4 : cI k (Γ.blk scope) (isTpl t2) i2 = some it2)
    (h5 : cIfs (cE k (Γ.blk scope)) ifs = some c) (h6 : cE k (Γ.blk scope) elt = some e) (h7 : blkC Γ.N Γ.sc scope (o1 ++ o2) = true) :
    PE X (.Call (.Name "sorted" p) [.SetComp elt [⟨t1, i1, [], 0⟩, ⟨t2, i2, ifs, 0⟩] scope cp] [] pos) (tEvF S (evF g cl n (.sset2 p1 it1 p2 it2 c e))) := by
  have hs' : Same (Γ.blk scope) B := ⟨hs.fns, hs.cls, hs.cst, hs.fr⟩
  obtain ⟨q1, r1⟩ := ihI Γ n X t1 i1 it1 hs hX hL h3 true
  have q2 := fun (s : Shared) (H : Hp) (C : Addr) (cells : List (Str × Addr)) (fp : List Addr) => ihI (Γ.blk scope) n (X.blk s H scope (compEnvC scope cells C X.env) fp) t2 i2 it2 hs' (hX.blk s H scope C cells fp) hL h4 false
  have ok : BlkOk X.N X.env.scope scope (o1 ++ o2) := by
    rw [hX.N, hX.sc]
    exact blkOk_by h7
  have own_eq : (o1 ++ o2).map (·.2) = p1.slots ++ p2.slots := by rw [List.map_append, pat_own h1, pat_own h2]
  have r2 : OkFI (evI g cl n false it2) := by
    cases it2 with
    | seq a => exact ok_seq (fa := evX g cl n false a)
    | rng1 a => exact ok_rng1 (fa := evX g cl n true a)
    | rng2 a b => exact ok_rng2 (fa := evX g cl n true a) (fb := evX g cl n true b)
    | enum a => exact ok_enum (fa := evX g cl n false a)
  have pe : PE X (.SetComp elt [⟨t1, i1, [], 0⟩, ⟨t2, i2, ifs, 0⟩] scope cp) (tSs2 X.prog X.w (tI S true (evI g cl n true it1)) (gPat S p1) tYes (tI S false (evI g cl n false it2)) (gPat S p2) (tEvT S (evC g cl n c)) (tEv S false (evX g cl n false e)) ((o1 ++ o2).map (·.2)) p2.slots) := by
    refine ⟨fun pins s σ H Q I h => ?_⟩
    rw [PpSet.eval_SetComp]
    refine ss2_core hX.calm hX.nd I q1 ok (fun i hi => by rw [own_eq]; exact List.mem_append_right _ hi) (fun s H C cells fp => (pg_pat (hX.blk s H scope C cells fp) h1).1) (fun s H C cells fp => pts_nil) (fun s H C cells fp => (ih (Γ.blk scope) n _ elt e hs' (hX.blk s H scope C cells fp) hL h6 false).1) (fun x => fold_of h3 _ x)
      (fun s H C cells fp => (q2 s H C cells fp).1) (fun s H C cells fp => (pg_pat (hX.blk s H scope C cells fp) h2).1) (fun s H C cells fp => pts_of ih hs' (hX.blk s H scope C cells fp) hL h5) (fun env x => fold_of h4 env x) h fun D C s' m H' I' q hn f => ⟨m, hn, fun h'' sb => ?_⟩
    obtain ⟨f0, f1, f2, f3, f4, f5⟩ := f
    exact ⟨.ref D, H', I'.turned (t' := s'.toks) (fun b o hb e => (sb.2 b hb).trans e) f0 f1 f3 f4 f5, rfl, q⟩
  refine pe_imp (pe_callB (cr_srtS hX.calm) g1 (by rw [hX.mg]; exact m1) (by decide +kernel : bootBuiltins "sorted" = some (.builtin "sorted")) (pa_cons pe pa_nil rfl) (by decide) (by decide) rfl rfl) fun σ H Q q => ?_
  have q' : tEvF S (fSS2 p1 (evI g cl n true it1) p2 (evI g cl n false it2) (evC g cl n c) (evX g cl n false e)) σ H Q := q
  have := ss2_read (prog := X.prog) (w := X.w) r1 r2 q'
  rw [own_eq]
  exact this
theorem setRules : SetRules S P g cl B where
  a := set_a
  b := set_b
end
end Pv
end
section
set_option maxRecDepth 100000
namespace P76
open Pv
/-- 0: _wall; 0 k -/
def b0 : List St :=
  [.stuck]
def d0 : Df := ⟨1, 1, false, b0⟩
/-- 1: on_land; 0 point -/
def b1 : List St :=
  [(.ret (.and (.cmp .le (.ix (.var 0) (.cst (.int 0))) (.cst (.int 999))) (.cmp .le (.ix (.var 0) (.cst (.int 1))) (.cst (.int 999)))))]
def d1 : Df := ⟨1, 1, false, b1⟩
/-- 2: good_corners; 0 low 1 high -/
def b2 : List St :=
  [(.ite (.or (.not (.call 1 (.cons (.var 0) .nil))) (.not (.call 1 (.cons (.var 1) .nil))))
   [(.ret (.cst (.bl false)))]
   []),
  (.ret (.and (.cmp .lt (.ix (.var 0) (.cst (.int 0))) (.ix (.var 1) (.cst (.int 0)))) (.cmp .lt (.ix (.var 0) (.cst (.int 1))) (.ix (.var 1) (.cst (.int 1))))))]
def d2 : Df := ⟨2, 2, false, b2⟩
/-- 3: good_sheet; 0 item 1 low 2 high 3 scale 4 year 5 cost 6 stock -/
def b3 : List St :=
  [(.unp [1, 2, 3, 4, 5, 6] (.sl (.var 0) (.yes (.cst (.int 2))) .no)),
  (.ite (.not (.call 2 (.cons (.var 1) (.cons (.var 2) .nil))))
   [(.ret (.cst (.bl false)))]
   []),
  (.ite (.or (.not (.chain .le .le (.cst (.int 1)) (.var 3) (.cst (.int 99)))) (.not (.chain .le .le (.cst (.int 0)) (.var 4) (.cst (.int 9999)))))
   [(.ret (.cst (.bl false)))]
   []),
  (.ret (.and (.chain .le .le (.cst (.int 1)) (.var 5) (.cst (.int 999))) (.chain .le .le (.cst (.int 0)) (.var 6) (.cst (.int 99)))))]
def d3 : Df := ⟨1, 7, false, b3⟩
/-- 4: good_road; 0 item -/
def b4 : List St :=
  [(.ret (.chain .le .le (.cst (.int 1)) (.ix (.var 0) (.cst (.int 3))) (.cst (.int 999))))]
def d4 : Df := ⟨1, 1, false, b4⟩
/-- 5: both_ends; 0 item -/
def b5 : List St :=
  [(.ret (.tup (.cons (.bi .min2 (.cons (.ix (.var 0) (.cst (.int 1))) (.cons (.ix (.var 0) (.cst (.int 2))) .nil))) (.cons (.bi .max2 (.cons (.ix (.var 0) (.cst (.int 1))) (.cons (.ix (.var 0) (.cst (.int 2))) .nil))) .nil))))]
def d5 : Df := ⟨1, 1, false, b5⟩
/-- 6: Looker___init__; 0 self -/
def b6 : List St :=
  [(.setfld (.var 0) "sheets" .dnewK),
  (.setfld (.var 0) "places" .dnewK),
  (.setfld (.var 0) "roads" .dnewT),
  (.setfld (.var 0) "found" (.cel (.disp .nil)))]
def d6 : Df := ⟨1, 1, true, b6⟩
/-- 7: Looker_tell; 0 self 1 number 2 word 3 name -/
def b7 : List St :=
  [(.appx (.fld (.var 0) "found") (.tup (.cons (.var 1) (.cons (.var 2) (.cons (.var 3) .nil)))))]
def d7 : Df := ⟨4, 4, false, b7⟩
/-- 8: Looker_look_sheet; 0 self 1 number 2 item 3 name -/
def b8 : List St :=
  [(.asg 3 (.ix (.var 2) (.cst (.int 1)))),
  (.ite (.cmp .isin (.var 3) (.fld (.var 0) "sheets"))
   [(.expr (.meth "tell" (.var 0) (.cons (.var 1) (.cons (.cst (.str "twice")) (.cons (.var 3) .nil))))),
    .retN]
   []),
  (.setix (.fld (.var 0) "sheets") (.var 3) (.cst (.bl true))),
  (.ite (.not (.call 3 (.cons (.var 2) .nil)))
   [(.expr (.meth "tell" (.var 0) (.cons (.var 1) (.cons (.cst (.str "number")) (.cons (.var 3) .nil)))))]
   []),
  (.ite (.cmp .gt (.bi .len (.cons (.fld (.var 0) "sheets") .nil)) (.cst (.int 12)))
   [(.expr (.meth "tell" (.var 0) (.cons (.var 1) (.cons (.cst (.str "many")) (.cons (.var 3) .nil)))))]
   [])]
def d8 : Df := ⟨3, 4, false, b8⟩
/-- 9: Looker_look_place; 0 self 1 number 2 item 3 name -/
def b9 : List St :=
  [(.asg 3 (.ix (.var 2) (.cst (.int 1)))),
  (.ite (.cmp .isin (.var 3) (.fld (.var 0) "places"))
   [(.expr (.meth "tell" (.var 0) (.cons (.var 1) (.cons (.cst (.str "twice")) (.cons (.var 3) .nil))))),
    .retN]
   []),
  (.setix (.fld (.var 0) "places") (.var 3) (.cst (.bl true))),
  (.ite (.not (.call 1 (.cons (.ix (.var 2) (.cst (.int 2))) .nil)))
   [(.expr (.meth "tell" (.var 0) (.cons (.var 1) (.cons (.cst (.str "number")) (.cons (.var 3) .nil)))))]
   []),
  (.ite (.cmp .gt (.bi .len (.cons (.fld (.var 0) "places") .nil)) (.cst (.int 16)))
   [(.expr (.meth "tell" (.var 0) (.cons (.var 1) (.cons (.cst (.str "many")) (.cons (.var 3) .nil)))))]
   [])]
def d9 : Df := ⟨3, 4, false, b9⟩
/-- 10: Looker_look_road; 0 self 1 number 2 item 3 one 4 other 5 ends 6 name -/
def b10 : List St :=
  [(.par 3 4 (.ix (.var 2) (.cst (.int 1))) (.ix (.var 2) (.cst (.int 2)))),
  (.asg 5 (.call 5 (.cons (.var 2) .nil))),
  (.ite (.cmp .isin (.var 5) (.fld (.var 0) "roads"))
   [(.expr (.meth "tell" (.var 0) (.cons (.var 1) (.cons (.cst (.str "twice")) (.cons (.var 3) .nil))))),
    .retN]
   []),
  (.setix (.fld (.var 0) "roads") (.var 5) (.cst (.bl true))),
  (.forr (.one 6) (.seq (.tup (.cons (.var 3) (.cons (.var 4) .nil))))
   [(.ite (.cmp .notin (.var 6) (.fld (.var 0) "places"))
     [(.expr (.meth "tell" (.var 0) (.cons (.var 1) (.cons (.cst (.str "unknown")) (.cons (.var 6) .nil)))))]
     [])]),
  (.ite (.not (.call 4 (.cons (.var 2) .nil)))
   [(.expr (.meth "tell" (.var 0) (.cons (.var 1) (.cons (.cst (.str "number")) (.cons (.var 3) .nil)))))]
   []),
  (.ite (.cmp .eq (.var 3) (.var 4))
   [(.expr (.meth "tell" (.var 0) (.cons (.var 1) (.cons (.cst (.str "alike")) (.cons (.var 3) .nil)))))]
   []),
  (.ite (.cmp .gt (.bi .len (.cons (.fld (.var 0) "roads") .nil)) (.cst (.int 40)))
   [(.expr (.meth "tell" (.var 0) (.cons (.var 1) (.cons (.cst (.str "many")) (.cons (.var 3) .nil)))))]
   [])]
def d10 : Df := ⟨3, 7, false, b10⟩
/-- 11: Looker_look; 0 self 1 number 2 item -/
def b11 : List St :=
  [(.ite (.cmp .eq (.ix (.var 2) (.cst (.int 0))) (.cst (.str "sheet")))
   [(.expr (.meth "look_sheet" (.var 0) (.cons (.var 1) (.cons (.var 2) .nil))))]
   [(.ite (.cmp .eq (.ix (.var 2) (.cst (.int 0))) (.cst (.str "place")))
     [(.expr (.meth "look_place" (.var 0) (.cons (.var 1) (.cons (.var 2) .nil))))]
     [(.expr (.meth "look_road" (.var 0) (.cons (.var 1) (.cons (.var 2) .nil))))])])]
def d11 : Df := ⟨3, 3, false, b11⟩
/-- 12: find_faults; 0 shop 1 looker 2 number 3 item -/
def b12 : List St :=
  [(.asg 1 (.new 4 .nil)),
  (.forr (.tup [2, 3]) (.enum (.var 0))
   [(.expr (.meth "look" (.var 1) (.cons (.var 2) (.cons (.var 3) .nil))))]),
  (.ret (.bi .tuple (.cons (.fr (.srtset (.fld (.var 1) "found"))) .nil)))]
def d12 : Df := ⟨1, 4, false, b12⟩
/-- 13: only_of; 0 row 1 signs 2 sign -/
def b13 : List St :=
  [(.ret (.aa false (.one 2) (.seq (.var 0)) (.cmp .isin (.var 2) (.var 1))))]
def d13 : Df := ⟨2, 3, false, b13⟩
/-- 14: begins_in; 0 row 1 signs -/
def b14 : List St :=
  [(.ret (.and (.cmp .gt (.bi .len (.cons (.var 0) .nil)) (.cst (.int 0))) (.cmp .isin (.ix (.var 0) (.cst (.int 0))) (.var 1))))]
def d14 : Df := ⟨2, 2, false, b14⟩
/-- 15: is_name_row; 0 row -/
def b15 : List St :=
  [(.ret (.and (.call 14 (.cons (.var 0) (.cons (.cst (.str "abcdefghijklmnopqrstuvwxyz")) .nil))) (.and (.call 13 (.cons (.var 0) (.cons (.cst (.str "abcdefghijklmnopqrstuvwxyzABCDEFGHIJKLMNOPQRSTUVWXYZ0123456789_")) .nil))) (.cmp .notin (.var 0) (.cst (.ctp [.str "at", .str "costs", .str "from", .str "has", .str "kind", .str "place", .str "road", .str "scale", .str "sheet", .str "stock", .str "to", .str "year"]))))))]
def d15 : Df := ⟨1, 1, false, b15⟩
/-- 16: is_great_row; 0 row -/
def b16 : List St :=
  [(.ret (.and (.call 14 (.cons (.var 0) (.cons (.cst (.str "ABCDEFGHIJKLMNOPQRSTUVWXYZ")) .nil))) (.call 13 (.cons (.var 0) (.cons (.cst (.str "abcdefghijklmnopqrstuvwxyzABCDEFGHIJKLMNOPQRSTUVWXYZ0123456789_")) .nil)))))]
def d16 : Df := ⟨1, 1, false, b16⟩
/-- 17: is_int; 0 value -/
def b17 : List St :=
  [(.ret (.and (.bi .isInt (.cons (.var 0) .nil)) (.not (.bi .isBool (.cons (.var 0) .nil)))))]
def d17 : Df := ⟨1, 1, false, b17⟩
/-- 18: is_name; 0 value -/
def b18 : List St :=
  [(.ret (.and (.bi .isStr (.cons (.var 0) .nil)) (.call 15 (.cons (.var 0) .nil))))]
def d18 : Df := ⟨1, 1, false, b18⟩
/-- 19: is_great; 0 value -/
def b19 : List St :=
  [(.ret (.and (.bi .isStr (.cons (.var 0) .nil)) (.call 16 (.cons (.var 0) .nil))))]
def d19 : Df := ⟨1, 1, false, b19⟩
/-- 20: is_kind; 0 value -/
def b20 : List St :=
  [(.ret (.or (.isN (.var 0)) (.call 19 (.cons (.var 0) .nil))))]
def d20 : Df := ⟨1, 1, false, b20⟩
/-- 21: is_number; 0 value -/
def b21 : List St :=
  [(.ret (.and (.call 17 (.cons (.var 0) .nil)) (.chain .le .le (.cst (.int 0)) (.var 0) (.cst (.int 999999)))))]
def d21 : Df := ⟨1, 1, false, b21⟩
/-- 22: is_spot; 0 value 1 part -/
def b22 : List St :=
  [(.ret (.and (.bi .isTuple (.cons (.var 0) .nil)) (.and (.cmp .eq (.bi .len (.cons (.var 0) .nil)) (.cst (.int 2))) (.aa false (.one 1) (.seq (.var 0)) (.call 21 (.cons (.var 1) .nil))))))]
def d22 : Df := ⟨1, 2, false, b22⟩
/-- 23: begins_with; 0 value 1 word 2 many -/
def b23 : List St :=
  [(.ite (.or (.not (.bi .isTuple (.cons (.var 0) .nil))) (.cmp .ne (.bi .len (.cons (.var 0) .nil)) (.var 2)))
   [(.ret (.cst (.bl false)))]
   []),
  (.ret (.and (.bi .isStr (.cons (.ix (.var 0) (.cst (.int 0))) .nil)) (.cmp .eq (.ix (.var 0) (.cst (.int 0))) (.var 1))))]
def d23 : Df := ⟨3, 3, false, b23⟩
/-- 24: is_sheet; 0 value 1 part -/
def b24 : List St :=
  [(.ite (.not (.call 23 (.cons (.var 0) (.cons (.cst (.str "sheet")) (.cons (.cst (.int 8)) .nil)))))
   [(.ret (.cst (.bl false)))]
   []),
  (.ite (.or (.not (.call 19 (.cons (.ix (.var 0) (.cst (.int 1))) .nil))) (.or (.not (.call 22 (.cons (.ix (.var 0) (.cst (.int 2))) .nil))) (.not (.call 22 (.cons (.ix (.var 0) (.cst (.int 3))) .nil)))))
   [(.ret (.cst (.bl false)))]
   []),
  (.ret (.aa false (.one 1) (.seq (.sl (.var 0) (.yes (.cst (.int 4))) .no)) (.call 21 (.cons (.var 1) .nil))))]
def d24 : Df := ⟨1, 2, false, b24⟩
/-- 25: is_place; 0 value -/
def b25 : List St :=
  [(.ite (.not (.call 23 (.cons (.var 0) (.cons (.cst (.str "place")) (.cons (.cst (.int 4)) .nil)))))
   [(.ret (.cst (.bl false)))]
   []),
  (.ret (.and (.call 18 (.cons (.ix (.var 0) (.cst (.int 1))) .nil)) (.and (.call 22 (.cons (.ix (.var 0) (.cst (.int 2))) .nil)) (.call 20 (.cons (.ix (.var 0) (.cst (.int 3))) .nil)))))]
def d25 : Df := ⟨1, 1, false, b25⟩
/-- 26: is_road; 0 value -/
def b26 : List St :=
  [(.ite (.not (.call 23 (.cons (.var 0) (.cons (.cst (.str "road")) (.cons (.cst (.int 5)) .nil)))))
   [(.ret (.cst (.bl false)))]
   []),
  (.ite (.or (.not (.call 18 (.cons (.ix (.var 0) (.cst (.int 1))) .nil))) (.not (.call 18 (.cons (.ix (.var 0) (.cst (.int 2))) .nil))))
   [(.ret (.cst (.bl false)))]
   []),
  (.ret (.and (.call 21 (.cons (.ix (.var 0) (.cst (.int 3))) .nil)) (.call 20 (.cons (.ix (.var 0) (.cst (.int 4))) .nil))))]
def d26 : Df := ⟨1, 1, false, b26⟩
/-- 27: is_item; 0 value -/
def b27 : List St :=
  [(.ret (.or (.call 24 (.cons (.var 0) .nil)) (.or (.call 25 (.cons (.var 0) .nil)) (.call 26 (.cons (.var 0) .nil)))))]
def d27 : Df := ⟨1, 1, false, b27⟩
/-- 28: check_form; 0 value 1 item -/
def b28 : List St :=
  [(.ite (.or (.not (.bi .isTuple (.cons (.var 0) .nil))) (.not (.aa false (.one 1) (.seq (.var 0)) (.call 27 (.cons (.var 1) .nil)))))
   [.stuck]
   [])]
def d28 : Df := ⟨1, 2, false, b28⟩
/-- 29: mistakes; 0 shop -/
def b29 : List St :=
  [(.expr (.call 28 (.cons (.var 0) .nil))),
  (.ret (.call 12 (.cons (.var 0) .nil)))]
def d29 : Df := ⟨1, 1, false, b29⟩
/-- 30: check_shop; 0 value -/
def b30 : List St :=
  [(.ite (.cmp .gt (.bi .len (.cons (.call 29 (.cons (.var 0) .nil)) .nil)) (.cst (.int 0)))
   [.stuck]
   [])]
def d30 : Df := ⟨1, 1, false, b30⟩
/-- 31: Ground___init__; 0 self 1 shop 2 item -/
def b31 : List St :=
  [(.setfld (.var 0) "kinds" .dnewK),
  (.setfld (.var 0) "roads" .dnewK),
  (.forr (.one 2) (.seq (.var 1))
   [(.ite (.cmp .eq (.ix (.var 2) (.cst (.int 0))) (.cst (.str "place")))
     [(.setix (.fld (.var 0) "kinds") (.ix (.var 2) (.cst (.int 1))) (.ix (.var 2) (.cst (.int 3)))),
      (.setix (.fld (.var 0) "roads") (.ix (.var 2) (.cst (.int 1))) (.cel (.disp .nil)))]
     [])]),
  (.forr (.one 2) (.seq (.var 1))
   [(.ite (.cmp .eq (.ix (.var 2) (.cst (.int 0))) (.cst (.str "road")))
     [(.expr (.meth "add_road" (.var 0) (.cons (.ix (.var 2) (.cst (.int 1))) (.cons (.ix (.var 2) (.cst (.int 2))) (.cons (.ix (.var 2) (.cst (.int 4))) .nil)))))]
     [])])]
def d31 : Df := ⟨2, 3, true, b31⟩
/-- 32: Ground_add_road; 0 self 1 one 2 other 3 kind -/
def b32 : List St :=
  [(.appx (.ix (.fld (.var 0) "roads") (.var 1)) (.tup (.cons (.var 3) (.cons (.var 2) .nil)))),
  (.appx (.ix (.fld (.var 0) "roads") (.var 2)) (.tup (.cons (.var 3) (.cons (.var 1) .nil))))]
def d32 : Df := ⟨4, 4, false, b32⟩
/-- 33: Ground_all_places; 0 self -/
def b33 : List St :=
  [(.expr (.call 0 (.cons (.cst (.int 0)) .nil)))]
def d33 : Df := ⟨1, 1, false, b33⟩
/-- 34: Ground_seen; 0 self 1 places 2 kind 3 place -/
def b34 : List St :=
  [.stuck]
def d34 : Df := ⟨3, 4, false, b34⟩
/-- 35: Ground_begun; 0 self 1 kind -/
def b35 : List St :=
  [(.expr (.call 0 (.cons (.cst (.int 1)) .nil)))]
def d35 : Df := ⟨2, 2, false, b35⟩
/-- 36: Ground_along; 0 self 1 places 2 kind 3 place 4 road 5 other -/
def b36 : List St :=
  [(.ret (.bi .tuple (.cons (.fr (.sset2 (.one 3) (.seq (.var 1)) (.tup [4, 5]) (.seq (.ix (.fld (.var 0) "roads") (.var 3))) (.yes (.cmp .eq (.var 4) (.var 2))) (.var 5))) .nil)))]
def d36 : Df := ⟨3, 6, false, b36⟩
/-- 37: Ground_gone; 0 self 1 places 2 road 3 kind -/
def b37 : List St :=
  [(.ret (.meth "seen" (.var 0) (.cons (.meth "along" (.var 0) (.cons (.var 1) (.cons (.var 2) .nil))) (.cons (.var 3) .nil))))]
def d37 : Df := ⟨4, 4, false, b37⟩
/-- 38: Ground_place_kinds; 0 self 1 places -/
def b38 : List St :=
  [(.expr (.call 0 (.cons (.cst (.int 2)) .nil)))]
def d38 : Df := ⟨2, 2, false, b38⟩
/-- 39: Ground_kinds_from; 0 self 1 place 2 kind 3 other -/
def b39 : List St :=
  [(.ret (.fr (.comp (.tup [2, 3]) (.seq (.ix (.fld (.var 0) "roads") (.var 1))) .no (.var 2))))]
def d39 : Df := ⟨2, 4, false, b39⟩
/-- 40: Ground_road_kinds; 0 self 1 places -/
def b40 : List St :=
  [(.expr (.call 0 (.cons (.cst (.int 3)) .nil)))]
def d40 : Df := ⟨2, 2, false, b40⟩
/-- 41: Ground_common_kinds; 0 self 1 places -/
def b41 : List St :=
  [(.expr (.call 0 (.cons (.cst (.int 4)) .nil)))]
def d41 : Df := ⟨2, 2, false, b41⟩
/-- 42: Ground_parted; 0 self 1 places -/
def b42 : List St :=
  [(.expr (.call 0 (.cons (.cst (.int 5)) .nil)))]
def d42 : Df := ⟨2, 2, false, b42⟩
/-- 43: check_place; 0 ground 1 place -/
def b43 : List St :=
  [(.ite (.or (.not (.call 18 (.cons (.var 1) .nil))) (.cmp .notin (.var 1) (.fld (.var 0) "kinds")))
   [.stuck]
   [])]
def d43 : Df := ⟨2, 2, false, b43⟩
/-- 44: check_kinds; 0 kinds 1 kind -/
def b44 : List St :=
  [(.ite (.or (.not (.bi .isTuple (.cons (.var 0) .nil))) (.not (.aa false (.one 1) (.seq (.var 0)) (.call 20 (.cons (.var 1) .nil)))))
   [.stuck]
   [])]
def d44 : Df := ⟨1, 2, false, b44⟩
/-- 45: led_by; 0 shop 1 place 2 kinds 3 ground 4 places 5 number 6 kind 7 here -/
def b45 : List St :=
  [(.expr (.call 30 (.cons (.var 0) .nil))),
  (.asg 3 (.new 5 (.cons (.var 0) .nil))),
  (.expr (.call 43 (.cons (.var 3) (.cons (.var 1) .nil)))),
  (.expr (.call 44 (.cons (.var 2) .nil))),
  (.asg 4 (.tup (.cons (.var 1) .nil))),
  (.forr (.tup [5, 6]) (.enum (.var 2))
   [(.forr (.one 7) (.seq (.var 4))
     [(.ite (.cmp .notin (.var 6) (.meth "kinds_from" (.var 3) (.cons (.var 7) .nil)))
       [(.ret (.tup (.cons (.cst (.str "stuck")) (.cons (.var 5) (.cons (.var 7) .nil)))))]
       [])]),
    (.asg 4 (.meth "along" (.var 3) (.cons (.var 4) (.cons (.var 6) .nil))))]),
  (.ret (.tup (.cons (.cst (.str "ends")) (.cons (.var 4) .nil))))]
def d45 : Df := ⟨3, 8, false, b45⟩
/-- 46: _law_hand; 0 script 1 cells 2 cell 3 wide -/
def b46 : List St :=
  [(.asg 1 (.cel (.comp (.one 2) (.seq (.var 0)) .no (.bi .int (.cons (.var 2) .nil))))),
  (.asg 3 (.cel (.comp (.one 2) (.seq (.var 1)) (.yes (.cmp .gt (.bi .abs (.cons (.var 2) .nil)) (.op .pow (.cst (.int 10)) (.cst (.int 17))))) (.bi .abs (.cons (.var 2) .nil))))),
  (.ret (.disp ["wide", "cells", "rest", "turn", "mix"] (.cons (.var 3) (.cons (.cel (.comp (.one 2) (.seq (.var 1)) .no (.op .mod (.bi .int (.cons (.var 2) .nil)) (.cst (.int 999983))))) (.cons (.cst (.int 0)) (.cons (.cst (.int 0)) (.cons (.cst (.int 5)) .nil)))))))]
def d46 : Df := ⟨1, 4, true, b46⟩
/-- 47: _law_draw; 0 hand 1 many 2 wide 3 digit 4 cells 5 cell 6 twice -/
def b47 : List St :=
  [(.asg 2 (.ix (.var 0) (.cst (.str "wide")))),
  (.ite (.and (.cmp .eq (.ix (.var 0) (.cst (.str "rest"))) (.cst (.int 0))) (.cmp .gt (.bi .len (.cons (.var 2) .nil)) (.cst (.int 0))))
   [(.setix (.var 0) (.cst (.str "rest")) (.pop0 (.var 2)))]
   []),
  (.ite (.cmp .gt (.ix (.var 0) (.cst (.str "rest"))) (.cst (.int 0)))
   [(.asg 3 (.op .mod (.bi .int (.cons (.ix (.var 0) (.cst (.str "rest"))) .nil)) (.var 1))),
    (.setix (.var 0) (.cst (.str "rest")) (.op .fdiv (.bi .int (.cons (.ix (.var 0) (.cst (.str "rest"))) .nil)) (.var 1))),
    (.ret (.var 3))]
   []),
  (.asg 4 (.ix (.var 0) (.cst (.str "cells")))),
  (.asg 5 (.cst (.int 3))),
  (.ite (.cmp .gt (.bi .len (.cons (.var 4) .nil)) (.cst (.int 0)))
   [(.asg 5 (.ix (.var 4) (.op .mod (.bi .int (.cons (.ix (.var 0) (.cst (.str "turn"))) .nil)) (.bi .len (.cons (.var 4) .nil)))))]
   []),
  (.setix (.var 0) (.cst (.str "turn")) (.op .add (.ix (.var 0) (.cst (.str "turn"))) (.cst (.int 1)))),
  (.setix (.var 0) (.cst (.str "mix")) (.op .mod (.bi .int (.cons (.op .add (.op .add (.op .mul (.ix (.var 0) (.cst (.str "mix"))) (.cst (.int 48271))) (.op .mul (.var 5) (.cst (.int 69621)))) (.ix (.var 0) (.cst (.str "turn")))) .nil)) (.cst (.int 2147483647)))),
  (.asg 6 (.op .mod (.bi .int (.cons (.op .add (.op .add (.op .mul (.ix (.var 0) (.cst (.str "mix"))) (.ix (.var 0) (.cst (.str "mix")))) (.op .mul (.var 5) (.cst (.int 40014)))) (.cst (.int 7))) .nil)) (.cst (.int 2147483563)))),
  (.ret (.op .mod (.bi .int (.cons (.op .fdiv (.var 6) (.cst (.int 13))) .nil)) (.var 1)))]
def d47 : Df := ⟨2, 7, false, b47⟩
/-- 48: _law_pick; 0 hand 1 row -/
def b48 : List St :=
  [(.ret (.ix (.var 1) (.call 47 (.cons (.var 0) (.cons (.bi .len (.cons (.var 1) .nil)) .nil)))))]
def d48 : Df := ⟨2, 2, false, b48⟩
/-- 49: _law_same; 0 told 1 due 2 k -/
def b49 : List St :=
  [(.ite (.isN (.var 1))
   [(.ret (.isN (.var 0)))]
   []),
  (.ite (.bi .isBool (.cons (.var 1) .nil))
   [(.ret (.and (.bi .isBool (.cons (.var 0) .nil)) (.cmp .eq (.var 0) (.var 1))))]
   []),
  (.ite (.bi .isInt (.cons (.var 1) .nil))
   [(.ret (.and (.bi .isInt (.cons (.var 0) .nil)) (.and (.not (.bi .isBool (.cons (.var 0) .nil))) (.cmp .eq (.var 0) (.var 1)))))]
   []),
  (.ite (.bi .isStr (.cons (.var 1) .nil))
   [(.ret (.and (.bi .isStr (.cons (.var 0) .nil)) (.cmp .eq (.var 0) (.var 1))))]
   []),
  (.ite (.or (.not (.bi .isTuple (.cons (.var 0) .nil))) (.cmp .ne (.bi .len (.cons (.var 0) .nil)) (.bi .len (.cons (.var 1) .nil))))
   [(.ret (.cst (.bl false)))]
   []),
  (.forr (.one 2) (.rng1 (.bi .len (.cons (.var 1) .nil)))
   [(.ite (.not (.call 49 (.cons (.ix (.var 0) (.var 2)) (.cons (.ix (.var 1) (.var 2)) .nil))))
     [(.ret (.cst (.bl false)))]
     [])]),
  (.ret (.cst (.bl true)))]
def d49 : Df := ⟨2, 3, false, b49⟩
/-- 50: _law_names; 0 hand 1 many 2 heads 3 signs 4 alike 5 head 6 front 7 back 8 out 9 k 10 name 11 turn -/
def b50 : List St :=
  [(.asg 3 (.cst (.str "aZ0_b9zA"))),
  (.asg 4 (.cmp .eq (.call 47 (.cons (.var 0) (.cons (.cst (.int 2)) .nil))) (.cst (.int 1)))),
  (.asg 5 (.call 48 (.cons (.var 0) (.cons (.var 2) .nil)))),
  (.asg 6 (.op .mul (.ix (.var 3) (.call 47 (.cons (.var 0) (.cons (.cst (.int 8)) .nil)))) (.call 47 (.cons (.var 0) (.cons (.cst (.int 3)) .nil))))),
  (.asg 7 (.op .mul (.ix (.var 3) (.call 47 (.cons (.var 0) (.cons (.cst (.int 8)) .nil)))) (.call 47 (.cons (.var 0) (.cons (.cst (.int 3)) .nil))))),
  (.asgF 8 (.disp .nil)),
  (.forr (.one 9) (.rng1 (.var 1))
   [(.asg 10 (.op .add (.op .add (.op .add (.op .add (.var 5) (.var 6)) (.ix (.var 3) (.op .mod (.bi .int (.cons (.op .add (.op .mul (.var 9) (.cst (.int 3))) (.cst (.int 1))) .nil)) (.cst (.int 8))))) (.ix (.var 3) (.op .mod (.bi .int (.cons (.op .fdiv (.var 9) (.cst (.int 8))) .nil)) (.cst (.int 8))))) (.var 7))),
    (.ite (.not (.var 4))
     [(.asg 10 (.call 48 (.cons (.var 0) (.cons (.var 2) .nil)))),
      (.forr (.one 11) (.rng1 (.call 47 (.cons (.var 0) (.cons (.cst (.int 4)) .nil))))
       [(.asg 10 (.op .add (.var 10) (.ix (.var 3) (.call 47 (.cons (.var 0) (.cons (.cst (.int 8)) .nil))))))]),
      (.ite (.cmp .isin (.var 10) (.var 8))
       [(.asg 10 (.op .add (.op .add (.var 10) (.cst (.str "q"))) (.bi .str (.cons (.var 9) .nil))))]
       [])]
     []),
    (.app 8 (.var 10))]),
  (.ret (.var 8))]
def d50 : Df := ⟨3, 12, false, b50⟩
/-- 51: _law_points; 0 hand 1 many 2 low 3 wide 4 out 5 k 6 x 7 y 8 turn -/
def b51 : List St :=
  [(.asgF 4 (.disp .nil)),
  (.forr (.one 5) (.rng1 (.var 1))
   [(.asg 6 (.call 47 (.cons (.var 0) (.cons (.op .add (.var 3) (.cst (.int 1))) .nil)))),
    (.asg 7 (.call 47 (.cons (.var 0) (.cons (.op .add (.var 3) (.cst (.int 1))) .nil)))),
    (.forr (.one 8) (.rng1 (.var 1))
     [(.ite (.cmp .notin (.tup (.cons (.op .add (.var 2) (.var 6)) (.cons (.op .add (.var 2) (.var 7)) .nil))) (.var 4))
       [.brk]
       []),
      (.asg 6 (.op .mod (.bi .int (.cons (.op .add (.var 6) (.cst (.int 1))) .nil)) (.op .add (.var 3) (.cst (.int 1)))))]),
    (.app 4 (.tup (.cons (.op .add (.var 2) (.var 6)) (.cons (.op .add (.var 2) (.var 7)) .nil))))]),
  (.ret (.var 4))]
def d51 : Df := ⟨4, 9, false, b51⟩
/-- 52: _law_pairs; 0 hand 1 size 2 most 3 shape 4 pairs 5 k 6 one 7 other -/
def b52 : List St :=
  [(.asg 3 (.call 47 (.cons (.var 0) (.cons (.cst (.int 5)) .nil)))),
  (.asgF 4 (.disp .nil)),
  (.forr (.one 5) (.rng2 (.cst (.int 1)) (.var 1))
   [(.ite (.cmp .lt (.var 3) (.cst (.int 2)))
     [(.app 4 (.tup (.cons (.op .sub (.var 5) (.cst (.int 1))) (.cons (.var 5) .nil))))]
     []),
    (.ite (.cmp .eq (.var 3) (.cst (.int 2)))
     [(.app 4 (.tup (.cons (.cst (.int 0)) (.cons (.var 5) .nil))))]
     [])]),
  (.ite (.and (.cmp .eq (.var 3) (.cst (.int 1))) (.cmp .gt (.var 1) (.cst (.int 2))))
   [(.app 4 (.tup (.cons (.cst (.int 0)) (.cons (.op .sub (.var 1) (.cst (.int 1))) .nil))))]
   []),
  (.forr (.one 5) (.rng1 (.call 47 (.cons (.var 0) (.cons (.op .add (.op .mul (.cst (.int 2)) (.var 1)) (.cst (.int 1))) .nil))))
   [(.asg 6 (.call 47 (.cons (.var 0) (.cons (.var 1) .nil)))),
    (.asg 7 (.call 47 (.cons (.var 0) (.cons (.var 1) .nil)))),
    (.ite (.and (.cmp .lt (.var 6) (.var 7)) (.cmp .notin (.tup (.cons (.var 6) (.cons (.var 7) .nil))) (.var 4)))
     [(.app 4 (.tup (.cons (.var 6) (.cons (.var 7) .nil))))]
     [])]),
  (.ret (.sl (.var 4) .no (.yes (.var 2))))]
def d52 : Df := ⟨3, 8, false, b52⟩
/-- 53: _law_mixed; 0 hand 1 places 2 roads 3 items 4 left 5 place 6 there 7 item 8 later 9 road -/
def b53 : List St :=
  [(.asgF 3 (.disp .nil)),
  (.asg 4 (.var 2)),
  (.forr (.one 5) (.seq (.var 1))
   [(.app 3 (.var 5)),
    (.asgF 6 (.comp (.one 7) (.seq (.var 3)) (.yes (.cmp .eq (.ix (.var 7) (.cst (.int 0))) (.cst (.str "place")))) (.ix (.var 7) (.cst (.int 1))))),
    (.asgF 8 (.disp .nil)),
    (.forr (.one 9) (.seq (.var 4))
     [(.ite (.and (.cmp .isin (.ix (.var 9) (.cst (.int 1))) (.var 6)) (.and (.cmp .isin (.ix (.var 9) (.cst (.int 2))) (.var 6)) (.cmp .eq (.call 47 (.cons (.var 0) (.cons (.cst (.int 3)) .nil))) (.cst (.int 0)))))
       [(.app 3 (.var 9))]
       [(.app 8 (.var 9))])]),
    (.asg 4 (.var 8))]),
  (.ret (.op .add (.var 3) (.var 4)))]
def d53 : Df := ⟨3, 10, false, b53⟩
/-- 54: _law_land; 0 hand 1 names 2 most 3 places_seen 4 roads_seen 5 many 6 spots 7 lands 8 k 9 roads 10 a 11 b 12 ends 13 cost -/
def b54 : List St :=
  [(.asg 5 (.bi .len (.cons (.var 1) .nil))),
  (.asg 6 (.call 51 (.cons (.var 0) (.cons (.var 5) (.cons (.cst (.int 0)) (.cons (.call 48 (.cons (.var 0) (.cons (.fr (.disp (.cons (.bi .max2 (.cons (.var 5) (.cons (.cst (.int 6)) .nil))) (.cons (.cst (.int 40)) (.cons (.cst (.int 999)) .nil))))) .nil))) .nil)))))),
  (.asgF 7 (.comp (.one 8) (.rng1 (.var 5)) .no (.tup (.cons (.cst (.str "place")) (.cons (.ix (.var 1) (.var 8)) (.cons (.ix (.var 6) (.var 8)) (.cons (.call 48 (.cons (.var 0) (.cons (.var 3) .nil))) .nil))))))),
  (.asgF 9 (.disp .nil)),
  (.ite (.cmp .gt (.var 5) (.cst (.int 0)))
   [(.forr (.tup [10, 11]) (.seq (.call 52 (.cons (.var 0) (.cons (.var 5) (.cons (.var 2) .nil)))))
     [(.asg 12 (.call 48 (.cons (.var 0) (.cons (.fr (.disp (.cons (.tup (.cons (.var 10) (.cons (.var 11) .nil))) (.cons (.tup (.cons (.var 11) (.cons (.var 10) .nil))) .nil)))) .nil)))),
      (.asg 13 (.call 48 (.cons (.var 0) (.cons (.fr (.disp (.cons (.cst (.int 1)) (.cons (.cst (.int 1)) (.cons (.cst (.int 2)) (.cons (.cst (.int 3)) (.cons (.cst (.int 999)) .nil))))))) .nil)))),
      (.app 9 (.tup (.cons (.cst (.str "road")) (.cons (.ix (.var 1) (.ix (.var 12) (.cst (.int 0)))) (.cons (.ix (.var 1) (.ix (.var 12) (.cst (.int 1)))) (.cons (.var 13) (.cons (.call 48 (.cons (.var 0) (.cons (.var 4) .nil))) .nil)))))))])]
   []),
  (.ret (.call 53 (.cons (.var 0) (.cons (.var 7) (.cons (.var 9) .nil)))))]
def d54 : Df := ⟨5, 14, false, b54⟩
/-- 55: _law_ways; 0 items 1 place 2 kinds 3 rows 4 k 5 later 6 stuck 7 here 8 ends 9 item 10 a 11 b 12 name -/
def b55 : List St :=
  [(.asgF 3 (.disp (.cons (.var 1) .nil))),
  (.forr (.one 4) (.rng1 (.bi .len (.cons (.var 2) .nil)))
   [(.asgF 5 (.disp .nil)),
    (.asgF 6 (.disp .nil)),
    (.forr (.one 7) (.seq (.var 3))
     [(.asgF 8 (.disp .nil)),
      (.forr (.one 9) (.seq (.var 0))
       [(.ite (.and (.cmp .eq (.ix (.var 9) (.cst (.int 0))) (.cst (.str "road"))) (.cmp .eq (.ix (.var 9) (.cst (.int 4))) (.ix (.var 2) (.var 4))))
         [(.forr (.tup [10, 11]) (.seq (.fr (.disp (.cons (.tup (.cons (.ix (.var 9) (.cst (.int 1))) (.cons (.ix (.var 9) (.cst (.int 2))) .nil))) (.cons (.tup (.cons (.ix (.var 9) (.cst (.int 2))) (.cons (.ix (.var 9) (.cst (.int 1))) .nil))) .nil)))))
           [(.ite (.cmp .eq (.var 10) (.var 7))
             [(.app 8 (.var 11))]
             [])])]
         [])]),
      (.ite (.cmp .eq (.bi .len (.cons (.var 8) .nil)) (.cst (.int 0)))
       [(.app 6 (.var 7))]
       []),
      (.asg 5 (.op .add (.var 5) (.fr (.comp (.one 12) (.seq (.var 8)) (.yes (.cmp .notin (.var 12) (.var 5))) (.var 12)))))]),
    (.ite (.cmp .gt (.bi .len (.cons (.var 6) .nil)) (.cst (.int 0)))
     [(.ret (.tup (.cons (.cst (.str "stuck")) (.cons (.var 4) (.cons (.bi .minl (.cons (.var 6) .nil)) .nil)))))]
     []),
    (.asg 3 (.var 5))]),
  (.ret (.tup (.cons (.cst (.str "ends")) (.cons (.bi .tuple (.cons (.fr (.srt (.var 3))) .nil)) .nil))))]
def d55 : Df := ⟨3, 13, false, b55⟩
/-- 56: law; 0 script 1 hand 2 kinds 3 names 4 items 5 shop 6 row 7 k 8 name -/
def b56 : List St :=
  [(.asg 1 (.call 46 (.cons (.var 0) .nil))),
  (.asgF 2 (.disp (.cons (.cst (.non)) (.cons (.cst (.str "K")) (.cons (.call 48 (.cons (.var 1) (.cons (.fr (.disp (.cons (.cst (.str "K")) (.cons (.cst (.str "Lm")) .nil)))) .nil))) .nil))))),
  (.asg 3 (.call 50 (.cons (.var 1) (.cons (.op .add (.cst (.int 1)) (.call 47 (.cons (.var 1) (.cons (.cst (.int 6)) .nil)))) (.cons (.cst (.str "abkqz")) .nil))))),
  (.asg 4 (.call 54 (.cons (.var 1) (.cons (.var 3) (.cons (.cst (.int 9)) (.cons (.fr (.disp (.cons (.cst (.non)) (.cons (.cst (.str "K")) .nil)))) (.cons (.sl (.var 2) (.yes (.call 47 (.cons (.var 1) (.cons (.cst (.int 2)) .nil)))) (.yes (.op .add (.cst (.int 1)) (.call 48 (.cons (.var 1) (.cons (.fr (.disp (.cons (.cst (.int 1)) (.cons (.cst (.int 2)) (.cons (.cst (.int 2)) .nil))))) .nil)))))) .nil))))))),
  (.asg 5 (.bi .tuple (.cons (.var 4) .nil))),
  (.asgF 6 (.comp (.one 7) (.rng1 (.call 47 (.cons (.var 1) (.cons (.cst (.int 6)) .nil)))) .no (.call 48 (.cons (.var 1) (.cons (.op .add (.op .add (.var 2) (.var 2)) (.fr (.disp (.cons (.cst (.str "Zz")) .nil)))) .nil))))),
  (.forr (.one 8) (.seq (.var 3))
   [(.forr (.one 7) (.rng1 (.op .add (.bi .len (.cons (.var 6) .nil)) (.cst (.int 1))))
     [(.ite (.not (.call 49 (.cons (.call 45 (.cons (.var 5) (.cons (.var 8) (.cons (.bi .tuple (.cons (.sl (.var 6) .no (.yes (.var 7))) .nil)) .nil)))) (.cons (.call 55 (.cons (.var 4) (.cons (.var 8) (.cons (.sl (.var 6) .no (.yes (.var 7))) .nil)))) .nil))))
       [(.ret (.cst (.bl false)))]
       [])])]),
  (.ret (.cst (.bl true)))]
def d56 : Df := ⟨1, 9, false, b56⟩
def dfs : Nat → Option Df
  | 0 => some d0
  | 1 => some d1
  | 2 => some d2
  | 3 => some d3
  | 4 => some d4
  | 5 => some d5
  | 6 => some d6
  | 7 => some d7
  | 8 => some d8
  | 9 => some d9
  | 10 => some d10
  | 11 => some d11
  | 12 => some d12
  | 13 => some d13
  | 14 => some d14
  | 15 => some d15
  | 16 => some d16
  | 17 => some d17
  | 18 => some d18
  | 19 => some d19
  | 20 => some d20
  | 21 => some d21
  | 22 => some d22
  | 23 => some d23
  | 24 => some d24
  | 25 => some d25
  | 26 => some d26
  | 27 => some d27
  | 28 => some d28
  | 29 => some d29
  | 30 => some d30
  | 31 => some d31
  | 32 => some d32
  | 33 => some d33
  | 34 => some d34
  | 35 => some d35
  | 36 => some d36
  | 37 => some d37
  | 38 => some d38
  | 39 => some d39
  | 40 => some d40
  | 41 => some d41
  | 42 => some d42
  | 43 => some d43
  | 44 => some d44
  | 45 => some d45
  | 46 => some d46
  | 47 => some d47
  | 48 => some d48
  | 49 => some d49
  | 50 => some d50
  | 51 => some d51
  | 52 => some d52
  | 53 => some d53
  | 54 => some d54
  | 55 => some d55
  | 56 => some d56
  | _ => none
def pg : Pg where
  mt c m := if c = 4 ∧ m = "__init__" then some 6 else if c = 4 ∧ m = "tell" then some 7 else if c = 4 ∧ m = "look_sheet" then some 8 else if c = 4 ∧ m = "look_place" then some 9 else if c = 4 ∧ m = "look_road" then some 10 else if c = 4 ∧ m = "look" then some 11 else if c = 5 ∧ m = "__init__" then some 31 else if c = 5 ∧ m = "add_road" then some 32 else if c = 5 ∧ m = "all_places" then some 33 else if c = 5 ∧ m = "seen" then some 34 else if c = 5 ∧ m = "begun" then some 35 else if c = 5 ∧ m = "along" then some 36 else if c = 5 ∧ m = "gone" then some 37 else if c = 5 ∧ m = "place_kinds" then some 38 else if c = 5 ∧ m = "kinds_from" then some 39 else if c = 5 ∧ m = "road_kinds" then some 40 else if c = 5 ∧ m = "common_kinds" then some 41 else if c = 5 ∧ m = "parted" then some 42 else none
  ini c := if c = 4 then some 6 else if c = 5 then some 31 else none
  na c f := if c = 4 then (["found", "places", "roads", "sheets"] : List PySem.Str).contains f else if c = 5 then (["kinds", "roads"] : List PySem.Str).contains f else false
end P76
end
section
set_option maxRecDepth 100000
set_option linter.all false
namespace P76
open Pv
open PySem L2 in
def topS (i : Nat) : Stmt := PySem.Challenge.pw_sheetlines_k76_led_by_all_ways.main.body.getD i (.Pass ⟨0, 0, 0, 0⟩)
open PySem L2 in
def inCls (s : Stmt) (j : Nat) : Stmt := match s with
  | .ClassDef _ _ _ b _ _ _ _ _ _ _ => b.getD j (.Pass ⟨0, 0, 0, 0⟩)
  | _ => .Pass ⟨0, 0, 0, 0⟩
def fnNames : List PySem.Str := ((["_wall", "on_land", "good_corners", "good_sheet", "good_road", "both_ends", "Looker.__init__", "Looker.tell", "Looker.look_sheet", "Looker.look_place", "Looker.look_road", "Looker.look", "find_faults", "only_of", "begins_in", "is_name_row", "is_great_row", "is_int", "is_name", "is_great", "is_kind", "is_number", "is_spot", "begins_with", "is_sheet", "is_place", "is_road", "is_item", "check_form", "mistakes", "check_shop", "Ground.__init__", "Ground.add_road", "Ground.all_places", "Ground.seen", "Ground.begun", "Ground.along", "Ground.gone", "Ground.place_kinds", "Ground.kinds_from", "Ground.road_kinds", "Ground.common_kinds", "Ground.parted", "check_place", "check_kinds", "led_by", "_law_hand", "_law_draw", "_law_pick", "_law_same", "_law_names", "_law_points", "_law_pairs", "_law_mixed", "_law_land", "_law_ways", "law"] : List String).map PySem.Str.ofString)
def clNames : List PySem.Str := ((["MapError", "BadShop", "BadName", "BadKinds", "Looker", "Ground"] : List String).map PySem.Str.ofString)
def csts : List (PySem.Str × D) := [("MOST_SHEETS", .int 12), ("MOST_PLACES", .int 16), ("MOST_ROADS", .int 40), ("FARTHEST", .int 999), ("HIGHEST_SCALE", .int 99), ("LATEST_YEAR", .int 9999), ("HIGHEST_COST", .int 999), ("FULLEST_STOCK", .int 99), ("SMALL", .str "abcdefghijklmnopqrstuvwxyz"), ("GREAT", .str "ABCDEFGHIJKLMNOPQRSTUVWXYZ"), ("ROW_SIGNS", .str "abcdefghijklmnopqrstuvwxyzABCDEFGHIJKLMNOPQRSTUVWXYZ0123456789_"), ("WORDS", .ctp [.str "at", .str "costs", .str "from", .str "has", .str "kind", .str "place", .str "road", .str "scale", .str "sheet", .str "stock", .str "to", .str "year"]), ("GREATEST", .int 999999), ("SHEET_PARTS", .int 8), ("PLACE_PARTS", .int 4), ("ROAD_PARTS", .int 5)]
def frs_ : List PySem.Str := ((["len", "int", "abs", "max", "min", "tuple", "str", "isinstance", "bool", "list", "all", "any", "sorted", "set", "range", "enumerate"] : List String).map PySem.Str.ofString)
abbrev s0 : PySem.Stmt := topS 0
def c0 : Ctx := ⟨((["k"] : List String).map PySem.Str.ofString), L2.defScope s0, fun _ => true, false, false, (([] : List String).map PySem.Str.ofString), fnNames, clNames, csts, frs_⟩
abbrev s1 : PySem.Stmt := topS 15
def c1 : Ctx := ⟨((["point"] : List String).map PySem.Str.ofString), L2.defScope s1, fun _ => true, false, false, (([] : List String).map PySem.Str.ofString), fnNames, clNames, csts, frs_⟩
abbrev s2 : PySem.Stmt := topS 16
def c2 : Ctx := ⟨((["low", "high"] : List String).map PySem.Str.ofString), L2.defScope s2, fun _ => true, false, false, (([] : List String).map PySem.Str.ofString), fnNames, clNames, csts, frs_⟩
abbrev s3 : PySem.Stmt := topS 17
def c3 : Ctx := ⟨((["item", "low", "high", "scale", "year", "cost", "stock"] : List String).map PySem.Str.ofString), L2.defScope s3, fun _ => true, false, false, (([] : List String).map PySem.Str.ofString), fnNames, clNames, csts, frs_⟩
abbrev s4 : PySem.Stmt := topS 18
def c4 : Ctx := ⟨((["item"] : List String).map PySem.Str.ofString), L2.defScope s4, fun _ => true, false, false, (([] : List String).map PySem.Str.ofString), fnNames, clNames, csts, frs_⟩
abbrev s5 : PySem.Stmt := topS 19
def c5 : Ctx := ⟨((["item"] : List String).map PySem.Str.ofString), L2.defScope s5, fun _ => true, false, false, (([] : List String).map PySem.Str.ofString), fnNames, clNames, csts, frs_⟩
abbrev s6 : PySem.Stmt := inCls (topS 20) 0
def c6 : Ctx := ⟨((["self"] : List String).map PySem.Str.ofString), L2.defScope s6, fun _ => true, false, true, ((["roads"] : List String).map PySem.Str.ofString), fnNames, clNames, csts, frs_⟩
abbrev s7 : PySem.Stmt := inCls (topS 20) 1
def c7 : Ctx := ⟨((["self", "number", "word", "name"] : List String).map PySem.Str.ofString), L2.defScope s7, fun _ => true, false, false, (([] : List String).map PySem.Str.ofString), fnNames, clNames, csts, frs_⟩
abbrev s8 : PySem.Stmt := inCls (topS 20) 2
def c8 : Ctx := ⟨((["self", "number", "item", "name"] : List String).map PySem.Str.ofString), L2.defScope s8, fun _ => true, false, false, (([] : List String).map PySem.Str.ofString), fnNames, clNames, csts, frs_⟩
abbrev s9 : PySem.Stmt := inCls (topS 20) 3
def c9 : Ctx := ⟨((["self", "number", "item", "name"] : List String).map PySem.Str.ofString), L2.defScope s9, fun _ => true, false, false, (([] : List String).map PySem.Str.ofString), fnNames, clNames, csts, frs_⟩
abbrev s10 : PySem.Stmt := inCls (topS 20) 4
def c10 : Ctx := ⟨((["self", "number", "item", "one", "other", "ends", "name"] : List String).map PySem.Str.ofString), L2.defScope s10, fun _ => true, false, false, (([] : List String).map PySem.Str.ofString), fnNames, clNames, csts, frs_⟩
abbrev s11 : PySem.Stmt := inCls (topS 20) 5
def c11 : Ctx := ⟨((["self", "number", "item"] : List String).map PySem.Str.ofString), L2.defScope s11, fun _ => true, false, false, (([] : List String).map PySem.Str.ofString), fnNames, clNames, csts, frs_⟩
abbrev s12 : PySem.Stmt := topS 21
def c12 : Ctx := ⟨((["shop", "looker", "number", "item"] : List String).map PySem.Str.ofString), L2.defScope s12, fun _ => true, false, false, (([] : List String).map PySem.Str.ofString), fnNames, clNames, csts, frs_⟩
abbrev s13 : PySem.Stmt := topS 27
def c13 : Ctx := ⟨((["row", "signs", "sign"] : List String).map PySem.Str.ofString), L2.defScope s13, fun _ => true, true, false, (([] : List String).map PySem.Str.ofString), fnNames, clNames, csts, frs_⟩
abbrev s14 : PySem.Stmt := topS 28
def c14 : Ctx := ⟨((["row", "signs"] : List String).map PySem.Str.ofString), L2.defScope s14, fun _ => true, false, false, (([] : List String).map PySem.Str.ofString), fnNames, clNames, csts, frs_⟩
abbrev s15 : PySem.Stmt := topS 29
def c15 : Ctx := ⟨((["row"] : List String).map PySem.Str.ofString), L2.defScope s15, fun _ => true, false, false, (([] : List String).map PySem.Str.ofString), fnNames, clNames, csts, frs_⟩
abbrev s16 : PySem.Stmt := topS 30
def c16 : Ctx := ⟨((["row"] : List String).map PySem.Str.ofString), L2.defScope s16, fun _ => true, false, false, (([] : List String).map PySem.Str.ofString), fnNames, clNames, csts, frs_⟩
abbrev s17 : PySem.Stmt := topS 36
def c17 : Ctx := ⟨((["value"] : List String).map PySem.Str.ofString), L2.defScope s17, fun _ => true, false, false, (([] : List String).map PySem.Str.ofString), fnNames, clNames, csts, frs_⟩
abbrev s18 : PySem.Stmt := topS 37
def c18 : Ctx := ⟨((["value"] : List String).map PySem.Str.ofString), L2.defScope s18, fun _ => true, false, false, (([] : List String).map PySem.Str.ofString), fnNames, clNames, csts, frs_⟩
abbrev s19 : PySem.Stmt := topS 38
def c19 : Ctx := ⟨((["value"] : List String).map PySem.Str.ofString), L2.defScope s19, fun _ => true, false, false, (([] : List String).map PySem.Str.ofString), fnNames, clNames, csts, frs_⟩
abbrev s20 : PySem.Stmt := topS 39
def c20 : Ctx := ⟨((["value"] : List String).map PySem.Str.ofString), L2.defScope s20, fun _ => true, false, false, (([] : List String).map PySem.Str.ofString), fnNames, clNames, csts, frs_⟩
abbrev s21 : PySem.Stmt := topS 40
def c21 : Ctx := ⟨((["value"] : List String).map PySem.Str.ofString), L2.defScope s21, fun _ => true, false, false, (([] : List String).map PySem.Str.ofString), fnNames, clNames, csts, frs_⟩
abbrev s22 : PySem.Stmt := topS 41
def c22 : Ctx := ⟨((["value", "part"] : List String).map PySem.Str.ofString), L2.defScope s22, fun _ => true, true, false, (([] : List String).map PySem.Str.ofString), fnNames, clNames, csts, frs_⟩
abbrev s23 : PySem.Stmt := topS 42
def c23 : Ctx := ⟨((["value", "word", "many"] : List String).map PySem.Str.ofString), L2.defScope s23, fun _ => true, false, false, (([] : List String).map PySem.Str.ofString), fnNames, clNames, csts, frs_⟩
abbrev s24 : PySem.Stmt := topS 43
def c24 : Ctx := ⟨((["value", "part"] : List String).map PySem.Str.ofString), L2.defScope s24, fun _ => true, true, false, (([] : List String).map PySem.Str.ofString), fnNames, clNames, csts, frs_⟩
abbrev s25 : PySem.Stmt := topS 44
def c25 : Ctx := ⟨((["value"] : List String).map PySem.Str.ofString), L2.defScope s25, fun _ => true, false, false, (([] : List String).map PySem.Str.ofString), fnNames, clNames, csts, frs_⟩
abbrev s26 : PySem.Stmt := topS 45
def c26 : Ctx := ⟨((["value"] : List String).map PySem.Str.ofString), L2.defScope s26, fun _ => true, false, false, (([] : List String).map PySem.Str.ofString), fnNames, clNames, csts, frs_⟩
abbrev s27 : PySem.Stmt := topS 46
def c27 : Ctx := ⟨((["value"] : List String).map PySem.Str.ofString), L2.defScope s27, fun _ => true, false, false, (([] : List String).map PySem.Str.ofString), fnNames, clNames, csts, frs_⟩
abbrev s28 : PySem.Stmt := topS 47
def c28 : Ctx := ⟨((["value", "item"] : List String).map PySem.Str.ofString), L2.defScope s28, fun _ => true, true, false, (([] : List String).map PySem.Str.ofString), fnNames, clNames, csts, frs_⟩
abbrev s29 : PySem.Stmt := topS 48
def c29 : Ctx := ⟨((["shop"] : List String).map PySem.Str.ofString), L2.defScope s29, fun _ => true, false, false, (([] : List String).map PySem.Str.ofString), fnNames, clNames, csts, frs_⟩
abbrev s30 : PySem.Stmt := topS 49
def c30 : Ctx := ⟨((["value"] : List String).map PySem.Str.ofString), L2.defScope s30, fun _ => true, false, false, (([] : List String).map PySem.Str.ofString), fnNames, clNames, csts, frs_⟩
abbrev s31 : PySem.Stmt := inCls (topS 51) 0
def c31 : Ctx := ⟨((["self", "shop", "item"] : List String).map PySem.Str.ofString), L2.defScope s31, fun _ => true, false, true, (([] : List String).map PySem.Str.ofString), fnNames, clNames, csts, frs_⟩
abbrev s32 : PySem.Stmt := inCls (topS 51) 1
def c32 : Ctx := ⟨((["self", "one", "other", "kind"] : List String).map PySem.Str.ofString), L2.defScope s32, fun _ => true, false, false, (([] : List String).map PySem.Str.ofString), fnNames, clNames, csts, frs_⟩
abbrev s33 : PySem.Stmt := inCls (topS 51) 2
def c33 : Ctx := ⟨((["self"] : List String).map PySem.Str.ofString), L2.defScope s33, fun _ => true, false, false, (([] : List String).map PySem.Str.ofString), fnNames, clNames, csts, frs_⟩
abbrev s34 : PySem.Stmt := inCls (topS 51) 3
def c34 : Ctx := ⟨((["self", "places", "kind", "place"] : List String).map PySem.Str.ofString), L2.defScope s34, fun _ => true, true, false, (([] : List String).map PySem.Str.ofString), fnNames, clNames, csts, frs_⟩
abbrev s35 : PySem.Stmt := inCls (topS 51) 4
def c35 : Ctx := ⟨((["self", "kind"] : List String).map PySem.Str.ofString), L2.defScope s35, fun _ => true, false, false, (([] : List String).map PySem.Str.ofString), fnNames, clNames, csts, frs_⟩
abbrev s36 : PySem.Stmt := inCls (topS 51) 5
def c36 : Ctx := ⟨((["self", "places", "kind", "place", "road", "other"] : List String).map PySem.Str.ofString), L2.defScope s36, fun _ => true, false, false, (([] : List String).map PySem.Str.ofString), fnNames, clNames, csts, frs_⟩
abbrev s37 : PySem.Stmt := inCls (topS 51) 6
def c37 : Ctx := ⟨((["self", "places", "road", "kind"] : List String).map PySem.Str.ofString), L2.defScope s37, fun _ => true, false, false, (([] : List String).map PySem.Str.ofString), fnNames, clNames, csts, frs_⟩
abbrev s38 : PySem.Stmt := inCls (topS 51) 7
def c38 : Ctx := ⟨((["self", "places"] : List String).map PySem.Str.ofString), L2.defScope s38, fun _ => true, false, false, (([] : List String).map PySem.Str.ofString), fnNames, clNames, csts, frs_⟩
abbrev s39 : PySem.Stmt := inCls (topS 51) 8
def c39 : Ctx := ⟨((["self", "place", "kind", "other"] : List String).map PySem.Str.ofString), L2.defScope s39, fun _ => true, false, false, (([] : List String).map PySem.Str.ofString), fnNames, clNames, csts, frs_⟩
abbrev s40 : PySem.Stmt := inCls (topS 51) 9
def c40 : Ctx := ⟨((["self", "places"] : List String).map PySem.Str.ofString), L2.defScope s40, fun _ => true, false, false, (([] : List String).map PySem.Str.ofString), fnNames, clNames, csts, frs_⟩
abbrev s41 : PySem.Stmt := inCls (topS 51) 10
def c41 : Ctx := ⟨((["self", "places"] : List String).map PySem.Str.ofString), L2.defScope s41, fun _ => true, false, false, (([] : List String).map PySem.Str.ofString), fnNames, clNames, csts, frs_⟩
abbrev s42 : PySem.Stmt := inCls (topS 51) 11
def c42 : Ctx := ⟨((["self", "places"] : List String).map PySem.Str.ofString), L2.defScope s42, fun _ => true, false, false, (([] : List String).map PySem.Str.ofString), fnNames, clNames, csts, frs_⟩
abbrev s43 : PySem.Stmt := topS 53
def c43 : Ctx := ⟨((["ground", "place"] : List String).map PySem.Str.ofString), L2.defScope s43, fun _ => true, false, false, (([] : List String).map PySem.Str.ofString), fnNames, clNames, csts, frs_⟩
abbrev s44 : PySem.Stmt := topS 54
def c44 : Ctx := ⟨((["kinds", "kind"] : List String).map PySem.Str.ofString), L2.defScope s44, fun _ => true, true, false, (([] : List String).map PySem.Str.ofString), fnNames, clNames, csts, frs_⟩
abbrev s45 : PySem.Stmt := topS 55
def c45 : Ctx := ⟨((["shop", "place", "kinds", "ground", "places", "number", "kind", "here"] : List String).map PySem.Str.ofString), L2.defScope s45, fun _ => true, false, false, (([] : List String).map PySem.Str.ofString), fnNames, clNames, csts, frs_⟩
abbrev s46 : PySem.Stmt := topS 57
def c46 : Ctx := ⟨((["script", "cells", "cell", "wide"] : List String).map PySem.Str.ofString), L2.defScope s46, fun _ => true, false, true, (([] : List String).map PySem.Str.ofString), fnNames, clNames, csts, frs_⟩
abbrev s47 : PySem.Stmt := topS 58
def c47 : Ctx := ⟨((["hand", "many", "wide", "digit", "cells", "cell", "twice"] : List String).map PySem.Str.ofString), L2.defScope s47, fun _ => true, false, false, (([] : List String).map PySem.Str.ofString), fnNames, clNames, csts, frs_⟩
abbrev s48 : PySem.Stmt := topS 59
def c48 : Ctx := ⟨((["hand", "row"] : List String).map PySem.Str.ofString), L2.defScope s48, fun _ => true, false, false, (([] : List String).map PySem.Str.ofString), fnNames, clNames, csts, frs_⟩
abbrev s49 : PySem.Stmt := topS 60
def c49 : Ctx := ⟨((["told", "due", "k"] : List String).map PySem.Str.ofString), L2.defScope s49, fun _ => true, false, false, (([] : List String).map PySem.Str.ofString), fnNames, clNames, csts, frs_⟩
abbrev s50 : PySem.Stmt := topS 61
def c50 : Ctx := ⟨((["hand", "many", "heads", "signs", "alike", "head", "front", "back", "out", "k", "name", "turn"] : List String).map PySem.Str.ofString), L2.defScope s50, fun _ => true, false, false, (([] : List String).map PySem.Str.ofString), fnNames, clNames, csts, frs_⟩
abbrev s51 : PySem.Stmt := topS 62
def c51 : Ctx := ⟨((["hand", "many", "low", "wide", "out", "k", "x", "y", "turn"] : List String).map PySem.Str.ofString), L2.defScope s51, fun _ => true, false, false, (([] : List String).map PySem.Str.ofString), fnNames, clNames, csts, frs_⟩
abbrev s52 : PySem.Stmt := topS 63
def c52 : Ctx := ⟨((["hand", "size", "most", "shape", "pairs", "k", "one", "other"] : List String).map PySem.Str.ofString), L2.defScope s52, fun _ => true, false, false, (([] : List String).map PySem.Str.ofString), fnNames, clNames, csts, frs_⟩
abbrev s53 : PySem.Stmt := topS 64
def c53 : Ctx := ⟨((["hand", "places", "roads", "items", "left", "place", "there", "item", "later", "road"] : List String).map PySem.Str.ofString), L2.defScope s53, fun _ => true, false, false, (([] : List String).map PySem.Str.ofString), fnNames, clNames, csts, frs_⟩
abbrev s54 : PySem.Stmt := topS 65
def c54 : Ctx := ⟨((["hand", "names", "most", "places_seen", "roads_seen", "many", "spots", "lands", "k", "roads", "a", "b", "ends", "cost"] : List String).map PySem.Str.ofString), L2.defScope s54, fun _ => true, false, false, (([] : List String).map PySem.Str.ofString), fnNames, clNames, csts, frs_⟩
abbrev s55 : PySem.Stmt := topS 66
def c55 : Ctx := ⟨((["items", "place", "kinds", "rows", "k", "later", "stuck", "here", "ends", "item", "a", "b", "name"] : List String).map PySem.Str.ofString), L2.defScope s55, fun _ => true, false, false, (([] : List String).map PySem.Str.ofString), fnNames, clNames, csts, frs_⟩
abbrev s56 : PySem.Stmt := topS 67
def c56 : Ctx := ⟨((["script", "hand", "kinds", "names", "items", "shop", "row", "k", "name"] : List String).map PySem.Str.ofString), L2.defScope s56, fun _ => true, false, false, (([] : List String).map PySem.Str.ofString), fnNames, clNames, csts, frs_⟩
theorem cb0 : cSs 40 c0 (L2.defBody s0) = some b0 := by kernel_rfl
theorem cb1 : cSs 40 c1 (L2.defBody s1) = some b1 := by kernel_rfl
theorem cb2 : cSs 40 c2 (L2.defBody s2) = some b2 := by kernel_rfl
theorem cb3 : cSs 40 c3 (L2.defBody s3) = some b3 := by kernel_rfl
theorem cb4 : cSs 40 c4 (L2.defBody s4) = some b4 := by kernel_rfl
theorem cb5 : cSs 40 c5 (L2.defBody s5) = some b5 := by kernel_rfl
theorem cb6 : cSs 40 c6 (L2.defBody s6) = some b6 := by kernel_rfl
theorem cb7 : cSs 40 c7 (L2.defBody s7) = some b7 := by kernel_rfl
theorem cb8 : cSs 40 c8 (L2.defBody s8) = some b8 := by kernel_rfl
theorem cb9 : cSs 40 c9 (L2.defBody s9) = some b9 := by kernel_rfl
theorem cb10 : cSs 40 c10 (L2.defBody s10) = some b10 := by kernel_rfl
theorem cb11 : cSs 40 c11 (L2.defBody s11) = some b11 := by kernel_rfl
theorem cb12 : cSs 40 c12 (L2.defBody s12) = some b12 := by kernel_rfl
theorem cb13 : cSs 40 c13 (L2.defBody s13) = some b13 := by kernel_rfl
theorem cb14 : cSs 40 c14 (L2.defBody s14) = some b14 := by kernel_rfl
theorem cb15 : cSs 40 c15 (L2.defBody s15) = some b15 := by kernel_rfl
theorem cb16 : cSs 40 c16 (L2.defBody s16) = some b16 := by kernel_rfl
theorem cb17 : cSs 40 c17 (L2.defBody s17) = some b17 := by kernel_rfl
theorem cb18 : cSs 40 c18 (L2.defBody s18) = some b18 := by kernel_rfl
theorem cb19 : cSs 40 c19 (L2.defBody s19) = some b19 := by kernel_rfl
theorem cb20 : cSs 40 c20 (L2.defBody s20) = some b20 := by kernel_rfl
theorem cb21 : cSs 40 c21 (L2.defBody s21) = some b21 := by kernel_rfl
theorem cb22 : cSs 40 c22 (L2.defBody s22) = some b22 := by kernel_rfl
theorem cb23 : cSs 40 c23 (L2.defBody s23) = some b23 := by kernel_rfl
theorem cb24 : cSs 40 c24 (L2.defBody s24) = some b24 := by kernel_rfl
theorem cb25 : cSs 40 c25 (L2.defBody s25) = some b25 := by kernel_rfl
theorem cb26 : cSs 40 c26 (L2.defBody s26) = some b26 := by kernel_rfl
theorem cb27 : cSs 40 c27 (L2.defBody s27) = some b27 := by kernel_rfl
theorem cb28 : cSs 40 c28 (L2.defBody s28) = some b28 := by kernel_rfl
theorem cb29 : cSs 40 c29 (L2.defBody s29) = some b29 := by kernel_rfl
theorem cb30 : cSs 40 c30 (L2.defBody s30) = some b30 := by kernel_rfl
theorem cb31 : cSs 40 c31 (L2.defBody s31) = some b31 := by kernel_rfl
theorem cb32 : cSs 40 c32 (L2.defBody s32) = some b32 := by kernel_rfl
theorem cb33 : cSs 40 c33 (L2.defBody s33) = some b33 := by kernel_rfl
theorem cb34 : cSs 40 c34 (L2.defBody s34) = some b34 := by kernel_rfl
theorem cb35 : cSs 40 c35 (L2.defBody s35) = some b35 := by kernel_rfl
theorem cb36 : cSs 40 c36 (L2.defBody s36) = some b36 := by kernel_rfl
theorem cb37 : cSs 40 c37 (L2.defBody s37) = some b37 := by kernel_rfl
theorem cb38 : cSs 40 c38 (L2.defBody s38) = some b38 := by kernel_rfl
theorem cb39 : cSs 40 c39 (L2.defBody s39) = some b39 := by kernel_rfl
theorem cb40 : cSs 40 c40 (L2.defBody s40) = some b40 := by kernel_rfl
theorem cb41 : cSs 40 c41 (L2.defBody s41) = some b41 := by kernel_rfl
theorem cb42 : cSs 40 c42 (L2.defBody s42) = some b42 := by kernel_rfl
theorem cb43 : cSs 40 c43 (L2.defBody s43) = some b43 := by kernel_rfl
theorem cb44 : cSs 40 c44 (L2.defBody s44) = some b44 := by kernel_rfl
theorem cb45 : cSs 40 c45 (L2.defBody s45) = some b45 := by kernel_rfl
theorem cb46 : cSs 40 c46 (L2.defBody s46) = some b46 := by kernel_rfl
theorem cb47 : cSs 40 c47 (L2.defBody s47) = some b47 := by kernel_rfl
theorem cb48 : cSs 40 c48 (L2.defBody s48) = some b48 := by kernel_rfl
theorem cb49 : cSs 40 c49 (L2.defBody s49) = some b49 := by kernel_rfl
theorem cb50 : cSs 40 c50 (L2.defBody s50) = some b50 := by kernel_rfl
theorem cb51 : cSs 40 c51 (L2.defBody s51) = some b51 := by kernel_rfl
theorem cb52 : cSs 40 c52 (L2.defBody s52) = some b52 := by kernel_rfl
theorem cb53 : cSs 40 c53 (L2.defBody s53) = some b53 := by kernel_rfl
theorem cb54 : cSs 40 c54 (L2.defBody s54) = some b54 := by kernel_rfl
theorem cb55 : cSs 40 c55 (L2.defBody s55) = some b55 := by kernel_rfl
theorem cb56 : cSs 40 c56 (L2.defBody s56) = some b56 := by kernel_rfl
end P76
end
section
set_option maxRecDepth 100000
set_option linter.all false
namespace P76
open Pv
def w0 : Rw := ⟨⟨("_wall", none), "_wall", "_wall", L2.defArgs s0, L2.defBody s0, L2.defScope s0, [], []⟩, c0, d0, ((["k"] : List String).map PySem.Str.ofString)⟩
def w1 : Rw := ⟨⟨("on_land", none), "on_land", "on_land", L2.defArgs s1, L2.defBody s1, L2.defScope s1, [], []⟩, c1, d1, ((["point"] : List String).map PySem.Str.ofString)⟩
def w2 : Rw := ⟨⟨("good_corners", none), "good_corners", "good_corners", L2.defArgs s2, L2.defBody s2, L2.defScope s2, [], []⟩, c2, d2, ((["low", "high"] : List String).map PySem.Str.ofString)⟩
def w3 : Rw := ⟨⟨("good_sheet", none), "good_sheet", "good_sheet", L2.defArgs s3, L2.defBody s3, L2.defScope s3, [], []⟩, c3, d3, ((["item"] : List String).map PySem.Str.ofString)⟩
def w4 : Rw := ⟨⟨("good_road", none), "good_road", "good_road", L2.defArgs s4, L2.defBody s4, L2.defScope s4, [], []⟩, c4, d4, ((["item"] : List String).map PySem.Str.ofString)⟩
def w5 : Rw := ⟨⟨("both_ends", none), "both_ends", "both_ends", L2.defArgs s5, L2.defBody s5, L2.defScope s5, [], []⟩, c5, d5, ((["item"] : List String).map PySem.Str.ofString)⟩
def w6 : Rw := ⟨⟨("Looker", some ("__init__" : PySem.Str)), "__init__", "Looker.__init__", L2.defArgs s6, L2.defBody s6, L2.defScope s6, [], []⟩, c6, d6, ((["self"] : List String).map PySem.Str.ofString)⟩
def w7 : Rw := ⟨⟨("Looker", some ("tell" : PySem.Str)), "tell", "Looker.tell", L2.defArgs s7, L2.defBody s7, L2.defScope s7, [], []⟩, c7, d7, ((["self", "number", "word", "name"] : List String).map PySem.Str.ofString)⟩
def w8 : Rw := ⟨⟨("Looker", some ("look_sheet" : PySem.Str)), "look_sheet", "Looker.look_sheet", L2.defArgs s8, L2.defBody s8, L2.defScope s8, [], []⟩, c8, d8, ((["self", "number", "item"] : List String).map PySem.Str.ofString)⟩
def w9 : Rw := ⟨⟨("Looker", some ("look_place" : PySem.Str)), "look_place", "Looker.look_place", L2.defArgs s9, L2.defBody s9, L2.defScope s9, [], []⟩, c9, d9, ((["self", "number", "item"] : List String).map PySem.Str.ofString)⟩
def w10 : Rw := ⟨⟨("Looker", some ("look_road" : PySem.Str)), "look_road", "Looker.look_road", L2.defArgs s10, L2.defBody s10, L2.defScope s10, [], []⟩, c10, d10, ((["self", "number", "item"] : List String).map PySem.Str.ofString)⟩
def w11 : Rw := ⟨⟨("Looker", some ("look" : PySem.Str)), "look", "Looker.look", L2.defArgs s11, L2.defBody s11, L2.defScope s11, [], []⟩, c11, d11, ((["self", "number", "item"] : List String).map PySem.Str.ofString)⟩
def w12 : Rw := ⟨⟨("find_faults", none), "find_faults", "find_faults", L2.defArgs s12, L2.defBody s12, L2.defScope s12, [], []⟩, c12, d12, ((["shop"] : List String).map PySem.Str.ofString)⟩
def w13 : Rw := ⟨⟨("only_of", none), "only_of", "only_of", L2.defArgs s13, L2.defBody s13, L2.defScope s13, [], []⟩, c13, d13, ((["row", "signs"] : List String).map PySem.Str.ofString)⟩
def w14 : Rw := ⟨⟨("begins_in", none), "begins_in", "begins_in", L2.defArgs s14, L2.defBody s14, L2.defScope s14, [], []⟩, c14, d14, ((["row", "signs"] : List String).map PySem.Str.ofString)⟩
def w15 : Rw := ⟨⟨("is_name_row", none), "is_name_row", "is_name_row", L2.defArgs s15, L2.defBody s15, L2.defScope s15, [], []⟩, c15, d15, ((["row"] : List String).map PySem.Str.ofString)⟩
def w16 : Rw := ⟨⟨("is_great_row", none), "is_great_row", "is_great_row", L2.defArgs s16, L2.defBody s16, L2.defScope s16, [], []⟩, c16, d16, ((["row"] : List String).map PySem.Str.ofString)⟩
def w17 : Rw := ⟨⟨("is_int", none), "is_int", "is_int", L2.defArgs s17, L2.defBody s17, L2.defScope s17, [], []⟩, c17, d17, ((["value"] : List String).map PySem.Str.ofString)⟩
def w18 : Rw := ⟨⟨("is_name", none), "is_name", "is_name", L2.defArgs s18, L2.defBody s18, L2.defScope s18, [], []⟩, c18, d18, ((["value"] : List String).map PySem.Str.ofString)⟩
def w19 : Rw := ⟨⟨("is_great", none), "is_great", "is_great", L2.defArgs s19, L2.defBody s19, L2.defScope s19, [], []⟩, c19, d19, ((["value"] : List String).map PySem.Str.ofString)⟩
def w20 : Rw := ⟨⟨("is_kind", none), "is_kind", "is_kind", L2.defArgs s20, L2.defBody s20, L2.defScope s20, [], []⟩, c20, d20, ((["value"] : List String).map PySem.Str.ofString)⟩
def w21 : Rw := ⟨⟨("is_number", none), "is_number", "is_number", L2.defArgs s21, L2.defBody s21, L2.defScope s21, [], []⟩, c21, d21, ((["value"] : List String).map PySem.Str.ofString)⟩
def w22 : Rw := ⟨⟨("is_spot", none), "is_spot", "is_spot", L2.defArgs s22, L2.defBody s22, L2.defScope s22, [], []⟩, c22, d22, ((["value"] : List String).map PySem.Str.ofString)⟩
def w23 : Rw := ⟨⟨("begins_with", none), "begins_with", "begins_with", L2.defArgs s23, L2.defBody s23, L2.defScope s23, [], []⟩, c23, d23, ((["value", "word", "many"] : List String).map PySem.Str.ofString)⟩
def w24 : Rw := ⟨⟨("is_sheet", none), "is_sheet", "is_sheet", L2.defArgs s24, L2.defBody s24, L2.defScope s24, [], []⟩, c24, d24, ((["value"] : List String).map PySem.Str.ofString)⟩
def w25 : Rw := ⟨⟨("is_place", none), "is_place", "is_place", L2.defArgs s25, L2.defBody s25, L2.defScope s25, [], []⟩, c25, d25, ((["value"] : List String).map PySem.Str.ofString)⟩
def w26 : Rw := ⟨⟨("is_road", none), "is_road", "is_road", L2.defArgs s26, L2.defBody s26, L2.defScope s26, [], []⟩, c26, d26, ((["value"] : List String).map PySem.Str.ofString)⟩
def w27 : Rw := ⟨⟨("is_item", none), "is_item", "is_item", L2.defArgs s27, L2.defBody s27, L2.defScope s27, [], []⟩, c27, d27, ((["value"] : List String).map PySem.Str.ofString)⟩
def w28 : Rw := ⟨⟨("check_form", none), "check_form", "check_form", L2.defArgs s28, L2.defBody s28, L2.defScope s28, [], []⟩, c28, d28, ((["value"] : List String).map PySem.Str.ofString)⟩
def w29 : Rw := ⟨⟨("mistakes", none), "mistakes", "mistakes", L2.defArgs s29, L2.defBody s29, L2.defScope s29, [], []⟩, c29, d29, ((["shop"] : List String).map PySem.Str.ofString)⟩
def w30 : Rw := ⟨⟨("check_shop", none), "check_shop", "check_shop", L2.defArgs s30, L2.defBody s30, L2.defScope s30, [], []⟩, c30, d30, ((["value"] : List String).map PySem.Str.ofString)⟩
def w31 : Rw := ⟨⟨("Ground", some ("__init__" : PySem.Str)), "__init__", "Ground.__init__", L2.defArgs s31, L2.defBody s31, L2.defScope s31, [], []⟩, c31, d31, ((["self", "shop"] : List String).map PySem.Str.ofString)⟩
def w32 : Rw := ⟨⟨("Ground", some ("add_road" : PySem.Str)), "add_road", "Ground.add_road", L2.defArgs s32, L2.defBody s32, L2.defScope s32, [], []⟩, c32, d32, ((["self", "one", "other", "kind"] : List String).map PySem.Str.ofString)⟩
def w33 : Rw := ⟨⟨("Ground", some ("all_places" : PySem.Str)), "all_places", "Ground.all_places", L2.defArgs s33, L2.defBody s33, L2.defScope s33, [], []⟩, c33, d33, ((["self"] : List String).map PySem.Str.ofString)⟩
def w34 : Rw := ⟨⟨("Ground", some ("seen" : PySem.Str)), "seen", "Ground.seen", L2.defArgs s34, L2.defBody s34, L2.defScope s34, [], []⟩, c34, d34, ((["self", "places", "kind"] : List String).map PySem.Str.ofString)⟩
def w35 : Rw := ⟨⟨("Ground", some ("begun" : PySem.Str)), "begun", "Ground.begun", L2.defArgs s35, L2.defBody s35, L2.defScope s35, [], []⟩, c35, d35, ((["self", "kind"] : List String).map PySem.Str.ofString)⟩
def w36 : Rw := ⟨⟨("Ground", some ("along" : PySem.Str)), "along", "Ground.along", L2.defArgs s36, L2.defBody s36, L2.defScope s36, [], []⟩, c36, d36, ((["self", "places", "kind"] : List String).map PySem.Str.ofString)⟩
def w37 : Rw := ⟨⟨("Ground", some ("gone" : PySem.Str)), "gone", "Ground.gone", L2.defArgs s37, L2.defBody s37, L2.defScope s37, [], []⟩, c37, d37, ((["self", "places", "road", "kind"] : List String).map PySem.Str.ofString)⟩
def w38 : Rw := ⟨⟨("Ground", some ("place_kinds" : PySem.Str)), "place_kinds", "Ground.place_kinds", L2.defArgs s38, L2.defBody s38, L2.defScope s38, [], []⟩, c38, d38, ((["self", "places"] : List String).map PySem.Str.ofString)⟩
def w39 : Rw := ⟨⟨("Ground", some ("kinds_from" : PySem.Str)), "kinds_from", "Ground.kinds_from", L2.defArgs s39, L2.defBody s39, L2.defScope s39, [], []⟩, c39, d39, ((["self", "place"] : List String).map PySem.Str.ofString)⟩
def w40 : Rw := ⟨⟨("Ground", some ("road_kinds" : PySem.Str)), "road_kinds", "Ground.road_kinds", L2.defArgs s40, L2.defBody s40, L2.defScope s40, [], []⟩, c40, d40, ((["self", "places"] : List String).map PySem.Str.ofString)⟩
def w41 : Rw := ⟨⟨("Ground", some ("common_kinds" : PySem.Str)), "common_kinds", "Ground.common_kinds", L2.defArgs s41, L2.defBody s41, L2.defScope s41, [], []⟩, c41, d41, ((["self", "places"] : List String).map PySem.Str.ofString)⟩
def w42 : Rw := ⟨⟨("Ground", some ("parted" : PySem.Str)), "parted", "Ground.parted", L2.defArgs s42, L2.defBody s42, L2.defScope s42, [], []⟩, c42, d42, ((["self", "places"] : List String).map PySem.Str.ofString)⟩
def w43 : Rw := ⟨⟨("check_place", none), "check_place", "check_place", L2.defArgs s43, L2.defBody s43, L2.defScope s43, [], []⟩, c43, d43, ((["ground", "place"] : List String).map PySem.Str.ofString)⟩
def w44 : Rw := ⟨⟨("check_kinds", none), "check_kinds", "check_kinds", L2.defArgs s44, L2.defBody s44, L2.defScope s44, [], []⟩, c44, d44, ((["kinds"] : List String).map PySem.Str.ofString)⟩
def w45 : Rw := ⟨⟨("led_by", none), "led_by", "led_by", L2.defArgs s45, L2.defBody s45, L2.defScope s45, [], []⟩, c45, d45, ((["shop", "place", "kinds"] : List String).map PySem.Str.ofString)⟩
def w46 : Rw := ⟨⟨("_law_hand", none), "_law_hand", "_law_hand", L2.defArgs s46, L2.defBody s46, L2.defScope s46, [], []⟩, c46, d46, ((["script"] : List String).map PySem.Str.ofString)⟩
def w47 : Rw := ⟨⟨("_law_draw", none), "_law_draw", "_law_draw", L2.defArgs s47, L2.defBody s47, L2.defScope s47, [], []⟩, c47, d47, ((["hand", "many"] : List String).map PySem.Str.ofString)⟩
def w48 : Rw := ⟨⟨("_law_pick", none), "_law_pick", "_law_pick", L2.defArgs s48, L2.defBody s48, L2.defScope s48, [], []⟩, c48, d48, ((["hand", "row"] : List String).map PySem.Str.ofString)⟩
def w49 : Rw := ⟨⟨("_law_same", none), "_law_same", "_law_same", L2.defArgs s49, L2.defBody s49, L2.defScope s49, [], []⟩, c49, d49, ((["told", "due"] : List String).map PySem.Str.ofString)⟩
def w50 : Rw := ⟨⟨("_law_names", none), "_law_names", "_law_names", L2.defArgs s50, L2.defBody s50, L2.defScope s50, [], []⟩, c50, d50, ((["hand", "many", "heads"] : List String).map PySem.Str.ofString)⟩
def w51 : Rw := ⟨⟨("_law_points", none), "_law_points", "_law_points", L2.defArgs s51, L2.defBody s51, L2.defScope s51, [], []⟩, c51, d51, ((["hand", "many", "low", "wide"] : List String).map PySem.Str.ofString)⟩
def w52 : Rw := ⟨⟨("_law_pairs", none), "_law_pairs", "_law_pairs", L2.defArgs s52, L2.defBody s52, L2.defScope s52, [], []⟩, c52, d52, ((["hand", "size", "most"] : List String).map PySem.Str.ofString)⟩
def w53 : Rw := ⟨⟨("_law_mixed", none), "_law_mixed", "_law_mixed", L2.defArgs s53, L2.defBody s53, L2.defScope s53, [], []⟩, c53, d53, ((["hand", "places", "roads"] : List String).map PySem.Str.ofString)⟩
def w54 : Rw := ⟨⟨("_law_land", none), "_law_land", "_law_land", L2.defArgs s54, L2.defBody s54, L2.defScope s54, [], []⟩, c54, d54, ((["hand", "names", "most", "places_seen", "roads_seen"] : List String).map PySem.Str.ofString)⟩
def w55 : Rw := ⟨⟨("_law_ways", none), "_law_ways", "_law_ways", L2.defArgs s55, L2.defBody s55, L2.defScope s55, [], []⟩, c55, d55, ((["items", "place", "kinds"] : List String).map PySem.Str.ofString)⟩
def w56 : Rw := ⟨⟨("law", none), "law", "law", L2.defArgs s56, L2.defBody s56, L2.defScope s56, [], []⟩, c56, d56, ((["script"] : List String).map PySem.Str.ofString)⟩
def rows_0 : List Rw := [w0, w1, w2, w3, w4, w5, w6, w7, w8, w9, w10, w11, w12, w13, w14, w15, w16, w17, w18, w19, w20, w21, w22, w23, w24, w25, w26, w27, w28, w29, w30, w31, w32, w33, w34, w35, w36, w37, w38, w39]
def rows_1 : List Rw := [w40, w41, w42, w43, w44, w45, w46, w47, w48, w49, w50, w51, w52, w53, w54, w55, w56]
def rows : List Rw := rows_0 ++ rows_1
def fa_0 : List He.Fa := [.glo "_wall", .glo "on_land", .glo "good_corners", .glo "good_sheet", .glo "good_road", .glo "both_ends", .glo "find_faults", .glo "only_of", .glo "begins_in", .glo "is_name_row", .glo "is_great_row", .glo "is_int", .glo "is_name", .glo "is_great", .glo "is_kind", .glo "is_number", .glo "is_spot", .glo "begins_with", .glo "is_sheet", .glo "is_place", .glo "is_road", .glo "is_item", .glo "check_form", .glo "mistakes", .glo "check_shop", .glo "check_place", .glo "check_kinds", .glo "led_by", .glo "_law_hand", .glo "_law_draw", .glo "_law_pick", .glo "_law_same", .glo "_law_names", .glo "_law_points", .glo "_law_pairs", .glo "_law_mixed", .glo "_law_land", .glo "_law_ways", .glo "law", .glo "MapError"]
def fa_1 : List He.Fa := [.glo "BadShop", .glo "BadName", .glo "BadKinds", .glo "Looker", .glo "Ground", .free "len", .free "int", .free "abs", .free "max", .free "min", .free "tuple", .free "str", .free "isinstance", .free "bool", .free "list", .free "all", .free "any", .free "sorted", .free "set", .free "range", .free "enumerate", .cls "Looker", .mkr "Looker", .noat "Looker" "found", .noat "Looker" "places", .noat "Looker" "roads", .noat "Looker" "sheets", .cls "Ground", .mkr "Ground", .noat "Ground" "kinds", .noat "Ground" "roads", .meth "Looker" "__init__", .meth "Looker" "tell", .meth "Looker" "look_sheet", .meth "Looker" "look_place", .meth "Looker" "look_road", .meth "Looker" "look", .meth "Ground" "__init__", .meth "Ground" "add_road", .meth "Ground" "all_places"]
def fa_2 : List He.Fa := [.meth "Ground" "seen", .meth "Ground" "begun", .meth "Ground" "along", .meth "Ground" "gone", .meth "Ground" "place_kinds", .meth "Ground" "kinds_from", .meth "Ground" "road_kinds", .meth "Ground" "common_kinds", .meth "Ground" "parted", .int "MOST_SHEETS" 12, .int "MOST_PLACES" 16, .int "MOST_ROADS" 40, .int "FARTHEST" 999, .int "HIGHEST_SCALE" 99, .int "LATEST_YEAR" 9999, .int "HIGHEST_COST" 999, .int "FULLEST_STOCK" 99, .str "SMALL" "abcdefghijklmnopqrstuvwxyz", .str "GREAT" "ABCDEFGHIJKLMNOPQRSTUVWXYZ", .str "ROW_SIGNS" "abcdefghijklmnopqrstuvwxyzABCDEFGHIJKLMNOPQRSTUVWXYZ0123456789_", .glo "WORDS", .int "GREATEST" 999999, .int "SHEET_PARTS" 8, .int "PLACE_PARTS" 4, .int "ROAD_PARTS" 5]
def fa : List He.Fa := fa_0 ++ fa_1 ++ fa_2
def tf : List He.Defn := [("only_of", none), ("is_spot", none), ("is_sheet", none), ("check_form", none), ("Ground", some ("seen" : PySem.Str)), ("check_kinds", none)]
def LB : Ctx := ⟨[], L2.defScope s0, fun _ => true, false, false, [], fnNames, clNames, csts, frs_⟩
def T0 : Pv.LT := ⟨rows, LB, fa, tf, pg⟩
def loose_0 : List PySem.Str := ((["_wall", "__name__", "MapError", "BadShop", "BadName", "BadKinds", "MOST_SHEETS", "MOST_PLACES", "MOST_ROADS", "FARTHEST", "HIGHEST_SCALE", "LATEST_YEAR", "HIGHEST_COST", "FULLEST_STOCK", "on_land", "good_corners", "good_sheet", "good_road", "both_ends", "Looker", "find_faults", "SMALL", "GREAT", "ROW_SIGNS", "WORDS", "only_of", "begins_in", "is_name_row", "is_great_row", "GREATEST", "SHEET_PARTS", "PLACE_PARTS", "ROAD_PARTS", "is_int", "is_name", "is_great", "is_kind", "is_number", "is_spot", "begins_with"] : List String).map PySem.Str.ofString)
def loose_1 : List PySem.Str := ((["is_sheet", "is_place", "is_road", "is_item", "check_form", "mistakes", "check_shop", "Ground", "check_place", "check_kinds", "led_by", "_law_hand", "_law_draw", "_law_pick", "_law_same", "_law_names", "_law_points", "_law_pairs", "_law_mixed", "_law_land", "_law_ways"] : List String).map PySem.Str.ofString)
def loose : List PySem.Str := loose_0 ++ loose_1
def lawAt : Nat := 67
end P76
end
section
set_option Elab.async false
set_option maxRecDepth 100000
set_option linter.all false
set_option maxHeartbeats 4000000
namespace P76
open Pv
def faC : He.Fa → Nat × PySem.Str × PySem.Str × Int × Bool × Option PySem.Str
  | .glo x => (0, x, "", 0, false, none)
  | .free x => (1, x, "", 0, false, none)
  | .int x i => (2, x, "", i, false, none)
  | .str x z => (3, x, z, 0, false, none)
  | .cls x => (4, x, "", 0, false, none)
  | .noat x f => (5, x, f, 0, false, none)
  | .meth x f => (6, x, f, 0, false, none)
  | .mkr x => (7, x, "", 0, false, none)
  | .exc x => (8, x, "", 0, false, none)
  | .exm x y b => (9, x, y, 0, b, none)
  | .keep x => (10, x, "", 0, false, none)
  | .code p q => (11, p.1, q, 0, false, p.2)
theorem faC_inj {a b : He.Fa} (h : faC a = faC b) : a = b := by
  cases a <;> cases b <;> simp [faC] at h <;> simp [h]
  exact Prod.ext h.1 h.2.2
instance : DecidableEq He.Fa := fun a b => decidable_of_iff (faC a = faC b) ⟨faC_inj, fun h => h ▸ rfl⟩
theorem all_nil {α : Type} {p : α → Prop} : ∀ x ∈ ([] : List α), p x := fun _ h => absurd h (List.not_mem_nil)
theorem all_cons {α : Type} {p : α → Prop} {a : α} {l : List α} (h : p a) (t : ∀ x ∈ l, p x) : ∀ x ∈ a :: l, p x := fun x hx => (List.mem_cons.mp hx).elim (fun e => e ▸ h) (t x)
theorem all_app {α : Type} {p : α → Prop} {l m : List α} (h : ∀ x ∈ l, p x) (t : ∀ x ∈ m, p x) : ∀ x ∈ l ++ m, p x := fun x hx => (List.mem_append.mp hx).elim (h x) (t x)
theorem ok0 : RwOk T0 w0 := ⟨⟨rfl, rfl, rfl, by decide +kernel, rfl, by decide +kernel, by decide +kernel⟩, rfl, ⟨40, cb0⟩, ⟨rfl, rfl, rfl, rfl⟩, rfl, rfl, rfl, rfl, fun _ _ _ _ _ _ us hl => (match us, hl with | [_], _ => rfl), by decide +kernel⟩
theorem ok1 : RwOk T0 w1 := ⟨⟨rfl, rfl, rfl, by decide +kernel, rfl, by decide +kernel, by decide +kernel⟩, rfl, ⟨40, cb1⟩, ⟨rfl, rfl, rfl, rfl⟩, rfl, rfl, rfl, rfl, fun _ _ _ _ _ _ us hl => (match us, hl with | [_], _ => rfl), by decide +kernel⟩
theorem ok2 : RwOk T0 w2 := ⟨⟨rfl, rfl, rfl, by decide +kernel, rfl, by decide +kernel, by decide +kernel⟩, rfl, ⟨40, cb2⟩, ⟨rfl, rfl, rfl, rfl⟩, rfl, rfl, rfl, rfl, fun _ _ _ _ _ _ us hl => (match us, hl with | [_, _], _ => rfl), by decide +kernel⟩
theorem ok3 : RwOk T0 w3 := ⟨⟨rfl, rfl, rfl, by decide +kernel, rfl, by decide +kernel, by decide +kernel⟩, rfl, ⟨40, cb3⟩, ⟨rfl, rfl, rfl, rfl⟩, rfl, rfl, rfl, rfl, fun _ _ _ _ _ _ us hl => (match us, hl with | [_], _ => rfl), by decide +kernel⟩
theorem ok4 : RwOk T0 w4 := ⟨⟨rfl, rfl, rfl, by decide +kernel, rfl, by decide +kernel, by decide +kernel⟩, rfl, ⟨40, cb4⟩, ⟨rfl, rfl, rfl, rfl⟩, rfl, rfl, rfl, rfl, fun _ _ _ _ _ _ us hl => (match us, hl with | [_], _ => rfl), by decide +kernel⟩
theorem ok5 : RwOk T0 w5 := ⟨⟨rfl, rfl, rfl, by decide +kernel, rfl, by decide +kernel, by decide +kernel⟩, rfl, ⟨40, cb5⟩, ⟨rfl, rfl, rfl, rfl⟩, rfl, rfl, rfl, rfl, fun _ _ _ _ _ _ us hl => (match us, hl with | [_], _ => rfl), by decide +kernel⟩
theorem ok6 : RwOk T0 w6 := ⟨⟨rfl, rfl, rfl, by decide +kernel, rfl, by decide +kernel, by decide +kernel⟩, rfl, ⟨40, cb6⟩, ⟨rfl, rfl, rfl, rfl⟩, rfl, rfl, rfl, rfl, fun _ _ _ _ _ _ us hl => (match us, hl with | [_], _ => rfl), by decide +kernel⟩
theorem ok7 : RwOk T0 w7 := ⟨⟨rfl, rfl, rfl, by decide +kernel, rfl, by decide +kernel, by decide +kernel⟩, rfl, ⟨40, cb7⟩, ⟨rfl, rfl, rfl, rfl⟩, rfl, rfl, rfl, rfl, fun _ _ _ _ _ _ us hl => (match us, hl with | [_, _, _, _], _ => rfl), by decide +kernel⟩
theorem ok8 : RwOk T0 w8 := ⟨⟨rfl, rfl, rfl, by decide +kernel, rfl, by decide +kernel, by decide +kernel⟩, rfl, ⟨40, cb8⟩, ⟨rfl, rfl, rfl, rfl⟩, rfl, rfl, rfl, rfl, fun _ _ _ _ _ _ us hl => (match us, hl with | [_, _, _], _ => rfl), by decide +kernel⟩
theorem ok9 : RwOk T0 w9 := ⟨⟨rfl, rfl, rfl, by decide +kernel, rfl, by decide +kernel, by decide +kernel⟩, rfl, ⟨40, cb9⟩, ⟨rfl, rfl, rfl, rfl⟩, rfl, rfl, rfl, rfl, fun _ _ _ _ _ _ us hl => (match us, hl with | [_, _, _], _ => rfl), by decide +kernel⟩
theorem ok10 : RwOk T0 w10 := ⟨⟨rfl, rfl, rfl, by decide +kernel, rfl, by decide +kernel, by decide +kernel⟩, rfl, ⟨40, cb10⟩, ⟨rfl, rfl, rfl, rfl⟩, rfl, rfl, rfl, rfl, fun _ _ _ _ _ _ us hl => (match us, hl with | [_, _, _], _ => rfl), by decide +kernel⟩
theorem ok11 : RwOk T0 w11 := ⟨⟨rfl, rfl, rfl, by decide +kernel, rfl, by decide +kernel, by decide +kernel⟩, rfl, ⟨40, cb11⟩, ⟨rfl, rfl, rfl, rfl⟩, rfl, rfl, rfl, rfl, fun _ _ _ _ _ _ us hl => (match us, hl with | [_, _, _], _ => rfl), by decide +kernel⟩
theorem ok12 : RwOk T0 w12 := ⟨⟨rfl, rfl, rfl, by decide +kernel, rfl, by decide +kernel, by decide +kernel⟩, rfl, ⟨40, cb12⟩, ⟨rfl, rfl, rfl, rfl⟩, rfl, rfl, rfl, rfl, fun _ _ _ _ _ _ us hl => (match us, hl with | [_], _ => rfl), by decide +kernel⟩
theorem ok13 : RwOk T0 w13 := ⟨⟨rfl, rfl, rfl, by decide +kernel, rfl, by decide +kernel, by decide +kernel⟩, rfl, ⟨40, cb13⟩, ⟨rfl, rfl, rfl, rfl⟩, rfl, rfl, rfl, rfl, fun _ _ _ _ _ _ us hl => (match us, hl with | [_, _], _ => rfl), by decide +kernel⟩
theorem ok14 : RwOk T0 w14 := ⟨⟨rfl, rfl, rfl, by decide +kernel, rfl, by decide +kernel, by decide +kernel⟩, rfl, ⟨40, cb14⟩, ⟨rfl, rfl, rfl, rfl⟩, rfl, rfl, rfl, rfl, fun _ _ _ _ _ _ us hl => (match us, hl with | [_, _], _ => rfl), by decide +kernel⟩
theorem ok15 : RwOk T0 w15 := ⟨⟨rfl, rfl, rfl, by decide +kernel, rfl, by decide +kernel, by decide +kernel⟩, rfl, ⟨40, cb15⟩, ⟨rfl, rfl, rfl, rfl⟩, rfl, rfl, rfl, rfl, fun _ _ _ _ _ _ us hl => (match us, hl with | [_], _ => rfl), by decide +kernel⟩
theorem ok16 : RwOk T0 w16 := ⟨⟨rfl, rfl, rfl, by decide +kernel, rfl, by decide +kernel, by decide +kernel⟩, rfl, ⟨40, cb16⟩, ⟨rfl, rfl, rfl, rfl⟩, rfl, rfl, rfl, rfl, fun _ _ _ _ _ _ us hl => (match us, hl with | [_], _ => rfl), by decide +kernel⟩
theorem ok17 : RwOk T0 w17 := ⟨⟨rfl, rfl, rfl, by decide +kernel, rfl, by decide +kernel, by decide +kernel⟩, rfl, ⟨40, cb17⟩, ⟨rfl, rfl, rfl, rfl⟩, rfl, rfl, rfl, rfl, fun _ _ _ _ _ _ us hl => (match us, hl with | [_], _ => rfl), by decide +kernel⟩
theorem ok18 : RwOk T0 w18 := ⟨⟨rfl, rfl, rfl, by decide +kernel, rfl, by decide +kernel, by decide +kernel⟩, rfl, ⟨40, cb18⟩, ⟨rfl, rfl, rfl, rfl⟩, rfl, rfl, rfl, rfl, fun _ _ _ _ _ _ us hl => (match us, hl with | [_], _ => rfl), by decide +kernel⟩
theorem ok19 : RwOk T0 w19 := ⟨⟨rfl, rfl, rfl, by decide +kernel, rfl, by decide +kernel, by decide +kernel⟩, rfl, ⟨40, cb19⟩, ⟨rfl, rfl, rfl, rfl⟩, rfl, rfl, rfl, rfl, fun _ _ _ _ _ _ us hl => (match us, hl with | [_], _ => rfl), by decide +kernel⟩
theorem ok20 : RwOk T0 w20 := ⟨⟨rfl, rfl, rfl, by decide +kernel, rfl, by decide +kernel, by decide +kernel⟩, rfl, ⟨40, cb20⟩, ⟨rfl, rfl, rfl, rfl⟩, rfl, rfl, rfl, rfl, fun _ _ _ _ _ _ us hl => (match us, hl with | [_], _ => rfl), by decide +kernel⟩
theorem ok21 : RwOk T0 w21 := ⟨⟨rfl, rfl, rfl, by decide +kernel, rfl, by decide +kernel, by decide +kernel⟩, rfl, ⟨40, cb21⟩, ⟨rfl, rfl, rfl, rfl⟩, rfl, rfl, rfl, rfl, fun _ _ _ _ _ _ us hl => (match us, hl with | [_], _ => rfl), by decide +kernel⟩
theorem ok22 : RwOk T0 w22 := ⟨⟨rfl, rfl, rfl, by decide +kernel, rfl, by decide +kernel, by decide +kernel⟩, rfl, ⟨40, cb22⟩, ⟨rfl, rfl, rfl, rfl⟩, rfl, rfl, rfl, rfl, fun _ _ _ _ _ _ us hl => (match us, hl with | [_], _ => rfl), by decide +kernel⟩
theorem ok23 : RwOk T0 w23 := ⟨⟨rfl, rfl, rfl, by decide +kernel, rfl, by decide +kernel, by decide +kernel⟩, rfl, ⟨40, cb23⟩, ⟨rfl, rfl, rfl, rfl⟩, rfl, rfl, rfl, rfl, fun _ _ _ _ _ _ us hl => (match us, hl with | [_, _, _], _ => rfl), by decide +kernel⟩
theorem ok24 : RwOk T0 w24 := ⟨⟨rfl, rfl, rfl, by decide +kernel, rfl, by decide +kernel, by decide +kernel⟩, rfl, ⟨40, cb24⟩, ⟨rfl, rfl, rfl, rfl⟩, rfl, rfl, rfl, rfl, fun _ _ _ _ _ _ us hl => (match us, hl with | [_], _ => rfl), by decide +kernel⟩
theorem ok25 : RwOk T0 w25 := ⟨⟨rfl, rfl, rfl, by decide +kernel, rfl, by decide +kernel, by decide +kernel⟩, rfl, ⟨40, cb25⟩, ⟨rfl, rfl, rfl, rfl⟩, rfl, rfl, rfl, rfl, fun _ _ _ _ _ _ us hl => (match us, hl with | [_], _ => rfl), by decide +kernel⟩
theorem ok26 : RwOk T0 w26 := ⟨⟨rfl, rfl, rfl, by decide +kernel, rfl, by decide +kernel, by decide +kernel⟩, rfl, ⟨40, cb26⟩, ⟨rfl, rfl, rfl, rfl⟩, rfl, rfl, rfl, rfl, fun _ _ _ _ _ _ us hl => (match us, hl with | [_], _ => rfl), by decide +kernel⟩
theorem ok27 : RwOk T0 w27 := ⟨⟨rfl, rfl, rfl, by decide +kernel, rfl, by decide +kernel, by decide +kernel⟩, rfl, ⟨40, cb27⟩, ⟨rfl, rfl, rfl, rfl⟩, rfl, rfl, rfl, rfl, fun _ _ _ _ _ _ us hl => (match us, hl with | [_], _ => rfl), by decide +kernel⟩
theorem ok28 : RwOk T0 w28 := ⟨⟨rfl, rfl, rfl, by decide +kernel, rfl, by decide +kernel, by decide +kernel⟩, rfl, ⟨40, cb28⟩, ⟨rfl, rfl, rfl, rfl⟩, rfl, rfl, rfl, rfl, fun _ _ _ _ _ _ us hl => (match us, hl with | [_], _ => rfl), by decide +kernel⟩
theorem ok29 : RwOk T0 w29 := ⟨⟨rfl, rfl, rfl, by decide +kernel, rfl, by decide +kernel, by decide +kernel⟩, rfl, ⟨40, cb29⟩, ⟨rfl, rfl, rfl, rfl⟩, rfl, rfl, rfl, rfl, fun _ _ _ _ _ _ us hl => (match us, hl with | [_], _ => rfl), by decide +kernel⟩
theorem ok30 : RwOk T0 w30 := ⟨⟨rfl, rfl, rfl, by decide +kernel, rfl, by decide +kernel, by decide +kernel⟩, rfl, ⟨40, cb30⟩, ⟨rfl, rfl, rfl, rfl⟩, rfl, rfl, rfl, rfl, fun _ _ _ _ _ _ us hl => (match us, hl with | [_], _ => rfl), by decide +kernel⟩
theorem ok31 : RwOk T0 w31 := ⟨⟨rfl, rfl, rfl, by decide +kernel, rfl, by decide +kernel, by decide +kernel⟩, rfl, ⟨40, cb31⟩, ⟨rfl, rfl, rfl, rfl⟩, rfl, rfl, rfl, rfl, fun _ _ _ _ _ _ us hl => (match us, hl with | [_, _], _ => rfl), by decide +kernel⟩
theorem ok32 : RwOk T0 w32 := ⟨⟨rfl, rfl, rfl, by decide +kernel, rfl, by decide +kernel, by decide +kernel⟩, rfl, ⟨40, cb32⟩, ⟨rfl, rfl, rfl, rfl⟩, rfl, rfl, rfl, rfl, fun _ _ _ _ _ _ us hl => (match us, hl with | [_, _, _, _], _ => rfl), by decide +kernel⟩
theorem ok33 : RwOk T0 w33 := ⟨⟨rfl, rfl, rfl, by decide +kernel, rfl, by decide +kernel, by decide +kernel⟩, rfl, ⟨40, cb33⟩, ⟨rfl, rfl, rfl, rfl⟩, rfl, rfl, rfl, rfl, fun _ _ _ _ _ _ us hl => (match us, hl with | [_], _ => rfl), by decide +kernel⟩
theorem ok34 : RwOk T0 w34 := ⟨⟨rfl, rfl, rfl, by decide +kernel, rfl, by decide +kernel, by decide +kernel⟩, rfl, ⟨40, cb34⟩, ⟨rfl, rfl, rfl, rfl⟩, rfl, rfl, rfl, rfl, fun _ _ _ _ _ _ us hl => (match us, hl with | [_, _, _], _ => rfl), by decide +kernel⟩
theorem ok35 : RwOk T0 w35 := ⟨⟨rfl, rfl, rfl, by decide +kernel, rfl, by decide +kernel, by decide +kernel⟩, rfl, ⟨40, cb35⟩, ⟨rfl, rfl, rfl, rfl⟩, rfl, rfl, rfl, rfl, fun _ _ _ _ _ _ us hl => (match us, hl with | [_, _], _ => rfl), by decide +kernel⟩
theorem ok36 : RwOk T0 w36 := ⟨⟨rfl, rfl, rfl, by decide +kernel, rfl, by decide +kernel, by decide +kernel⟩, rfl, ⟨40, cb36⟩, ⟨rfl, rfl, rfl, rfl⟩, rfl, rfl, rfl, rfl, fun _ _ _ _ _ _ us hl => (match us, hl with | [_, _, _], _ => rfl), by decide +kernel⟩
theorem ok37 : RwOk T0 w37 := ⟨⟨rfl, rfl, rfl, by decide +kernel, rfl, by decide +kernel, by decide +kernel⟩, rfl, ⟨40, cb37⟩, ⟨rfl, rfl, rfl, rfl⟩, rfl, rfl, rfl, rfl, fun _ _ _ _ _ _ us hl => (match us, hl with | [_, _, _, _], _ => rfl), by decide +kernel⟩
theorem ok38 : RwOk T0 w38 := ⟨⟨rfl, rfl, rfl, by decide +kernel, rfl, by decide +kernel, by decide +kernel⟩, rfl, ⟨40, cb38⟩, ⟨rfl, rfl, rfl, rfl⟩, rfl, rfl, rfl, rfl, fun _ _ _ _ _ _ us hl => (match us, hl with | [_, _], _ => rfl), by decide +kernel⟩
theorem ok39 : RwOk T0 w39 := ⟨⟨rfl, rfl, rfl, by decide +kernel, rfl, by decide +kernel, by decide +kernel⟩, rfl, ⟨40, cb39⟩, ⟨rfl, rfl, rfl, rfl⟩, rfl, rfl, rfl, rfl, fun _ _ _ _ _ _ us hl => (match us, hl with | [_, _], _ => rfl), by decide +kernel⟩
theorem ok40 : RwOk T0 w40 := ⟨⟨rfl, rfl, rfl, by decide +kernel, rfl, by decide +kernel, by decide +kernel⟩, rfl, ⟨40, cb40⟩, ⟨rfl, rfl, rfl, rfl⟩, rfl, rfl, rfl, rfl, fun _ _ _ _ _ _ us hl => (match us, hl with | [_, _], _ => rfl), by decide +kernel⟩
theorem ok41 : RwOk T0 w41 := ⟨⟨rfl, rfl, rfl, by decide +kernel, rfl, by decide +kernel, by decide +kernel⟩, rfl, ⟨40, cb41⟩, ⟨rfl, rfl, rfl, rfl⟩, rfl, rfl, rfl, rfl, fun _ _ _ _ _ _ us hl => (match us, hl with | [_, _], _ => rfl), by decide +kernel⟩
theorem ok42 : RwOk T0 w42 := ⟨⟨rfl, rfl, rfl, by decide +kernel, rfl, by decide +kernel, by decide +kernel⟩, rfl, ⟨40, cb42⟩, ⟨rfl, rfl, rfl, rfl⟩, rfl, rfl, rfl, rfl, fun _ _ _ _ _ _ us hl => (match us, hl with | [_, _], _ => rfl), by decide +kernel⟩
theorem ok43 : RwOk T0 w43 := ⟨⟨rfl, rfl, rfl, by decide +kernel, rfl, by decide +kernel, by decide +kernel⟩, rfl, ⟨40, cb43⟩, ⟨rfl, rfl, rfl, rfl⟩, rfl, rfl, rfl, rfl, fun _ _ _ _ _ _ us hl => (match us, hl with | [_, _], _ => rfl), by decide +kernel⟩
theorem ok44 : RwOk T0 w44 := ⟨⟨rfl, rfl, rfl, by decide +kernel, rfl, by decide +kernel, by decide +kernel⟩, rfl, ⟨40, cb44⟩, ⟨rfl, rfl, rfl, rfl⟩, rfl, rfl, rfl, rfl, fun _ _ _ _ _ _ us hl => (match us, hl with | [_], _ => rfl), by decide +kernel⟩
theorem ok45 : RwOk T0 w45 := ⟨⟨rfl, rfl, rfl, by decide +kernel, rfl, by decide +kernel, by decide +kernel⟩, rfl, ⟨40, cb45⟩, ⟨rfl, rfl, rfl, rfl⟩, rfl, rfl, rfl, rfl, fun _ _ _ _ _ _ us hl => (match us, hl with | [_, _, _], _ => rfl), by decide +kernel⟩
theorem ok46 : RwOk T0 w46 := ⟨⟨rfl, rfl, rfl, by decide +kernel, rfl, by decide +kernel, by decide +kernel⟩, rfl, ⟨40, cb46⟩, ⟨rfl, rfl, rfl, rfl⟩, rfl, rfl, rfl, rfl, fun _ _ _ _ _ _ us hl => (match us, hl with | [_], _ => rfl), by decide +kernel⟩
theorem ok47 : RwOk T0 w47 := ⟨⟨rfl, rfl, rfl, by decide +kernel, rfl, by decide +kernel, by decide +kernel⟩, rfl, ⟨40, cb47⟩, ⟨rfl, rfl, rfl, rfl⟩, rfl, rfl, rfl, rfl, fun _ _ _ _ _ _ us hl => (match us, hl with | [_, _], _ => rfl), by decide +kernel⟩
theorem ok48 : RwOk T0 w48 := ⟨⟨rfl, rfl, rfl, by decide +kernel, rfl, by decide +kernel, by decide +kernel⟩, rfl, ⟨40, cb48⟩, ⟨rfl, rfl, rfl, rfl⟩, rfl, rfl, rfl, rfl, fun _ _ _ _ _ _ us hl => (match us, hl with | [_, _], _ => rfl), by decide +kernel⟩
theorem ok49 : RwOk T0 w49 := ⟨⟨rfl, rfl, rfl, by decide +kernel, rfl, by decide +kernel, by decide +kernel⟩, rfl, ⟨40, cb49⟩, ⟨rfl, rfl, rfl, rfl⟩, rfl, rfl, rfl, rfl, fun _ _ _ _ _ _ us hl => (match us, hl with | [_, _], _ => rfl), by decide +kernel⟩
theorem ok50 : RwOk T0 w50 := ⟨⟨rfl, rfl, rfl, by decide +kernel, rfl, by decide +kernel, by decide +kernel⟩, rfl, ⟨40, cb50⟩, ⟨rfl, rfl, rfl, rfl⟩, rfl, rfl, rfl, rfl, fun _ _ _ _ _ _ us hl => (match us, hl with | [_, _, _], _ => rfl), by decide +kernel⟩
theorem ok51 : RwOk T0 w51 := ⟨⟨rfl, rfl, rfl, by decide +kernel, rfl, by decide +kernel, by decide +kernel⟩, rfl, ⟨40, cb51⟩, ⟨rfl, rfl, rfl, rfl⟩, rfl, rfl, rfl, rfl, fun _ _ _ _ _ _ us hl => (match us, hl with | [_, _, _, _], _ => rfl), by decide +kernel⟩
theorem ok52 : RwOk T0 w52 := ⟨⟨rfl, rfl, rfl, by decide +kernel, rfl, by decide +kernel, by decide +kernel⟩, rfl, ⟨40, cb52⟩, ⟨rfl, rfl, rfl, rfl⟩, rfl, rfl, rfl, rfl, fun _ _ _ _ _ _ us hl => (match us, hl with | [_, _, _], _ => rfl), by decide +kernel⟩
theorem ok53 : RwOk T0 w53 := ⟨⟨rfl, rfl, rfl, by decide +kernel, rfl, by decide +kernel, by decide +kernel⟩, rfl, ⟨40, cb53⟩, ⟨rfl, rfl, rfl, rfl⟩, rfl, rfl, rfl, rfl, fun _ _ _ _ _ _ us hl => (match us, hl with | [_, _, _], _ => rfl), by decide +kernel⟩
theorem ok54 : RwOk T0 w54 := ⟨⟨rfl, rfl, rfl, by decide +kernel, rfl, by decide +kernel, by decide +kernel⟩, rfl, ⟨40, cb54⟩, ⟨rfl, rfl, rfl, rfl⟩, rfl, rfl, rfl, rfl, fun _ _ _ _ _ _ us hl => (match us, hl with | [_, _, _, _, _], _ => rfl), by decide +kernel⟩
theorem ok55 : RwOk T0 w55 := ⟨⟨rfl, rfl, rfl, by decide +kernel, rfl, by decide +kernel, by decide +kernel⟩, rfl, ⟨40, cb55⟩, ⟨rfl, rfl, rfl, rfl⟩, rfl, rfl, rfl, rfl, fun _ _ _ _ _ _ us hl => (match us, hl with | [_, _, _], _ => rfl), by decide +kernel⟩
theorem ok56 : RwOk T0 w56 := ⟨⟨rfl, rfl, rfl, by decide +kernel, rfl, by decide +kernel, by decide +kernel⟩, rfl, ⟨40, cb56⟩, ⟨rfl, rfl, rfl, rfl⟩, rfl, rfl, rfl, rfl, fun _ _ _ _ _ _ us hl => (match us, hl with | [_], _ => rfl), by decide +kernel⟩
theorem okr_0 : ∀ r ∈ rows_0, RwOk T0 r := all_cons ok0 <| all_cons ok1 <| all_cons ok2 <| all_cons ok3 <| all_cons ok4 <| all_cons ok5 <| all_cons ok6 <| all_cons ok7 <| all_cons ok8 <| all_cons ok9 <| all_cons ok10 <| all_cons ok11 <| all_cons ok12 <| all_cons ok13 <| all_cons ok14 <| all_cons ok15 <| all_cons ok16 <| all_cons ok17 <| all_cons ok18 <| all_cons ok19 <| all_cons ok20 <| all_cons ok21 <| all_cons ok22 <| all_cons ok23 <| all_cons ok24 <| all_cons ok25 <| all_cons ok26 <| all_cons ok27 <| all_cons ok28 <| all_cons ok29 <| all_cons ok30 <| all_cons ok31 <| all_cons ok32 <| all_cons ok33 <| all_cons ok34 <| all_cons ok35 <| all_cons ok36 <| all_cons ok37 <| all_cons ok38 <| all_cons ok39 all_nil
theorem okr_1 : ∀ r ∈ rows_1, RwOk T0 r := all_cons ok40 <| all_cons ok41 <| all_cons ok42 <| all_cons ok43 <| all_cons ok44 <| all_cons ok45 <| all_cons ok46 <| all_cons ok47 <| all_cons ok48 <| all_cons ok49 <| all_cons ok50 <| all_cons ok51 <| all_cons ok52 <| all_cons ok53 <| all_cons ok54 <| all_cons ok55 <| all_cons ok56 all_nil
theorem okrows : ∀ r ∈ rows, RwOk T0 r := all_app (okr_0) okr_1
theorem ltok : LTOk T0 where
  row := okrows
  len := by decide +kernel
  fr := by decide +kernel
  fns := by decide +kernel
  cls := by decide +kernel
  ini := by
    intro c f h
    simp only [T0, pg] at h
    repeat' split at h
    all_goals first
      | (cases h; done)
      | (cases h; subst_vars; exact ⟨_, _, rfl, rfl, rfl, by decide +kernel⟩)
  mt := by
    intro c m f h
    have h : (if c = 4 ∧ m = "__init__" then some 6 else if c = 4 ∧ m = "tell" then some 7 else if c = 4 ∧ m = "look_sheet" then some 8 else if c = 4 ∧ m = "look_place" then some 9 else if c = 4 ∧ m = "look_road" then some 10 else if c = 4 ∧ m = "look" then some 11 else if c = 5 ∧ m = "__init__" then some 31 else if c = 5 ∧ m = "add_road" then some 32 else if c = 5 ∧ m = "all_places" then some 33 else if c = 5 ∧ m = "seen" then some 34 else if c = 5 ∧ m = "begun" then some 35 else if c = 5 ∧ m = "along" then some 36 else if c = 5 ∧ m = "gone" then some 37 else if c = 5 ∧ m = "place_kinds" then some 38 else if c = 5 ∧ m = "kinds_from" then some 39 else if c = 5 ∧ m = "road_kinds" then some 40 else if c = 5 ∧ m = "common_kinds" then some 41 else if c = 5 ∧ m = "parted" then some 42 else none) = some f := h
    by_cases q : c = 4 ∧ m = "__init__"
    · rw [if_pos q] at h
      cases h
      obtain ⟨rfl, rfl⟩ := q
      exact ⟨_, _, rfl, rfl, rfl, by decide +kernel, by decide +kernel⟩
    rw [if_neg q] at h
    clear q
    by_cases q : c = 4 ∧ m = "tell"
    · rw [if_pos q] at h
      cases h
      obtain ⟨rfl, rfl⟩ := q
      exact ⟨_, _, rfl, rfl, rfl, by decide +kernel, by decide +kernel⟩
    rw [if_neg q] at h
    clear q
    by_cases q : c = 4 ∧ m = "look_sheet"
    · rw [if_pos q] at h
      cases h
      obtain ⟨rfl, rfl⟩ := q
      exact ⟨_, _, rfl, rfl, rfl, by decide +kernel, by decide +kernel⟩
    rw [if_neg q] at h
    clear q
    by_cases q : c = 4 ∧ m = "look_place"
    · rw [if_pos q] at h
      cases h
      obtain ⟨rfl, rfl⟩ := q
      exact ⟨_, _, rfl, rfl, rfl, by decide +kernel, by decide +kernel⟩
    rw [if_neg q] at h
    clear q
    by_cases q : c = 4 ∧ m = "look_road"
    · rw [if_pos q] at h
      cases h
      obtain ⟨rfl, rfl⟩ := q
      exact ⟨_, _, rfl, rfl, rfl, by decide +kernel, by decide +kernel⟩
    rw [if_neg q] at h
    clear q
    by_cases q : c = 4 ∧ m = "look"
    · rw [if_pos q] at h
      cases h
      obtain ⟨rfl, rfl⟩ := q
      exact ⟨_, _, rfl, rfl, rfl, by decide +kernel, by decide +kernel⟩
    rw [if_neg q] at h
    clear q
    by_cases q : c = 5 ∧ m = "__init__"
    · rw [if_pos q] at h
      cases h
      obtain ⟨rfl, rfl⟩ := q
      exact ⟨_, _, rfl, rfl, rfl, by decide +kernel, by decide +kernel⟩
    rw [if_neg q] at h
    clear q
    by_cases q : c = 5 ∧ m = "add_road"
    · rw [if_pos q] at h
      cases h
      obtain ⟨rfl, rfl⟩ := q
      exact ⟨_, _, rfl, rfl, rfl, by decide +kernel, by decide +kernel⟩
    rw [if_neg q] at h
    clear q
    by_cases q : c = 5 ∧ m = "all_places"
    · rw [if_pos q] at h
      cases h
      obtain ⟨rfl, rfl⟩ := q
      exact ⟨_, _, rfl, rfl, rfl, by decide +kernel, by decide +kernel⟩
    rw [if_neg q] at h
    clear q
    by_cases q : c = 5 ∧ m = "seen"
    · rw [if_pos q] at h
      cases h
      obtain ⟨rfl, rfl⟩ := q
      exact ⟨_, _, rfl, rfl, rfl, by decide +kernel, by decide +kernel⟩
    rw [if_neg q] at h
    clear q
    by_cases q : c = 5 ∧ m = "begun"
    · rw [if_pos q] at h
      cases h
      obtain ⟨rfl, rfl⟩ := q
      exact ⟨_, _, rfl, rfl, rfl, by decide +kernel, by decide +kernel⟩
    rw [if_neg q] at h
    clear q
    by_cases q : c = 5 ∧ m = "along"
    · rw [if_pos q] at h
      cases h
      obtain ⟨rfl, rfl⟩ := q
      exact ⟨_, _, rfl, rfl, rfl, by decide +kernel, by decide +kernel⟩
    rw [if_neg q] at h
    clear q
    by_cases q : c = 5 ∧ m = "gone"
    · rw [if_pos q] at h
      cases h
      obtain ⟨rfl, rfl⟩ := q
      exact ⟨_, _, rfl, rfl, rfl, by decide +kernel, by decide +kernel⟩
    rw [if_neg q] at h
    clear q
    by_cases q : c = 5 ∧ m = "place_kinds"
    · rw [if_pos q] at h
      cases h
      obtain ⟨rfl, rfl⟩ := q
      exact ⟨_, _, rfl, rfl, rfl, by decide +kernel, by decide +kernel⟩
    rw [if_neg q] at h
    clear q
    by_cases q : c = 5 ∧ m = "kinds_from"
    · rw [if_pos q] at h
      cases h
      obtain ⟨rfl, rfl⟩ := q
      exact ⟨_, _, rfl, rfl, rfl, by decide +kernel, by decide +kernel⟩
    rw [if_neg q] at h
    clear q
    by_cases q : c = 5 ∧ m = "road_kinds"
    · rw [if_pos q] at h
      cases h
      obtain ⟨rfl, rfl⟩ := q
      exact ⟨_, _, rfl, rfl, rfl, by decide +kernel, by decide +kernel⟩
    rw [if_neg q] at h
    clear q
    by_cases q : c = 5 ∧ m = "common_kinds"
    · rw [if_pos q] at h
      cases h
      obtain ⟨rfl, rfl⟩ := q
      exact ⟨_, _, rfl, rfl, rfl, by decide +kernel, by decide +kernel⟩
    rw [if_neg q] at h
    clear q
    by_cases q : c = 5 ∧ m = "parted"
    · rw [if_pos q] at h
      cases h
      obtain ⟨rfl, rfl⟩ := q
      exact ⟨_, _, rfl, rfl, rfl, by decide +kernel, by decide +kernel⟩
    rw [if_neg q] at h
    clear q
    cases h
  na := by
    intro c f h
    have key : ∀ (c : Nat) (l : List PySem.Str) (x : PySem.Str), l.contains f = true → T0.B.cls[c]? = some x → (He.Fa.cls x ∈ T0.fa ∧ ∀ f ∈ l, He.Fa.noat x f ∈ T0.fa) → ∃ x, T0.B.cls[c]? = some x ∧ He.Fa.cls x ∈ T0.fa ∧ He.Fa.noat x f ∈ T0.fa :=
      fun c l x h1 h2 h3 => ⟨x, h2, h3.1, h3.2 f (by simpa using h1)⟩
    simp only [T0, pg] at h
    repeat' split at h
    all_goals first
      | (cases h; done)
      | (subst_vars; exact key _ _ _ h rfl (by decide +kernel))
theorem cstok : ∀ p ∈ T0.B.cst, cstOk T0.fa p := by
  exact all_cons (show _ ∈ _ from by decide +kernel) <| all_cons (show _ ∈ _ from by decide +kernel) <| all_cons (show _ ∈ _ from by decide +kernel) <| all_cons (show _ ∈ _ from by decide +kernel) <| all_cons (show _ ∈ _ from by decide +kernel) <| all_cons (show _ ∈ _ from by decide +kernel) <| all_cons (show _ ∈ _ from by decide +kernel) <| all_cons (show _ ∈ _ from by decide +kernel) <| all_cons (show _ ∧ _ from by decide +kernel) <| all_cons (show _ ∧ _ from by decide +kernel) <| all_cons (show _ ∧ _ from by decide +kernel) <| all_cons (show _ ∧ _ from by decide +kernel) <| all_cons (show _ ∈ _ from by decide +kernel) <| all_cons (show _ ∈ _ from by decide +kernel) <| all_cons (show _ ∈ _ from by decide +kernel) <| all_cons (show _ ∈ _ from by decide +kernel) all_nil
end P76
end
section
set_option Elab.async false
set_option linter.all false
set_option maxRecDepth 100000
set_option maxHeartbeats 0
namespace P76
open PySem PySem.Spec PyProof.Rows L2 Pv
abbrev R : PySem.W.OpenRow := PySem.W.OpenLaw.row PySem.Challenge.rw_sheetlines_k76_led_by_all_ways
abbrev hk : PySem.W.Hook := He.hookX 6 fa (Pv.LT.fn T0) [] tf (tupsB csts)
def ob (s : PySem.W.SharedT) : He.AlX := He.obsX 6 fa (Pv.LT.fn T0) [] tf (tupsB csts) (HandSHeadRun.getT s)
theorem ob_eq (s : PySem.W.SharedT) : ob s = hk.obs s.abs := He.obsX_eq (HandSHeadRun.getT_eq s)
theorem run0 (w : World) : HandSHeadRun.RunEq R (PySem.W.view R.prog [lawAt]) hk ob 4000 loose w := by
  intro os
  kernel_rfl
end P76
end
section
set_option Elab.async false
set_option linter.all false
set_option maxRecDepth 100000
set_option maxHeartbeats 0
open PySem PySem.W PySem.Calls PyProof.Rows
/-- the law, but for the pure side -/
theorem k76_of
    (hpure : ∀ ns : List Int, ns.length ≤ 63 → (∀ z ∈ ns, Builtin.Int.intBits z ≤ 1048576) → ∃ W, Pv.run P76.T0.g (Pv.LT.dfs P76.T0) 40 40 56 [.scr ns] [] = some (.bl true, W)) : PySem.Challenge.rw_sheetlines_k76_led_by_all_ways.Holds := by
  w_on; o_law
  refine HandSHeadRun.head_any (r := OpenLaw.row PySem.Challenge.rw_sheetlines_k76_led_by_all_ways) (q := view (OpenLaw.row PySem.Challenge.rw_sheetlines_k76_led_by_all_ways).prog [P76.lawAt]) (H := P76.hk) (ob := P76.ob) (M := 4000) (loose := P76.loose) (d := HandSHeadRun.topDef (OpenLaw.row PySem.Challenge.rw_sheetlines_k76_led_by_all_ways).prog P76.lawAt) (kwd := []) P76.ob_eq
    (by kernel_rfl) (fun s => by kernel_rfl) P76.run0 (by kernel_rfl) (by kernel_rfl) (by kernel_rfl) (by rfl) (by first | assumption | decide +kernel) (by decide +kernel) ⟨rfl, rfl, rfl, rfl, rfl, by decide +kernel⟩ ?hw ?hc
  case hw => w_witness2
  case hc =>
    refine LamX.walk_ofTsE (l := PySem.Challenge.rw_sheetlines_k76_led_by_all_ways) (n := 63) (k := 40) (x := "script") (CX := fun _ => Pv.noX) rfl (by decide) (by kernel_rfl) ⟨rfl, by decide, by decide⟩ ?F (fun _ _ _ _ _ z => z)
    intro w mg fa h Y G hmg0
    obtain ⟨K, KX, c⟩ := Y
    have hmg : mg ("law" : PySem.Str) = some (.ref fa) := by
      have e : (HandSHeadRun.topDef (OpenLaw.row PySem.Challenge.rw_sheetlines_k76_led_by_all_ways).prog P76.lawAt).name = ("law" : PySem.Str) := by kernel_rfl
      rw [← e]
      exact hmg0
    have hfa : fa = Pv.LT.fA P76.T0 K 56 := by
      have e1 : mg ("law" : PySem.Str) = some (.ref (He.ga K "law")) := He.glo_ok KX G (c.t.d.facts (f := .glo "law") (show He.Fa.glo "law" ∈ P76.T0.fa by decide +kernel))
      rw [hmg] at e1
      cases e1
      rfl
    subst hfa
    exact ⟨K, KX, Pv.law_at (r := P76.w56) P76.ltok c KX G rfl rfl (Pv.csts_of P76.cstok c KX G) (fun base cl => Pv.setRules) hpure⟩
end
section
set_option Elab.async false
set_option linter.all false
set_option maxRecDepth 100000
namespace Pu
open Pv
open PySem (Str)
theorem run_le {g : Pg} {df : Nat → Option Df} : ∀ {n j : Nat}, j ≤ n → run g df n j = run g df j j := by
  intro n
  induction n with
  | zero => intro j h; have : j = 0 := by omega
            subst this; rfl
  | succ n ih =>
    intro j h
    by_cases e : j ≤ n
    · show (if j ≤ n then run g df n j else _) = _
      rw [if_pos e, ih e]
    · have : j = n + 1 := by omega
      subst this; rfl
theorem run_s1 {g : Pg} {df : Nat → Option Df} {n : Nat} : run g df (n + 1) n = run g df n n := run_le (by omega)
theorem run_s2 {g : Pg} {df : Nat → Option Df} {n : Nat} : run g df (n + 2) n = run g df n n := run_le (by omega)
theorem run_s3 {g : Pg} {df : Nat → Option Df} {n : Nat} : run g df (n + 3) n = run g df n n := run_le (by omega)
theorem run_def {g : Pg} {df : Nat → Option Df} {n f : Nat} {d : Df} (h : df f = some d) (ds : List D) (W : Wd) : run g df (n + 1) (n + 1) f ds W = runD g (run g df n) n d ds W := by
  show (if n + 1 ≤ n then run g df n (n + 1) else if n + 1 = n + 1 then _ else _ : CallF) f ds W = _
  rw [if_neg (by omega), if_pos rfl]
  show (match df f with | some d => _ | none => none) = _
  rw [h]
/-! ### worlds -/
theorem at_app {W X : Wd} {i : Nat} : (W ++ X)[W.length + i]? = X[i]? := by
  rw [List.getElem?_append_right (by omega)]; congr 1; omega
theorem at_app0 {W X : Wd} : (W ++ X)[W.length]? = X[0]? := by
  rw [List.getElem?_append_right (by omega)]; congr 1; omega
theorem set_app {W X : Wd} {i : Nat} {c : Cell} : (W ++ X).set (W.length + i) c = W ++ X.set i c := by
  rw [List.set_append_right _ _ (by omega)]; congr 2; omega
theorem set_app0 {W X : Wd} {c : Cell} : (W ++ X).set W.length c = W ++ X.set 0 c := by
  rw [List.set_append_right _ _ (by omega)]; congr 2; omega
/-! ### equality -/
theorem eqD_str (x y : Str) : eqD (.str x) (.str y) = some (decide (x = y)) := by
  simp [eqD, dle, D.py, PySem.PyData.eqv]
  rfl
theorem eqD_int (x y : Int) : eqD (.int x) (.int y) = some (decide (x = y)) := by
  simp [eqD, dle, D.py, PySem.PyData.eqv]
  rfl
theorem eqD_non_str (y : Str) : eqD .non (.str y) = some false := by simp [eqD, dle, D.py, PySem.PyData.eqv]
theorem eqD_str_non (y : Str) : eqD (.str y) .non = some false := by simp [eqD, dle, D.py, PySem.PyData.eqv]
theorem eqD_non : eqD .non .non = some true := by simp [eqD, dle, D.py, PySem.PyData.eqv]
end Pu
namespace Pu
open Pv
open PySem (Str)
/-! ### loops over what is walked -/
theorem okW_self {gd : Option Nat} {W : Wd} (h : ∀ n, gd = some n → ∃ xs, W[n]? = some (.lst xs)) : okW gd W W = true := by
  cases gd with
  | none => rfl
  | some n =>
    obtain ⟨xs, e⟩ := h n rfl
    simp [okW, e, beqs_refl]
theorem findL_all {f : D → Wd → Option (Bool × Wd)} {gd : Option Nat} {W : Wd} {p : D → Bool} (ok : okW gd W W = true) : ∀ (xs : List D), (∀ x ∈ xs, f x W = some (p x, W)) → findL false f gd W xs W = some (xs.all p, W)
  | [], _ => rfl
  | x :: xs, h => by
    rw [findL, h x (List.mem_cons_self ..)]
    simp only [ok, if_true]
    cases e : p x with
    | false => simp [e]
    | true => simp [e, findL_all ok xs (fun y hy => h y (List.mem_cons_of_mem _ hy))]
theorem findL_any {f : D → Wd → Option (Bool × Wd)} {gd : Option Nat} {W : Wd} {p : D → Bool} (ok : okW gd W W = true) : ∀ (xs : List D), (∀ x ∈ xs, f x W = some (p x, W)) → findL true f gd W xs W = some (xs.any p, W)
  | [], _ => rfl
  | x :: xs, h => by
    rw [findL, h x (List.mem_cons_self ..)]
    simp only [ok, if_true]
    cases e : p x with
    | true => simp [e]
    | false => simp [e, findL_any ok xs (fun y hy => h y (List.mem_cons_of_mem _ hy))]
theorem mapL_pure {f : D → Wd → Option (Option D × Wd)} {gd : Option Nat} {W : Wd} {p : D → Option D} (ok : okW gd W W = true) : ∀ (xs : List D), (∀ x ∈ xs, f x W = some (p x, W)) → mapL f gd W xs W = some (xs.filterMap p, W)
  | [], _ => rfl
  | x :: xs, h => by
    rw [mapL, h x (List.mem_cons_self ..)]
    simp only [ok, if_true]
    rw [mapL_pure ok xs (fun y hy => h y (List.mem_cons_of_mem _ hy))]
    cases e : p x <;> simp [e]
theorem flatL_pure {f : D → Wd → Option (List Str × Wd)} {gd : Option Nat} {W : Wd} {p : D → List Str} (ok : okW gd W W = true) : ∀ (xs : List D), (∀ x ∈ xs, f x W = some (p x, W)) → flatL f gd W xs W = some (xs.flatMap p, W)
  | [], _ => rfl
  | x :: xs, h => by
    rw [flatL, h x (List.mem_cons_self ..)]
    simp only [ok, if_true]
    rw [flatL_pure ok xs (fun y hy => h y (List.mem_cons_of_mem _ hy))]
    simp
/-- a loop by its invariant over what is done -/
theorem forL_inv {f : D → Evn → Wd → Option Out} {gd : Option Nat} {W0 : Wd} (I : List D → Evn → Wd → Prop) (xs0 : List D) :
    ∀ (rest done : List D) (env : Evn) (W : Wd), xs0 = done ++ rest → I done env W →
    (∀ done x rest env W, xs0 = done ++ x :: rest → I done env W → ∃ env1 W1, (f x env W = some (.nx env1 W1) ∨ f x env W = some (.ct env1 W1)) ∧ okW gd W0 W1 = true ∧ I (done ++ [x]) env1 W1) →
    ∃ env1 W1, forL f gd W0 rest env W = some (.nx env1 W1) ∧ I xs0 env1 W1
  | [], done, env, W, e, h, _ => ⟨env, W, rfl, by rw [e, List.append_nil]; exact h⟩
  | x :: rest, done, env, W, e, h, step => by
    obtain ⟨env1, W1, hf, ok, h1⟩ := step done x rest env W e h
    obtain ⟨env2, W2, hf2, h2⟩ := forL_inv I xs0 rest (done ++ [x]) env1 W1 (by simp [e]) h1 step
    refine ⟨env2, W2, ?_, h2⟩
    rcases hf with hf | hf
    · rw [forL, hf]; simp only [ok, if_true]; exact hf2
    · rw [forL, hf]; simp only [ok, if_true]; exact hf2
/-- a loop that may break (Q then) -/
theorem forL_brk {f : D → Evn → Wd → Option Out} {gd : Option Nat} {W0 : Wd} (I : List D → Evn → Wd → Prop) (Q : Evn → Wd → Prop) (xs0 : List D) :
    ∀ (rest done : List D) (env : Evn) (W : Wd), xs0 = done ++ rest → I done env W →
    (∀ done x rest env W, xs0 = done ++ x :: rest → I done env W → (∃ env1 W1, f x env W = some (.nx env1 W1) ∧ okW gd W0 W1 = true ∧ I (done ++ [x]) env1 W1) ∨ ∃ env1 W1, f x env W = some (.bk env1 W1) ∧ Q env1 W1) →
    (∀ env W, I xs0 env W → Q env W) →
    ∃ env1 W1, forL f gd W0 rest env W = some (.nx env1 W1) ∧ Q env1 W1
  | [], done, env, W, e, h, _, hq => ⟨env, W, rfl, hq _ _ (by rw [e, List.append_nil]; exact h)⟩
  | x :: rest, done, env, W, e, h, step, hq => by
    rcases step done x rest env W e h with ⟨env1, W1, hf, ok, h1⟩ | ⟨env1, W1, hf, h1⟩
    · obtain ⟨env2, W2, hf2, h2⟩ := forL_brk I Q xs0 rest (done ++ [x]) env1 W1 (by simp [e]) h1 step hq
      refine ⟨env2, W2, ?_, h2⟩
      rw [forL, hf]; simp only [ok, if_true]; exact hf2
    · exact ⟨env1, W1, by rw [forL, hf], h1⟩
/-- a loop without a change of the world, that may return: a function of its own -/
theorem forL_ret {f : D → Evn → Wd → Option Out} {gd : Option Nat} {W0 : Wd} (I : List D → Evn → Wd → Prop) (xs0 : List D) (Q : D → Wd → Prop) :
    ∀ (rest done : List D) (env : Evn) (W : Wd), xs0 = done ++ rest → I done env W →
    (∀ done x rest env W, xs0 = done ++ x :: rest → I done env W → (∃ env1 W1, f x env W = some (.nx env1 W1) ∧ okW gd W0 W1 = true ∧ I (done ++ [x]) env1 W1) ∨ ∃ d W1, f x env W = some (.rt d W1) ∧ Q d W1) →
    (∃ env1 W1, forL f gd W0 rest env W = some (.nx env1 W1) ∧ I xs0 env1 W1) ∨ ∃ d W1, forL f gd W0 rest env W = some (.rt d W1) ∧ Q d W1
  | [], done, env, W, e, h, _ => .inl ⟨env, W, rfl, by rw [e, List.append_nil]; exact h⟩
  | x :: rest, done, env, W, e, h, step => by
    rcases step done x rest env W e h with ⟨env1, W1, hf, ok, h1⟩ | ⟨d, W1, hf, h1⟩
    · rcases forL_ret I xs0 Q rest (done ++ [x]) env1 W1 (by simp [e]) h1 step with ⟨env2, W2, hf2, h2⟩ | ⟨d, W2, hf2, h2⟩
      · exact .inl ⟨env2, W2, by rw [forL, hf]; simp only [ok, if_true]; exact hf2, h2⟩
      · exact .inr ⟨d, W2, by rw [forL, hf]; simp only [ok, if_true]; exact hf2, h2⟩
    · exact .inr ⟨d, W1, by rw [forL, hf], h1⟩
/-! ### texts in lists -/
theorem dle_str (n : Nat) (x : Str) : dle n (.str x) = true := by cases n <;> rfl
theorem dle_non (n : Nat) : dle n .non = true := by cases n <;> rfl
theorem dle_int (n : Nat) (x : Int) : dle n (.int x) = true := by cases n <;> rfl
theorem anyEq_str (x : Str) : ∀ xs : List Str, anyEq (.str x) (xs.map .str) = some (decide (x ∈ xs))
  | [] => by simp [anyEq]
  | y :: ys => by
    rw [List.map_cons, anyEq, eqD_str, anyEq_str x ys]
    simp only [List.mem_cons]
    congr 1
    rw [← Bool.decide_or]
    congr 1
    rw [eq_comm (a := y)]
theorem inD_lst_str (W : Wd) (x : Str) (xs : List Str) : inD W (.str x) (.lst (xs.map .str)) = some (decide (x ∈ xs)) := by
  rw [inD, if_pos (dle_str ..), anyEq_str]
theorem inD_ctp_str (W : Wd) (x : Str) (xs : List Str) : inD W (.str x) (.ctp (xs.map .str)) = some (decide (x ∈ xs)) := by
  rw [inD, if_pos (dle_str ..), anyEq_str]
/-- a kind: a text or None -/
def kD : Option Str → D
  | none => .non
  | some x => .str x
theorem dle_kD (n : Nat) (x : Option Str) : dle n (kD x) = true := by cases x <;> cases n <;> rfl
theorem eqD_kD (x y : Option Str) : eqD (kD x) (kD y) = some (decide (x = y)) := by
  cases x <;> cases y <;> simp [kD, eqD_non, eqD_non_str, eqD_str_non, eqD_str]
theorem anyEq_kD (x : Option Str) : ∀ xs : List (Option Str), anyEq (kD x) (xs.map kD) = some (decide (x ∈ xs))
  | [] => by simp [anyEq]
  | y :: ys => by
    rw [List.map_cons, anyEq, eqD_kD, anyEq_kD x ys]
    simp only [List.mem_cons]
    congr 1
    rw [← Bool.decide_or]
    congr 1
    rw [eq_comm (a := y)]
theorem inD_lst_kD (W : Wd) (x : Option Str) (xs : List (Option Str)) : inD W (kD x) (.lst (xs.map kD)) = some (decide (x ∈ xs)) := by
  rw [inD, if_pos (dle_kD ..), anyEq_kD]
end Pu
namespace Pu
open Pv
open PySem (Str)
def begB (x z : Str) : Bool := match x.cps.toList with | [] => false | c :: _ => decide (c ∈ z.cps.toList)
def onlyB (x z : Str) : Bool := x.cps.toList.all fun c => decide (c ∈ z.cps.toList)
def WORDS : List Str := ["at", "costs", "from", "has", "kind", "place", "road", "scale", "sheet", "stock", "to", "year"]
def nameRow (x : Str) : Bool := begB x "abcdefghijklmnopqrstuvwxyz" && (onlyB x "abcdefghijklmnopqrstuvwxyzABCDEFGHIJKLMNOPQRSTUVWXYZ0123456789_" && !decide (x ∈ WORDS))
def greatRow (x : Str) : Bool := begB x "ABCDEFGHIJKLMNOPQRSTUVWXYZ" && onlyB x "abcdefghijklmnopqrstuvwxyzABCDEFGHIJKLMNOPQRSTUVWXYZ0123456789_"
theorem words_eq (W : Wd) (x : Str) : inD W (.str x) (.ctp [.str "at", .str "costs", .str "from", .str "has", .str "kind", .str "place", .str "road", .str "scale", .str "sheet", .str "stock", .str "to", .str "year"]) = some (decide (x ∈ WORDS)) := inD_ctp_str W x WORDS
/-- a name that a place bears -/
def kindOk : Option Str → Bool
  | none => true
  | some x => greatRow x
end Pu
namespace Pu
open Pv
open PySem (Str)
/-! ### items -/
inductive Itm where
  | pl (nm : Str) (x y : Int) (k : Option Str) | rd (a b : Str) (c : Int) (k : Option Str)
def Itm.d : Itm → D
  | .pl nm x y k => .tup [.str "place", .str nm, .tup [.int x, .int y], kD k]
  | .rd a b c k => .tup [.str "road", .str a, .str b, .int c, kD k]
def Itm.Form : Itm → Prop
  | .pl nm x y k => nameRow nm = true ∧ (0 ≤ x ∧ x ≤ 999) ∧ (0 ≤ y ∧ y ≤ 999) ∧ kindOk k = true
  | .rd a b c k => nameRow a = true ∧ nameRow b = true ∧ (1 ≤ c ∧ c ≤ 999) ∧ kindOk k = true
theorem s_rp : (PySem.Str.ofString "road" = PySem.Str.ofString "place") = False := eq_false (by decide +kernel)
theorem s_pr : (PySem.Str.ofString "place" = PySem.Str.ofString "road") = False := eq_false (by decide +kernel)
theorem s_rs : (PySem.Str.ofString "road" = PySem.Str.ofString "sheet") = False := eq_false (by decide +kernel)
theorem s_ps : (PySem.Str.ofString "place" = PySem.Str.ofString "sheet") = False := eq_false (by decide +kernel)
end Pu
namespace Pu
open Pv
theorem all_true {α : Type} (l : List α) : (l.all fun _ => true) = true := by simp
end Pu
namespace Pu
open Pv
open PySem (Str)
/-! ### dicts -/
theorem kget_str (x : Str) (d : D) : ∀ P : List Str, kget (.inr x) (P.map fun y => ((.inr y : L2.Key), d)) = if x ∈ P then some d else none
  | [] => rfl
  | y :: P => by
    rw [List.map_cons, kget, kget_str x d P]
    by_cases e : x = y
    · subst e; simp
    · have : ¬ ((Sum.inr y : L2.Key) = Sum.inr x) := fun h => e (Sum.inr.inj h).symm
      simp [this, e]
theorem kput_new {κ α : Type} [DecidableEq κ] (k : κ) (v : α) : ∀ l : List (κ × α), kget k l = none → kput k v l = l ++ [(k, v)]
  | [], _ => rfl
  | (k', w) :: r, h => by
    rw [kget] at h
    by_cases e : k' = k
    · rw [if_pos e] at h; cases h
    · rw [if_neg e] at h
      rw [kput, if_neg e, kput_new k v r h]; rfl
theorem kget_prs (a b : Str) (d : D) : ∀ P : List (Str × Str), kget [.inr a, .inr b] (P.map fun p => (([.inr p.1, .inr p.2] : List L2.Key), d)) = if (a, b) ∈ P then some d else none
  | [] => rfl
  | y :: P => by
    rw [List.map_cons, kget, kget_prs a b d P]
    by_cases e : (a, b) = y
    · subst e; simp
    · have : ¬ (([Sum.inr y.1, Sum.inr y.2] : List L2.Key) = [Sum.inr a, Sum.inr b]) := by
        intro h
        simp at h
        exact e (by rw [← h.1, ← h.2])
      simp [this, e]
def mnS (a b : Str) : Str := if ltS b a then b else a
def mxS (a b : Str) : Str := if ltS a b then b else a
end Pu
namespace Pu
open Pv
theorem sl2_iff {n : Nat} : sl2 n ↔ n ≤ 16777216 := Iff.rfl
theorem sizeL : PySem.sizeLine = 16777216 := rfl
end Pu
namespace Pu
open Pv
open PySem (Str)
/-! ### loops over lists of plain things -/
def gmap {α : Type} (g : Nat → α → D) : Nat → List α → List D
  | _, [] => []
  | i, x :: xs => g i x :: gmap g (i + 1) xs
theorem gmap_map {α : Type} (d : α → D) : ∀ (i : Nat) (xs : List α), xs.map d = gmap (fun _ => d) i xs
  | _, [] => rfl
  | i, x :: xs => by rw [List.map_cons, gmap, gmap_map d (i+1) xs]
theorem gmap_enum {α : Type} (d : α → D) : ∀ (i : Nat) (xs : List α), enumD i (xs.map d) = gmap (fun i x => .tup [.int i, d x]) i xs
  | _, [] => rfl
  | i, x :: xs => by rw [List.map_cons, gmap, enumD, gmap_enum d (i+1) xs]
theorem gmap_rng (lo : Int) (n : Nat) : rngD lo n = gmap (fun _ (i : Nat) => .int (lo + i)) 0 (List.range n) := by
  rw [rngD, ← gmap_map]
theorem forL_i {α : Type} {f : D → Evn → Wd → Option Out} {gd : Option Nat} {W0 : Wd} (g : Nat → α → D) (I : List α → Evn → Wd → Prop) (xs0 : List α)
    (step : ∀ done x rest env W, xs0 = done ++ x :: rest → I done env W → ∃ env1 W1, (f (g done.length x) env W = some (.nx env1 W1) ∨ f (g done.length x) env W = some (.ct env1 W1)) ∧ okW gd W0 W1 = true ∧ I (done ++ [x]) env1 W1) :
    ∀ (rest done : List α) (env : Evn) (W : Wd), xs0 = done ++ rest → I done env W →
    ∃ env1 W1, forL f gd W0 (gmap g done.length rest) env W = some (.nx env1 W1) ∧ I xs0 env1 W1
  | [], done, env, W, e, h => ⟨env, W, rfl, by rw [e, List.append_nil]; exact h⟩
  | x :: rest, done, env, W, e, h => by
    obtain ⟨env1, W1, hf, ok, h1⟩ := step done x rest env W e h
    obtain ⟨env2, W2, hf2, h2⟩ := forL_i g I xs0 step rest (done ++ [x]) env1 W1 (by simp [e]) h1
    refine ⟨env2, W2, ?_, h2⟩
    have hl : (done ++ [x]).length = done.length + 1 := by simp
    rw [hl] at hf2
    rcases hf with hf | hf
    · rw [gmap, forL, hf]; simp only [ok, if_true]; exact hf2
    · rw [gmap, forL, hf]; simp only [ok, if_true]; exact hf2
theorem forL_b {α : Type} {f : D → Evn → Wd → Option Out} {gd : Option Nat} {W0 : Wd} (g : Nat → α → D) (I : List α → Evn → Wd → Prop) (Q : Evn → Wd → Prop) (xs0 : List α)
    (step : ∀ done x rest env W, xs0 = done ++ x :: rest → I done env W → (∃ env1 W1, f (g done.length x) env W = some (.nx env1 W1) ∧ okW gd W0 W1 = true ∧ I (done ++ [x]) env1 W1) ∨ ∃ env1 W1, f (g done.length x) env W = some (.bk env1 W1) ∧ Q env1 W1)
    (hq : ∀ env W, I xs0 env W → Q env W) :
    ∀ (rest done : List α) (env : Evn) (W : Wd), xs0 = done ++ rest → I done env W →
    ∃ env1 W1, forL f gd W0 (gmap g done.length rest) env W = some (.nx env1 W1) ∧ Q env1 W1
  | [], done, env, W, e, h => ⟨env, W, rfl, hq _ _ (by rw [e, List.append_nil]; exact h)⟩
  | x :: rest, done, env, W, e, h => by
    have hl : (done ++ [x]).length = done.length + 1 := by simp
    rcases step done x rest env W e h with ⟨env1, W1, hf, ok, h1⟩ | ⟨env1, W1, hf, h1⟩
    · obtain ⟨env2, W2, hf2, h2⟩ := forL_b g I Q xs0 step hq rest (done ++ [x]) env1 W1 (by simp [e]) h1
      rw [hl] at hf2
      exact ⟨env2, W2, by rw [gmap, forL, hf]; simp only [ok, if_true]; exact hf2, h2⟩
    · exact ⟨env1, W1, by rw [gmap, forL, hf], h1⟩
theorem forL_r {α : Type} {f : D → Evn → Wd → Option Out} {gd : Option Nat} {W0 : Wd} (g : Nat → α → D) (I : List α → Evn → Wd → Prop) (Q : D → Wd → Prop) (xs0 : List α)
    (step : ∀ done x rest env W, xs0 = done ++ x :: rest → I done env W → (∃ env1 W1, f (g done.length x) env W = some (.nx env1 W1) ∧ okW gd W0 W1 = true ∧ I (done ++ [x]) env1 W1) ∨ ∃ d W1, f (g done.length x) env W = some (.rt d W1) ∧ Q d W1) :
    ∀ (rest done : List α) (env : Evn) (W : Wd), xs0 = done ++ rest → I done env W →
    (∃ env1 W1, forL f gd W0 (gmap g done.length rest) env W = some (.nx env1 W1) ∧ I xs0 env1 W1) ∨ ∃ d W1, forL f gd W0 (gmap g done.length rest) env W = some (.rt d W1) ∧ Q d W1
  | [], done, env, W, e, h => .inl ⟨env, W, rfl, by rw [e, List.append_nil]; exact h⟩
  | x :: rest, done, env, W, e, h => by
    have hl : (done ++ [x]).length = done.length + 1 := by simp
    rcases step done x rest env W e h with ⟨env1, W1, hf, ok, h1⟩ | ⟨d, W1, hf, h1⟩
    · rcases forL_r g I Q xs0 step rest (done ++ [x]) env1 W1 (by simp [e]) h1 with ⟨env2, W2, hf2, h2⟩ | ⟨d, W2, hf2, h2⟩
      · rw [hl] at hf2
        exact .inl ⟨env2, W2, by rw [gmap, forL, hf]; simp only [ok, if_true]; exact hf2, h2⟩
      · rw [hl] at hf2
        exact .inr ⟨d, W2, by rw [gmap, forL, hf]; simp only [ok, if_true]; exact hf2, h2⟩
    · exact .inr ⟨d, W1, by rw [gmap, forL, hf], h1⟩
/-! ### shops without mistakes -/
def plOf : Itm → Option Str
  | .pl nm _ _ _ => some nm
  | _ => none
def keyO : Itm → Option (Str × Str)
  | .rd a b _ _ => some (mnS a b, mxS a b)
  | _ => none
def places (its : List Itm) : List Str := its.filterMap plOf
def keys (its : List Itm) : List (Str × Str) := its.filterMap keyO
structure ShopOk (its : List Itm) : Prop where
  form : ∀ it ∈ its, it.Form
  ndP : (places its).Nodup
  ndK : (keys its).Nodup
  lP : (places its).length ≤ 16
  lK : (keys its).length ≤ 40
  ends : ∀ done a b c k rest, its = done ++ .rd a b c k :: rest → a ∈ places done ∧ b ∈ places done ∧ a ≠ b
/-- a world whose cells know no cell behind it -/
def WOk (W : Wd) : Prop := W.all (bndC W.length) = true
end Pu
namespace Pu
open Pv
theorem use_i {α : Type} {f : D → Evn → Wd → Option Out} {gd : Option Nat} {W0 W : Wd} {g : Nat → α → D} {xs0 : List α} {L : List D} {env : Evn} {o : Option Out} (hL : L = gmap g 0 xs0) (e : forL f gd W0 L env W = o) (I : List α → Evn → Wd → Prop) (h0 : I [] env W)
    (step : ∀ done x rest env W, xs0 = done ++ x :: rest → I done env W → ∃ env1 W1, (f (g done.length x) env W = some (.nx env1 W1) ∨ f (g done.length x) env W = some (.ct env1 W1)) ∧ okW gd W0 W1 = true ∧ I (done ++ [x]) env1 W1) :
    ∃ env1 W1, o = some (.nx env1 W1) ∧ I xs0 env1 W1 := (hL ▸ e) ▸ forL_i g I xs0 step xs0 [] env W rfl h0
theorem use_b {α : Type} {f : D → Evn → Wd → Option Out} {gd : Option Nat} {W0 W : Wd} {g : Nat → α → D} {xs0 : List α} {L : List D} {env : Evn} {o : Option Out} (hL : L = gmap g 0 xs0) (e : forL f gd W0 L env W = o) (I : List α → Evn → Wd → Prop) (Q : Evn → Wd → Prop) (h0 : I [] env W)
    (step : ∀ done x rest env W, xs0 = done ++ x :: rest → I done env W → (∃ env1 W1, f (g done.length x) env W = some (.nx env1 W1) ∧ okW gd W0 W1 = true ∧ I (done ++ [x]) env1 W1) ∨ ∃ env1 W1, f (g done.length x) env W = some (.bk env1 W1) ∧ Q env1 W1)
    (hq : ∀ env W, I xs0 env W → Q env W) :
    ∃ env1 W1, o = some (.nx env1 W1) ∧ Q env1 W1 := (hL ▸ e) ▸ forL_b g I Q xs0 step hq xs0 [] env W rfl h0
theorem use_r {α : Type} {f : D → Evn → Wd → Option Out} {gd : Option Nat} {W0 W : Wd} {g : Nat → α → D} {xs0 : List α} {L : List D} {env : Evn} {o : Option Out} (hL : L = gmap g 0 xs0) (e : forL f gd W0 L env W = o) (I : List α → Evn → Wd → Prop) (Q : D → Wd → Prop) (h0 : I [] env W)
    (step : ∀ done x rest env W, xs0 = done ++ x :: rest → I done env W → (∃ env1 W1, f (g done.length x) env W = some (.nx env1 W1) ∧ okW gd W0 W1 = true ∧ I (done ++ [x]) env1 W1) ∨ ∃ d W1, f (g done.length x) env W = some (.rt d W1) ∧ Q d W1) :
    (∃ env1 W1, o = some (.nx env1 W1) ∧ I xs0 env1 W1) ∨ ∃ d W1, o = some (.rt d W1) ∧ Q d W1 := (hL ▸ e) ▸ forL_r g I Q xs0 step xs0 [] env W rfl h0
end Pu

namespace Pu
open Pv
/-! ### bodies that stay shut -/
section
variable (g : Pg) (cl : Nat → CallF) (n : Nat)
def bodyF (p : Pat) (b : List St) : D → Evn → Wd → Option Out := fun x env W => match bindP W p x env with
  | some env1 => exSs g cl n b env1 W
  | none => none
def aaF (p : Pat) (e : Ex) (env : Evn) : D → Wd → Option (Bool × Wd) := fun x W => match bindP W p x (wipeE env p.slots) with
  | some env1 => (match evX g cl n false e env1 W with
    | some (.bl t, W2) => some (t, W2)
    | _ => none)
  | none => none
def compF (p : Pat) (c : Oe) (e : Ex) (env : Evn) : D → Wd → Option (Option D × Wd) := fun x W => match bindP W p x (wipeE env p.slots) with
  | some env1 => (match evC g cl n c env1 W with
    | some (true, W2) => (match evX g cl n false e env1 W2 with
      | some (y, W3) => some (some y, W3)
      | none => none)
    | some (false, W2) => some (none, W2)
    | none => none)
  | none => none
def set2F (p2 : Pat) (c : Oe) (e : Ex) (env1 : Evn) : D → Wd → Option (List PySem.Str × Wd) := fun y W => match bindP W p2 y (wipeE env1 p2.slots) with
  | some env2 => (match evC g cl n c env2 W with
    | some (true, W3) => (match evX g cl n false e env2 W3 with
      | some (.str z, W4) => some ([z], W4)
      | _ => none)
    | some (false, W3) => some ([], W3)
    | none => none)
  | none => none
def set1F (p1 p2 : Pat) (it2 : It) (c : Oe) (e : Ex) (env : Evn) : D → Wd → Option (List PySem.Str × Wd) := fun x W => match bindP W p1 x (wipeE env (p1.slots ++ p2.slots)) with
  | some env1 => (match evI g cl n false it2 env1 W with
    | some (ys, gd2, W2) => flatL (set2F g cl n p2 c e env1) gd2 W2 ys W2
    | none => none)
  | none => none
theorem x_forr (p : Pat) (it : It) (b : List St) (env : Evn) (W : Wd) : exS g cl n (.forr p it b) env W = (match evI g cl n false it (fz (escJ it) env) W with
    | some (xs, gd, W1) => forL (bodyF g cl n p b) gd W1 xs (fz (escJ it) env) W1
    | none => none) := by rw [exS]; rfl
theorem x_aa (stp : Bool) (p : Pat) (it : It) (e : Ex) (b : Bool) (env : Evn) (W : Wd) : evX g cl (n + 1) b (.aa stp p it e) env W = (match evI g cl (n + 1) true it env W with
      | some (xs, gd, W1) => (match findL stp (aaF g cl n p e env) gd W1 xs W1 with
        | some (t, W2) => some (.bl t, W2)
        | none => none)
      | none => none) := by rw [evX]; rfl
theorem x_comp (p : Pat) (it : It) (c : Oe) (e : Ex) (env : Evn) (W : Wd) : evF g cl n (.comp p it c e) env W = (match evI g cl n true it env W with
    | some (xs, gd, W1) => if xs.length < PySem.sizeLine then mapL (compF g cl n p c e env) gd W1 xs W1 else none
    | none => none) := by rw [evF]; rfl
theorem x_sset2 (p1 : Pat) (it1 : It) (p2 : Pat) (it2 : It) (c : Oe) (e : Ex) (env : Evn) (W : Wd) : evF g cl n (.sset2 p1 it1 p2 it2 c e) env W = (match evI g cl n true it1 env W with
    | some (xs, gd, W1) => (match flatL (set1F g cl n p1 p2 it2 c e env) gd W1 xs W1 with
      | some (zs, W2) => if zs.length < 64 then some ((sortS (zs.foldl addS [])).map .str, W2) else none
      | none => none)
    | none => none) := by rw [evF]; rfl
end
end Pu
namespace Pu
open Pv
section
variable {g : Pg} {cl : Nat → CallF} {n : Nat}
def thenS (g : Pg) (cl : Nat → CallF) (n : Nat) (o : Option Out) (ss : List St) : Option Out := match o with
  | some (.nx env1 W1) => exSs g cl n ss env1 W1
  | o => o
theorem x_cons (s : St) (ss : List St) (env : Evn) (W : Wd) : exSs g cl n (s :: ss) env W = thenS g cl n (exS g cl n s env W) ss := by rw [exSs]; rfl
theorem x_nil (env : Evn) (W : Wd) : exSs g cl n [] env W = some (.nx env W) := by rw [exSs]
theorem t_nx (env : Evn) (W : Wd) (ss : List St) : thenS g cl n (some (.nx env W)) ss = exSs g cl n ss env W := rfl
theorem t_rt (d : D) (W : Wd) (ss : List St) : thenS g cl n (some (.rt d W)) ss = some (.rt d W) := rfl
theorem t_bk (env : Evn) (W : Wd) (ss : List St) : thenS g cl n (some (.bk env W)) ss = some (.bk env W) := rfl
theorem t_ct (env : Evn) (W : Wd) (ss : List St) : thenS g cl n (some (.ct env W)) ss = some (.ct env W) := rfl
theorem t_no (ss : List St) : thenS g cl n none ss = none := rfl
end
end Pu
namespace Pu
open Pv
noncomputable def rngIf : Int → Wd → Option (List D × Option Nat × Wd) := Classical.choose (⟨_, fun _ _ => rfl⟩ : ∃ f : Int → Wd → Option (List D × Option Nat × Wd), ∀ j W, f j W = if inR j then some (rngD 0 j.toNat, none, W) else none)
theorem rngIf_eq (j : Int) (W : Wd) : rngIf j W = if inR j then some (rngD 0 j.toNat, none, W) else none := Classical.choose_spec (⟨_, fun _ _ => rfl⟩ : ∃ f : Int → Wd → Option (List D × Option Nat × Wd), ∀ j W, f j W = if inR j then some (rngD 0 j.toNat, none, W) else none) j W
noncomputable def rngIf2 : Int → Int → Wd → Option (List D × Option Nat × Wd) := Classical.choose (⟨_, fun _ _ _ => rfl⟩ : ∃ f : Int → Int → Wd → Option (List D × Option Nat × Wd), ∀ i j W, f i j W = if inR i && inR j then some (rngD i (j - i).toNat, none, W) else none)
theorem rngIf2_eq (i j : Int) (W : Wd) : rngIf2 i j W = if inR i && inR j then some (rngD i (j - i).toNat, none, W) else none := Classical.choose_spec (⟨_, fun _ _ _ => rfl⟩ : ∃ f : Int → Int → Wd → Option (List D × Option Nat × Wd), ∀ i j W, f i j W = if inR i && inR j then some (rngD i (j - i).toNat, none, W) else none) i j W
theorem inR_ok {j : Int} (h0 : -1000000000 ≤ j) (h1 : j ≤ 1000000000) : inR j = true := by
  cases j with
  | ofNat n => simp only [inR, Nat.ble_eq]; have : (Int.ofNat n) = (n : Int) := rfl; omega
  | negSucc n => simp only [inR, Nat.ble_eq]; omega
theorem smallI_ok {j : Int} (h0 : -1000000000000 ≤ j) (h1 : j ≤ 1000000000000) : smallI j = true := by
  cases j with
  | ofNat n => simp only [smallI, Nat.ble_eq]; have : (Int.ofNat n) = (n : Int) := rfl; omega
  | negSucc n => simp only [smallI, Nat.ble_eq]; omega
theorem rngIf_ok {j : Int} (h0 : 0 ≤ j) (h1 : j ≤ 1000000000) (W : Wd) : rngIf j W = some (rngD 0 j.toNat, none, W) := by
  rw [rngIf_eq, if_pos (inR_ok (by omega) h1)]
theorem rngIf_nat {k : Nat} (h1 : k ≤ 1000000000) (W : Wd) : rngIf (k : Int) W = some (rngD 0 k, none, W) := rngIf_ok (by omega) (by omega) W
theorem rngIf2_ok {i j : Int} (h0 : 0 ≤ i) (h2 : i ≤ 1000000000) (h1 : 0 ≤ j) (h3 : j ≤ 1000000000) (W : Wd) : rngIf2 i j W = some (rngD i (j - i).toNat, none, W) := by
  rw [rngIf2_eq, if_pos (by rw [inR_ok (by omega) h2, inR_ok (by omega) h3]; rfl)]
section
variable {g : Pg} {cl : Nat → CallF} {n : Nat}
theorem x_rng1 (b : Bool) (e : Ex) (env : Evn) (W : Wd) : evI g cl n b (.rng1 e) env W = (match evX g cl n true e env W with
    | some (.int j, W1) => rngIf j W1
    | _ => none) := by rw [evI]; simp only [rngIf_eq]; all_goals rfl
theorem x_rng2 (b : Bool) (a c : Ex) (env : Evn) (W : Wd) : evI g cl n b (.rng2 a c) env W = (match evX g cl n true a env W with
    | some (.int i, W1) => (match evX g cl n true c env W1 with
      | some (.int j, W2) => rngIf2 i j W2
      | _ => none)
    | _ => none) := by rw [evI]; simp only [rngIf2_eq]; all_goals rfl
end
end Pu
end
section
set_option Elab.async false
set_option linter.all false
set_option maxRecDepth 100000
namespace Pu
open Pv
open PySem (Str)
/-! ### places and the roads at them -/
def refs : Nat → List Str → List (L2.Key × D)
  | _, [] => []
  | i, x :: xs => (.inr x, .ref i) :: refs (i + 1) xs
def pos (x : Str) : List Str → Nat
  | [] => 0
  | y :: r => if y = x then 0 else pos x r + 1
theorem refs_app (x : Str) : ∀ (i : Nat) (ps : List Str), refs i (ps ++ [x]) = refs i ps ++ [(.inr x, .ref (i + ps.length))]
  | i, [] => rfl
  | i, y :: ps => by
    rw [List.cons_append, refs, refs_app x (i+1) ps, refs]
    simp; omega
theorem kget_refs (x : Str) : ∀ (i : Nat) (ps : List Str), kget (.inr x) (refs i ps) = if x ∈ ps then some (.ref (i + pos x ps)) else none
  | i, [] => rfl
  | i, y :: ps => by
    rw [refs, kget, kget_refs x (i+1) ps, pos]
    by_cases e : y = x
    · subst e; simp
    · have : ¬ ((Sum.inr y : L2.Key) = Sum.inr x) := fun h => e (Sum.inr.inj h)
      have e' : ¬ x = y := fun h => e h.symm
      simp only [this, if_false, e, List.mem_cons, e', false_or]
      by_cases m : x ∈ ps
      · simp only [m, if_true]; congr 2; omega
      · simp only [m, if_false]
theorem refs_len : ∀ (i : Nat) (ps : List Str), (refs i ps).length = ps.length
  | _, [] => rfl
  | i, y :: ps => by rw [refs, List.length_cons, refs_len, List.length_cons]
theorem get_pos {α : Type} {g : Str → α} {x : Str} : ∀ {ps : List Str}, x ∈ ps → (ps.map g)[pos x ps]? = some (g x)
  | y :: ps, h => by
    rw [pos]
    by_cases e : y = x
    · subst e; simp
    · have h' : x ∈ ps := by
        rcases List.mem_cons.mp h with h | h
        · exact absurd h.symm e
        · exact h
      simp [e, get_pos h']
theorem set_pos {α : Type} {g : Str → α} {x : Str} {v : α} : ∀ {ps : List Str}, ps.Nodup → x ∈ ps → (ps.map g).set (pos x ps) v = ps.map (fun y => if y = x then v else g y)
  | y :: ps, hn, h => by
    rw [pos]
    have hn' := List.nodup_cons.mp hn
    by_cases e : y = x
    · subst e
      simp
      intro a ha hay
      exact absurd (hay ▸ ha) hn'.1
    · have h' : x ∈ ps := by
        rcases List.mem_cons.mp h with h | h
        · exact absurd h.symm e
        · exact h
      simp [e]
      have := set_pos (g := g) (v := v) hn'.2 h'
      rw [this]
def prD (q : Option Str × Str) : D := .tup [kD q.1, .str q.2]
/-- the roads at a place, as they come -/
def r1 (x : Str) : Itm → List (Option Str × Str)
  | .rd a b _ k => (if a = x then [(k, b)] else []) ++ (if b = x then [(k, a)] else [])
  | _ => []
def rOf (its : List Itm) (x : Str) : List (Option Str × Str) := its.flatMap (r1 x)
def kvOf : Itm → Option (L2.Key × D)
  | .pl nm _ _ k => some (.inr nm, kD k)
  | _ => none
def kvs (its : List Itm) : List (L2.Key × D) := its.filterMap kvOf
theorem kget_kvs (x : Str) : ∀ its : List Itm, (kget (.inr x) (kvs its)).isSome = decide (x ∈ places its)
  | [] => rfl
  | .rd a b c k :: its => by
    have := kget_kvs x its
    simpa [kvs, places, kvOf, plOf, List.filterMap_cons] using this
  | .pl nm _ _ k :: its => by
    have := kget_kvs x its
    simp only [kvs, places] at this
    simp only [kvs, places, kvOf, plOf, List.filterMap_cons, kget]
    by_cases e : nm = x
    · subst e; simp
    · have e' : ¬ x = nm := fun h => e h.symm
      have : ¬ ((Sum.inr nm : L2.Key) = Sum.inr x) := fun h => e (Sum.inr.inj h)
      simp only [this, if_false, List.mem_cons, e', false_or]
      assumption
theorem kget_kvs_none {x : Str} {its : List Itm} (h : x ∉ places its) : kget (.inr x) (kvs its) = none := by
  have := kget_kvs x its
  rw [decide_eq_false h] at this
  cases e : kget (Sum.inr x) (kvs its) with
  | none => rfl
  | some d => rw [e] at this; cases this
theorem kvs_len (its : List Itm) : (kvs its).length = (places its).length := by
  induction its with
  | nil => rfl
  | cons it its ih => cases it <;> simpa [kvs, places, kvOf, plOf, List.filterMap_cons] using ih
theorem its_len (its : List Itm) : its.length = (places its).length + (keys its).length := by
  induction its with
  | nil => rfl
  | cons it its ih => cases it <;> simp [places, keys, keyO, plOf, List.filterMap_cons] at ih ⊢ <;> omega
theorem rOf_app (a b : List Itm) (x : Str) : rOf (a ++ b) x = rOf a x ++ rOf b x := by simp [rOf]
theorem r1_len (x : Str) (it : Itm) : (r1 x it).length ≤ 2 := by
  cases it with
  | pl => simp [r1]
  | rd a b c k => simp only [r1]; split <;> split <;> simp
theorem rOf_len (its : List Itm) (x : Str) : (rOf its x).length ≤ 2 * its.length := by
  induction its with
  | nil => simp [rOf]
  | cons it its ih =>
    have := r1_len x it
    simp [rOf] at ih ⊢
    omega
end Pu
namespace Pu
open Pv
open PySem (Str)
def outOf (k : Option Str) (q : Option Str × Str) : Option Str := if q.1 = k then some q.2 else none
def allEnds (f : Str → List (Option Str × Str)) (pls : List Str) (k : Option Str) : List Str := pls.flatMap fun p => (f p).filterMap (outOf k)
def alongF (f : Str → List (Option Str × Str)) (pls : List Str) (k : Option Str) : List Str := sortS ((allEnds f pls k).foldl addS [])
def hasK (f : Str → List (Option Str × Str)) (x : Str) (k : Option Str) : Bool := decide (k ∈ (f x).map (·.1))
def ledGo (f : Str → List (Option Str × Str)) : Nat → List Str → List (Option Str) → D
  | _, pls, [] => .tup [.str "ends", .tup (pls.map .str)]
  | i, pls, k :: ks => match pls.find? (fun x => !hasK f x k) with
    | some x => .tup [.str "stuck", .int i, .str x]
    | none => ledGo f (i + 1) (alongF f pls k) ks
/-! ### sorted texts -/
theorem insS_mem (x y : Str) : ∀ l : List Str, y ∈ insS x l ↔ y = x ∨ y ∈ l
  | [] => by simp [insS]
  | z :: l => by
    rw [insS]
    split
    · simp
    · rw [List.mem_cons, insS_mem x y l, List.mem_cons]
      constructor
      · rintro (h | h | h)
        · exact .inr (.inl h)
        · exact .inl h
        · exact .inr (.inr h)
      · rintro (h | h | h)
        · exact .inr (.inl h)
        · exact .inl h
        · exact .inr (.inr h)
theorem sortS_mem (y : Str) : ∀ l : List Str, y ∈ sortS l ↔ y ∈ l
  | [] => by simp [sortS]
  | z :: l => by rw [sortS, insS_mem, sortS_mem y l, List.mem_cons]
theorem insS_len (x : Str) : ∀ l : List Str, (insS x l).length = l.length + 1
  | [] => rfl
  | z :: l => by
    rw [insS]
    split
    · rfl
    · rw [List.length_cons, insS_len x l, List.length_cons]
theorem sortS_len : ∀ l : List Str, (sortS l).length = l.length
  | [] => rfl
  | z :: l => by rw [sortS, insS_len, sortS_len l, List.length_cons]
theorem addS_mem (y : Str) : ∀ (l acc : List Str), y ∈ l.foldl addS acc ↔ y ∈ l ∨ y ∈ acc
  | [], acc => by simp
  | z :: l, acc => by
    rw [List.foldl_cons, addS_mem y l, addS]
    by_cases h : z ∈ acc
    · rw [if_pos h]
      simp only [List.mem_cons]
      constructor
      · rintro (h1 | h1)
        · exact .inl (.inr h1)
        · exact .inr h1
      · rintro ((h1 | h1) | h1)
        · exact .inr (h1 ▸ h)
        · exact .inl h1
        · exact .inr h1
    · rw [if_neg h]
      simp only [List.mem_cons]
      constructor
      · rintro (h1 | h1 | h1)
        · exact .inl (.inr h1)
        · exact .inl (.inl h1)
        · exact .inr h1
      · rintro ((h1 | h1) | h1)
        · exact .inr (.inl h1)
        · exact .inl h1
        · exact .inr (.inr h1)
theorem addS_nd : ∀ (l acc : List Str), acc.Nodup → (l.foldl addS acc).Nodup
  | [], acc, h => h
  | z :: l, acc, h => by
    rw [List.foldl_cons]
    refine addS_nd l _ ?_
    rw [addS]
    split
    · exact h
    · rename_i hz
      exact List.nodup_cons.mpr ⟨hz, h⟩
theorem ltS_irrefl (x : Str) : ltS x x = false := by simp [ltS, List.lt_irrefl]
theorem ltS_trans {x y z : Str} (h1 : ltS x y = true) (h2 : ltS y z = true) : ltS x z = true := by
  simp only [ltS, decide_eq_true_eq] at *
  exact List.lt_trans h1 h2
theorem ltS_tri {x y : Str} (h : x ≠ y) : ltS x y = true ∨ ltS y x = true := by
  simp only [ltS, decide_eq_true_eq]
  by_cases h1 : x.cps.toList < y.cps.toList
  · exact .inl h1
  · by_cases h2 : y.cps.toList < x.cps.toList
    · exact .inr h2
    · exfalso
      have := List.le_antisymm (List.not_lt.mp h1) (List.not_lt.mp h2)
      apply h
      obtain ⟨⟨a⟩⟩ := x
      obtain ⟨⟨b⟩⟩ := y
      simp at this
      rw [this]
theorem ltS_asymm {x y : Str} (h : ltS x y = true) : ltS y x = false := by
  cases e : ltS y x with
  | false => rfl
  | true => have := ltS_trans h e; rw [ltS_irrefl] at this; cases this
def SortedS (l : List Str) : Prop := l.Pairwise fun x y => ltS x y = true
theorem insS_sorted {x : Str} : ∀ {l : List Str}, SortedS l → x ∉ l → SortedS (insS x l)
  | [], _, _ => by simp [insS, SortedS]
  | y :: l, h, hx => by
    have h' := List.pairwise_cons.mp h
    have hne : x ≠ y := fun e => hx (e ▸ List.mem_cons_self ..)
    rw [insS]
    split
    · rename_i hle
      have hlt : ltS x y = true := by
        rcases ltS_tri hne with h1 | h1
        · exact h1
        · simp [leS, h1] at hle
      refine List.pairwise_cons.mpr ⟨fun z hz => ?_, h⟩
      rcases List.mem_cons.mp hz with e | e
      · exact e ▸ hlt
      · exact ltS_trans hlt (h'.1 z e)
    · rename_i hle
      have hlt : ltS y x = true := by simpa [leS] using hle
      refine List.pairwise_cons.mpr ⟨fun z hz => ?_, insS_sorted h'.2 (fun m => hx (List.mem_cons_of_mem _ m))⟩
      rcases (insS_mem x z l).mp hz with e | e
      · exact e ▸ hlt
      · exact h'.1 z e
theorem sortS_sorted : ∀ {l : List Str}, l.Nodup → SortedS (sortS l)
  | [], _ => by simp [sortS, SortedS]
  | x :: l, h => by
    have h' := List.nodup_cons.mp h
    rw [sortS]
    exact insS_sorted (sortS_sorted h'.2) (fun m => h'.1 ((sortS_mem x l).mp m))
theorem sorted_nd {l : List Str} (h : SortedS l) : l.Nodup := by
  refine List.Pairwise.imp (fun {a b} hab => ?_) h
  intro e
  subst e
  rw [ltS_irrefl] at hab
  cases hab
/-- sorted lists with the same items are the same -/
theorem sorted_ext : ∀ {l m : List Str}, SortedS l → SortedS m → (∀ x, x ∈ l ↔ x ∈ m) → l = m
  | [], [], _, _, _ => rfl
  | [], y :: m, _, _, h => by have := (h y).mpr (List.mem_cons_self ..); cases this
  | x :: l, [], _, _, h => by have := (h x).mp (List.mem_cons_self ..); cases this
  | x :: l, y :: m, hl, hm, h => by
    have hl' := List.pairwise_cons.mp hl
    have hm' := List.pairwise_cons.mp hm
    have exy : x = y := by
      rcases List.mem_cons.mp ((h x).mp (List.mem_cons_self ..)) with e | e
      · exact e
      · rcases List.mem_cons.mp ((h y).mpr (List.mem_cons_self ..)) with e' | e'
        · exact e'.symm
        · have h1 := hl'.1 y e'
          have h2 := hm'.1 x e
          rw [ltS_asymm h1] at h2
          cases h2
    subst exy
    congr 1
    refine sorted_ext hl'.2 hm'.2 (fun z => ?_)
    constructor
    · intro hz
      rcases List.mem_cons.mp ((h z).mp (List.mem_cons_of_mem _ hz)) with e | e
      · have := hl'.1 z hz
        rw [e, ltS_irrefl] at this
        cases this
      · exact e
    · intro hz
      rcases List.mem_cons.mp ((h z).mpr (List.mem_cons_of_mem _ hz)) with e | e
      · have := hm'.1 z hz
        rw [e, ltS_irrefl] at this
        cases this
      · exact e
end Pu
namespace Pu
open Pv
open PySem (Str)
def one1 (a p : Str) : Nat := if a = p then 1 else 0
theorem sum_zero {a : Str} : ∀ {pls : List Str}, a ∉ pls → (pls.map (one1 a)).sum = 0
  | [], _ => rfl
  | p :: pls, h => by
    have h1 : ¬ a = p := fun e => h (e ▸ List.mem_cons_self ..)
    have h2 := sum_zero (a := a) (pls := pls) (fun m => h (List.mem_cons_of_mem _ m))
    simp [one1, h1] at h2 ⊢
    exact h2
theorem sum_one {a : Str} : ∀ {pls : List Str}, pls.Nodup → (pls.map (one1 a)).sum ≤ 1
  | [], _ => by simp
  | p :: pls, h => by
    have h' := List.nodup_cons.mp h
    by_cases e : a = p
    · subst e
      have := sum_zero h'.1
      simp [one1] at this ⊢
      omega
    · have := sum_one (a := a) h'.2
      simp [one1, e] at this ⊢
      exact this
theorem sum_add {f g : Str → Nat} : ∀ pls : List Str, (pls.map fun p => f p + g p).sum = (pls.map f).sum + (pls.map g).sum
  | [] => rfl
  | p :: pls => by simp [sum_add pls]; omega
theorem sum_le {f g : Str → Nat} (h : ∀ p, f p ≤ g p) : ∀ pls : List Str, (pls.map f).sum ≤ (pls.map g).sum
  | [] => Nat.le_refl _
  | p :: pls => by have := sum_le h pls; have := h p; simp; omega
theorem deg_le {pls : List Str} (h : pls.Nodup) : ∀ its : List Itm, (pls.map fun p => (rOf its p).length).sum ≤ 2 * (keys its).length
  | [] => by
    have : ∀ l : List Str, (l.map fun p => (rOf [] p).length).sum = 0 := by intro l; induction l <;> simp_all [rOf]
    rw [this]; exact Nat.zero_le _
  | .pl nm x y k :: its => by
    have := deg_le h its
    simpa [rOf, r1, keys, keyO, List.filterMap_cons] using this
  | .rd a b c k :: its => by
    have h1 := deg_le h its
    have e : (fun p => (rOf (.rd a b c k :: its) p).length) = fun p => (one1 a p + one1 b p) + (rOf its p).length := by
      funext p
      simp only [rOf, List.flatMap_cons, r1, List.length_append, one1]
      split <;> split <;> rfl
    rw [e, sum_add, sum_add]
    have h2 := sum_one (a := a) h
    have h3 := sum_one (a := b) h
    have e2 : (keys (.rd a b c k :: its)).length = (keys its).length + 1 := by simp [keys, keyO, List.filterMap_cons]
    rw [e2]
    omega
theorem flat_len {f : Str → List Str} : ∀ pls : List Str, (pls.flatMap f).length = (pls.map fun p => (f p).length).sum
  | [] => rfl
  | p :: pls => by simp [flat_len pls]
theorem allEnds_len {pls : List Str} (h : pls.Nodup) (its : List Itm) (k : Option Str) : (allEnds (rOf its) pls k).length ≤ 2 * (keys its).length := by
  rw [allEnds, flat_len]
  refine Nat.le_trans (sum_le (fun p => ?_) pls) (deg_le h its)
  exact List.length_filterMap_le ..
theorem alongF_mem {f : Str → List (Option Str × Str)} {pls : List Str} {k : Option Str} {y : Str} : y ∈ alongF f pls k ↔ ∃ p ∈ pls, (k, y) ∈ f p := by
  rw [alongF, sortS_mem, addS_mem, allEnds]
  simp only [List.mem_flatMap, List.mem_filterMap, outOf, List.not_mem_nil, or_false]
  constructor
  · rintro ⟨p, hp, q, hq, e⟩
    by_cases h : q.1 = k
    · rw [if_pos h] at e
      cases e
      exact ⟨p, hp, by rw [← h]; exact hq⟩
    · rw [if_neg h] at e; cases e
  · rintro ⟨p, hp, hq⟩
    exact ⟨p, hp, _, hq, by simp⟩
theorem alongF_sorted (f : Str → List (Option Str × Str)) (pls : List Str) (k : Option Str) : SortedS (alongF f pls k) := sortS_sorted (addS_nd _ [] List.nodup_nil)
end Pu
namespace Pu
open Pv
open PySem (Str)
theorem place_form {its : List Itm} (h : ∀ it ∈ its, it.Form) {x : Str} (hx : x ∈ places its) : nameRow x = true := by
  obtain ⟨it, hi, e⟩ := List.mem_filterMap.mp hx
  cases it with
  | pl nm a b k => cases e; exact (h _ hi).1
  | rd => cases e
theorem rOf_place {its : List Itm} (h : ShopOk its) {x y : Str} {k : Option Str} (hy : (k, y) ∈ rOf its x) : y ∈ places its := by
  obtain ⟨it, hi, hm⟩ := List.mem_flatMap.mp hy
  obtain ⟨l1, l2, rfl⟩ := List.append_of_mem hi
  cases it with
  | pl => simp [r1] at hm
  | rd a b c k' =>
    obtain ⟨ha, hb, _⟩ := h.ends l1 a b c k' l2 rfl
    have sub : ∀ z, z ∈ places l1 → z ∈ places (l1 ++ .rd a b c k' :: l2) := fun z hz => by simp only [places, List.filterMap_append]; exact List.mem_append_left _ hz
    simp only [r1, List.mem_append] at hm
    rcases hm with hm | hm
    · split at hm <;> simp at hm
      exact hm.2 ▸ sub _ hb
    · split at hm <;> simp at hm
      exact hm.2 ▸ sub _ ha
end Pu
namespace Pu
open Pv
open PySem (Str)
theorem bnds_str (n : Nat) : ∀ l : List Str, bnds n (l.map D.str) = true
  | [] => rfl
  | x :: l => by rw [List.map_cons, bnds, bnds_str n l]; rfl
theorem ledGo_bnd (n : Nat) (f : Str → List (Option Str × Str)) : ∀ (ks : List (Option Str)) (i : Nat) (pls : List Str), bnd n (ledGo f i pls ks) = true
  | [], i, pls => by simp [ledGo, bnd, bnds, bnds_str]
  | k :: ks, i, pls => by
    rw [ledGo]
    split
    · simp [bnd, bnds]
    · exact ledGo_bnd n f ks _ _
end Pu
end
section
set_option Elab.async false
set_option linter.all false
set_option maxRecDepth 100000
namespace Pu
open Pv
open PySem (Str)
/-! ### the hand -/
def hdK (a b c d e : D) : List (L2.Key × D) := [(.inr "wide", a), (.inr "cells", b), (.inr "rest", c), (.inr "turn", d), (.inr "mix", e)]
section
variable {a b c d e v : D}
theorem hk1 : kget (.inr ("wide" : Str)) (hdK a b c d e) = some a := by rfl
theorem hk2 : kget (.inr ("cells" : Str)) (hdK a b c d e) = some b := by rfl
theorem hk3 : kget (.inr ("rest" : Str)) (hdK a b c d e) = some c := by rfl
theorem hk4 : kget (.inr ("turn" : Str)) (hdK a b c d e) = some d := by rfl
theorem hk5 : kget (.inr ("mix" : Str)) (hdK a b c d e) = some e := by rfl
theorem hp3 : kput (.inr ("rest" : Str)) v (hdK a b c d e) = hdK a b v d e := by rfl
theorem hp4 : kput (.inr ("turn" : Str)) v (hdK a b c d e) = hdK a b c v e := by rfl
theorem hp5 : kput (.inr ("mix" : Str)) v (hdK a b c d e) = hdK a b c d v := by rfl
theorem hlen : (hdK a b c d e).length = 5 := rfl
end
structure Hs where
  c0 : List Int
  wide : List Int
  cells : List Int
  r : Int
  t : Int
  m : Int
def hw (h : Hs) (X : Wd) : Wd := .lst (h.c0.map .int) :: .lst (h.wide.map .int) :: .lst (h.cells.map .int) :: .dK (hdK (.ref 1) (.ref 2) (.int h.r) (.int h.t) (.int h.m)) :: X
structure Hv (h : Hs) : Prop where
  w : ∀ x ∈ h.wide, 0 ≤ x
  r : 0 ≤ h.r
  m0 : 0 ≤ h.m
  m1 : h.m < 2147483647
theorem fmod_lo {a b : Int} (h : 0 < b) : 0 ≤ a.fmod b := Int.fmod_nonneg_of_pos a h
theorem fmod_hi {a b : Int} (h : 0 < b) : a.fmod b < b := Int.fmod_lt_of_pos a h
end Pu
namespace Pu
open Pv
def cellOf (h : Hs) : Int := match h.cells with
  | [] => 3
  | c :: cs => ((c :: cs)[(h.t.fmod ((cs.length : Int) + 1)).toNat]?).getD 0
def mixOf (h : Hs) : Int := (h.m * 48271 + cellOf h * 69621 + (h.t + 1)).fmod 2147483647
def tailH (h : Hs) : Hs := { h with t := h.t + 1, m := mixOf h }
def tailD (many : Int) (h : Hs) : Int := (((mixOf h * mixOf h + cellOf h * 40014 + 7).fmod 2147483563).fdiv 13).fmod many
def startH (h : Hs) : Hs := if h.r = 0 then (match h.wide with
  | [] => h
  | w :: ws => { h with r := w, wide := ws }) else h
def drawD (many : Int) (h : Hs) : Int := if 0 < (startH h).r then (startH h).r.fmod many else tailD many (startH h)
def drawH (many : Int) (h : Hs) : Hs := if 0 < (startH h).r then { startH h with r := (startH h).r.fdiv many } else tailH (startH h)
theorem startH_v {h : Hs} (hv : Hv h) : Hv (startH h) := by
  unfold startH
  split
  · split
    · exact hv
    · rename_i w ws e
      exact ⟨fun x hx => hv.w x (by rw [e]; exact List.mem_cons_of_mem _ hx), hv.w w (by rw [e]; exact List.mem_cons_self ..), hv.m0, hv.m1⟩
  · exact hv
theorem drawH_v {h : Hs} (hv : Hv h) {many : Int} (h0 : 0 < many) : Hv (drawH many h) := by
  have h1 := startH_v hv
  unfold drawH
  split
  · exact ⟨h1.w, Int.fdiv_nonneg h1.r (by omega), h1.m0, h1.m1⟩
  · exact ⟨h1.w, h1.r, fmod_lo (by decide), fmod_hi (by decide)⟩
theorem drawD_lo {h : Hs} {many : Int} (h0 : 0 < many) : 0 ≤ drawD many h := by
  unfold drawD
  split
  · exact fmod_lo h0
  · exact fmod_lo h0
theorem drawD_hi {h : Hs} {many : Int} (h0 : 0 < many) : drawD many h < many := by
  unfold drawD
  split
  · exact fmod_hi h0
  · exact fmod_hi h0
theorem mix_small (h : Hs) : smallI (mixOf h) = true := by
  have h1 : 0 ≤ mixOf h := fmod_lo (by decide)
  have h2 : mixOf h < 2147483647 := fmod_hi (by decide)
  exact smallI_ok (by omega) (by omega)
end Pu
namespace Pu
open Pv
open PySem (Str)
/-! ### drawn names -/
def SG : List Nat := [97, 90, 48, 95, 98, 57, 122, 65]
def DG : List Nat := [48, 49, 50, 51, 52, 53, 54, 55, 56, 57]
def sgn (i : Int) : Nat := SG.getD i.toNat 97
theorem signs_l : (PySem.Str.ofString "aZ0_b9zA").cps.toList = SG := by rfl
theorem sgn_mem (i : Int) : sgn i ∈ SG := by
  unfold sgn
  by_cases h : i.toNat < 8
  · have : i.toNat = 0 ∨ i.toNat = 1 ∨ i.toNat = 2 ∨ i.toNat = 3 ∨ i.toNat = 4 ∨ i.toNat = 5 ∨ i.toNat = 6 ∨ i.toNat = 7 := by omega
    rcases this with e | e | e | e | e | e | e | e <;> rw [e] <;> decide
  · rw [List.getD, List.getElem?_eq_none (by simp [SG]; omega)]
    decide
theorem sign_ix {W : Wd} {i : Int} (h0 : 0 ≤ i) (h1 : i < 8) : ixD W (.str "aZ0_b9zA") (.int i) = some (.str ⟨#[sgn i]⟩) := by
  have e : L2.atI SG i = some (sgn i) := by
    have h2 : i < (SG.length : Int) := by simpa [SG] using h1
    simp only [L2.atI, L2.ixN, h0, if_true, h2]
    have : i.toNat < SG.length := by omega
    simp [sgn, List.getD, List.getElem?_eq_getElem this]
  simp only [ixD, signs_l, e]
  rfl
theorem app_l (x y : Str) : (x ++ y).cps.toList = x.cps.toList ++ y.cps.toList := Array.toList_append
theorem app_len (x y : Str) : (x ++ y).length = x.length + y.length := Array.size_append
theorem one_len (c : Nat) : (⟨#[c]⟩ : Str).length = 1 := rfl
theorem len_l (x : Str) : x.length = x.cps.toList.length := by simp [PySem.Str.length]
theorem str_ext {x y : Str} (h : x.cps.toList = y.cps.toList) : x = y := by
  obtain ⟨⟨a⟩⟩ := x
  obtain ⟨⟨b⟩⟩ := y
  simp at h
  rw [h]
theorem rep_l {c : Nat} {n : Nat} : n < 3 → (repS ⟨#[c]⟩ n).cps.toList = List.replicate n c := by
  intro h
  have : n = 0 ∨ n = 1 ∨ n = 2 := by omega
  rcases this with e | e | e <;> subst e <;> rfl
def numS (k : Nat) : Str := toString (k : Int)
theorem numS_ok : ∀ k, k < 20 → PySem.PyData.strOk (numS k) = true ∧ (numS k).length ≤ 2 ∧ (∀ d ∈ (numS k).cps.toList, d ∈ DG) := by decide +kernel
theorem numS_inj : ∀ k, k < 20 → ∀ j, j < 20 → (numS k).cps.toList = (numS j).cps.toList → k = j := by decide +kernel
/-- a head and signs behind it -/
def NmF (hs : Str) (T : List Nat) (x : Str) : Prop := ∃ c r, x.cps.toList = c :: r ∧ c ∈ hs.cps.toList ∧ ∀ d ∈ r, d ∈ T
theorem NmF.app {hs : Str} {T : List Nat} {x y : Str} (h : NmF hs T x) (hy : ∀ d ∈ y.cps.toList, d ∈ T) : NmF hs T (x ++ y) := by
  obtain ⟨c, r, e, hc, hr⟩ := h
  refine ⟨c, r ++ y.cps.toList, by rw [app_l, e]; rfl, hc, fun d hd => ?_⟩
  rcases List.mem_append.mp hd with h | h
  · exact hr d h
  · exact hy d h
theorem NmF.imp {hs : Str} {T T' : List Nat} {x : Str} (h : NmF hs T x) (ht : ∀ d ∈ T, d ∈ T') : NmF hs T' x := by
  obtain ⟨c, r, e, hc, hr⟩ := h
  exact ⟨c, r, e, hc, fun d hd => ht d (hr d hd)⟩
theorem split_q {q : Nat} : ∀ {r r' s s' : List Nat}, r ++ q :: s = r' ++ q :: s' → q ∉ r → q ∉ r' → s = s'
  | [], [], s, s', h, _, _ => by simpa using h
  | [], b :: r', s, s', h, _, h2 => by
    simp at h
    exact absurd (h.1 ▸ List.mem_cons_self ..) h2
  | a :: r, [], s, s', h, h1, _ => by
    simp at h
    exact absurd (h.1 ▸ List.mem_cons_self ..) h1
  | a :: r, b :: r', s, s', h, h1, h2 => by
    simp at h
    exact split_q h.2 (fun m => h1 (List.mem_cons_of_mem _ m)) (fun m => h2 (List.mem_cons_of_mem _ m))
def TL : List Nat := SG ++ 113 :: DG
theorem q_sg : 113 ∉ SG := by decide
/-- with a q and a number: new -/
theorem q_new {hs x y : Str} {k j : Nat} (hx : NmF hs SG x) (hy : NmF hs SG y) (hk : k < 20) (hj : j < 20) (h : x ++ "q" ++ numS k = y ++ "q" ++ numS j) : k = j := by
  obtain ⟨c, r, e, _, hr⟩ := hx
  obtain ⟨c', r', e', _, hr'⟩ := hy
  have h := congrArg (fun z : Str => z.cps.toList) h
  simp only [app_l, e, e'] at h
  have eq : (PySem.Str.ofString "q").cps.toList = [113] := by rfl
  rw [eq] at h
  simp at h
  have h2 : r ++ 113 :: (numS k).cps.toList = r' ++ 113 :: (numS j).cps.toList := by simpa using h.2
  have := split_q h2 (fun m => q_sg (hr _ m)) (fun m => q_sg (hr' _ m))
  exact numS_inj k hk j hj this
theorem q_other {hs x y : Str} {k : Nat} (hx : NmF hs SG x) (hy : NmF hs SG y) (h : x ++ "q" ++ numS k = y) : False := by
  obtain ⟨c, r, e, _, hr⟩ := hx
  obtain ⟨c', r', e', _, hr'⟩ := hy
  have h := congrArg (fun z : Str => z.cps.toList) h
  simp only [app_l, e, e'] at h
  have eq : (PySem.Str.ofString "q").cps.toList = [113] := by rfl
  rw [eq] at h
  simp at h
  exact q_sg (hr' 113 (by rw [← h.2]; simp))
end Pu

namespace Pu
open Pv
open PySem (Str)
def s1 (k : Nat) : Nat := sgn (((k : Int) * 3 + 1).fmod 8)
def s2 (k : Nat) : Nat := sgn (((k : Int).fdiv 8).fmod 8)
theorem s12_inj : ∀ k, k < 20 → ∀ j, j < 20 → s1 k = s1 j → s2 k = s2 j → k = j := by decide +kernel
def nmA (head front back : Str) (k : Nat) : Str := head ++ front ++ ⟨#[s1 k]⟩ ++ ⟨#[s2 k]⟩ ++ back
theorem nmA_inj {head front back : Str} {k j : Nat} (hk : k < 20) (hj : j < 20) (h : nmA head front back k = nmA head front back j) : k = j := by
  have h := congrArg (fun z : Str => z.cps.toList) h
  simp only [nmA, app_l] at h
  have h := List.append_cancel_right h
  simp only [List.append_assoc] at h
  have h := List.append_cancel_left h
  have h := List.append_cancel_left h
  simp at h
  exact s12_inj k hk j hj h.1 h.2
theorem nmA_f {hs head front back : Str} (hh : NmF hs SG head) (hf : ∀ d ∈ front.cps.toList, d ∈ SG) (hb : ∀ d ∈ back.cps.toList, d ∈ SG) (k : Nat) : NmF hs SG (nmA head front back k) := by
  have a : ∀ (i : Int), ∀ d ∈ (⟨#[sgn i]⟩ : Str).cps.toList, d ∈ SG := fun i d hd => by simp at hd; exact hd ▸ sgn_mem i
  exact (((hh.app hf).app (a _)).app (a _)).app hb
theorem head_f {hs : Str} {c : Nat} (h : c ∈ hs.cps.toList) (T : List Nat) : NmF hs T ⟨#[c]⟩ := ⟨c, [], rfl, h, by simp⟩
end Pu

namespace Pu
open Pv
theorem hw_len {h : Hs} {X : Wd} : (hw h X).length = X.length + 4 := rfl
end Pu
namespace Pu
open Pv
open PySem (Str)
theorem range_split {n : Nat} {done rest : List Nat} {i : Nat} (h : List.range n = done ++ i :: rest) : i = done.length ∧ done.length < n := by
  have h1 : (List.range n)[done.length]? = some i := by rw [h]; simp
  have h2 : done.length < n := by
    have := congrArg List.length h
    simp at this; omega
  rw [List.getElem?_range h2] at h1
  exact ⟨(Option.some.inj h1).symm, h2⟩
theorem use_ki {f : D → Evn → Wd → Option Out} {gd : Option Nat} {W0 W : Wd} {lo : Int} {n : Nat} {env : Evn} {o : Option Out} (e : forL f gd W0 (rngD lo n) env W = o) (I : Nat → Evn → Wd → Prop) (h0 : I 0 env W)
    (step : ∀ k env W, k < n → I k env W → ∃ env1 W1, (f (.int (lo + (k : Int))) env W = some (.nx env1 W1) ∨ f (.int (lo + (k : Int))) env W = some (.ct env1 W1)) ∧ okW gd W0 W1 = true ∧ I (k + 1) env1 W1) :
    ∃ env1 W1, o = some (.nx env1 W1) ∧ I n env1 W1 := by
  have := use_i (gmap_rng lo n) e (fun done => I done.length) h0 (by
    intro done i rest env W hd hi
    obtain ⟨rfl, hl⟩ := range_split hd
    obtain ⟨env1, W1, a, b, c⟩ := step _ env W hl hi
    exact ⟨env1, W1, a, b, by simpa using c⟩)
  simpa using this
theorem use_kb {f : D → Evn → Wd → Option Out} {gd : Option Nat} {W0 W : Wd} {lo : Int} {n : Nat} {env : Evn} {o : Option Out} (e : forL f gd W0 (rngD lo n) env W = o) (I : Nat → Evn → Wd → Prop) (Q : Evn → Wd → Prop) (h0 : I 0 env W)
    (step : ∀ k env W, k < n → I k env W → (∃ env1 W1, f (.int (lo + (k : Int))) env W = some (.nx env1 W1) ∧ okW gd W0 W1 = true ∧ I (k + 1) env1 W1) ∨ ∃ env1 W1, f (.int (lo + (k : Int))) env W = some (.bk env1 W1) ∧ Q env1 W1)
    (hq : ∀ env W, I n env W → Q env W) :
    ∃ env1 W1, o = some (.nx env1 W1) ∧ Q env1 W1 := by
  exact use_b (gmap_rng lo n) e (fun done => I done.length) Q h0 (by
    intro done i rest env W hd hi
    obtain ⟨rfl, hl⟩ := range_split hd
    rcases step _ env W hl hi with ⟨env1, W1, a, b, c⟩ | r
    · exact .inl ⟨env1, W1, a, b, by simpa using c⟩
    · exact .inr r) (by intro env W hi; exact hq env W (by simpa using hi))
theorem use_kr {f : D → Evn → Wd → Option Out} {gd : Option Nat} {W0 W : Wd} {lo : Int} {n : Nat} {env : Evn} {o : Option Out} (e : forL f gd W0 (rngD lo n) env W = o) (I : Nat → Evn → Wd → Prop) (Q : D → Wd → Prop) (h0 : I 0 env W)
    (step : ∀ k env W, k < n → I k env W → (∃ env1 W1, f (.int (lo + (k : Int))) env W = some (.nx env1 W1) ∧ okW gd W0 W1 = true ∧ I (k + 1) env1 W1) ∨ ∃ d W1, f (.int (lo + (k : Int))) env W = some (.rt d W1) ∧ Q d W1) :
    (∃ env1 W1, o = some (.nx env1 W1) ∧ I n env1 W1) ∨ ∃ d W1, o = some (.rt d W1) ∧ Q d W1 := by
  have := use_r (gmap_rng lo n) e (fun done => I done.length) Q h0 (by
    intro done i rest env W hd hi
    obtain ⟨rfl, hl⟩ := range_split hd
    rcases step _ env W hl hi with ⟨env1, W1, a, b, c⟩ | r
    · exact .inl ⟨env1, W1, a, b, by simpa using c⟩
    · exact .inr r)
  simpa using this
theorem sign_draw {W : Wd} {h : Hs} : ixD W (.str "aZ0_b9zA") (.int (drawD 8 h)) = some (.str ⟨#[sgn (drawD 8 h)]⟩) := sign_ix (drawD_lo (by decide)) (drawD_hi (by decide))
theorem sign_s1 {W : Wd} {k : Nat} : ixD W (.str "aZ0_b9zA") (.int (((k : Int) * 3 + 1).fmod 8)) = some (.str ⟨#[s1 k]⟩) := sign_ix (fmod_lo (by decide)) (fmod_hi (by decide))
theorem sign_s2 {W : Wd} {k : Nat} : ixD W (.str "aZ0_b9zA") (.int (((k : Int).fdiv 8).fmod 8)) = some (.str ⟨#[s2 k]⟩) := sign_ix (fmod_lo (by decide)) (fmod_hi (by decide))
theorem rep_len {c : Nat} {n : Nat} (h : n < 3) : (repS ⟨#[c]⟩ n).length ≤ 2 := by rw [len_l, rep_l h]; simp; omega
theorem rep_mem {i : Int} {n : Nat} (h : n < 3) : ∀ d ∈ (repS ⟨#[sgn i]⟩ n).cps.toList, d ∈ SG := by
  intro d hd
  rw [rep_l h] at hd
  rw [(List.mem_replicate.mp hd).2]
  exact sgn_mem i
end Pu
end
section
set_option Elab.async false
set_option linter.all false
set_option maxRecDepth 100000
namespace Pu
open Pv
open PySem (Str)
/-! ### pairs of numbers -/
def ptD (p : Int × Int) : D := .tup [.int p.1, .int p.2]
theorem eqD_pt (p q : Int × Int) : eqD (ptD p) (ptD q) = some (decide (p = q)) := by
  obtain ⟨a, b⟩ := p
  obtain ⟨c, d⟩ := q
  simp [eqD, ptD, dle, D.py, pys, PySem.PyData.eqv, PySem.PyData.eqvAll]
  by_cases h1 : a = c <;> by_cases h2 : b = d <;> simp [h1, h2]
theorem anyEq_pt (x : Int × Int) : ∀ xs : List (Int × Int), anyEq (ptD x) (xs.map ptD) = some (decide (x ∈ xs))
  | [] => by simp [anyEq]
  | y :: ys => by
    rw [List.map_cons, anyEq, eqD_pt, anyEq_pt x ys]
    simp only [List.mem_cons]
    congr 1
    rw [← Bool.decide_or]
    congr 1
    rw [eq_comm (a := y)]
theorem inD_pt (W : Wd) (a b : Int) (xs : List (Int × Int)) : inD W (.tup [.int a, .int b]) (.lst (xs.map ptD)) = some (decide ((a, b) ∈ xs)) := by
  rw [inD, if_pos (by rfl : dle 40 (.tup [.int a, .int b]) = true)]
  exact anyEq_pt (a, b) xs
/-- a comprehension whose world changes -/
theorem mapL_i {α : Type} {f : D → Wd → Option (Option D × Wd)} {gd : Option Nat} {W0 : Wd} (g : Nat → α → D) (I : List α → List D → Wd → Prop) (xs0 : List α)
    (step : ∀ done x rest out W, xs0 = done ++ x :: rest → I done out W → ∃ o W1, f (g done.length x) W = some (o, W1) ∧ okW gd W0 W1 = true ∧ I (done ++ [x]) (out ++ o.toList) W1) :
    ∀ (rest done : List α) (out : List D) (W : Wd), xs0 = done ++ rest → I done out W →
    ∃ ys W1, mapL f gd W0 (gmap g done.length rest) W = some (ys, W1) ∧ I xs0 (out ++ ys) W1
  | [], done, out, W, e, h => ⟨[], W, rfl, by rw [e, List.append_nil, List.append_nil]; exact h⟩
  | x :: rest, done, out, W, e, h => by
    obtain ⟨o, W1, hf, ok, h1⟩ := step done x rest out W e h
    obtain ⟨ys, W2, hf2, h2⟩ := mapL_i g I xs0 step rest (done ++ [x]) _ W1 (by simp [e]) h1
    have hl : (done ++ [x]).length = done.length + 1 := by simp
    rw [hl] at hf2
    cases o with
    | none => exact ⟨ys, W2, by rw [gmap, mapL, hf]; simp only [ok, if_true]; rw [hf2], by simpa using h2⟩
    | some d => exact ⟨d :: ys, W2, by rw [gmap, mapL, hf]; simp only [ok, if_true]; rw [hf2], by simpa using h2⟩
theorem use_m {α : Type} {f : D → Wd → Option (Option D × Wd)} {gd : Option Nat} {W0 W : Wd} {g : Nat → α → D} {xs0 : List α} {L : List D} {o : Option (List D × Wd)} (hL : L = gmap g 0 xs0) (e : mapL f gd W0 L W = o) (I : List α → List D → Wd → Prop) (h0 : I [] [] W)
    (step : ∀ done x rest out W, xs0 = done ++ x :: rest → I done out W → ∃ o W1, f (g done.length x) W = some (o, W1) ∧ okW gd W0 W1 = true ∧ I (done ++ [x]) (out ++ o.toList) W1) :
    ∃ ys W1, o = some (ys, W1) ∧ I xs0 ys W1 := by
  have := mapL_i g I xs0 step xs0 [] [] W rfl h0
  simpa [(hL ▸ e : mapL f gd W0 (gmap g 0 xs0) W = o)] using this
theorem use_mk {f : D → Wd → Option (Option D × Wd)} {gd : Option Nat} {W0 W : Wd} {lo : Int} {n : Nat} {o : Option (List D × Wd)} (e : mapL f gd W0 (rngD lo n) W = o) (I : Nat → List D → Wd → Prop) (h0 : I 0 [] W)
    (step : ∀ k out W, k < n → I k out W → ∃ o W1, f (.int (lo + (k : Int))) W = some (o, W1) ∧ okW gd W0 W1 = true ∧ I (k + 1) (out ++ o.toList) W1) :
    ∃ ys W1, o = some (ys, W1) ∧ I n ys W1 := by
  have := use_m (gmap_rng lo n) e (fun done => I done.length) h0 (by
    intro done i rest out W hd hi
    obtain ⟨rfl, hl⟩ := range_split hd
    obtain ⟨o, W1, a, b, c⟩ := step _ out W hl hi
    exact ⟨o, W1, a, b, by simpa using c⟩)
  simpa using this
end Pu
namespace Pu
open Pv
open PySem (Str)
theorem atI_nat {α : Type} {xs : List α} {k : Nat} (h : k < xs.length) : L2.atI xs (k : Int) = some xs[k] := by
  have h0 : (0 : Int) ≤ (k : Int) := by omega
  have h1 : (k : Int) < (xs.length : Int) := by omega
  simp only [L2.atI, L2.ixN, h0, h1, if_true]
  simp [List.getElem?_eq_getElem h]
theorem ix_lst {W : Wd} {α : Type} {f : α → D} {xs : List α} {k : Nat} (h : k < xs.length) : ixD W (.lst (xs.map f)) (.int (k : Int)) = some (f xs[k]) := by
  have : k < (xs.map f).length := by simpa using h
  simp only [ixD]
  rw [atI_nat this, List.getElem_map]
theorem rngD_len (lo : Int) (n : Nat) : (rngD lo n).length = n := by simp [rngD]
theorem mnmx_symm {a b : Str} (h : a ≠ b) : mnS a b = mnS b a ∧ mxS a b = mxS b a := by
  rcases ltS_tri h with h1 | h1
  · have h2 := ltS_asymm h1; simp [mnS, mxS, h1, h2]
  · have h2 := ltS_asymm h1; simp [mnS, mxS, h1, h2]
theorem mnmx_or {a b : Str} (h : a ≠ b) : (mnS a b = a ∧ mxS a b = b) ∨ (mnS a b = b ∧ mxS a b = a) := by
  rcases ltS_tri h with h1 | h1
  · have h2 := ltS_asymm h1; left; simp [mnS, mxS, h1, h2]
  · have h2 := ltS_asymm h1; right; simp [mnS, mxS, h1, h2]
theorem mnmx_inj {a b c d : Str} (h : a ≠ b) (h' : c ≠ d) (e : (mnS a b, mxS a b) = (mnS c d, mxS c d)) : (a = c ∧ b = d) ∨ (a = d ∧ b = c) := by
  simp only [Prod.mk.injEq] at e
  rcases mnmx_or h with ⟨h1, h2⟩ | ⟨h1, h2⟩ <;> rcases mnmx_or h' with ⟨h3, h4⟩ | ⟨h3, h4⟩ <;> rw [h1, h2, h3, h4] at e
  · exact .inl e
  · exact .inr e
  · exact .inr ⟨e.2, e.1⟩
  · exact .inl ⟨e.2, e.1⟩
def nth (names : List Str) (i : Int) : Str := names.getD i.toNat ⟨#[]⟩
def keyP (names : List Str) (p : Int × Int) : Str × Str := (mnS (nth names p.1) (nth names p.2), mxS (nth names p.1) (nth names p.2))
theorem nth_eq {names : List Str} {k : Nat} (h : k < names.length) : nth names (k : Int) = names[k] := by
  simp [nth, List.getD, List.getElem?_eq_getElem h]
theorem nth_mem {names : List Str} {k : Nat} (h : k < names.length) : nth names (k : Int) ∈ names := by rw [nth_eq h]; exact List.getElem_mem ..
theorem nth_inj {names : List Str} (hn : names.Nodup) {k j : Nat} (hk : k < names.length) (hj : j < names.length) (e : nth names (k : Int) = nth names (j : Int)) : k = j := by
  rw [nth_eq hk, nth_eq hj] at e
  exact (List.getElem_inj hn).mp e
theorem keyP_inj {names : List Str} (hn : names.Nodup) {p q : Int × Int} (hp : 0 ≤ p.1 ∧ p.1 < p.2 ∧ p.2 < names.length) (hq : 0 ≤ q.1 ∧ q.1 < q.2 ∧ q.2 < names.length) (e : keyP names p = keyP names q) : p = q := by
  obtain ⟨a, b⟩ := p
  obtain ⟨c, d⟩ := q
  simp only at hp hq
  obtain ⟨a, rfl⟩ := Int.eq_ofNat_of_zero_le hp.1
  obtain ⟨b, rfl⟩ := Int.eq_ofNat_of_zero_le (show 0 ≤ b by omega)
  obtain ⟨c, rfl⟩ := Int.eq_ofNat_of_zero_le hq.1
  obtain ⟨d, rfl⟩ := Int.eq_ofNat_of_zero_le (show 0 ≤ d by omega)
  have la : a < names.length := by omega
  have lb : b < names.length := by omega
  have lc : c < names.length := by omega
  have ld : d < names.length := by omega
  have hab : nth names (a : Int) ≠ nth names (b : Int) := fun h => by have := nth_inj hn la lb h; omega
  have hcd : nth names (c : Int) ≠ nth names (d : Int) := fun h => by have := nth_inj hn lc ld h; omega
  rcases mnmx_inj hab hcd e with ⟨h1, h2⟩ | ⟨h1, h2⟩
  · have := nth_inj hn la lc h1
    have := nth_inj hn lb ld h2
    subst_vars; rfl
  · have := nth_inj hn la ld h1
    have := nth_inj hn lb lc h2
    omega
end Pu
end
section
set_option Elab.async false
set_option linter.all false
set_option maxRecDepth 100000
namespace Pu
open Pv
open PySem (Str)
/-! ### all ways -/
abbrev Rds := Str → List (Option Str × Str)
def endsF (f : Rds) (kd : Option Str) (x : Str) : List Str := (f x).filterMap (outOf kd)
def wStep (f : Rds) (kd : Option Str) (acc : List Str × List Str) (x : Str) : List Str × List Str :=
  (acc.1 ++ (endsF f kd x).filter (fun y => !decide (y ∈ acc.1)), if (endsF f kd x).length = 0 then acc.2 ++ [x] else acc.2)
def wRow (f : Rds) (kd : Option Str) (rows : List Str) : List Str × List Str := rows.foldl (wStep f kd) ([], [])
def wGo (f : Rds) : Nat → List Str → List (Option Str) → D
  | _, rows, [] => .tup [.str "ends", .tup ((sortS rows).map .str)]
  | i, rows, k :: ks => match (wRow f k rows).2 with
    | s :: r => .tup [.str "stuck", .int i, .str (minS s r)]
    | [] => wGo f (i + 1) (wRow f k rows).1 ks
theorem hasK_iff {f : Rds} {x : Str} {kd : Option Str} : hasK f x kd = true ↔ endsF f kd x ≠ [] := by
  simp only [hasK, decide_eq_true_eq, endsF]
  constructor
  · intro h e
    obtain ⟨q, hq, e2⟩ := List.mem_map.mp h
    have : q.2 ∈ (f x).filterMap (outOf kd) := List.mem_filterMap.mpr ⟨q, hq, by simp [outOf, e2]⟩
    rw [e] at this
    cases this
  · intro h
    obtain ⟨y, hy⟩ := List.exists_mem_of_ne_nil _ h
    obtain ⟨q, hq, e⟩ := List.mem_filterMap.mp hy
    refine List.mem_map.mpr ⟨q, hq, ?_⟩
    simp only [outOf] at e
    by_cases h1 : q.1 = kd
    · exact h1
    · rw [if_neg h1] at e; cases e
theorem endsF_mem {f : Rds} {x y : Str} {kd : Option Str} : y ∈ endsF f kd x ↔ (kd, y) ∈ f x := by
  simp only [endsF, List.mem_filterMap, outOf]
  constructor
  · rintro ⟨q, hq, e⟩
    by_cases h1 : q.1 = kd
    · rw [if_pos h1] at e; cases e; rw [← h1]; exact hq
    · rw [if_neg h1] at e; cases e
  · intro h; exact ⟨_, h, by simp⟩
theorem fold_w {f : Rds} {kd : Option Str} (hnd : ∀ x, (endsF f kd x).Nodup) : ∀ (rows : List Str) (acc : List Str × List Str), acc.1.Nodup →
    (rows.foldl (wStep f kd) acc).1.Nodup ∧ (∀ y, y ∈ (rows.foldl (wStep f kd) acc).1 ↔ y ∈ acc.1 ∨ ∃ x ∈ rows, y ∈ endsF f kd x) ∧ (rows.foldl (wStep f kd) acc).2 = acc.2 ++ rows.filter (fun x => !hasK f x kd)
  | [], acc, h => ⟨h, fun y => by simp, by simp⟩
  | x :: rows, acc, h => by
    have h1 : (wStep f kd acc x).1.Nodup := by
      simp only [wStep]
      rw [List.nodup_append]
      refine ⟨h, (hnd x).filter _, ?_⟩
      intro a ha b hb e
      subst e
      have := (List.mem_filter.mp hb).2
      simp [ha] at this
    obtain ⟨i1, i2, i3⟩ := fold_w hnd rows (wStep f kd acc x) h1
    rw [List.foldl_cons]
    refine ⟨i1, fun y => ?_, ?_⟩
    · rw [i2]
      simp only [wStep, List.mem_append, List.mem_filter, List.mem_cons]
      constructor
      · rintro ((h | ⟨h, _⟩) | ⟨z, hz, h⟩)
        · exact .inl h
        · exact .inr ⟨x, .inl rfl, h⟩
        · exact .inr ⟨z, .inr hz, h⟩
      · rintro (h | ⟨z, rfl | hz, h⟩)
        · exact .inl (.inl h)
        · by_cases hm : y ∈ acc.1
          · exact .inl (.inl hm)
          · exact .inl (.inr ⟨h, by simp [hm]⟩)
        · exact .inr ⟨z, hz, h⟩
    · rw [i3]
      simp only [wStep]
      by_cases hh : hasK f x kd = true
      · have : ¬ (endsF f kd x).length = 0 := fun e => hasK_iff.mp hh (List.length_eq_zero_iff.mp e)
        rw [if_neg this, List.filter_cons]
        simp [hh]
      · have : (endsF f kd x).length = 0 := by
          cases e : endsF f kd x with
          | nil => rfl
          | cons a b => exact absurd (hasK_iff.mpr (by rw [e]; simp)) hh
        rw [if_pos this, List.filter_cons]
        simp [hh]
theorem minS_spec : ∀ (r : List Str) (x : Str), minS x r ∈ x :: r ∧ ∀ y ∈ x :: r, ltS y (minS x r) = false
  | [], x => ⟨List.mem_cons_self .., fun y hy => by simp at hy; subst hy; exact ltS_irrefl _⟩
  | z :: r, x => by
    rw [minS]
    by_cases h : ltS z x = true
    · rw [if_pos h]
      obtain ⟨i1, i2⟩ := minS_spec r z
      refine ⟨?_, fun y hy => ?_⟩
      · rcases List.mem_cons.mp i1 with e | e
        · rw [e]; simp
        · exact List.mem_cons_of_mem _ (List.mem_cons_of_mem _ e)
      · rcases List.mem_cons.mp hy with e | e
        · subst e
          cases q : ltS y (minS z r) with
          | false => rfl
          | true =>
            have := ltS_trans h q
            rw [i2 z (List.mem_cons_self ..)] at this
            cases this
        · exact i2 y e
    · rw [if_neg h]
      obtain ⟨i1, i2⟩ := minS_spec r x
      refine ⟨?_, fun y hy => ?_⟩
      · rcases List.mem_cons.mp i1 with e | e
        · rw [e]; simp
        · exact List.mem_cons_of_mem _ (List.mem_cons_of_mem _ e)
      · rcases List.mem_cons.mp hy with e | e
        · exact i2 y (e ▸ List.mem_cons_self ..)
        · rcases List.mem_cons.mp e with e | e
          · subst e
            cases q : ltS y (minS x r) with
            | false => rfl
            | true =>
              exfalso
              have hx := i2 x (List.mem_cons_self ..)
              by_cases exy : y = x
              · subst exy; rw [hx] at q; cases q
              · rcases ltS_tri exy with h1 | h1
                · exact h h1
                · have := ltS_trans h1 q; rw [hx] at this; cases this
          · exact i2 y (List.mem_cons_of_mem _ e)
/-- the first of a sorted list with a property is the least -/
theorem find_least {p : Str → Bool} : ∀ {l : List Str} {m : Str}, SortedS l → l.find? p = some m → m ∈ l ∧ p m = true ∧ ∀ z ∈ l, p z = true → z = m ∨ ltS m z = true
  | [], m, _, h => by cases h
  | x :: l, m, hs, h => by
    have hs' := List.pairwise_cons.mp hs
    rw [List.find?_cons] at h
    cases hx : p x with
    | true =>
      rw [hx] at h
      cases h
      refine ⟨List.mem_cons_self .., hx, fun z hz _ => ?_⟩
      rcases List.mem_cons.mp hz with e | e
      · exact .inl e
      · exact .inr (hs'.1 z e)
    | false =>
      rw [hx] at h
      obtain ⟨h1, h2, h3⟩ := find_least hs'.2 h
      refine ⟨List.mem_cons_of_mem _ h1, h2, fun z hz hp => ?_⟩
      rcases List.mem_cons.mp hz with e | e
      · subst e; rw [hx] at hp; cases hp
      · exact h3 z e hp
/-- the law's own reckoning and the guide's -/
theorem led_ways {f : Rds} (hnd : ∀ kd x, (endsF f kd x).Nodup) : ∀ (ks : List (Option Str)) (i : Nat) (pls rows : List Str), SortedS pls → rows.Nodup → (∀ x, x ∈ pls ↔ x ∈ rows) → ledGo f i pls ks = wGo f i rows ks
  | [], i, pls, rows, hs, hr, hm => by
    rw [ledGo, wGo]
    have : pls = sortS rows := sorted_ext hs (sortS_sorted hr) (fun x => by rw [hm, sortS_mem])
    rw [this]
  | k :: ks, i, pls, rows, hs, hr, hm => by
    obtain ⟨w1, w2, w3⟩ := fold_w (hnd k) rows ([], []) List.nodup_nil
    rw [ledGo, wGo]
    have e3 : (wRow f k rows).2 = rows.filter (fun x => !hasK f x k) := by rw [wRow, w3]; rfl
    cases hst : (wRow f k rows).2 with
    | nil =>
      rw [hst] at e3
      have hno : pls.find? (fun x => !hasK f x k) = none := by
        refine List.find?_eq_none.mpr fun x hx => ?_
        intro hp
        have : x ∈ rows.filter (fun x => !hasK f x k) := List.mem_filter.mpr ⟨(hm x).mp hx, hp⟩
        rw [← e3] at this
        cases this
      rw [hno]
      simp only
      refine led_ways hnd ks _ _ _ (alongF_sorted ..) w1 (fun y => ?_)
      rw [alongF_mem, wRow, w2]
      simp only [List.not_mem_nil, false_or, endsF_mem]
      constructor
      · rintro ⟨p, hp, h⟩; exact ⟨p, (hm p).mp hp, h⟩
      · rintro ⟨p, hp, h⟩; exact ⟨p, (hm p).mpr hp, h⟩
    | cons s r =>
      rw [hst] at e3
      have mem : ∀ x, x ∈ s :: r ↔ x ∈ pls ∧ (!hasK f x k) = true := fun x => by rw [e3, List.mem_filter, hm]
      obtain ⟨m1, m2⟩ := minS_spec r s
      cases hf : pls.find? (fun x => !hasK f x k) with
      | none =>
        have := (mem s).mp (List.mem_cons_self ..)
        exact absurd this.2 (List.find?_eq_none.mp hf s this.1)
      | some m =>
        obtain ⟨f1, f2, f3⟩ := find_least hs hf
        simp only
        have hms : m ∈ s :: r := (mem m).mpr ⟨f1, f2⟩
        have h1 := m2 m hms
        have h2 := (mem (minS s r)).mp m1
        rcases f3 _ h2.1 h2.2 with e | e
        · rw [e]
        · rw [h1] at e; cases e
theorem nd_len : ∀ {l m : List Str}, l.Nodup → (∀ x ∈ l, x ∈ m) → l.length ≤ m.length
  | [], m, _, _ => Nat.zero_le _
  | x :: l, m, h, hs => by
    have h' := List.nodup_cons.mp h
    have hx := hs x (List.mem_cons_self ..)
    have := nd_len (l := l) (m := m.erase x) h'.2 (fun y hy => (List.mem_erase_of_ne (show y ≠ x from fun e => h'.1 (e ▸ hy))).mpr (hs y (List.mem_cons_of_mem _ hy)))
    rw [List.length_erase_of_mem hx] at this
    have hp : 0 < m.length := List.length_pos_of_mem hx
    rw [List.length_cons]
    omega
/-! ### no road twice -/
theorem rOf_key {its : List Itm} (hne : ∀ a b c k, Itm.rd a b c k ∈ its → a ≠ b) {x y : Str} {k : Option Str} (h : (k, y) ∈ rOf its x) : (mnS x y, mxS x y) ∈ keys its := by
  obtain ⟨it, hi, hm⟩ := List.mem_flatMap.mp h
  cases it with
  | pl => simp [r1] at hm
  | rd a b c k' =>
    have hab := hne a b c k' hi
    refine List.mem_filterMap.mpr ⟨_, hi, ?_⟩
    simp only [r1, List.mem_append] at hm
    rcases hm with hm | hm
    · split at hm
      · rename_i e; simp at hm; obtain ⟨_, rfl⟩ := hm; subst e; rfl
      · simp at hm
    · split at hm
      · rename_i e; simp at hm; obtain ⟨_, rfl⟩ := hm; subst e
        have := mnmx_symm hab
        simp only [keyO, this.1, this.2]
      · simp at hm
theorem rOf_nd : ∀ {its : List Itm}, (∀ a b c k, Itm.rd a b c k ∈ its → a ≠ b) → (keys its).Nodup → ∀ x, ((rOf its x).map (·.2)).Nodup
  | [], _, _, x => by simp [rOf]
  | .pl nm a b k :: its, hne, hk, x => by
    have := rOf_nd (its := its) (fun a b c k h => hne a b c k (List.mem_cons_of_mem _ h)) (by simpa [keys, keyO, List.filterMap_cons] using hk) x
    simpa [rOf, r1] using this
  | .rd a b c k :: its, hne, hk, x => by
    have hk' : (mnS a b, mxS a b) ∉ keys its ∧ (keys its).Nodup := by
      have : keys (.rd a b c k :: its) = (mnS a b, mxS a b) :: keys its := by simp [keys, keyO, List.filterMap_cons]
      rw [this] at hk
      exact List.nodup_cons.mp hk
    have hne' : ∀ a b c k, Itm.rd a b c k ∈ its → a ≠ b := fun a b c k h => hne a b c k (List.mem_cons_of_mem _ h)
    have hab := hne a b c k (List.mem_cons_self ..)
    have ih := rOf_nd hne' hk'.2 x
    have e : rOf (.rd a b c k :: its) x = r1 x (.rd a b c k) ++ rOf its x := by simp [rOf]
    rw [e]
    simp only [r1]
    by_cases h1 : a = x
    · subst h1
      have h2 : ¬ b = a := fun h => hab h.symm
      simp only [h2, if_true, if_false, List.append_nil, List.cons_append, List.nil_append, List.map_cons]
      refine List.nodup_cons.mpr ⟨fun hm => ?_, ih⟩
      obtain ⟨q, hq, e2⟩ := List.mem_map.mp hm
      have := rOf_key hne' (show (q.1, q.2) ∈ rOf its a from hq)
      rw [e2] at this
      exact hk'.1 this
    · by_cases h2 : b = x
      · subst h2
        simp only [h1, if_true, if_false, List.append_nil, List.cons_append, List.nil_append, List.map_cons]
        refine List.nodup_cons.mpr ⟨fun hm => ?_, ih⟩
        obtain ⟨q, hq, e2⟩ := List.mem_map.mp hm
        have := rOf_key hne' (show (q.1, q.2) ∈ rOf its b from hq)
        have e2 : q.2 = a := e2
        rw [e2] at this
        have s := mnmx_symm hab
        rw [← s.1, ← s.2] at this
        exact hk'.1 this
      · simpa [h1, h2] using ih
theorem endsF_nd {its : List Itm} (hne : ∀ a b c k, Itm.rd a b c k ∈ its → a ≠ b) (hk : (keys its).Nodup) (kd : Option Str) (x : Str) : (endsF (rOf its) kd x).Nodup := by
  have h := rOf_nd hne hk x
  refine List.Nodup.sublist ?_ h
  rw [endsF]
  generalize rOf its x = l
  induction l with
  | nil => simp
  | cons q l ih =>
    rw [List.filterMap_cons, List.map_cons]
    simp only [outOf]
    by_cases e : q.1 = kd
    · simp only [e, if_true]
      exact ih.cons₂ _
    · simp only [e, if_false]
      exact ih.cons _
theorem ShopOk.ne {its : List Itm} (h : ShopOk its) : ∀ a b c k, Itm.rd a b c k ∈ its → a ≠ b := by
  intro a b c k hm
  obtain ⟨l1, l2, e⟩ := List.append_of_mem hm
  exact (h.ends l1 a b c k l2 e).2.2
end Pu
namespace Pu
open Pv
open PySem (Str)
theorem strsOf_map : ∀ l : List Str, strsOf (l.map .str) = some l
  | [] => rfl
  | x :: l => by rw [List.map_cons, strsOf, strsOf_map l]; rfl
theorem rOf_snoc (its : List Itm) (it : Itm) (x : Str) : rOf (its ++ [it]) x = rOf its x ++ r1 x it := by simp [rOf]
theorem endsF_snoc (its : List Itm) (it : Itm) (kd : Option Str) (x : Str) : endsF (rOf (its ++ [it])) kd x = endsF (rOf its) kd x ++ (r1 x it).filterMap (outOf kd) := by
  simp [endsF, rOf_snoc]
end Pu
namespace Pu
open Pv
open PySem (Str)
theorem hd_ok : ∀ c ∈ (PySem.Str.ofString "abkqz").cps.toList, c ∈ (PySem.Str.ofString "abcdefghijklmnopqrstuvwxyz").cps.toList := by decide +kernel
theorem hd_row : ∀ c ∈ (PySem.Str.ofString "abkqz").cps.toList, c ∈ (PySem.Str.ofString "abcdefghijklmnopqrstuvwxyzABCDEFGHIJKLMNOPQRSTUVWXYZ0123456789_").cps.toList := by decide +kernel
theorem tl_row : ∀ c ∈ TL, c ∈ (PySem.Str.ofString "abcdefghijklmnopqrstuvwxyzABCDEFGHIJKLMNOPQRSTUVWXYZ0123456789_").cps.toList := by decide +kernel
def wordNo (w : Str) : Bool := match w.cps.toList with
  | [] => true
  | c :: r => !(decide (c ∈ (PySem.Str.ofString "abkqz").cps.toList) && r.all fun d => decide (d ∈ TL))
theorem words_no : ∀ w ∈ WORDS, wordNo w = true := by decide +kernel
theorem nm_ok {x : Str} (h : NmF "abkqz" TL x) : nameRow x = true := by
  obtain ⟨c, r, e, hc, hr⟩ := h
  have h1 : begB x "abcdefghijklmnopqrstuvwxyz" = true := by
    rw [begB, e]
    exact decide_eq_true (hd_ok c hc)
  have h2 : onlyB x "abcdefghijklmnopqrstuvwxyzABCDEFGHIJKLMNOPQRSTUVWXYZ0123456789_" = true := by
    rw [onlyB, e, List.all_eq_true]
    intro d hd
    rcases List.mem_cons.mp hd with h | h
    · subst h; exact decide_eq_true (hd_row d hc)
    · exact decide_eq_true (tl_row d (hr d h))
  have h3 : x ∉ WORDS := fun hm => by
    have := words_no x hm
    rw [wordNo, e] at this
    have h4 : (r.all fun d => decide (d ∈ TL)) = true := List.all_eq_true.mpr (fun d hd => decide_eq_true (hr d hd))
    simp only [h4, decide_eq_true hc] at this
    cases this
  rw [nameRow, h1, h2, decide_eq_false h3]
  rfl
theorem bnds_int (n : Nat) : ∀ l : List Int, bnds n (l.map D.int) = true
  | [] => rfl
  | x :: l => by rw [List.map_cons, bnds, bnds_int n l]; rfl
theorem hw_ok (h : Hs) : WOk (hw h []) := by
  simp [WOk, hw, bndC, bnds_int, hdK, bnd]
theorem kK : kindOk (some "K") = true := by decide +kernel
theorem kL : kindOk (some "Lm") = true := by decide +kernel
theorem kZ : kindOk (some "Zz") = true := by decide +kernel
theorem cut_take {α : Type} (f : α → D) (xs : List α) (j : Nat) : cutL (xs.map f) none (some (j : Int)) = (xs.take j).map f := by
  rw [cutL, HT.sIx_none, HT.sIx_nat, List.length_map, Nat.sub_zero, List.drop_zero, ← List.map_take]
  congr 1
  rw [Nat.min_comm]
  exact List.take_eq_take_iff.mpr (by omega)
end Pu
end
section
set_option Elab.async false
set_option linter.all false
set_option maxRecDepth 100000
namespace P76
open Pv Pu
open PySem (Str)
/-! ### the form of items -/
theorem on_land_ok {n : Nat} {W : Wd} {x y : Int} (hx : x ≤ 999) (hy : y ≤ 999) : run pg dfs (n+1) (n+1) 1 [.tup [.int x, .int y]] W = some (.bl true, W) := by
  rw [run_def (by rfl : dfs 1 = some d1)]
  simp [d1, b1, runD, startE, x_cons, x_nil, t_nx, t_rt, t_bk, t_ct, t_no, exS.eq_1, exS.eq_2, exS.eq_3, exS.eq_4, exS.eq_5, exS.eq_6, exS.eq_7, exS.eq_8, exS.eq_10, exS.eq_11, exS.eq_12, exS.eq_13, exS.eq_14, exS.eq_15, exS.eq_16, x_forr, evX.eq_1, evX.eq_2, evX.eq_3, evX.eq_4, evX.eq_5, evX.eq_6, evX.eq_7, evX.eq_8, evX.eq_9, evX.eq_10, evX.eq_11, evX.eq_12, evX.eq_13, evX.eq_14, evX.eq_15, evX.eq_16, evX.eq_17, evX.eq_18, evX.eq_19, evX.eq_20, evX.eq_21, evX.eq_22, evX.eq_24, evX.eq_25, evX.eq_26, evX.eq_29, x_aa, evF.eq_1, x_comp, evF.eq_3, evF.eq_4, evF.eq_5, x_sset2, fz, fz1, esc, escB, escs, escBs, escO, escF, escI, escJ, evXs, evBs, evO, evC, evI.eq_1, evI.eq_4, x_rng1, x_rng2, Pat.slots, wipeE, bindP, unpack, cmpD, ixD, L2.atI, L2.ixN, leave, run_s1, run_s2, run_s3, opD, truD, biD, insOf, itD, enD, slD, List.getElem?_cons_zero, List.getElem?_cons_succ, List.getElem?_nil, -getElem?_pos, hx, hy]
theorem good_road_ok {n : Nat} {W : Wd} {a b c k : D} {x : Int} (hx : 1 ≤ x) (hy : x ≤ 999) : run pg dfs (n+1) (n+1) 4 [.tup [a, b, c, .int x, k]] W = some (.bl true, W) := by
  rw [run_def (by rfl : dfs 4 = some d4)]
  simp [d4, b4, runD, startE, x_cons, x_nil, t_nx, t_rt, t_bk, t_ct, t_no, exS.eq_1, exS.eq_2, exS.eq_3, exS.eq_4, exS.eq_5, exS.eq_6, exS.eq_7, exS.eq_8, exS.eq_10, exS.eq_11, exS.eq_12, exS.eq_13, exS.eq_14, exS.eq_15, exS.eq_16, x_forr, evX.eq_1, evX.eq_2, evX.eq_3, evX.eq_4, evX.eq_5, evX.eq_6, evX.eq_7, evX.eq_8, evX.eq_9, evX.eq_10, evX.eq_11, evX.eq_12, evX.eq_13, evX.eq_14, evX.eq_15, evX.eq_16, evX.eq_17, evX.eq_18, evX.eq_19, evX.eq_20, evX.eq_21, evX.eq_22, evX.eq_24, evX.eq_25, evX.eq_26, evX.eq_29, x_aa, evF.eq_1, x_comp, evF.eq_3, evF.eq_4, evF.eq_5, x_sset2, fz, fz1, esc, escB, escs, escBs, escO, escF, escI, escJ, evXs, evBs, evO, evC, evI.eq_1, evI.eq_4, x_rng1, x_rng2, Pat.slots, wipeE, bindP, unpack, cmpD, ixD, L2.atI, L2.ixN, leave, run_s1, run_s2, run_s3, opD, truD, biD, insOf, itD, enD, slD, List.getElem?_cons_zero, List.getElem?_cons_succ, List.getElem?_nil, -getElem?_pos, hx, hy]
theorem only_of_eq {n : Nat} {W : Wd} {x z : Str} : run pg dfs (n+2) (n+2) 13 [.str x, .str z] W = some (.bl (onlyB x z), W) := by
  rw [run_def (by rfl : dfs 13 = some d13)]
  simp [d13, b13, runD, startE, x_cons, x_nil, t_nx, t_rt, t_bk, t_ct, t_no, exS.eq_1, exS.eq_2, exS.eq_3, exS.eq_4, exS.eq_5, exS.eq_6, exS.eq_7, exS.eq_8, exS.eq_10, exS.eq_11, exS.eq_12, exS.eq_13, exS.eq_14, exS.eq_15, exS.eq_16, x_forr, evX.eq_1, evX.eq_2, evX.eq_3, evX.eq_4, evX.eq_5, evX.eq_6, evX.eq_7, evX.eq_8, evX.eq_9, evX.eq_10, evX.eq_11, evX.eq_12, evX.eq_13, evX.eq_14, evX.eq_15, evX.eq_16, evX.eq_17, evX.eq_18, evX.eq_19, evX.eq_20, evX.eq_21, evX.eq_22, evX.eq_24, evX.eq_25, evX.eq_26, evX.eq_29, x_aa, evF.eq_1, x_comp, evF.eq_3, evF.eq_4, evF.eq_5, x_sset2, fz, fz1, esc, escB, escs, escBs, escO, escF, escI, escJ, evXs, evBs, evO, evC, evI.eq_1, evI.eq_4, x_rng1, x_rng2, Pat.slots, wipeE, bindP, unpack, cmpD, ixD, L2.atI, L2.ixN, leave, run_s1, run_s2, run_s3, opD, truD, biD, insOf, itD, enD, slD, List.getElem?_cons_zero, List.getElem?_cons_succ, List.getElem?_nil, -getElem?_pos]
  rw [findL_all (p := fun d => match d with | .str y => decide (∃ c ∈ z.cps.toList, y.cps.toList = [c]) | _ => false) (by rfl)]
  · simp [List.all_map, Function.comp_def, onlyB, runD, startE, x_cons, x_nil, t_nx, t_rt, t_bk, t_ct, t_no, exS.eq_1, exS.eq_2, exS.eq_3, exS.eq_4, exS.eq_5, exS.eq_6, exS.eq_7, exS.eq_8, exS.eq_10, exS.eq_11, exS.eq_12, exS.eq_13, exS.eq_14, exS.eq_15, exS.eq_16, x_forr, evX.eq_1, evX.eq_2, evX.eq_3, evX.eq_4, evX.eq_5, evX.eq_6, evX.eq_7, evX.eq_8, evX.eq_9, evX.eq_10, evX.eq_11, evX.eq_12, evX.eq_13, evX.eq_14, evX.eq_15, evX.eq_16, evX.eq_17, evX.eq_18, evX.eq_19, evX.eq_20, evX.eq_21, evX.eq_22, evX.eq_24, evX.eq_25, evX.eq_26, evX.eq_29, x_aa, evF.eq_1, x_comp, evF.eq_3, evF.eq_4, evF.eq_5, x_sset2, fz, fz1, esc, escB, escs, escBs, escO, escF, escI, escJ, evXs, evBs, evO, evC, evI.eq_1, evI.eq_4, x_rng1, x_rng2, Pat.slots, wipeE, bindP, unpack, cmpD, ixD, L2.atI, L2.ixN, leave, run_s1, run_s2, run_s3, opD, truD, biD, insOf, itD, enD, slD, List.getElem?_cons_zero, List.getElem?_cons_succ, List.getElem?_nil, -getElem?_pos]
  · intro d hd
    simp only [List.mem_map] at hd
    obtain ⟨c, hc, rfl⟩ := hd
    simp [bodyF, aaF, compF, set1F, set2F, runD, startE, x_cons, x_nil, t_nx, t_rt, t_bk, t_ct, t_no, exS.eq_1, exS.eq_2, exS.eq_3, exS.eq_4, exS.eq_5, exS.eq_6, exS.eq_7, exS.eq_8, exS.eq_10, exS.eq_11, exS.eq_12, exS.eq_13, exS.eq_14, exS.eq_15, exS.eq_16, x_forr, evX.eq_1, evX.eq_2, evX.eq_3, evX.eq_4, evX.eq_5, evX.eq_6, evX.eq_7, evX.eq_8, evX.eq_9, evX.eq_10, evX.eq_11, evX.eq_12, evX.eq_13, evX.eq_14, evX.eq_15, evX.eq_16, evX.eq_17, evX.eq_18, evX.eq_19, evX.eq_20, evX.eq_21, evX.eq_22, evX.eq_24, evX.eq_25, evX.eq_26, evX.eq_29, x_aa, evF.eq_1, x_comp, evF.eq_3, evF.eq_4, evF.eq_5, x_sset2, fz, fz1, esc, escB, escs, escBs, escO, escF, escI, escJ, evXs, evBs, evO, evC, evI.eq_1, evI.eq_4, x_rng1, x_rng2, Pat.slots, wipeE, bindP, unpack, cmpD, ixD, L2.atI, L2.ixN, leave, run_s1, run_s2, run_s3, opD, truD, biD, insOf, itD, enD, slD, List.getElem?_cons_zero, List.getElem?_cons_succ, List.getElem?_nil, -getElem?_pos, inD]
theorem begins_in_eq {n : Nat} {W : Wd} {x z : Str} : run pg dfs (n+1) (n+1) 14 [.str x, .str z] W = some (.bl (begB x z), W) := by
  rw [run_def (by rfl : dfs 14 = some d14)]
  obtain ⟨⟨l⟩⟩ := x
  cases l with
  | nil => simp [d14, b14, runD, startE, x_cons, x_nil, t_nx, t_rt, t_bk, t_ct, t_no, exS.eq_1, exS.eq_2, exS.eq_3, exS.eq_4, exS.eq_5, exS.eq_6, exS.eq_7, exS.eq_8, exS.eq_10, exS.eq_11, exS.eq_12, exS.eq_13, exS.eq_14, exS.eq_15, exS.eq_16, x_forr, evX.eq_1, evX.eq_2, evX.eq_3, evX.eq_4, evX.eq_5, evX.eq_6, evX.eq_7, evX.eq_8, evX.eq_9, evX.eq_10, evX.eq_11, evX.eq_12, evX.eq_13, evX.eq_14, evX.eq_15, evX.eq_16, evX.eq_17, evX.eq_18, evX.eq_19, evX.eq_20, evX.eq_21, evX.eq_22, evX.eq_24, evX.eq_25, evX.eq_26, evX.eq_29, x_aa, evF.eq_1, x_comp, evF.eq_3, evF.eq_4, evF.eq_5, x_sset2, fz, fz1, esc, escB, escs, escBs, escO, escF, escI, escJ, evXs, evBs, evO, evC, evI.eq_1, evI.eq_4, x_rng1, x_rng2, Pat.slots, wipeE, bindP, unpack, cmpD, ixD, L2.atI, L2.ixN, leave, run_s1, run_s2, run_s3, opD, truD, biD, insOf, itD, enD, slD, List.getElem?_cons_zero, List.getElem?_cons_succ, List.getElem?_nil, -getElem?_pos, Str.length, begB]
  | cons c r =>
    have e : (0 : Int) < (r.length : Int) + 1 := by omega
    simp [d14, b14, runD, startE, x_cons, x_nil, t_nx, t_rt, t_bk, t_ct, t_no, exS.eq_1, exS.eq_2, exS.eq_3, exS.eq_4, exS.eq_5, exS.eq_6, exS.eq_7, exS.eq_8, exS.eq_10, exS.eq_11, exS.eq_12, exS.eq_13, exS.eq_14, exS.eq_15, exS.eq_16, x_forr, evX.eq_1, evX.eq_2, evX.eq_3, evX.eq_4, evX.eq_5, evX.eq_6, evX.eq_7, evX.eq_8, evX.eq_9, evX.eq_10, evX.eq_11, evX.eq_12, evX.eq_13, evX.eq_14, evX.eq_15, evX.eq_16, evX.eq_17, evX.eq_18, evX.eq_19, evX.eq_20, evX.eq_21, evX.eq_22, evX.eq_24, evX.eq_25, evX.eq_26, evX.eq_29, x_aa, evF.eq_1, x_comp, evF.eq_3, evF.eq_4, evF.eq_5, x_sset2, fz, fz1, esc, escB, escs, escBs, escO, escF, escI, escJ, evXs, evBs, evO, evC, evI.eq_1, evI.eq_4, x_rng1, x_rng2, Pat.slots, wipeE, bindP, unpack, cmpD, ixD, L2.atI, L2.ixN, leave, run_s1, run_s2, run_s3, opD, truD, biD, insOf, itD, enD, slD, List.getElem?_cons_zero, List.getElem?_cons_succ, List.getElem?_nil, -getElem?_pos, Str.length, e, inD, begB]

theorem is_name_row_eq {n : Nat} {W : Wd} {x : Str} : run pg dfs (n+3) (n+3) 15 [.str x] W = some (.bl (nameRow x), W) := by
  rw [run_def (by rfl : dfs 15 = some d15)]
  cases h1 : begB x "abcdefghijklmnopqrstuvwxyz" <;> cases h2 : onlyB x "abcdefghijklmnopqrstuvwxyzABCDEFGHIJKLMNOPQRSTUVWXYZ0123456789_" <;>
  simp [d15, b15, runD, startE, x_cons, x_nil, t_nx, t_rt, t_bk, t_ct, t_no, exS.eq_1, exS.eq_2, exS.eq_3, exS.eq_4, exS.eq_5, exS.eq_6, exS.eq_7, exS.eq_8, exS.eq_10, exS.eq_11, exS.eq_12, exS.eq_13, exS.eq_14, exS.eq_15, exS.eq_16, x_forr, evX.eq_1, evX.eq_2, evX.eq_3, evX.eq_4, evX.eq_5, evX.eq_6, evX.eq_7, evX.eq_8, evX.eq_9, evX.eq_10, evX.eq_11, evX.eq_12, evX.eq_13, evX.eq_14, evX.eq_15, evX.eq_16, evX.eq_17, evX.eq_18, evX.eq_19, evX.eq_20, evX.eq_21, evX.eq_22, evX.eq_24, evX.eq_25, evX.eq_26, evX.eq_29, x_aa, evF.eq_1, x_comp, evF.eq_3, evF.eq_4, evF.eq_5, x_sset2, fz, fz1, esc, escB, escs, escBs, escO, escF, escI, escJ, evXs, evBs, evO, evC, evI.eq_1, evI.eq_4, x_rng1, x_rng2, Pat.slots, wipeE, bindP, unpack, cmpD, ixD, L2.atI, L2.ixN, leave, run_s1, run_s2, run_s3, opD, truD, biD, insOf, itD, enD, slD, List.getElem?_cons_zero, List.getElem?_cons_succ, List.getElem?_nil, -getElem?_pos, begins_in_eq, only_of_eq, h1, h2, nameRow, words_eq]
theorem is_great_row_eq {n : Nat} {W : Wd} {x : Str} : run pg dfs (n+3) (n+3) 16 [.str x] W = some (.bl (greatRow x), W) := by
  rw [run_def (by rfl : dfs 16 = some d16)]
  cases h1 : begB x "ABCDEFGHIJKLMNOPQRSTUVWXYZ" <;>
  simp [d16, b16, runD, startE, x_cons, x_nil, t_nx, t_rt, t_bk, t_ct, t_no, exS.eq_1, exS.eq_2, exS.eq_3, exS.eq_4, exS.eq_5, exS.eq_6, exS.eq_7, exS.eq_8, exS.eq_10, exS.eq_11, exS.eq_12, exS.eq_13, exS.eq_14, exS.eq_15, exS.eq_16, x_forr, evX.eq_1, evX.eq_2, evX.eq_3, evX.eq_4, evX.eq_5, evX.eq_6, evX.eq_7, evX.eq_8, evX.eq_9, evX.eq_10, evX.eq_11, evX.eq_12, evX.eq_13, evX.eq_14, evX.eq_15, evX.eq_16, evX.eq_17, evX.eq_18, evX.eq_19, evX.eq_20, evX.eq_21, evX.eq_22, evX.eq_24, evX.eq_25, evX.eq_26, evX.eq_29, x_aa, evF.eq_1, x_comp, evF.eq_3, evF.eq_4, evF.eq_5, x_sset2, fz, fz1, esc, escB, escs, escBs, escO, escF, escI, escJ, evXs, evBs, evO, evC, evI.eq_1, evI.eq_4, x_rng1, x_rng2, Pat.slots, wipeE, bindP, unpack, cmpD, ixD, L2.atI, L2.ixN, leave, run_s1, run_s2, run_s3, opD, truD, biD, insOf, itD, enD, slD, List.getElem?_cons_zero, List.getElem?_cons_succ, List.getElem?_nil, -getElem?_pos, begins_in_eq, only_of_eq, h1, greatRow]
theorem is_int_int {n : Nat} {W : Wd} {i : Int} : run pg dfs (n+1) (n+1) 17 [.int i] W = some (.bl true, W) := by
  rw [run_def (by rfl : dfs 17 = some d17)]
  simp [d17, b17, runD, startE, x_cons, x_nil, t_nx, t_rt, t_bk, t_ct, t_no, exS.eq_1, exS.eq_2, exS.eq_3, exS.eq_4, exS.eq_5, exS.eq_6, exS.eq_7, exS.eq_8, exS.eq_10, exS.eq_11, exS.eq_12, exS.eq_13, exS.eq_14, exS.eq_15, exS.eq_16, x_forr, evX.eq_1, evX.eq_2, evX.eq_3, evX.eq_4, evX.eq_5, evX.eq_6, evX.eq_7, evX.eq_8, evX.eq_9, evX.eq_10, evX.eq_11, evX.eq_12, evX.eq_13, evX.eq_14, evX.eq_15, evX.eq_16, evX.eq_17, evX.eq_18, evX.eq_19, evX.eq_20, evX.eq_21, evX.eq_22, evX.eq_24, evX.eq_25, evX.eq_26, evX.eq_29, x_aa, evF.eq_1, x_comp, evF.eq_3, evF.eq_4, evF.eq_5, x_sset2, fz, fz1, esc, escB, escs, escBs, escO, escF, escI, escJ, evXs, evBs, evO, evC, evI.eq_1, evI.eq_4, x_rng1, x_rng2, Pat.slots, wipeE, bindP, unpack, cmpD, ixD, L2.atI, L2.ixN, leave, run_s1, run_s2, run_s3, opD, truD, biD, insOf, itD, enD, slD, List.getElem?_cons_zero, List.getElem?_cons_succ, List.getElem?_nil, -getElem?_pos]
theorem is_name_eq {n : Nat} {W : Wd} {x : Str} : run pg dfs (n+4) (n+4) 18 [.str x] W = some (.bl (nameRow x), W) := by
  rw [run_def (by rfl : dfs 18 = some d18)]
  simp [d18, b18, runD, startE, x_cons, x_nil, t_nx, t_rt, t_bk, t_ct, t_no, exS.eq_1, exS.eq_2, exS.eq_3, exS.eq_4, exS.eq_5, exS.eq_6, exS.eq_7, exS.eq_8, exS.eq_10, exS.eq_11, exS.eq_12, exS.eq_13, exS.eq_14, exS.eq_15, exS.eq_16, x_forr, evX.eq_1, evX.eq_2, evX.eq_3, evX.eq_4, evX.eq_5, evX.eq_6, evX.eq_7, evX.eq_8, evX.eq_9, evX.eq_10, evX.eq_11, evX.eq_12, evX.eq_13, evX.eq_14, evX.eq_15, evX.eq_16, evX.eq_17, evX.eq_18, evX.eq_19, evX.eq_20, evX.eq_21, evX.eq_22, evX.eq_24, evX.eq_25, evX.eq_26, evX.eq_29, x_aa, evF.eq_1, x_comp, evF.eq_3, evF.eq_4, evF.eq_5, x_sset2, fz, fz1, esc, escB, escs, escBs, escO, escF, escI, escJ, evXs, evBs, evO, evC, evI.eq_1, evI.eq_4, x_rng1, x_rng2, Pat.slots, wipeE, bindP, unpack, cmpD, ixD, L2.atI, L2.ixN, leave, run_s1, run_s2, run_s3, opD, truD, biD, insOf, itD, enD, slD, List.getElem?_cons_zero, List.getElem?_cons_succ, List.getElem?_nil, -getElem?_pos, is_name_row_eq]
theorem is_great_eq {n : Nat} {W : Wd} {x : Str} : run pg dfs (n+4) (n+4) 19 [.str x] W = some (.bl (greatRow x), W) := by
  rw [run_def (by rfl : dfs 19 = some d19)]
  simp [d19, b19, runD, startE, x_cons, x_nil, t_nx, t_rt, t_bk, t_ct, t_no, exS.eq_1, exS.eq_2, exS.eq_3, exS.eq_4, exS.eq_5, exS.eq_6, exS.eq_7, exS.eq_8, exS.eq_10, exS.eq_11, exS.eq_12, exS.eq_13, exS.eq_14, exS.eq_15, exS.eq_16, x_forr, evX.eq_1, evX.eq_2, evX.eq_3, evX.eq_4, evX.eq_5, evX.eq_6, evX.eq_7, evX.eq_8, evX.eq_9, evX.eq_10, evX.eq_11, evX.eq_12, evX.eq_13, evX.eq_14, evX.eq_15, evX.eq_16, evX.eq_17, evX.eq_18, evX.eq_19, evX.eq_20, evX.eq_21, evX.eq_22, evX.eq_24, evX.eq_25, evX.eq_26, evX.eq_29, x_aa, evF.eq_1, x_comp, evF.eq_3, evF.eq_4, evF.eq_5, x_sset2, fz, fz1, esc, escB, escs, escBs, escO, escF, escI, escJ, evXs, evBs, evO, evC, evI.eq_1, evI.eq_4, x_rng1, x_rng2, Pat.slots, wipeE, bindP, unpack, cmpD, ixD, L2.atI, L2.ixN, leave, run_s1, run_s2, run_s3, opD, truD, biD, insOf, itD, enD, slD, List.getElem?_cons_zero, List.getElem?_cons_succ, List.getElem?_nil, -getElem?_pos, is_great_row_eq]
theorem is_kind_eq {n : Nat} {W : Wd} {x : Option Str} : run pg dfs (n+5) (n+5) 20 [kD x] W = some (.bl (kindOk x), W) := by
  rw [run_def (by rfl : dfs 20 = some d20)]
  cases x <;> simp [d20, b20, runD, startE, x_cons, x_nil, t_nx, t_rt, t_bk, t_ct, t_no, exS.eq_1, exS.eq_2, exS.eq_3, exS.eq_4, exS.eq_5, exS.eq_6, exS.eq_7, exS.eq_8, exS.eq_10, exS.eq_11, exS.eq_12, exS.eq_13, exS.eq_14, exS.eq_15, exS.eq_16, x_forr, evX.eq_1, evX.eq_2, evX.eq_3, evX.eq_4, evX.eq_5, evX.eq_6, evX.eq_7, evX.eq_8, evX.eq_9, evX.eq_10, evX.eq_11, evX.eq_12, evX.eq_13, evX.eq_14, evX.eq_15, evX.eq_16, evX.eq_17, evX.eq_18, evX.eq_19, evX.eq_20, evX.eq_21, evX.eq_22, evX.eq_24, evX.eq_25, evX.eq_26, evX.eq_29, x_aa, evF.eq_1, x_comp, evF.eq_3, evF.eq_4, evF.eq_5, x_sset2, fz, fz1, esc, escB, escs, escBs, escO, escF, escI, escJ, evXs, evBs, evO, evC, evI.eq_1, evI.eq_4, x_rng1, x_rng2, Pat.slots, wipeE, bindP, unpack, cmpD, ixD, L2.atI, L2.ixN, leave, run_s1, run_s2, run_s3, opD, truD, biD, insOf, itD, enD, slD, List.getElem?_cons_zero, List.getElem?_cons_succ, List.getElem?_nil, -getElem?_pos, kD, kindOk, is_great_eq]
theorem is_number_ok {n : Nat} {W : Wd} {i : Int} (h0 : 0 ≤ i) (h1 : i ≤ 999999) : run pg dfs (n+2) (n+2) 21 [.int i] W = some (.bl true, W) := by
  rw [run_def (by rfl : dfs 21 = some d21)]
  simp [d21, b21, runD, startE, x_cons, x_nil, t_nx, t_rt, t_bk, t_ct, t_no, exS.eq_1, exS.eq_2, exS.eq_3, exS.eq_4, exS.eq_5, exS.eq_6, exS.eq_7, exS.eq_8, exS.eq_10, exS.eq_11, exS.eq_12, exS.eq_13, exS.eq_14, exS.eq_15, exS.eq_16, x_forr, evX.eq_1, evX.eq_2, evX.eq_3, evX.eq_4, evX.eq_5, evX.eq_6, evX.eq_7, evX.eq_8, evX.eq_9, evX.eq_10, evX.eq_11, evX.eq_12, evX.eq_13, evX.eq_14, evX.eq_15, evX.eq_16, evX.eq_17, evX.eq_18, evX.eq_19, evX.eq_20, evX.eq_21, evX.eq_22, evX.eq_24, evX.eq_25, evX.eq_26, evX.eq_29, x_aa, evF.eq_1, x_comp, evF.eq_3, evF.eq_4, evF.eq_5, x_sset2, fz, fz1, esc, escB, escs, escBs, escO, escF, escI, escJ, evXs, evBs, evO, evC, evI.eq_1, evI.eq_4, x_rng1, x_rng2, Pat.slots, wipeE, bindP, unpack, cmpD, ixD, L2.atI, L2.ixN, leave, run_s1, run_s2, run_s3, opD, truD, biD, insOf, itD, enD, slD, List.getElem?_cons_zero, List.getElem?_cons_succ, List.getElem?_nil, -getElem?_pos, is_int_int, h0, h1]
theorem is_spot_ok {n : Nat} {W : Wd} {x y : Int} (h0 : 0 ≤ x) (h1 : x ≤ 999999) (h2 : 0 ≤ y) (h3 : y ≤ 999999) : run pg dfs (n+4) (n+4) 22 [.tup [.int x, .int y]] W = some (.bl true, W) := by
  rw [run_def (by rfl : dfs 22 = some d22)]
  simp [d22, b22, bodyF, aaF, compF, set1F, set2F, runD, startE, x_cons, x_nil, t_nx, t_rt, t_bk, t_ct, t_no, exS.eq_1, exS.eq_2, exS.eq_3, exS.eq_4, exS.eq_5, exS.eq_6, exS.eq_7, exS.eq_8, exS.eq_10, exS.eq_11, exS.eq_12, exS.eq_13, exS.eq_14, exS.eq_15, exS.eq_16, x_forr, evX.eq_1, evX.eq_2, evX.eq_3, evX.eq_4, evX.eq_5, evX.eq_6, evX.eq_7, evX.eq_8, evX.eq_9, evX.eq_10, evX.eq_11, evX.eq_12, evX.eq_13, evX.eq_14, evX.eq_15, evX.eq_16, evX.eq_17, evX.eq_18, evX.eq_19, evX.eq_20, evX.eq_21, evX.eq_22, evX.eq_24, evX.eq_25, evX.eq_26, evX.eq_29, x_aa, evF.eq_1, x_comp, evF.eq_3, evF.eq_4, evF.eq_5, x_sset2, fz, fz1, esc, escB, escs, escBs, escO, escF, escI, escJ, evXs, evBs, evO, evC, evI.eq_1, evI.eq_4, x_rng1, x_rng2, Pat.slots, wipeE, bindP, unpack, cmpD, ixD, L2.atI, L2.ixN, leave, run_s1, run_s2, run_s3, opD, truD, biD, insOf, itD, enD, slD, List.getElem?_cons_zero, List.getElem?_cons_succ, List.getElem?_nil, -getElem?_pos, eqD_int, findL, okW, is_number_ok, h0, h1, h2, h3]
theorem begins_with_no {n : Nat} {W : Wd} {xs : List D} {w : Str} {m : Int} (h : (xs.length : Int) ≠ m) : run pg dfs (n+1) (n+1) 23 [.tup xs, .str w, .int m] W = some (.bl false, W) := by
  rw [run_def (by rfl : dfs 23 = some d23)]
  simp [d23, b23, runD, startE, x_cons, x_nil, t_nx, t_rt, t_bk, t_ct, t_no, exS.eq_1, exS.eq_2, exS.eq_3, exS.eq_4, exS.eq_5, exS.eq_6, exS.eq_7, exS.eq_8, exS.eq_10, exS.eq_11, exS.eq_12, exS.eq_13, exS.eq_14, exS.eq_15, exS.eq_16, x_forr, evX.eq_1, evX.eq_2, evX.eq_3, evX.eq_4, evX.eq_5, evX.eq_6, evX.eq_7, evX.eq_8, evX.eq_9, evX.eq_10, evX.eq_11, evX.eq_12, evX.eq_13, evX.eq_14, evX.eq_15, evX.eq_16, evX.eq_17, evX.eq_18, evX.eq_19, evX.eq_20, evX.eq_21, evX.eq_22, evX.eq_24, evX.eq_25, evX.eq_26, evX.eq_29, x_aa, evF.eq_1, x_comp, evF.eq_3, evF.eq_4, evF.eq_5, x_sset2, fz, fz1, esc, escB, escs, escBs, escO, escF, escI, escJ, evXs, evBs, evO, evC, evI.eq_1, evI.eq_4, x_rng1, x_rng2, Pat.slots, wipeE, bindP, unpack, cmpD, ixD, L2.atI, L2.ixN, leave, run_s1, run_s2, run_s3, opD, truD, biD, insOf, itD, enD, slD, List.getElem?_cons_zero, List.getElem?_cons_succ, List.getElem?_nil, -getElem?_pos, eqD_int, h]
theorem begins_with_yes {n : Nat} {W : Wd} {xs : List D} {v w : Str} {m : Int} (h : (xs.length : Int) + 1 = m) : run pg dfs (n+1) (n+1) 23 [.tup (.str v :: xs), .str w, .int m] W = some (.bl (decide (v = w)), W) := by
  rw [run_def (by rfl : dfs 23 = some d23)]
  have : (0 : Int) < (xs.length : Int) + 1 := by omega
  subst h
  simp [d23, b23, runD, startE, x_cons, x_nil, t_nx, t_rt, t_bk, t_ct, t_no, exS.eq_1, exS.eq_2, exS.eq_3, exS.eq_4, exS.eq_5, exS.eq_6, exS.eq_7, exS.eq_8, exS.eq_10, exS.eq_11, exS.eq_12, exS.eq_13, exS.eq_14, exS.eq_15, exS.eq_16, x_forr, evX.eq_1, evX.eq_2, evX.eq_3, evX.eq_4, evX.eq_5, evX.eq_6, evX.eq_7, evX.eq_8, evX.eq_9, evX.eq_10, evX.eq_11, evX.eq_12, evX.eq_13, evX.eq_14, evX.eq_15, evX.eq_16, evX.eq_17, evX.eq_18, evX.eq_19, evX.eq_20, evX.eq_21, evX.eq_22, evX.eq_24, evX.eq_25, evX.eq_26, evX.eq_29, x_aa, evF.eq_1, x_comp, evF.eq_3, evF.eq_4, evF.eq_5, x_sset2, fz, fz1, esc, escB, escs, escBs, escO, escF, escI, escJ, evXs, evBs, evO, evC, evI.eq_1, evI.eq_4, x_rng1, x_rng2, Pat.slots, wipeE, bindP, unpack, cmpD, ixD, L2.atI, L2.ixN, leave, run_s1, run_s2, run_s3, opD, truD, biD, insOf, itD, enD, slD, List.getElem?_cons_zero, List.getElem?_cons_succ, List.getElem?_nil, -getElem?_pos, eqD_int, eqD_str, this]
theorem is_sheet_no {n : Nat} {W : Wd} {it : Itm} : run pg dfs (n+2) (n+2) 24 [it.d] W = some (.bl false, W) := by
  rw [run_def (by rfl : dfs 24 = some d24)]
  cases it <;> simp [d24, b24, runD, startE, x_cons, x_nil, t_nx, t_rt, t_bk, t_ct, t_no, exS.eq_1, exS.eq_2, exS.eq_3, exS.eq_4, exS.eq_5, exS.eq_6, exS.eq_7, exS.eq_8, exS.eq_10, exS.eq_11, exS.eq_12, exS.eq_13, exS.eq_14, exS.eq_15, exS.eq_16, x_forr, evX.eq_1, evX.eq_2, evX.eq_3, evX.eq_4, evX.eq_5, evX.eq_6, evX.eq_7, evX.eq_8, evX.eq_9, evX.eq_10, evX.eq_11, evX.eq_12, evX.eq_13, evX.eq_14, evX.eq_15, evX.eq_16, evX.eq_17, evX.eq_18, evX.eq_19, evX.eq_20, evX.eq_21, evX.eq_22, evX.eq_24, evX.eq_25, evX.eq_26, evX.eq_29, x_aa, evF.eq_1, x_comp, evF.eq_3, evF.eq_4, evF.eq_5, x_sset2, fz, fz1, esc, escB, escs, escBs, escO, escF, escI, escJ, evXs, evBs, evO, evC, evI.eq_1, evI.eq_4, x_rng1, x_rng2, Pat.slots, wipeE, bindP, unpack, cmpD, ixD, L2.atI, L2.ixN, leave, run_s1, run_s2, run_s3, opD, truD, biD, insOf, itD, enD, slD, List.getElem?_cons_zero, List.getElem?_cons_succ, List.getElem?_nil, -getElem?_pos, Itm.d, begins_with_no]
theorem is_place_ok {n : Nat} {W : Wd} {nm : Str} {x y : Int} {k : Option Str} (h : (Itm.pl nm x y k).Form) : run pg dfs (n+6) (n+6) 25 [(Itm.pl nm x y k).d] W = some (.bl true, W) := by
  rw [run_def (by rfl : dfs 25 = some d25)]
  obtain ⟨h1, ⟨h2, h3⟩, ⟨h4, h5⟩, h6⟩ := h
  have h3 : x ≤ 999999 := by omega
  have h5 : y ≤ 999999 := by omega
  simp [d25, b25, runD, startE, x_cons, x_nil, t_nx, t_rt, t_bk, t_ct, t_no, exS.eq_1, exS.eq_2, exS.eq_3, exS.eq_4, exS.eq_5, exS.eq_6, exS.eq_7, exS.eq_8, exS.eq_10, exS.eq_11, exS.eq_12, exS.eq_13, exS.eq_14, exS.eq_15, exS.eq_16, x_forr, evX.eq_1, evX.eq_2, evX.eq_3, evX.eq_4, evX.eq_5, evX.eq_6, evX.eq_7, evX.eq_8, evX.eq_9, evX.eq_10, evX.eq_11, evX.eq_12, evX.eq_13, evX.eq_14, evX.eq_15, evX.eq_16, evX.eq_17, evX.eq_18, evX.eq_19, evX.eq_20, evX.eq_21, evX.eq_22, evX.eq_24, evX.eq_25, evX.eq_26, evX.eq_29, x_aa, evF.eq_1, x_comp, evF.eq_3, evF.eq_4, evF.eq_5, x_sset2, fz, fz1, esc, escB, escs, escBs, escO, escF, escI, escJ, evXs, evBs, evO, evC, evI.eq_1, evI.eq_4, x_rng1, x_rng2, Pat.slots, wipeE, bindP, unpack, cmpD, ixD, L2.atI, L2.ixN, leave, run_s1, run_s2, run_s3, opD, truD, biD, insOf, itD, enD, slD, List.getElem?_cons_zero, List.getElem?_cons_succ, List.getElem?_nil, -getElem?_pos, Itm.d, begins_with_yes, is_name_eq, is_spot_ok, is_kind_eq, h1, h2, h3, h4, h5, h6]
theorem is_place_no {n : Nat} {W : Wd} {a b : Str} {c : Int} {k : Option Str} : run pg dfs (n+2) (n+2) 25 [(Itm.rd a b c k).d] W = some (.bl false, W) := by
  rw [run_def (by rfl : dfs 25 = some d25)]
  simp [d25, b25, runD, startE, x_cons, x_nil, t_nx, t_rt, t_bk, t_ct, t_no, exS.eq_1, exS.eq_2, exS.eq_3, exS.eq_4, exS.eq_5, exS.eq_6, exS.eq_7, exS.eq_8, exS.eq_10, exS.eq_11, exS.eq_12, exS.eq_13, exS.eq_14, exS.eq_15, exS.eq_16, x_forr, evX.eq_1, evX.eq_2, evX.eq_3, evX.eq_4, evX.eq_5, evX.eq_6, evX.eq_7, evX.eq_8, evX.eq_9, evX.eq_10, evX.eq_11, evX.eq_12, evX.eq_13, evX.eq_14, evX.eq_15, evX.eq_16, evX.eq_17, evX.eq_18, evX.eq_19, evX.eq_20, evX.eq_21, evX.eq_22, evX.eq_24, evX.eq_25, evX.eq_26, evX.eq_29, x_aa, evF.eq_1, x_comp, evF.eq_3, evF.eq_4, evF.eq_5, x_sset2, fz, fz1, esc, escB, escs, escBs, escO, escF, escI, escJ, evXs, evBs, evO, evC, evI.eq_1, evI.eq_4, x_rng1, x_rng2, Pat.slots, wipeE, bindP, unpack, cmpD, ixD, L2.atI, L2.ixN, leave, run_s1, run_s2, run_s3, opD, truD, biD, insOf, itD, enD, slD, List.getElem?_cons_zero, List.getElem?_cons_succ, List.getElem?_nil, -getElem?_pos, Itm.d, begins_with_no]
theorem is_road_ok {n : Nat} {W : Wd} {a b : Str} {c : Int} {k : Option Str} (h : (Itm.rd a b c k).Form) : run pg dfs (n+6) (n+6) 26 [(Itm.rd a b c k).d] W = some (.bl true, W) := by
  rw [run_def (by rfl : dfs 26 = some d26)]
  obtain ⟨h1, h2, ⟨h4, h5⟩, h6⟩ := h
  have h3 : 0 ≤ c := by omega
  have h5 : c ≤ 999999 := by omega
  simp [d26, b26, runD, startE, x_cons, x_nil, t_nx, t_rt, t_bk, t_ct, t_no, exS.eq_1, exS.eq_2, exS.eq_3, exS.eq_4, exS.eq_5, exS.eq_6, exS.eq_7, exS.eq_8, exS.eq_10, exS.eq_11, exS.eq_12, exS.eq_13, exS.eq_14, exS.eq_15, exS.eq_16, x_forr, evX.eq_1, evX.eq_2, evX.eq_3, evX.eq_4, evX.eq_5, evX.eq_6, evX.eq_7, evX.eq_8, evX.eq_9, evX.eq_10, evX.eq_11, evX.eq_12, evX.eq_13, evX.eq_14, evX.eq_15, evX.eq_16, evX.eq_17, evX.eq_18, evX.eq_19, evX.eq_20, evX.eq_21, evX.eq_22, evX.eq_24, evX.eq_25, evX.eq_26, evX.eq_29, x_aa, evF.eq_1, x_comp, evF.eq_3, evF.eq_4, evF.eq_5, x_sset2, fz, fz1, esc, escB, escs, escBs, escO, escF, escI, escJ, evXs, evBs, evO, evC, evI.eq_1, evI.eq_4, x_rng1, x_rng2, Pat.slots, wipeE, bindP, unpack, cmpD, ixD, L2.atI, L2.ixN, leave, run_s1, run_s2, run_s3, opD, truD, biD, insOf, itD, enD, slD, List.getElem?_cons_zero, List.getElem?_cons_succ, List.getElem?_nil, -getElem?_pos, Itm.d, begins_with_yes, is_name_eq, is_number_ok, is_kind_eq, h1, h2, h3, h4, h5, h6]
theorem is_item_ok {n : Nat} {W : Wd} {it : Itm} (h : it.Form) : run pg dfs (n+7) (n+7) 27 [it.d] W = some (.bl true, W) := by
  rw [run_def (by rfl : dfs 27 = some d27)]
  cases it with
  | pl nm x y k => simp [d27, b27, runD, startE, x_cons, x_nil, t_nx, t_rt, t_bk, t_ct, t_no, exS.eq_1, exS.eq_2, exS.eq_3, exS.eq_4, exS.eq_5, exS.eq_6, exS.eq_7, exS.eq_8, exS.eq_10, exS.eq_11, exS.eq_12, exS.eq_13, exS.eq_14, exS.eq_15, exS.eq_16, x_forr, evX.eq_1, evX.eq_2, evX.eq_3, evX.eq_4, evX.eq_5, evX.eq_6, evX.eq_7, evX.eq_8, evX.eq_9, evX.eq_10, evX.eq_11, evX.eq_12, evX.eq_13, evX.eq_14, evX.eq_15, evX.eq_16, evX.eq_17, evX.eq_18, evX.eq_19, evX.eq_20, evX.eq_21, evX.eq_22, evX.eq_24, evX.eq_25, evX.eq_26, evX.eq_29, x_aa, evF.eq_1, x_comp, evF.eq_3, evF.eq_4, evF.eq_5, x_sset2, fz, fz1, esc, escB, escs, escBs, escO, escF, escI, escJ, evXs, evBs, evO, evC, evI.eq_1, evI.eq_4, x_rng1, x_rng2, Pat.slots, wipeE, bindP, unpack, cmpD, ixD, L2.atI, L2.ixN, leave, run_s1, run_s2, run_s3, opD, truD, biD, insOf, itD, enD, slD, List.getElem?_cons_zero, List.getElem?_cons_succ, List.getElem?_nil, -getElem?_pos, is_sheet_no, is_place_ok h]
  | rd a b c k => simp [d27, b27, runD, startE, x_cons, x_nil, t_nx, t_rt, t_bk, t_ct, t_no, exS.eq_1, exS.eq_2, exS.eq_3, exS.eq_4, exS.eq_5, exS.eq_6, exS.eq_7, exS.eq_8, exS.eq_10, exS.eq_11, exS.eq_12, exS.eq_13, exS.eq_14, exS.eq_15, exS.eq_16, x_forr, evX.eq_1, evX.eq_2, evX.eq_3, evX.eq_4, evX.eq_5, evX.eq_6, evX.eq_7, evX.eq_8, evX.eq_9, evX.eq_10, evX.eq_11, evX.eq_12, evX.eq_13, evX.eq_14, evX.eq_15, evX.eq_16, evX.eq_17, evX.eq_18, evX.eq_19, evX.eq_20, evX.eq_21, evX.eq_22, evX.eq_24, evX.eq_25, evX.eq_26, evX.eq_29, x_aa, evF.eq_1, x_comp, evF.eq_3, evF.eq_4, evF.eq_5, x_sset2, fz, fz1, esc, escB, escs, escBs, escO, escF, escI, escJ, evXs, evBs, evO, evC, evI.eq_1, evI.eq_4, x_rng1, x_rng2, Pat.slots, wipeE, bindP, unpack, cmpD, ixD, L2.atI, L2.ixN, leave, run_s1, run_s2, run_s3, opD, truD, biD, insOf, itD, enD, slD, List.getElem?_cons_zero, List.getElem?_cons_succ, List.getElem?_nil, -getElem?_pos, is_sheet_no, is_place_no, is_road_ok h]
theorem check_form_ok {n : Nat} {W : Wd} {its : List Itm} (h : ∀ it ∈ its, it.Form) : run pg dfs (n+9) (n+9) 28 [.tup (its.map Itm.d)] W = some (.non, W) := by
  rw [run_def (by rfl : dfs 28 = some d28)]
  simp [d28, b28, runD, startE, x_cons, x_nil, t_nx, t_rt, t_bk, t_ct, t_no, exS.eq_1, exS.eq_2, exS.eq_3, exS.eq_4, exS.eq_5, exS.eq_6, exS.eq_7, exS.eq_8, exS.eq_10, exS.eq_11, exS.eq_12, exS.eq_13, exS.eq_14, exS.eq_15, exS.eq_16, x_forr, evX.eq_1, evX.eq_2, evX.eq_3, evX.eq_4, evX.eq_5, evX.eq_6, evX.eq_7, evX.eq_8, evX.eq_9, evX.eq_10, evX.eq_11, evX.eq_12, evX.eq_13, evX.eq_14, evX.eq_15, evX.eq_16, evX.eq_17, evX.eq_18, evX.eq_19, evX.eq_20, evX.eq_21, evX.eq_22, evX.eq_24, evX.eq_25, evX.eq_26, evX.eq_29, x_aa, evF.eq_1, x_comp, evF.eq_3, evF.eq_4, evF.eq_5, x_sset2, fz, fz1, esc, escB, escs, escBs, escO, escF, escI, escJ, evXs, evBs, evO, evC, evI.eq_1, evI.eq_4, x_rng1, x_rng2, Pat.slots, wipeE, bindP, unpack, cmpD, ixD, L2.atI, L2.ixN, leave, run_s1, run_s2, run_s3, opD, truD, biD, insOf, itD, enD, slD, List.getElem?_cons_zero, List.getElem?_cons_succ, List.getElem?_nil, -getElem?_pos]
  rw [findL_all (p := fun _ => true) (by rfl)]
  · simp [all_true, runD, startE, x_cons, x_nil, t_nx, t_rt, t_bk, t_ct, t_no, exS.eq_1, exS.eq_2, exS.eq_3, exS.eq_4, exS.eq_5, exS.eq_6, exS.eq_7, exS.eq_8, exS.eq_10, exS.eq_11, exS.eq_12, exS.eq_13, exS.eq_14, exS.eq_15, exS.eq_16, x_forr, evX.eq_1, evX.eq_2, evX.eq_3, evX.eq_4, evX.eq_5, evX.eq_6, evX.eq_7, evX.eq_8, evX.eq_9, evX.eq_10, evX.eq_11, evX.eq_12, evX.eq_13, evX.eq_14, evX.eq_15, evX.eq_16, evX.eq_17, evX.eq_18, evX.eq_19, evX.eq_20, evX.eq_21, evX.eq_22, evX.eq_24, evX.eq_25, evX.eq_26, evX.eq_29, x_aa, evF.eq_1, x_comp, evF.eq_3, evF.eq_4, evF.eq_5, x_sset2, fz, fz1, esc, escB, escs, escBs, escO, escF, escI, escJ, evXs, evBs, evO, evC, evI.eq_1, evI.eq_4, x_rng1, x_rng2, Pat.slots, wipeE, bindP, unpack, cmpD, ixD, L2.atI, L2.ixN, leave, run_s1, run_s2, run_s3, opD, truD, biD, insOf, itD, enD, slD, List.getElem?_cons_zero, List.getElem?_cons_succ, List.getElem?_nil, -getElem?_pos]
  · intro d hd
    obtain ⟨it, hi, rfl⟩ := List.mem_map.mp hd
    simp [bodyF, aaF, compF, set1F, set2F, runD, startE, x_cons, x_nil, t_nx, t_rt, t_bk, t_ct, t_no, exS.eq_1, exS.eq_2, exS.eq_3, exS.eq_4, exS.eq_5, exS.eq_6, exS.eq_7, exS.eq_8, exS.eq_10, exS.eq_11, exS.eq_12, exS.eq_13, exS.eq_14, exS.eq_15, exS.eq_16, x_forr, evX.eq_1, evX.eq_2, evX.eq_3, evX.eq_4, evX.eq_5, evX.eq_6, evX.eq_7, evX.eq_8, evX.eq_9, evX.eq_10, evX.eq_11, evX.eq_12, evX.eq_13, evX.eq_14, evX.eq_15, evX.eq_16, evX.eq_17, evX.eq_18, evX.eq_19, evX.eq_20, evX.eq_21, evX.eq_22, evX.eq_24, evX.eq_25, evX.eq_26, evX.eq_29, x_aa, evF.eq_1, x_comp, evF.eq_3, evF.eq_4, evF.eq_5, x_sset2, fz, fz1, esc, escB, escs, escBs, escO, escF, escI, escJ, evXs, evBs, evO, evC, evI.eq_1, evI.eq_4, x_rng1, x_rng2, Pat.slots, wipeE, bindP, unpack, cmpD, ixD, L2.atI, L2.ixN, leave, run_s1, run_s2, run_s3, opD, truD, biD, insOf, itD, enD, slD, List.getElem?_cons_zero, List.getElem?_cons_succ, List.getElem?_nil, -getElem?_pos, is_item_ok (h it hi)]
theorem check_kinds_ok {n : Nat} {W : Wd} {ks : List (Option Str)} (h : ∀ k ∈ ks, kindOk k = true) : run pg dfs (n+7) (n+7) 44 [.tup (ks.map kD)] W = some (.non, W) := by
  rw [run_def (by rfl : dfs 44 = some d44)]
  simp [d44, b44, runD, startE, x_cons, x_nil, t_nx, t_rt, t_bk, t_ct, t_no, exS.eq_1, exS.eq_2, exS.eq_3, exS.eq_4, exS.eq_5, exS.eq_6, exS.eq_7, exS.eq_8, exS.eq_10, exS.eq_11, exS.eq_12, exS.eq_13, exS.eq_14, exS.eq_15, exS.eq_16, x_forr, evX.eq_1, evX.eq_2, evX.eq_3, evX.eq_4, evX.eq_5, evX.eq_6, evX.eq_7, evX.eq_8, evX.eq_9, evX.eq_10, evX.eq_11, evX.eq_12, evX.eq_13, evX.eq_14, evX.eq_15, evX.eq_16, evX.eq_17, evX.eq_18, evX.eq_19, evX.eq_20, evX.eq_21, evX.eq_22, evX.eq_24, evX.eq_25, evX.eq_26, evX.eq_29, x_aa, evF.eq_1, x_comp, evF.eq_3, evF.eq_4, evF.eq_5, x_sset2, fz, fz1, esc, escB, escs, escBs, escO, escF, escI, escJ, evXs, evBs, evO, evC, evI.eq_1, evI.eq_4, x_rng1, x_rng2, Pat.slots, wipeE, bindP, unpack, cmpD, ixD, L2.atI, L2.ixN, leave, run_s1, run_s2, run_s3, opD, truD, biD, insOf, itD, enD, slD, List.getElem?_cons_zero, List.getElem?_cons_succ, List.getElem?_nil, -getElem?_pos]
  rw [findL_all (p := fun _ => true) (by rfl)]
  · simp [all_true, runD, startE, x_cons, x_nil, t_nx, t_rt, t_bk, t_ct, t_no, exS.eq_1, exS.eq_2, exS.eq_3, exS.eq_4, exS.eq_5, exS.eq_6, exS.eq_7, exS.eq_8, exS.eq_10, exS.eq_11, exS.eq_12, exS.eq_13, exS.eq_14, exS.eq_15, exS.eq_16, x_forr, evX.eq_1, evX.eq_2, evX.eq_3, evX.eq_4, evX.eq_5, evX.eq_6, evX.eq_7, evX.eq_8, evX.eq_9, evX.eq_10, evX.eq_11, evX.eq_12, evX.eq_13, evX.eq_14, evX.eq_15, evX.eq_16, evX.eq_17, evX.eq_18, evX.eq_19, evX.eq_20, evX.eq_21, evX.eq_22, evX.eq_24, evX.eq_25, evX.eq_26, evX.eq_29, x_aa, evF.eq_1, x_comp, evF.eq_3, evF.eq_4, evF.eq_5, x_sset2, fz, fz1, esc, escB, escs, escBs, escO, escF, escI, escJ, evXs, evBs, evO, evC, evI.eq_1, evI.eq_4, x_rng1, x_rng2, Pat.slots, wipeE, bindP, unpack, cmpD, ixD, L2.atI, L2.ixN, leave, run_s1, run_s2, run_s3, opD, truD, biD, insOf, itD, enD, slD, List.getElem?_cons_zero, List.getElem?_cons_succ, List.getElem?_nil, -getElem?_pos]
  · intro d hd
    obtain ⟨it, hi, rfl⟩ := List.mem_map.mp hd
    simp [bodyF, aaF, compF, set1F, set2F, runD, startE, x_cons, x_nil, t_nx, t_rt, t_bk, t_ct, t_no, exS.eq_1, exS.eq_2, exS.eq_3, exS.eq_4, exS.eq_5, exS.eq_6, exS.eq_7, exS.eq_8, exS.eq_10, exS.eq_11, exS.eq_12, exS.eq_13, exS.eq_14, exS.eq_15, exS.eq_16, x_forr, evX.eq_1, evX.eq_2, evX.eq_3, evX.eq_4, evX.eq_5, evX.eq_6, evX.eq_7, evX.eq_8, evX.eq_9, evX.eq_10, evX.eq_11, evX.eq_12, evX.eq_13, evX.eq_14, evX.eq_15, evX.eq_16, evX.eq_17, evX.eq_18, evX.eq_19, evX.eq_20, evX.eq_21, evX.eq_22, evX.eq_24, evX.eq_25, evX.eq_26, evX.eq_29, x_aa, evF.eq_1, x_comp, evF.eq_3, evF.eq_4, evF.eq_5, x_sset2, fz, fz1, esc, escB, escs, escBs, escO, escF, escI, escJ, evXs, evBs, evO, evC, evI.eq_1, evI.eq_4, x_rng1, x_rng2, Pat.slots, wipeE, bindP, unpack, cmpD, ixD, L2.atI, L2.ixN, leave, run_s1, run_s2, run_s3, opD, truD, biD, insOf, itD, enD, slD, List.getElem?_cons_zero, List.getElem?_cons_succ, List.getElem?_nil, -getElem?_pos, is_kind_eq, h it hi]
end P76
end
section
set_option Elab.async false
set_option linter.all false
set_option maxRecDepth 100000
namespace P76
open Pv Pu
open PySem (Str)
/-! ### the mistakes of a shop -/
def lkF (L : Nat) : List (Str × D) := [("sheets", .ref (L+1)), ("places", .ref (L+2)), ("roads", .ref (L+3)), ("found", .ref (L+4))]
def lkW (W : Wd) (P : List Str) (R : List (Str × Str)) : Wd := W ++ [.ins 4 (lkF W.length), .dK [], .dK (P.map fun x => (.inr x, .bl true)), .dT (R.map fun p => ([.inr p.1, .inr p.2], .bl true)), .lst []]
theorem lk_places {L : Nat} : (lkF L).lookup ("places" : Str) = some (.ref (L+2)) := by rfl
theorem lk_roads {L : Nat} : (lkF L).lookup ("roads" : Str) = some (.ref (L+3)) := by rfl
theorem lk_found {L : Nat} : (lkF L).lookup ("found" : Str) = some (.ref (L+4)) := by rfl
theorem lk_look {L : Nat} : (lkF L).lookup ("look" : Str) = none := by rfl
theorem lk_lookp {L : Nat} : (lkF L).lookup ("look_place" : Str) = none := by rfl
theorem lk_lookr {L : Nat} : (lkF L).lookup ("look_road" : Str) = none := by rfl
theorem na_places : pg.na 4 "places" = true := by rfl
theorem na_roads : pg.na 4 "roads" = true := by rfl
theorem na_found : pg.na 4 "found" = true := by rfl
theorem na_sheets : pg.na 4 "sheets" = true := by rfl
theorem mt_look : pg.mt 4 "look" = some 11 := by rfl
theorem mt_lookp : pg.mt 4 "look_place" = some 9 := by rfl
theorem mt_lookr : pg.mt 4 "look_road" = some 10 := by rfl
theorem ini_looker : pg.ini 4 = some 6 := by rfl
theorem lkW_length {W P R} : (lkW W P R).length = W.length + 5 := by simp [lkW]
theorem lkW_0 {W P R} : (lkW W P R)[W.length]? = some (.ins 4 (lkF W.length)) := by rw [lkW, at_app0]; rfl
theorem lkW_2 {W P R} : (lkW W P R)[W.length + 2]? = some (.dK (P.map fun x => (.inr x, .bl true))) := by rw [lkW, at_app]; rfl
theorem lkW_3 {W P R} : (lkW W P R)[W.length + 3]? = some (.dT (R.map fun p => ([.inr p.1, .inr p.2], .bl true))) := by rw [lkW, at_app]; rfl
theorem lkW_4 {W P R} : (lkW W P R)[W.length + 4]? = some (.lst []) := by rw [lkW, at_app]; rfl
theorem lkW_addP {W P R} {x : Str} : (lkW W P R).set (W.length + 2) (.dK ((P.map fun x => (.inr x, .bl true)) ++ [(.inr x, .bl true)])) = lkW W (P ++ [x]) R := by rw [lkW, set_app]; simp [lkW]
theorem lkW_addR {W P R} {a b : Str} : (lkW W P R).set (W.length + 3) (.dT ((R.map fun p => ([.inr p.1, .inr p.2], .bl true)) ++ [([.inr a, .inr b], .bl true)])) = lkW W P (R ++ [(a, b)]) := by rw [lkW, set_app]; simp [lkW]
theorem fp1 {a : D} : fput "sheets" a [] = ([("sheets", a)] : List (Str × D)) := by rfl
theorem fp2 {a b : D} : fput "places" b [("sheets", a)] = ([("sheets", a), ("places", b)] : List (Str × D)) := by rfl
theorem fp3 {a b c : D} : fput "roads" c [("sheets", a), ("places", b)] = ([("sheets", a), ("places", b), ("roads", c)] : List (Str × D)) := by rfl
theorem fp4 {a b c d : D} : fput "found" d [("sheets", a), ("places", b), ("roads", c)] = ([("sheets", a), ("places", b), ("roads", c), ("found", d)] : List (Str × D)) := by rfl
theorem looker_new {n : Nat} {W : Wd} : run pg dfs (n+1) (n+1) 6 [.ref W.length] (W ++ [.ins 4 []]) = some (.non, lkW W [] []) := by
  rw [run_def (by rfl : dfs 6 = some d6)]
  simp [d6, b6, runD, startE, x_cons, x_nil, t_nx, t_rt, t_bk, t_ct, t_no, exS.eq_1, exS.eq_2, exS.eq_3, exS.eq_4, exS.eq_5, exS.eq_6, exS.eq_7, exS.eq_8, exS.eq_10, exS.eq_11, exS.eq_12, exS.eq_13, exS.eq_14, exS.eq_15, exS.eq_16, x_forr, evX.eq_1, evX.eq_2, evX.eq_3, evX.eq_4, evX.eq_5, evX.eq_6, evX.eq_7, evX.eq_8, evX.eq_9, evX.eq_10, evX.eq_11, evX.eq_12, evX.eq_13, evX.eq_14, evX.eq_15, evX.eq_16, evX.eq_17, evX.eq_18, evX.eq_19, evX.eq_20, evX.eq_21, evX.eq_22, evX.eq_24, evX.eq_25, evX.eq_26, evX.eq_29, x_aa, evF.eq_1, x_comp, evF.eq_3, evF.eq_4, evF.eq_5, x_sset2, fz, fz1, esc, escB, escs, escBs, escO, escF, escI, escJ, evXs, evBs, evO, evC, evI.eq_1, evI.eq_4, x_rng1, x_rng2, Pat.slots, wipeE, bindP, unpack, cmpD, ixD, L2.atI, L2.ixN, leave, run_s1, run_s2, run_s3, opD, truD, biD, insOf, itD, enD, slD, List.getElem?_cons_zero, List.getElem?_cons_succ, List.getElem?_nil, -getElem?_pos, at_app0, at_app, set_app0, set_app, na_places, na_roads, na_found, na_sheets, lkW, lkF, fp1, fp2, fp3, fp4, sl2_iff]
theorem kput_str {x : Str} {d : D} {P : List Str} (h : x ∉ P) : kput (.inr x) d (P.map fun y => ((.inr y : L2.Key), d)) = (P.map fun y => ((.inr y : L2.Key), d)) ++ [(.inr x, d)] := by
  rw [kput_new]; rw [kget_str, if_neg h]
theorem kput_prs {a b : Str} {d : D} {P : List (Str × Str)} (h : (a, b) ∉ P) : kput [.inr a, .inr b] d (P.map fun p => (([.inr p.1, .inr p.2] : List L2.Key), d)) = (P.map fun p => (([.inr p.1, .inr p.2] : List L2.Key), d)) ++ [([.inr a, .inr b], d)] := by
  rw [kput_new]; rw [kget_prs, if_neg h]
theorem look_place_ok {n : Nat} {W : Wd} {P : List Str} {R : List (Str × Str)} {i : Int} {nm : Str} {x y : Int} {k : Option Str} (hx : x ≤ 999) (hy : y ≤ 999) (hn : nm ∉ P) (hl : P.length < 16) :
    run pg dfs (n+2) (n+2) 9 [.ref W.length, .int i, (Itm.pl nm x y k).d] (lkW W P R) = some (.non, lkW W (P ++ [nm]) R) := by
  rw [run_def (by rfl : dfs 9 = some d9)]
  have h1 : P.length < 16777216 := by omega
  have h2 : ¬ (16 : Int) < (P.length : Int) + 1 := by omega
  simp [d9, b9, runD, startE, x_cons, x_nil, t_nx, t_rt, t_bk, t_ct, t_no, exS.eq_1, exS.eq_2, exS.eq_3, exS.eq_4, exS.eq_5, exS.eq_6, exS.eq_7, exS.eq_8, exS.eq_10, exS.eq_11, exS.eq_12, exS.eq_13, exS.eq_14, exS.eq_15, exS.eq_16, x_forr, evX.eq_1, evX.eq_2, evX.eq_3, evX.eq_4, evX.eq_5, evX.eq_6, evX.eq_7, evX.eq_8, evX.eq_9, evX.eq_10, evX.eq_11, evX.eq_12, evX.eq_13, evX.eq_14, evX.eq_15, evX.eq_16, evX.eq_17, evX.eq_18, evX.eq_19, evX.eq_20, evX.eq_21, evX.eq_22, evX.eq_24, evX.eq_25, evX.eq_26, evX.eq_29, x_aa, evF.eq_1, x_comp, evF.eq_3, evF.eq_4, evF.eq_5, x_sset2, fz, fz1, esc, escB, escs, escBs, escO, escF, escI, escJ, evXs, evBs, evO, evC, evI.eq_1, evI.eq_4, x_rng1, x_rng2, Pat.slots, wipeE, bindP, unpack, cmpD, ixD, L2.atI, L2.ixN, leave, run_s1, run_s2, run_s3, opD, truD, biD, insOf, itD, enD, slD, List.getElem?_cons_zero, List.getElem?_cons_succ, List.getElem?_nil, -getElem?_pos, Itm.d, lkW_0, lkW_2, lk_places, na_places, inD, dget, at_, kyOf, keyOf, kget_str, hn, kput_str, sizeL, h1, lkW_addP, on_land_ok, hx, hy, h2, lkW_length]
theorem both_ends_eq {n : Nat} {W : Wd} {a b : Str} {c : Int} {k : Option Str} : run pg dfs (n+1) (n+1) 5 [.tup [.str "road", .str a, .str b, .int c, kD k]] W = some (.tup [.str (mnS a b), .str (mxS a b)], W) := by
  rw [run_def (by rfl : dfs 5 = some d5)]
  simp [d5, b5, runD, startE, x_cons, x_nil, t_nx, t_rt, t_bk, t_ct, t_no, exS.eq_1, exS.eq_2, exS.eq_3, exS.eq_4, exS.eq_5, exS.eq_6, exS.eq_7, exS.eq_8, exS.eq_10, exS.eq_11, exS.eq_12, exS.eq_13, exS.eq_14, exS.eq_15, exS.eq_16, x_forr, evX.eq_1, evX.eq_2, evX.eq_3, evX.eq_4, evX.eq_5, evX.eq_6, evX.eq_7, evX.eq_8, evX.eq_9, evX.eq_10, evX.eq_11, evX.eq_12, evX.eq_13, evX.eq_14, evX.eq_15, evX.eq_16, evX.eq_17, evX.eq_18, evX.eq_19, evX.eq_20, evX.eq_21, evX.eq_22, evX.eq_24, evX.eq_25, evX.eq_26, evX.eq_29, x_aa, evF.eq_1, x_comp, evF.eq_3, evF.eq_4, evF.eq_5, x_sset2, fz, fz1, esc, escB, escs, escBs, escO, escF, escI, escJ, evXs, evBs, evO, evC, evI.eq_1, evI.eq_4, x_rng1, x_rng2, Pat.slots, wipeE, bindP, unpack, cmpD, ixD, L2.atI, L2.ixN, leave, run_s1, run_s2, run_s3, opD, truD, biD, insOf, itD, enD, slD, List.getElem?_cons_zero, List.getElem?_cons_succ, List.getElem?_nil, -getElem?_pos, Itm.d, mnS, mxS, sl2_iff]
theorem look_road_ok {n : Nat} {W : Wd} {P : List Str} {R : List (Str × Str)} {i : Int} {a b : Str} {c : Int} {k : Option Str} (hc : 1 ≤ c) (hc' : c ≤ 999) (ha : a ∈ P) (hb : b ∈ P) (hab : a ≠ b) (hn : (mnS a b, mxS a b) ∉ R) (hl : R.length < 40) :
    run pg dfs (n+2) (n+2) 10 [.ref W.length, .int i, (Itm.rd a b c k).d] (lkW W P R) = some (.non, lkW W P (R ++ [(mnS a b, mxS a b)])) := by
  rw [run_def (by rfl : dfs 10 = some d10)]
  have h1 : R.length < 16777216 := by omega
  have h2 : ¬ (40 : Int) < (R.length : Int) + 1 := by omega
  simp [d10, b10, bodyF, aaF, compF, set1F, set2F, runD, startE, x_cons, x_nil, t_nx, t_rt, t_bk, t_ct, t_no, exS.eq_1, exS.eq_2, exS.eq_3, exS.eq_4, exS.eq_5, exS.eq_6, exS.eq_7, exS.eq_8, exS.eq_10, exS.eq_11, exS.eq_12, exS.eq_13, exS.eq_14, exS.eq_15, exS.eq_16, x_forr, evX.eq_1, evX.eq_2, evX.eq_3, evX.eq_4, evX.eq_5, evX.eq_6, evX.eq_7, evX.eq_8, evX.eq_9, evX.eq_10, evX.eq_11, evX.eq_12, evX.eq_13, evX.eq_14, evX.eq_15, evX.eq_16, evX.eq_17, evX.eq_18, evX.eq_19, evX.eq_20, evX.eq_21, evX.eq_22, evX.eq_24, evX.eq_25, evX.eq_26, evX.eq_29, x_aa, evF.eq_1, x_comp, evF.eq_3, evF.eq_4, evF.eq_5, x_sset2, fz, fz1, esc, escB, escs, escBs, escO, escF, escI, escJ, evXs, evBs, evO, evC, evI.eq_1, evI.eq_4, x_rng1, x_rng2, Pat.slots, wipeE, bindP, unpack, cmpD, ixD, L2.atI, L2.ixN, leave, run_s1, run_s2, run_s3, opD, truD, biD, insOf, itD, enD, slD, List.getElem?_cons_zero, List.getElem?_cons_succ, List.getElem?_nil, -getElem?_pos, both_ends_eq, Itm.d, lkW_0, lkW_2, lkW_3, lk_places, lk_roads, na_places, na_roads, inD, dget, at_, kyOf, keysOf, keyOf, kget_str, kget_prs, ha, hb, hab, hn, kput_prs, sizeL, h1, lkW_addR, good_road_ok, hc, hc', h2, lkW_length, sl2_iff, forL, okW, eqD_str]
theorem look_place {n : Nat} {W : Wd} {P : List Str} {R : List (Str × Str)} {i : Int} {nm : Str} {x y : Int} {k : Option Str} (hx : x ≤ 999) (hy : y ≤ 999) (hn : nm ∉ P) (hl : P.length < 16) :
    run pg dfs (n+3) (n+3) 11 [.ref W.length, .int i, (Itm.pl nm x y k).d] (lkW W P R) = some (.non, lkW W (P ++ [nm]) R) := by
  rw [run_def (by rfl : dfs 11 = some d11)]
  have e := fun n => look_place_ok (n := n) (W := W) (P := P) (R := R) (i := i) (nm := nm) (x := x) (y := y) (k := k) hx hy hn hl
  simp only [Itm.d] at e
  simp [d11, b11, runD, startE, x_cons, x_nil, t_nx, t_rt, t_bk, t_ct, t_no, exS.eq_1, exS.eq_2, exS.eq_3, exS.eq_4, exS.eq_5, exS.eq_6, exS.eq_7, exS.eq_8, exS.eq_10, exS.eq_11, exS.eq_12, exS.eq_13, exS.eq_14, exS.eq_15, exS.eq_16, x_forr, evX.eq_1, evX.eq_2, evX.eq_3, evX.eq_4, evX.eq_5, evX.eq_6, evX.eq_7, evX.eq_8, evX.eq_9, evX.eq_10, evX.eq_11, evX.eq_12, evX.eq_13, evX.eq_14, evX.eq_15, evX.eq_16, evX.eq_17, evX.eq_18, evX.eq_19, evX.eq_20, evX.eq_21, evX.eq_22, evX.eq_24, evX.eq_25, evX.eq_26, evX.eq_29, x_aa, evF.eq_1, x_comp, evF.eq_3, evF.eq_4, evF.eq_5, x_sset2, fz, fz1, esc, escB, escs, escBs, escO, escF, escI, escJ, evXs, evBs, evO, evC, evI.eq_1, evI.eq_4, x_rng1, x_rng2, Pat.slots, wipeE, bindP, unpack, cmpD, ixD, L2.atI, L2.ixN, leave, run_s1, run_s2, run_s3, opD, truD, biD, insOf, itD, enD, slD, List.getElem?_cons_zero, List.getElem?_cons_succ, List.getElem?_nil, -getElem?_pos, Itm.d, lkW_0, mt_lookp, lk_lookp, eqD_str, s_ps, e, lkW_length]
theorem look_road {n : Nat} {W : Wd} {P : List Str} {R : List (Str × Str)} {i : Int} {a b : Str} {c : Int} {k : Option Str} (hc : 1 ≤ c) (hc' : c ≤ 999) (ha : a ∈ P) (hb : b ∈ P) (hab : a ≠ b) (hn : (mnS a b, mxS a b) ∉ R) (hl : R.length < 40) :
    run pg dfs (n+3) (n+3) 11 [.ref W.length, .int i, (Itm.rd a b c k).d] (lkW W P R) = some (.non, lkW W P (R ++ [(mnS a b, mxS a b)])) := by
  rw [run_def (by rfl : dfs 11 = some d11)]
  have e := fun n => look_road_ok (n := n) (W := W) (P := P) (R := R) (i := i) (a := a) (b := b) (c := c) (k := k) hc hc' ha hb hab hn hl
  simp only [Itm.d] at e
  simp [d11, b11, runD, startE, x_cons, x_nil, t_nx, t_rt, t_bk, t_ct, t_no, exS.eq_1, exS.eq_2, exS.eq_3, exS.eq_4, exS.eq_5, exS.eq_6, exS.eq_7, exS.eq_8, exS.eq_10, exS.eq_11, exS.eq_12, exS.eq_13, exS.eq_14, exS.eq_15, exS.eq_16, x_forr, evX.eq_1, evX.eq_2, evX.eq_3, evX.eq_4, evX.eq_5, evX.eq_6, evX.eq_7, evX.eq_8, evX.eq_9, evX.eq_10, evX.eq_11, evX.eq_12, evX.eq_13, evX.eq_14, evX.eq_15, evX.eq_16, evX.eq_17, evX.eq_18, evX.eq_19, evX.eq_20, evX.eq_21, evX.eq_22, evX.eq_24, evX.eq_25, evX.eq_26, evX.eq_29, x_aa, evF.eq_1, x_comp, evF.eq_3, evF.eq_4, evF.eq_5, x_sset2, fz, fz1, esc, escB, escs, escBs, escO, escF, escI, escJ, evXs, evBs, evO, evC, evI.eq_1, evI.eq_4, x_rng1, x_rng2, Pat.slots, wipeE, bindP, unpack, cmpD, ixD, L2.atI, L2.ixN, leave, run_s1, run_s2, run_s3, opD, truD, biD, insOf, itD, enD, slD, List.getElem?_cons_zero, List.getElem?_cons_succ, List.getElem?_nil, -getElem?_pos, Itm.d, lkW_0, mt_lookr, lk_lookr, eqD_str, s_rs, s_rp, e, lkW_length]
theorem lkW_take {W P R} : (lkW W P R).take W.length = W := by simp [lkW]
theorem find_faults_ok {n : Nat} {W : Wd} {its : List Itm} (h : ShopOk its) (hW : WOk W) : run pg dfs (n+4) (n+4) 12 [.tup (its.map Itm.d)] W = some (.tup [], W) := by
  rw [run_def (by rfl : dfs 12 = some d12)]
  have hnew : ∀ n, run pg dfs (n+1) (n+1) 6 [.ref W.length] (W ++ [.ins 4 []]) = some (.non, lkW W [] []) := fun n => looker_new
  simp [d12, b12, runD, startE, x_cons, x_nil, t_nx, t_rt, t_bk, t_ct, t_no, exS.eq_1, exS.eq_2, exS.eq_3, exS.eq_4, exS.eq_5, exS.eq_6, exS.eq_7, exS.eq_8, exS.eq_10, exS.eq_11, exS.eq_12, exS.eq_13, exS.eq_14, exS.eq_15, exS.eq_16, x_forr, evX.eq_1, evX.eq_2, evX.eq_3, evX.eq_4, evX.eq_5, evX.eq_6, evX.eq_7, evX.eq_8, evX.eq_9, evX.eq_10, evX.eq_11, evX.eq_12, evX.eq_13, evX.eq_14, evX.eq_15, evX.eq_16, evX.eq_17, evX.eq_18, evX.eq_19, evX.eq_20, evX.eq_21, evX.eq_22, evX.eq_24, evX.eq_25, evX.eq_26, evX.eq_29, x_aa, evF.eq_1, x_comp, evF.eq_3, evF.eq_4, evF.eq_5, x_sset2, fz, fz1, esc, escB, escs, escBs, escO, escF, escI, escJ, evXs, evBs, evO, evC, evI.eq_1, evI.eq_4, x_rng1, x_rng2, Pat.slots, wipeE, bindP, unpack, cmpD, ixD, L2.atI, L2.ixN, leave, run_s1, run_s2, run_s3, opD, truD, biD, insOf, itD, enD, slD, List.getElem?_cons_zero, List.getElem?_cons_succ, List.getElem?_nil, -getElem?_pos, ini_looker, hnew]
  generalize e : forL _ _ _ _ _ _ = o
  obtain ⟨env1, W1, rfl, rfl, s2, s3, rfl⟩ := use_i (gmap_enum Itm.d 0 _) e (fun done env W' => W' = lkW W (places done) (keys done) ∧ ∃ s2 s3, env = [.val (.tup (its.map Itm.d)), .val (.ref W.length), s2, s3]) ⟨rfl, _, _, rfl⟩ (by
      rintro done x rest env W' hd ⟨rfl, s2, s3, rfl⟩
      have nP : (places (done ++ x :: rest)).Nodup := hd ▸ h.ndP
      have nK : (keys (done ++ x :: rest)).Nodup := hd ▸ h.ndK
      have lP : (places (done ++ x :: rest)).length ≤ 16 := hd ▸ h.lP
      have lK : (keys (done ++ x :: rest)).length ≤ 40 := hd ▸ h.lK
      have hf : x.Form := h.form x (by rw [hd]; simp)
      refine ⟨[.val (.tup (its.map Itm.d)), .val (.ref W.length), .val (.int done.length), .val x.d], lkW W (places (done ++ [x])) (keys (done ++ [x])), .inl ?_, rfl, rfl, _, _, rfl⟩
      cases x with
      | pl nm x y k =>
        simp only [places, List.filterMap_append, List.filterMap_cons, plOf, List.length_append, List.length_cons] at nP lP
        have hn : nm ∉ places done := fun hm => by
          have := (List.nodup_append.mp nP).2.2 nm hm nm (List.mem_cons_self ..)
          exact this rfl
        have e1 := fun n => look_place (n := n) (W := W) (P := places done) (R := keys done) (i := done.length) (nm := nm) (x := x) (y := y) (k := k) hf.2.1.2 hf.2.2.1.2 hn (by simp only [places]; omega)
        simp [bodyF, aaF, compF, set1F, set2F, runD, startE, x_cons, x_nil, t_nx, t_rt, t_bk, t_ct, t_no, exS.eq_1, exS.eq_2, exS.eq_3, exS.eq_4, exS.eq_5, exS.eq_6, exS.eq_7, exS.eq_8, exS.eq_10, exS.eq_11, exS.eq_12, exS.eq_13, exS.eq_14, exS.eq_15, exS.eq_16, x_forr, evX.eq_1, evX.eq_2, evX.eq_3, evX.eq_4, evX.eq_5, evX.eq_6, evX.eq_7, evX.eq_8, evX.eq_9, evX.eq_10, evX.eq_11, evX.eq_12, evX.eq_13, evX.eq_14, evX.eq_15, evX.eq_16, evX.eq_17, evX.eq_18, evX.eq_19, evX.eq_20, evX.eq_21, evX.eq_22, evX.eq_24, evX.eq_25, evX.eq_26, evX.eq_29, x_aa, evF.eq_1, x_comp, evF.eq_3, evF.eq_4, evF.eq_5, x_sset2, fz, fz1, esc, escB, escs, escBs, escO, escF, escI, escJ, evXs, evBs, evO, evC, evI.eq_1, evI.eq_4, x_rng1, x_rng2, Pat.slots, wipeE, bindP, unpack, cmpD, ixD, L2.atI, L2.ixN, leave, run_s1, run_s2, run_s3, opD, truD, biD, insOf, itD, enD, slD, List.getElem?_cons_zero, List.getElem?_cons_succ, List.getElem?_nil, -getElem?_pos, lkW_0, lk_look, mt_look, e1]
        simp [places, keys, plOf, keyO, List.filterMap_cons]
      | rd a b c k =>
        simp only [keys, List.filterMap_append, List.filterMap_cons, keyO, List.length_append, List.length_cons] at nK lK
        obtain ⟨ha, hb, hab⟩ := h.ends done a b c k rest hd
        have hn : (mnS a b, mxS a b) ∉ keys done := fun hm => by
          have := (List.nodup_append.mp nK).2.2 _ hm _ (List.mem_cons_self ..)
          exact this rfl
        have e1 := fun n => look_road (n := n) (W := W) (P := places done) (R := keys done) (i := done.length) (a := a) (b := b) (c := c) (k := k) hf.2.2.1.1 hf.2.2.1.2 ha hb hab hn (by simp only [keys]; omega)
        simp [bodyF, aaF, compF, set1F, set2F, runD, startE, x_cons, x_nil, t_nx, t_rt, t_bk, t_ct, t_no, exS.eq_1, exS.eq_2, exS.eq_3, exS.eq_4, exS.eq_5, exS.eq_6, exS.eq_7, exS.eq_8, exS.eq_10, exS.eq_11, exS.eq_12, exS.eq_13, exS.eq_14, exS.eq_15, exS.eq_16, x_forr, evX.eq_1, evX.eq_2, evX.eq_3, evX.eq_4, evX.eq_5, evX.eq_6, evX.eq_7, evX.eq_8, evX.eq_9, evX.eq_10, evX.eq_11, evX.eq_12, evX.eq_13, evX.eq_14, evX.eq_15, evX.eq_16, evX.eq_17, evX.eq_18, evX.eq_19, evX.eq_20, evX.eq_21, evX.eq_22, evX.eq_24, evX.eq_25, evX.eq_26, evX.eq_29, x_aa, evF.eq_1, x_comp, evF.eq_3, evF.eq_4, evF.eq_5, x_sset2, fz, fz1, esc, escB, escs, escBs, escO, escF, escI, escJ, evXs, evBs, evO, evC, evI.eq_1, evI.eq_4, x_rng1, x_rng2, Pat.slots, wipeE, bindP, unpack, cmpD, ixD, L2.atI, L2.ixN, leave, run_s1, run_s2, run_s3, opD, truD, biD, insOf, itD, enD, slD, List.getElem?_cons_zero, List.getElem?_cons_succ, List.getElem?_nil, -getElem?_pos, lkW_0, lk_look, mt_look, e1]
        simp [places, keys, plOf, keyO, List.filterMap_cons])
  simp [runD, startE, x_cons, x_nil, t_nx, t_rt, t_bk, t_ct, t_no, exS.eq_1, exS.eq_2, exS.eq_3, exS.eq_4, exS.eq_5, exS.eq_6, exS.eq_7, exS.eq_8, exS.eq_10, exS.eq_11, exS.eq_12, exS.eq_13, exS.eq_14, exS.eq_15, exS.eq_16, x_forr, evX.eq_1, evX.eq_2, evX.eq_3, evX.eq_4, evX.eq_5, evX.eq_6, evX.eq_7, evX.eq_8, evX.eq_9, evX.eq_10, evX.eq_11, evX.eq_12, evX.eq_13, evX.eq_14, evX.eq_15, evX.eq_16, evX.eq_17, evX.eq_18, evX.eq_19, evX.eq_20, evX.eq_21, evX.eq_22, evX.eq_24, evX.eq_25, evX.eq_26, evX.eq_29, x_aa, evF.eq_1, x_comp, evF.eq_3, evF.eq_4, evF.eq_5, x_sset2, fz, fz1, esc, escB, escs, escBs, escO, escF, escI, escJ, evXs, evBs, evO, evC, evI.eq_1, evI.eq_4, x_rng1, x_rng2, Pat.slots, wipeE, bindP, unpack, cmpD, ixD, L2.atI, L2.ixN, leave, run_s1, run_s2, run_s3, opD, truD, biD, insOf, itD, enD, slD, List.getElem?_cons_zero, List.getElem?_cons_succ, List.getElem?_nil, -getElem?_pos, lkW_0, lkW_4, lk_found, na_found, lstOf, lkW_take, lkW_length, bnd, bnds]
  exact List.all_eq_true.mp hW
theorem mistakes_ok {n : Nat} {W : Wd} {its : List Itm} (h : ShopOk its) (hW : WOk W) : run pg dfs (n+10) (n+10) 29 [.tup (its.map Itm.d)] W = some (.tup [], W) := by
  rw [run_def (by rfl : dfs 29 = some d29)]
  simp [d29, b29, runD, startE, x_cons, x_nil, t_nx, t_rt, t_bk, t_ct, t_no, exS.eq_1, exS.eq_2, exS.eq_3, exS.eq_4, exS.eq_5, exS.eq_6, exS.eq_7, exS.eq_8, exS.eq_10, exS.eq_11, exS.eq_12, exS.eq_13, exS.eq_14, exS.eq_15, exS.eq_16, x_forr, evX.eq_1, evX.eq_2, evX.eq_3, evX.eq_4, evX.eq_5, evX.eq_6, evX.eq_7, evX.eq_8, evX.eq_9, evX.eq_10, evX.eq_11, evX.eq_12, evX.eq_13, evX.eq_14, evX.eq_15, evX.eq_16, evX.eq_17, evX.eq_18, evX.eq_19, evX.eq_20, evX.eq_21, evX.eq_22, evX.eq_24, evX.eq_25, evX.eq_26, evX.eq_29, x_aa, evF.eq_1, x_comp, evF.eq_3, evF.eq_4, evF.eq_5, x_sset2, fz, fz1, esc, escB, escs, escBs, escO, escF, escI, escJ, evXs, evBs, evO, evC, evI.eq_1, evI.eq_4, x_rng1, x_rng2, Pat.slots, wipeE, bindP, unpack, cmpD, ixD, L2.atI, L2.ixN, leave, run_s1, run_s2, run_s3, opD, truD, biD, insOf, itD, enD, slD, List.getElem?_cons_zero, List.getElem?_cons_succ, List.getElem?_nil, -getElem?_pos, check_form_ok h.form, find_faults_ok h hW]
theorem check_shop_ok {n : Nat} {W : Wd} {its : List Itm} (h : ShopOk its) (hW : WOk W) : run pg dfs (n+11) (n+11) 30 [.tup (its.map Itm.d)] W = some (.non, W) := by
  rw [run_def (by rfl : dfs 30 = some d30)]
  simp [d30, b30, runD, startE, x_cons, x_nil, t_nx, t_rt, t_bk, t_ct, t_no, exS.eq_1, exS.eq_2, exS.eq_3, exS.eq_4, exS.eq_5, exS.eq_6, exS.eq_7, exS.eq_8, exS.eq_10, exS.eq_11, exS.eq_12, exS.eq_13, exS.eq_14, exS.eq_15, exS.eq_16, x_forr, evX.eq_1, evX.eq_2, evX.eq_3, evX.eq_4, evX.eq_5, evX.eq_6, evX.eq_7, evX.eq_8, evX.eq_9, evX.eq_10, evX.eq_11, evX.eq_12, evX.eq_13, evX.eq_14, evX.eq_15, evX.eq_16, evX.eq_17, evX.eq_18, evX.eq_19, evX.eq_20, evX.eq_21, evX.eq_22, evX.eq_24, evX.eq_25, evX.eq_26, evX.eq_29, x_aa, evF.eq_1, x_comp, evF.eq_3, evF.eq_4, evF.eq_5, x_sset2, fz, fz1, esc, escB, escs, escBs, escO, escF, escI, escJ, evXs, evBs, evO, evC, evI.eq_1, evI.eq_4, x_rng1, x_rng2, Pat.slots, wipeE, bindP, unpack, cmpD, ixD, L2.atI, L2.ixN, leave, run_s1, run_s2, run_s3, opD, truD, biD, insOf, itD, enD, slD, List.getElem?_cons_zero, List.getElem?_cons_succ, List.getElem?_nil, -getElem?_pos, mistakes_ok h hW]
end P76
end
section
set_option Elab.async false
set_option linter.all false
set_option maxRecDepth 100000
namespace P76
open Pv Pu
open PySem (Str)
/-! ### the ground -/
def gF (L : Nat) : List (Str × D) := [("kinds", .ref (L+1)), ("roads", .ref (L+2))]
abbrev Adj := Str → List (Option Str × Str)
def gW (W : Wd) (kv : List (L2.Key × D)) (ps : List Str) (f : Adj) : Wd := W ++ (.ins 5 (gF W.length) :: .dK kv :: .dK (refs (W.length + 3) ps) :: (ps.map fun x => Cell.lst ((f x).map prD)))
theorem g_kinds {L : Nat} : (gF L).lookup ("kinds" : Str) = some (.ref (L+1)) := by rfl
theorem g_roads {L : Nat} : (gF L).lookup ("roads" : Str) = some (.ref (L+2)) := by rfl
theorem gna_kinds : pg.na 5 "kinds" = true := by rfl
theorem gna_roads : pg.na 5 "roads" = true := by rfl
theorem g_m1 {L : Nat} : (gF L).lookup ("add_road" : Str) = none := by rfl
theorem g_m2 {L : Nat} : (gF L).lookup ("kinds_from" : Str) = none := by rfl
theorem g_m3 {L : Nat} : (gF L).lookup ("along" : Str) = none := by rfl
theorem mt_add_road : pg.mt 5 "add_road" = some 32 := by rfl
theorem mt_kinds_from : pg.mt 5 "kinds_from" = some 39 := by rfl
theorem mt_along : pg.mt 5 "along" = some 36 := by rfl
theorem ini_ground : pg.ini 5 = some 31 := by rfl
theorem gp1 {a : D} : fput "kinds" a [] = ([("kinds", a)] : List (Str × D)) := by rfl
theorem gp2 {a b : D} : fput "roads" b [("kinds", a)] = ([("kinds", a), ("roads", b)] : List (Str × D)) := by rfl
section
variable {W : Wd} {kv : List (L2.Key × D)} {ps : List Str} {f : Adj}
theorem gW_len : (gW W kv ps f).length = W.length + (ps.length + 3) := by simp [gW]
theorem gW_0 : (gW W kv ps f)[W.length]? = some (.ins 5 (gF W.length)) := by rw [gW, at_app0]; rfl
theorem gW_1 : (gW W kv ps f)[W.length + 1]? = some (.dK kv) := by rw [gW, at_app]; rfl
theorem gW_2 : (gW W kv ps f)[W.length + 2]? = some (.dK (refs (W.length + 3) ps)) := by rw [gW, at_app]; rfl
theorem gW_r {x : Str} (h : x ∈ ps) : (gW W kv ps f)[W.length + 3 + pos x ps]? = some (.lst ((f x).map prD)) := by
  rw [gW, Nat.add_assoc, at_app, Nat.add_comm 3]
  simp only [List.getElem?_cons_succ]
  rw [get_pos h]
theorem gW_take : (gW W kv ps f).take W.length = W := by simp [gW]
theorem gW_put {x : Str} {q : Option Str × Str} (hn : ps.Nodup) (h : x ∈ ps) : (gW W kv ps f).set (W.length + 3 + pos x ps) (.lst ((f x).map prD ++ [prD q])) = gW W kv ps (fun y => if y = x then f x ++ [q] else f y) := by
  rw [gW, Nat.add_assoc, set_app, Nat.add_comm 3]
  simp only [List.set_cons_succ]
  rw [set_pos hn h, gW]
  congr 4
  apply List.map_congr_left
  intro y _
  by_cases e : y = x <;> simp [e]
theorem gW_kv {kv' : List (L2.Key × D)} : (gW W kv ps f).set (W.length + 1) (.dK kv') = gW W kv' ps f := by rw [gW, set_app]; rfl
end
theorem add_road_ok {n : Nat} {W : Wd} {kv : List (L2.Key × D)} {ps : List Str} {f : Adj} {a b : Str} {k : Option Str} (hn : ps.Nodup) (ha : a ∈ ps) (hb : b ∈ ps) (hab : a ≠ b) (hl : ∀ x, (f x).length < 1000) :
    run pg dfs (n+1) (n+1) 32 [.ref W.length, .str a, .str b, kD k] (gW W kv ps f) = some (.non, gW W kv ps (fun y => f y ++ ((if a = y then [(k, b)] else []) ++ (if b = y then [(k, a)] else [])))) := by
  rw [run_def (by rfl : dfs 32 = some d32)]
  have l1 : (f a).length < 16777216 := by have := hl a; omega
  have l2 : (f b).length < 16777216 := by have := hl b; omega
  have hp : ∀ (x : Str), D.tup [kD k, D.str x] = prD (k, x) := fun _ => rfl
  have hba : ¬ b = a := fun h => hab h.symm
  simp [d32, b32, runD, startE, x_cons, x_nil, t_nx, t_rt, t_bk, t_ct, t_no, exS.eq_1, exS.eq_2, exS.eq_3, exS.eq_4, exS.eq_5, exS.eq_6, exS.eq_7, exS.eq_8, exS.eq_10, exS.eq_11, exS.eq_12, exS.eq_13, exS.eq_14, exS.eq_15, exS.eq_16, x_forr, evX.eq_1, evX.eq_2, evX.eq_3, evX.eq_4, evX.eq_5, evX.eq_6, evX.eq_7, evX.eq_8, evX.eq_9, evX.eq_10, evX.eq_11, evX.eq_12, evX.eq_13, evX.eq_14, evX.eq_15, evX.eq_16, evX.eq_17, evX.eq_18, evX.eq_19, evX.eq_20, evX.eq_21, evX.eq_22, evX.eq_24, evX.eq_25, evX.eq_26, evX.eq_29, x_aa, evF.eq_1, x_comp, evF.eq_3, evF.eq_4, evF.eq_5, x_sset2, fz, fz1, esc, escB, escs, escBs, escO, escF, escI, escJ, evXs, evBs, evO, evC, evI.eq_1, evI.eq_4, x_rng1, x_rng2, Pat.slots, wipeE, bindP, unpack, cmpD, ixD, L2.atI, L2.ixN, leave, run_s1, run_s2, run_s3, opD, truD, biD, insOf, itD, enD, slD, List.getElem?_cons_zero, List.getElem?_cons_succ, List.getElem?_nil, -getElem?_pos, gW_0, g_roads, gna_roads, gW_1, gW_2, ha, hb, dget, at_, kyOf, keyOf, kget_refs, gW_r ha, sl2_iff, sizeL, l1, hp, gW_put hn ha, gW_r hb, l2, hba, hab, gW_len]
  have key := gW_put (W := W) (kv := kv) (f := fun y => if y = a then f a ++ [(k, b)] else f y) (q := (k, a)) hn hb
  simp only [hba, if_false] at key
  rw [key]
  congr 1
  funext y
  by_cases e1 : y = b
  · subst e1; simp [hab, hba]
  · by_cases e2 : y = a
    · subst e2; simp [hab, hba, e1]
    · simp [e1, e2]
      exact ⟨fun h => e2 h.symm, fun h => e1 h.symm⟩
theorem ground_new {n : Nat} {W : Wd} {its : List Itm} (h : ShopOk its) : run pg dfs (n+2) (n+2) 31 [.ref W.length, .tup (its.map Itm.d)] (W ++ [.ins 5 []]) = some (.non, gW W (kvs its) (places its) (rOf its)) := by
  rw [run_def (by rfl : dfs 31 = some d31)]
  have e0 : W ++ [Cell.ins 5 [("kinds", D.ref (W.length + 1)), ("roads", D.ref (W.length + 2))], Cell.dK [], Cell.dK []] = gW W [] [] (fun _ => []) := by simp [gW, gF, refs]
  simp [d31, b31, runD, startE, x_cons, x_nil, t_nx, t_rt, t_bk, t_ct, t_no, exS.eq_1, exS.eq_2, exS.eq_3, exS.eq_4, exS.eq_5, exS.eq_6, exS.eq_7, exS.eq_8, exS.eq_10, exS.eq_11, exS.eq_12, exS.eq_13, exS.eq_14, exS.eq_15, exS.eq_16, x_forr, evX.eq_1, evX.eq_2, evX.eq_3, evX.eq_4, evX.eq_5, evX.eq_6, evX.eq_7, evX.eq_8, evX.eq_9, evX.eq_10, evX.eq_11, evX.eq_12, evX.eq_13, evX.eq_14, evX.eq_15, evX.eq_16, evX.eq_17, evX.eq_18, evX.eq_19, evX.eq_20, evX.eq_21, evX.eq_22, evX.eq_24, evX.eq_25, evX.eq_26, evX.eq_29, x_aa, evF.eq_1, x_comp, evF.eq_3, evF.eq_4, evF.eq_5, x_sset2, fz, fz1, esc, escB, escs, escBs, escO, escF, escI, escJ, evXs, evBs, evO, evC, evI.eq_1, evI.eq_4, x_rng1, x_rng2, Pat.slots, wipeE, bindP, unpack, cmpD, ixD, L2.atI, L2.ixN, leave, run_s1, run_s2, run_s3, opD, truD, biD, insOf, itD, enD, slD, List.getElem?_cons_zero, List.getElem?_cons_succ, List.getElem?_nil, -getElem?_pos, at_app0, at_app, set_app0, set_app, gna_kinds, gna_roads, gp1, gp2, sl2_iff, e0]
  generalize e : forL _ _ _ _ _ _ = o
  obtain ⟨env1, W1, rfl, rfl, s2, rfl⟩ := use_i (gmap_map Itm.d 0 _) e (fun done env W' => W' = gW W (kvs done) (places done) (fun _ => []) ∧ ∃ s2, env = [.val (.ref W.length), .val (.tup (its.map Itm.d)), s2]) ⟨rfl, _, rfl⟩ (by
    rintro done x rest env W' hd ⟨rfl, s2, rfl⟩
    have nP : (places (done ++ x :: rest)).Nodup := hd ▸ h.ndP
    have lP : (places (done ++ x :: rest)).length ≤ 16 := hd ▸ h.lP
    refine ⟨[.val (.ref W.length), .val (.tup (its.map Itm.d)), .val x.d], gW W (kvs (done ++ [x])) (places (done ++ [x])) (fun _ => []), .inl ?_, rfl, rfl, _, rfl⟩
    cases x with
    | pl nm x y k =>
      simp only [places, List.filterMap_append, List.filterMap_cons, plOf, List.length_append, List.length_cons] at nP lP
      have hn : nm ∉ places done := fun hm => by
        have := (List.nodup_append.mp nP).2.2 nm hm nm (List.mem_cons_self ..)
        exact this rfl
      have l1 : (places done).length < 16777216 := by simp only [places]; omega
      have e2 : kput (.inr nm) (kD k) (kvs done) = kvs (done ++ [Itm.pl nm x y k]) := by
        rw [kput_new _ _ _ (kget_kvs_none hn)]
        simp [kvs, kvOf]
      have e3 : kput (.inr nm) (.ref (W.length + 3 + (places done).length)) (refs (W.length + 3) (places done)) = refs (W.length + 3) (places (done ++ [Itm.pl nm x y k])) := by
        rw [kput_new]
        · simp [places, plOf, List.filterMap_cons, refs_app]
        · rw [kget_refs, if_neg hn]
      have e4 : (gW W (kvs (done ++ [Itm.pl nm x y k])) (places done) (fun _ => []) ++ [Cell.lst []]).set (W.length + 2) (.dK (refs (W.length + 3) (places (done ++ [Itm.pl nm x y k])))) = gW W (kvs (done ++ [Itm.pl nm x y k])) (places (done ++ [Itm.pl nm x y k])) (fun _ => []) := by
        rw [gW, List.append_assoc, set_app, gW]
        simp [places, plOf, List.filterMap_cons]
      have e5 : ∀ {kv : List (L2.Key × D)} {f : Adj}, (gW W kv (places done) f ++ [Cell.lst []])[W.length]? = some (.ins 5 (gF W.length)) := by
        intro kv f; rw [List.getElem?_append_left (by rw [gW_len]; omega), gW_0]
      have e6 : ∀ {kv : List (L2.Key × D)} {f : Adj}, (gW W kv (places done) f ++ [Cell.lst []])[W.length + 2]? = some (.dK (refs (W.length + 3) (places done))) := by
        intro kv f; rw [List.getElem?_append_left (by rw [gW_len]; omega), gW_2]
      have e7 : W.length + ((places done).length + 3) = W.length + 3 + (places done).length := by omega
      simp [bodyF, aaF, compF, set1F, set2F, runD, startE, x_cons, x_nil, t_nx, t_rt, t_bk, t_ct, t_no, exS.eq_1, exS.eq_2, exS.eq_3, exS.eq_4, exS.eq_5, exS.eq_6, exS.eq_7, exS.eq_8, exS.eq_10, exS.eq_11, exS.eq_12, exS.eq_13, exS.eq_14, exS.eq_15, exS.eq_16, x_forr, evX.eq_1, evX.eq_2, evX.eq_3, evX.eq_4, evX.eq_5, evX.eq_6, evX.eq_7, evX.eq_8, evX.eq_9, evX.eq_10, evX.eq_11, evX.eq_12, evX.eq_13, evX.eq_14, evX.eq_15, evX.eq_16, evX.eq_17, evX.eq_18, evX.eq_19, evX.eq_20, evX.eq_21, evX.eq_22, evX.eq_24, evX.eq_25, evX.eq_26, evX.eq_29, x_aa, evF.eq_1, x_comp, evF.eq_3, evF.eq_4, evF.eq_5, x_sset2, fz, fz1, esc, escB, escs, escBs, escO, escF, escI, escJ, evXs, evBs, evO, evC, evI.eq_1, evI.eq_4, x_rng1, x_rng2, Pat.slots, wipeE, bindP, unpack, cmpD, ixD, L2.atI, L2.ixN, leave, run_s1, run_s2, run_s3, opD, truD, biD, insOf, itD, enD, slD, List.getElem?_cons_zero, List.getElem?_cons_succ, List.getElem?_nil, -getElem?_pos, Itm.d, eqD_str, gW_0, gW_1, g_kinds, gna_kinds, g_roads, gna_roads, kyOf, keyOf, kvs_len, sizeL, l1, gW_kv, e2, sl2_iff, gW_len, e7, e5, e6, refs_len, e3, e4]
    | rd a b c k =>
      simp [bodyF, aaF, compF, set1F, set2F, runD, startE, x_cons, x_nil, t_nx, t_rt, t_bk, t_ct, t_no, exS.eq_1, exS.eq_2, exS.eq_3, exS.eq_4, exS.eq_5, exS.eq_6, exS.eq_7, exS.eq_8, exS.eq_10, exS.eq_11, exS.eq_12, exS.eq_13, exS.eq_14, exS.eq_15, exS.eq_16, x_forr, evX.eq_1, evX.eq_2, evX.eq_3, evX.eq_4, evX.eq_5, evX.eq_6, evX.eq_7, evX.eq_8, evX.eq_9, evX.eq_10, evX.eq_11, evX.eq_12, evX.eq_13, evX.eq_14, evX.eq_15, evX.eq_16, evX.eq_17, evX.eq_18, evX.eq_19, evX.eq_20, evX.eq_21, evX.eq_22, evX.eq_24, evX.eq_25, evX.eq_26, evX.eq_29, x_aa, evF.eq_1, x_comp, evF.eq_3, evF.eq_4, evF.eq_5, x_sset2, fz, fz1, esc, escB, escs, escBs, escO, escF, escI, escJ, evXs, evBs, evO, evC, evI.eq_1, evI.eq_4, x_rng1, x_rng2, Pat.slots, wipeE, bindP, unpack, cmpD, ixD, L2.atI, L2.ixN, leave, run_s1, run_s2, run_s3, opD, truD, biD, insOf, itD, enD, slD, List.getElem?_cons_zero, List.getElem?_cons_succ, List.getElem?_nil, -getElem?_pos, Itm.d, eqD_str, s_rp]
      simp [kvs, places, kvOf, plOf, List.filterMap_cons])
  simp [runD, startE, x_cons, x_nil, t_nx, t_rt, t_bk, t_ct, t_no, exS.eq_1, exS.eq_2, exS.eq_3, exS.eq_4, exS.eq_5, exS.eq_6, exS.eq_7, exS.eq_8, exS.eq_10, exS.eq_11, exS.eq_12, exS.eq_13, exS.eq_14, exS.eq_15, exS.eq_16, x_forr, evX.eq_1, evX.eq_2, evX.eq_3, evX.eq_4, evX.eq_5, evX.eq_6, evX.eq_7, evX.eq_8, evX.eq_9, evX.eq_10, evX.eq_11, evX.eq_12, evX.eq_13, evX.eq_14, evX.eq_15, evX.eq_16, evX.eq_17, evX.eq_18, evX.eq_19, evX.eq_20, evX.eq_21, evX.eq_22, evX.eq_24, evX.eq_25, evX.eq_26, evX.eq_29, x_aa, evF.eq_1, x_comp, evF.eq_3, evF.eq_4, evF.eq_5, x_sset2, fz, fz1, esc, escB, escs, escBs, escO, escF, escI, escJ, evXs, evBs, evO, evC, evI.eq_1, evI.eq_4, x_rng1, x_rng2, Pat.slots, wipeE, bindP, unpack, cmpD, ixD, L2.atI, L2.ixN, leave, run_s1, run_s2, run_s3, opD, truD, biD, insOf, itD, enD, slD, List.getElem?_cons_zero, List.getElem?_cons_succ, List.getElem?_nil, -getElem?_pos]
  generalize e : forL _ _ _ _ _ _ = o
  obtain ⟨env1, W1, rfl, rfl, s2, rfl⟩ := use_i (gmap_map Itm.d 0 _) e (fun done env W' => W' = gW W (kvs its) (places its) (rOf done) ∧ ∃ s2, env = [.val (.ref W.length), .val (.tup (its.map Itm.d)), s2]) ⟨rfl, _, rfl⟩ (by
    rintro done x rest env W' hd ⟨rfl, s2, rfl⟩
    refine ⟨[.val (.ref W.length), .val (.tup (its.map Itm.d)), .val x.d], gW W (kvs its) (places its) (rOf (done ++ [x])), .inl ?_, rfl, rfl, _, rfl⟩
    cases x with
    | pl nm x y k =>
      simp [bodyF, aaF, compF, set1F, set2F, runD, startE, x_cons, x_nil, t_nx, t_rt, t_bk, t_ct, t_no, exS.eq_1, exS.eq_2, exS.eq_3, exS.eq_4, exS.eq_5, exS.eq_6, exS.eq_7, exS.eq_8, exS.eq_10, exS.eq_11, exS.eq_12, exS.eq_13, exS.eq_14, exS.eq_15, exS.eq_16, x_forr, evX.eq_1, evX.eq_2, evX.eq_3, evX.eq_4, evX.eq_5, evX.eq_6, evX.eq_7, evX.eq_8, evX.eq_9, evX.eq_10, evX.eq_11, evX.eq_12, evX.eq_13, evX.eq_14, evX.eq_15, evX.eq_16, evX.eq_17, evX.eq_18, evX.eq_19, evX.eq_20, evX.eq_21, evX.eq_22, evX.eq_24, evX.eq_25, evX.eq_26, evX.eq_29, x_aa, evF.eq_1, x_comp, evF.eq_3, evF.eq_4, evF.eq_5, x_sset2, fz, fz1, esc, escB, escs, escBs, escO, escF, escI, escJ, evXs, evBs, evO, evC, evI.eq_1, evI.eq_4, x_rng1, x_rng2, Pat.slots, wipeE, bindP, unpack, cmpD, ixD, L2.atI, L2.ixN, leave, run_s1, run_s2, run_s3, opD, truD, biD, insOf, itD, enD, slD, List.getElem?_cons_zero, List.getElem?_cons_succ, List.getElem?_nil, -getElem?_pos, Itm.d, eqD_str, s_pr]
      congr 1
      funext y
      simp [rOf, r1]
    | rd a b c k =>
      obtain ⟨ha, hb, hab⟩ := h.ends done a b c k rest hd
      have sub : ∀ z, z ∈ places done → z ∈ places its := fun z hz => by rw [hd]; simp only [places, List.filterMap_append]; exact List.mem_append_left _ hz
      have hl : ∀ z, (rOf done z).length < 1000 := fun z => by
        have h1 := rOf_len done z
        have h2 := its_len its
        have h3 := h.lP
        have h4 := h.lK
        have h5 : done.length ≤ its.length := by rw [hd]; simp
        omega
      have e1 := fun n => add_road_ok (n := n) (W := W) (kv := kvs its) (k := k) h.ndP (sub a ha) (sub b hb) hab hl
      simp [bodyF, aaF, compF, set1F, set2F, runD, startE, x_cons, x_nil, t_nx, t_rt, t_bk, t_ct, t_no, exS.eq_1, exS.eq_2, exS.eq_3, exS.eq_4, exS.eq_5, exS.eq_6, exS.eq_7, exS.eq_8, exS.eq_10, exS.eq_11, exS.eq_12, exS.eq_13, exS.eq_14, exS.eq_15, exS.eq_16, x_forr, evX.eq_1, evX.eq_2, evX.eq_3, evX.eq_4, evX.eq_5, evX.eq_6, evX.eq_7, evX.eq_8, evX.eq_9, evX.eq_10, evX.eq_11, evX.eq_12, evX.eq_13, evX.eq_14, evX.eq_15, evX.eq_16, evX.eq_17, evX.eq_18, evX.eq_19, evX.eq_20, evX.eq_21, evX.eq_22, evX.eq_24, evX.eq_25, evX.eq_26, evX.eq_29, x_aa, evF.eq_1, x_comp, evF.eq_3, evF.eq_4, evF.eq_5, x_sset2, fz, fz1, esc, escB, escs, escBs, escO, escF, escI, escJ, evXs, evBs, evO, evC, evI.eq_1, evI.eq_4, x_rng1, x_rng2, Pat.slots, wipeE, bindP, unpack, cmpD, ixD, L2.atI, L2.ixN, leave, run_s1, run_s2, run_s3, opD, truD, biD, insOf, itD, enD, slD, List.getElem?_cons_zero, List.getElem?_cons_succ, List.getElem?_nil, -getElem?_pos, Itm.d, eqD_str, gW_0, mt_add_road, g_m1, e1]
      congr 1
      funext y
      simp [rOf, r1])
  simp [runD, startE, x_cons, x_nil, t_nx, t_rt, t_bk, t_ct, t_no, exS.eq_1, exS.eq_2, exS.eq_3, exS.eq_4, exS.eq_5, exS.eq_6, exS.eq_7, exS.eq_8, exS.eq_10, exS.eq_11, exS.eq_12, exS.eq_13, exS.eq_14, exS.eq_15, exS.eq_16, x_forr, evX.eq_1, evX.eq_2, evX.eq_3, evX.eq_4, evX.eq_5, evX.eq_6, evX.eq_7, evX.eq_8, evX.eq_9, evX.eq_10, evX.eq_11, evX.eq_12, evX.eq_13, evX.eq_14, evX.eq_15, evX.eq_16, evX.eq_17, evX.eq_18, evX.eq_19, evX.eq_20, evX.eq_21, evX.eq_22, evX.eq_24, evX.eq_25, evX.eq_26, evX.eq_29, x_aa, evF.eq_1, x_comp, evF.eq_3, evF.eq_4, evF.eq_5, x_sset2, fz, fz1, esc, escB, escs, escBs, escO, escF, escI, escJ, evXs, evBs, evO, evC, evI.eq_1, evI.eq_4, x_rng1, x_rng2, Pat.slots, wipeE, bindP, unpack, cmpD, ixD, L2.atI, L2.ixN, leave, run_s1, run_s2, run_s3, opD, truD, biD, insOf, itD, enD, slD, List.getElem?_cons_zero, List.getElem?_cons_succ, List.getElem?_nil, -getElem?_pos]
section
variable {n : Nat} {W : Wd} {kv : List (L2.Key × D)} {ps : List Str} {f : Adj}
theorem check_place_ok {its : List Itm} {x : Str} (hx : nameRow x = true) (h : x ∈ places its) : run pg dfs (n+5) (n+5) 43 [.ref W.length, .str x] (gW W (kvs its) ps f) = some (.non, gW W (kvs its) ps f) := by
  rw [run_def (by rfl : dfs 43 = some d43)]
  have e : (kget (.inr x) (kvs its)).isSome = true := by rw [kget_kvs, decide_eq_true h]
  simp [d43, b43, runD, startE, x_cons, x_nil, t_nx, t_rt, t_bk, t_ct, t_no, exS.eq_1, exS.eq_2, exS.eq_3, exS.eq_4, exS.eq_5, exS.eq_6, exS.eq_7, exS.eq_8, exS.eq_10, exS.eq_11, exS.eq_12, exS.eq_13, exS.eq_14, exS.eq_15, exS.eq_16, x_forr, evX.eq_1, evX.eq_2, evX.eq_3, evX.eq_4, evX.eq_5, evX.eq_6, evX.eq_7, evX.eq_8, evX.eq_9, evX.eq_10, evX.eq_11, evX.eq_12, evX.eq_13, evX.eq_14, evX.eq_15, evX.eq_16, evX.eq_17, evX.eq_18, evX.eq_19, evX.eq_20, evX.eq_21, evX.eq_22, evX.eq_24, evX.eq_25, evX.eq_26, evX.eq_29, x_aa, evF.eq_1, x_comp, evF.eq_3, evF.eq_4, evF.eq_5, x_sset2, fz, fz1, esc, escB, escs, escBs, escO, escF, escI, escJ, evXs, evBs, evO, evC, evI.eq_1, evI.eq_4, x_rng1, x_rng2, Pat.slots, wipeE, bindP, unpack, cmpD, ixD, L2.atI, L2.ixN, leave, run_s1, run_s2, run_s3, opD, truD, biD, insOf, itD, enD, slD, List.getElem?_cons_zero, List.getElem?_cons_succ, List.getElem?_nil, -getElem?_pos, is_name_eq, hx, gW_0, g_kinds, gna_kinds, gW_1, inD, dget, at_, kyOf, keyOf, e]
theorem kinds_from_eq {x : Str} (hx : x ∈ ps) (hl : (f x).length < 1000) : run pg dfs (n+1) (n+1) 39 [.ref W.length, .str x] (gW W kv ps f) = some (.lst (((f x).map (·.1)).map kD), gW W kv ps f) := by
  rw [run_def (by rfl : dfs 39 = some d39)]
  have l1 : (f x).length < 16777216 := by omega
  simp [d39, b39, runD, startE, x_cons, x_nil, t_nx, t_rt, t_bk, t_ct, t_no, exS.eq_1, exS.eq_2, exS.eq_3, exS.eq_4, exS.eq_5, exS.eq_6, exS.eq_7, exS.eq_8, exS.eq_10, exS.eq_11, exS.eq_12, exS.eq_13, exS.eq_14, exS.eq_15, exS.eq_16, x_forr, evX.eq_1, evX.eq_2, evX.eq_3, evX.eq_4, evX.eq_5, evX.eq_6, evX.eq_7, evX.eq_8, evX.eq_9, evX.eq_10, evX.eq_11, evX.eq_12, evX.eq_13, evX.eq_14, evX.eq_15, evX.eq_16, evX.eq_17, evX.eq_18, evX.eq_19, evX.eq_20, evX.eq_21, evX.eq_22, evX.eq_24, evX.eq_25, evX.eq_26, evX.eq_29, x_aa, evF.eq_1, x_comp, evF.eq_3, evF.eq_4, evF.eq_5, x_sset2, fz, fz1, esc, escB, escs, escBs, escO, escF, escI, escJ, evXs, evBs, evO, evC, evI.eq_1, evI.eq_4, x_rng1, x_rng2, Pat.slots, wipeE, bindP, unpack, cmpD, ixD, L2.atI, L2.ixN, leave, run_s1, run_s2, run_s3, opD, truD, biD, insOf, itD, enD, slD, List.getElem?_cons_zero, List.getElem?_cons_succ, List.getElem?_nil, -getElem?_pos, gW_0, g_roads, gna_roads, gW_2, dget, at_, kyOf, keyOf, kget_refs, hx, gW_r hx, l1, sizeL]
  rw [mapL_pure (p := fun d => match d with | .tup [a, b] => some a | _ => none) (by simp [okW, gW_r hx, beqs_refl])]
  · simp [runD, startE, x_cons, x_nil, t_nx, t_rt, t_bk, t_ct, t_no, exS.eq_1, exS.eq_2, exS.eq_3, exS.eq_4, exS.eq_5, exS.eq_6, exS.eq_7, exS.eq_8, exS.eq_10, exS.eq_11, exS.eq_12, exS.eq_13, exS.eq_14, exS.eq_15, exS.eq_16, x_forr, evX.eq_1, evX.eq_2, evX.eq_3, evX.eq_4, evX.eq_5, evX.eq_6, evX.eq_7, evX.eq_8, evX.eq_9, evX.eq_10, evX.eq_11, evX.eq_12, evX.eq_13, evX.eq_14, evX.eq_15, evX.eq_16, evX.eq_17, evX.eq_18, evX.eq_19, evX.eq_20, evX.eq_21, evX.eq_22, evX.eq_24, evX.eq_25, evX.eq_26, evX.eq_29, x_aa, evF.eq_1, x_comp, evF.eq_3, evF.eq_4, evF.eq_5, x_sset2, fz, fz1, esc, escB, escs, escBs, escO, escF, escI, escJ, evXs, evBs, evO, evC, evI.eq_1, evI.eq_4, x_rng1, x_rng2, Pat.slots, wipeE, bindP, unpack, cmpD, ixD, L2.atI, L2.ixN, leave, run_s1, run_s2, run_s3, opD, truD, biD, insOf, itD, enD, slD, List.getElem?_cons_zero, List.getElem?_cons_succ, List.getElem?_nil, -getElem?_pos, List.filterMap_map, Function.comp_def, prD]
  · intro d hd
    obtain ⟨q, hq, rfl⟩ := List.mem_map.mp hd
    simp [bodyF, aaF, compF, set1F, set2F, runD, startE, x_cons, x_nil, t_nx, t_rt, t_bk, t_ct, t_no, exS.eq_1, exS.eq_2, exS.eq_3, exS.eq_4, exS.eq_5, exS.eq_6, exS.eq_7, exS.eq_8, exS.eq_10, exS.eq_11, exS.eq_12, exS.eq_13, exS.eq_14, exS.eq_15, exS.eq_16, x_forr, evX.eq_1, evX.eq_2, evX.eq_3, evX.eq_4, evX.eq_5, evX.eq_6, evX.eq_7, evX.eq_8, evX.eq_9, evX.eq_10, evX.eq_11, evX.eq_12, evX.eq_13, evX.eq_14, evX.eq_15, evX.eq_16, evX.eq_17, evX.eq_18, evX.eq_19, evX.eq_20, evX.eq_21, evX.eq_22, evX.eq_24, evX.eq_25, evX.eq_26, evX.eq_29, x_aa, evF.eq_1, x_comp, evF.eq_3, evF.eq_4, evF.eq_5, x_sset2, fz, fz1, esc, escB, escs, escBs, escO, escF, escI, escJ, evXs, evBs, evO, evC, evI.eq_1, evI.eq_4, x_rng1, x_rng2, Pat.slots, wipeE, bindP, unpack, cmpD, ixD, L2.atI, L2.ixN, leave, run_s1, run_s2, run_s3, opD, truD, biD, insOf, itD, enD, slD, List.getElem?_cons_zero, List.getElem?_cons_succ, List.getElem?_nil, -getElem?_pos, prD]
theorem along_eq {pls : List Str} {k : Option Str} (hp : ∀ x ∈ pls, x ∈ ps) (hl : (allEnds f pls k).length < 64) : run pg dfs (n+1) (n+1) 36 [.ref W.length, .tup (pls.map .str), kD k] (gW W kv ps f) = some (.tup ((alongF f pls k).map .str), gW W kv ps f) := by
  rw [run_def (by rfl : dfs 36 = some d36)]
  simp [d36, b36, runD, startE, x_cons, x_nil, t_nx, t_rt, t_bk, t_ct, t_no, exS.eq_1, exS.eq_2, exS.eq_3, exS.eq_4, exS.eq_5, exS.eq_6, exS.eq_7, exS.eq_8, exS.eq_10, exS.eq_11, exS.eq_12, exS.eq_13, exS.eq_14, exS.eq_15, exS.eq_16, x_forr, evX.eq_1, evX.eq_2, evX.eq_3, evX.eq_4, evX.eq_5, evX.eq_6, evX.eq_7, evX.eq_8, evX.eq_9, evX.eq_10, evX.eq_11, evX.eq_12, evX.eq_13, evX.eq_14, evX.eq_15, evX.eq_16, evX.eq_17, evX.eq_18, evX.eq_19, evX.eq_20, evX.eq_21, evX.eq_22, evX.eq_24, evX.eq_25, evX.eq_26, evX.eq_29, x_aa, evF.eq_1, x_comp, evF.eq_3, evF.eq_4, evF.eq_5, x_sset2, fz, fz1, esc, escB, escs, escBs, escO, escF, escI, escJ, evXs, evBs, evO, evC, evI.eq_1, evI.eq_4, x_rng1, x_rng2, Pat.slots, wipeE, bindP, unpack, cmpD, ixD, L2.atI, L2.ixN, leave, run_s1, run_s2, run_s3, opD, truD, biD, insOf, itD, enD, slD, List.getElem?_cons_zero, List.getElem?_cons_succ, List.getElem?_nil, -getElem?_pos]
  have e := flatL_pure (f := set1F pg (run pg dfs n) n (Pat.one 3) (Pat.tup [4, 5]) (It.seq ((Ex.fld (Ex.var 0) "roads").ix (Ex.var 3))) (Oe.yes (Ex.cmp COp.eq (Ex.var 4) (Ex.var 2))) (Ex.var 5) [Sv.val (D.ref W.length), Sv.val (D.tup (pls.map .str)), Sv.val (kD k), Sv.no, Sv.no, Sv.no]) (gd := none) (W := gW W kv ps f)
    (p := fun d => match d with | .str p => (f p).filterMap (outOf k) | _ => []) rfl (pls.map .str) (by
    intro d hd
    obtain ⟨x, hx, rfl⟩ := List.mem_map.mp hd
    have hx' := hp x hx
    simp [bodyF, aaF, compF, set1F, set2F, runD, startE, x_cons, x_nil, t_nx, t_rt, t_bk, t_ct, t_no, exS.eq_1, exS.eq_2, exS.eq_3, exS.eq_4, exS.eq_5, exS.eq_6, exS.eq_7, exS.eq_8, exS.eq_10, exS.eq_11, exS.eq_12, exS.eq_13, exS.eq_14, exS.eq_15, exS.eq_16, x_forr, evX.eq_1, evX.eq_2, evX.eq_3, evX.eq_4, evX.eq_5, evX.eq_6, evX.eq_7, evX.eq_8, evX.eq_9, evX.eq_10, evX.eq_11, evX.eq_12, evX.eq_13, evX.eq_14, evX.eq_15, evX.eq_16, evX.eq_17, evX.eq_18, evX.eq_19, evX.eq_20, evX.eq_21, evX.eq_22, evX.eq_24, evX.eq_25, evX.eq_26, evX.eq_29, x_aa, evF.eq_1, x_comp, evF.eq_3, evF.eq_4, evF.eq_5, x_sset2, fz, fz1, esc, escB, escs, escBs, escO, escF, escI, escJ, evXs, evBs, evO, evC, evI.eq_1, evI.eq_4, x_rng1, x_rng2, Pat.slots, wipeE, bindP, unpack, cmpD, ixD, L2.atI, L2.ixN, leave, run_s1, run_s2, run_s3, opD, truD, biD, insOf, itD, enD, slD, List.getElem?_cons_zero, List.getElem?_cons_succ, List.getElem?_nil, -getElem?_pos, gW_0, g_roads, gna_roads, gW_2, dget, at_, kyOf, keyOf, kget_refs, hx', gW_r hx']
    have e := flatL_pure (f := set2F pg (run pg dfs n) n (Pat.tup [4, 5]) (Oe.yes (Ex.cmp COp.eq (Ex.var 4) (Ex.var 2))) (Ex.var 5) [Sv.val (D.ref W.length), Sv.val (D.tup (pls.map .str)), Sv.val (kD k), Sv.val (.str x), Sv.no, Sv.no]) (gd := some (W.length + 3 + pos x ps)) (W := gW W kv ps f)
      (p := fun d => match d with | .tup [kd, .str o] => (match eqD kd (kD k) with | some true => [o] | _ => []) | _ => []) (by simp [okW, gW_r hx', beqs_refl]) ((f x).map prD) (by
      intro d hd
      obtain ⟨q, hq, rfl⟩ := List.mem_map.mp hd
      by_cases e : q.1 = k
      · simp [bodyF, aaF, compF, set1F, set2F, runD, startE, x_cons, x_nil, t_nx, t_rt, t_bk, t_ct, t_no, exS.eq_1, exS.eq_2, exS.eq_3, exS.eq_4, exS.eq_5, exS.eq_6, exS.eq_7, exS.eq_8, exS.eq_10, exS.eq_11, exS.eq_12, exS.eq_13, exS.eq_14, exS.eq_15, exS.eq_16, x_forr, evX.eq_1, evX.eq_2, evX.eq_3, evX.eq_4, evX.eq_5, evX.eq_6, evX.eq_7, evX.eq_8, evX.eq_9, evX.eq_10, evX.eq_11, evX.eq_12, evX.eq_13, evX.eq_14, evX.eq_15, evX.eq_16, evX.eq_17, evX.eq_18, evX.eq_19, evX.eq_20, evX.eq_21, evX.eq_22, evX.eq_24, evX.eq_25, evX.eq_26, evX.eq_29, x_aa, evF.eq_1, x_comp, evF.eq_3, evF.eq_4, evF.eq_5, x_sset2, fz, fz1, esc, escB, escs, escBs, escO, escF, escI, escJ, evXs, evBs, evO, evC, evI.eq_1, evI.eq_4, x_rng1, x_rng2, Pat.slots, wipeE, bindP, unpack, cmpD, ixD, L2.atI, L2.ixN, leave, run_s1, run_s2, run_s3, opD, truD, biD, insOf, itD, enD, slD, List.getElem?_cons_zero, List.getElem?_cons_succ, List.getElem?_nil, -getElem?_pos, prD, eqD_kD, e]
      · simp [bodyF, aaF, compF, set1F, set2F, runD, startE, x_cons, x_nil, t_nx, t_rt, t_bk, t_ct, t_no, exS.eq_1, exS.eq_2, exS.eq_3, exS.eq_4, exS.eq_5, exS.eq_6, exS.eq_7, exS.eq_8, exS.eq_10, exS.eq_11, exS.eq_12, exS.eq_13, exS.eq_14, exS.eq_15, exS.eq_16, x_forr, evX.eq_1, evX.eq_2, evX.eq_3, evX.eq_4, evX.eq_5, evX.eq_6, evX.eq_7, evX.eq_8, evX.eq_9, evX.eq_10, evX.eq_11, evX.eq_12, evX.eq_13, evX.eq_14, evX.eq_15, evX.eq_16, evX.eq_17, evX.eq_18, evX.eq_19, evX.eq_20, evX.eq_21, evX.eq_22, evX.eq_24, evX.eq_25, evX.eq_26, evX.eq_29, x_aa, evF.eq_1, x_comp, evF.eq_3, evF.eq_4, evF.eq_5, x_sset2, fz, fz1, esc, escB, escs, escBs, escO, escF, escI, escJ, evXs, evBs, evO, evC, evI.eq_1, evI.eq_4, x_rng1, x_rng2, Pat.slots, wipeE, bindP, unpack, cmpD, ixD, L2.atI, L2.ixN, leave, run_s1, run_s2, run_s3, opD, truD, biD, insOf, itD, enD, slD, List.getElem?_cons_zero, List.getElem?_cons_succ, List.getElem?_nil, -getElem?_pos, prD, eqD_kD, e])
    rw [e]
    congr 2
    rw [List.flatMap_map]
    induction f x with
    | nil => rfl
    | cons q r ih =>
      rw [List.flatMap_cons, ih, List.filterMap_cons]
      by_cases e : q.1 = k
      · simp [prD, eqD_kD, outOf, e]
      · simp [prD, eqD_kD, outOf, e])
  rw [e]
  have e2 : (pls.map D.str).flatMap (fun d => match d with | .str p => (f p).filterMap (outOf k) | _ => []) = allEnds f pls k := by rw [List.flatMap_map]; rfl
  rw [e2]
  simp [runD, startE, x_cons, x_nil, t_nx, t_rt, t_bk, t_ct, t_no, exS.eq_1, exS.eq_2, exS.eq_3, exS.eq_4, exS.eq_5, exS.eq_6, exS.eq_7, exS.eq_8, exS.eq_10, exS.eq_11, exS.eq_12, exS.eq_13, exS.eq_14, exS.eq_15, exS.eq_16, x_forr, evX.eq_1, evX.eq_2, evX.eq_3, evX.eq_4, evX.eq_5, evX.eq_6, evX.eq_7, evX.eq_8, evX.eq_9, evX.eq_10, evX.eq_11, evX.eq_12, evX.eq_13, evX.eq_14, evX.eq_15, evX.eq_16, evX.eq_17, evX.eq_18, evX.eq_19, evX.eq_20, evX.eq_21, evX.eq_22, evX.eq_24, evX.eq_25, evX.eq_26, evX.eq_29, x_aa, evF.eq_1, x_comp, evF.eq_3, evF.eq_4, evF.eq_5, x_sset2, fz, fz1, esc, escB, escs, escBs, escO, escF, escI, escJ, evXs, evBs, evO, evC, evI.eq_1, evI.eq_4, x_rng1, x_rng2, Pat.slots, wipeE, bindP, unpack, cmpD, ixD, L2.atI, L2.ixN, leave, run_s1, run_s2, run_s3, opD, truD, biD, insOf, itD, enD, slD, List.getElem?_cons_zero, List.getElem?_cons_succ, List.getElem?_nil, -getElem?_pos, hl, alongF]
end
end P76
end
section
set_option Elab.async false
set_option linter.all false
set_option maxRecDepth 100000
namespace P76
open Pv Pu
open PySem (Str)
theorem led_by_eq {n : Nat} {W : Wd} {its : List Itm} {x : Str} {ks : List (Option Str)} (h : ShopOk its) (hW : WOk W) (hx : x ∈ places its) (hk : ∀ k ∈ ks, kindOk k = true) (h31 : (keys its).length ≤ 31) :
    run pg dfs (n+12) (n+12) 45 [.tup (its.map Itm.d), .str x, .tup (ks.map kD)] W = some (ledGo (rOf its) 0 [x] ks, W) := by
  rw [run_def (by rfl : dfs 45 = some d45)]
  have hnew : ∀ n, run pg dfs (n+2) (n+2) 31 [.ref W.length, .tup (its.map Itm.d)] (W ++ [.ins 5 []]) = some (.non, gW W (kvs its) (places its) (rOf its)) := fun n => ground_new h
  have hchk : ∀ n, run pg dfs (n+11) (n+11) 30 [.tup (its.map Itm.d)] W = some (.non, W) := fun n => check_shop_ok h hW
  have hpl : ∀ n, run pg dfs (n+5) (n+5) 43 [.ref W.length, .str x] (gW W (kvs its) (places its) (rOf its)) = some (.non, gW W (kvs its) (places its) (rOf its)) := fun n => check_place_ok (place_form h.form hx) hx
  have hki : ∀ n, run pg dfs (n+7) (n+7) 44 [.tup (ks.map kD)] (gW W (kvs its) (places its) (rOf its)) = some (.non, gW W (kvs its) (places its) (rOf its)) := fun n => check_kinds_ok hk
  have hlen : ∀ z, (rOf its z).length < 1000 := fun z => by
    have h1 := rOf_len its z
    have h2 := its_len its
    have h3 := h.lP
    have h4 := h.lK
    omega
  simp [d45, b45, runD, startE, x_cons, x_nil, t_nx, t_rt, t_bk, t_ct, t_no, exS.eq_1, exS.eq_2, exS.eq_3, exS.eq_4, exS.eq_5, exS.eq_6, exS.eq_7, exS.eq_8, exS.eq_10, exS.eq_11, exS.eq_12, exS.eq_13, exS.eq_14, exS.eq_15, exS.eq_16, x_forr, evX.eq_1, evX.eq_2, evX.eq_3, evX.eq_4, evX.eq_5, evX.eq_6, evX.eq_7, evX.eq_8, evX.eq_9, evX.eq_10, evX.eq_11, evX.eq_12, evX.eq_13, evX.eq_14, evX.eq_15, evX.eq_16, evX.eq_17, evX.eq_18, evX.eq_19, evX.eq_20, evX.eq_21, evX.eq_22, evX.eq_24, evX.eq_25, evX.eq_26, evX.eq_29, x_aa, evF.eq_1, x_comp, evF.eq_3, evF.eq_4, evF.eq_5, x_sset2, fz, fz1, esc, escB, escs, escBs, escO, escF, escI, escJ, evXs, evBs, evO, evC, evI.eq_1, evI.eq_4, x_rng1, x_rng2, Pat.slots, wipeE, bindP, unpack, cmpD, ixD, L2.atI, L2.ixN, leave, run_s1, run_s2, run_s3, opD, truD, biD, insOf, itD, enD, slD, List.getElem?_cons_zero, List.getElem?_cons_succ, List.getElem?_nil, -getElem?_pos, hchk, ini_ground, hnew, hpl, hki, sl2_iff]
  generalize e : forL _ _ _ _ _ _ = o
  rcases use_r (gmap_enum kD 0 _) e (fun done env W' => W' = gW W (kvs its) (places its) (rOf its) ∧ ∃ pls s5 s6 s7, env = [.val (.tup (its.map Itm.d)), .val (.str x), .val (.tup (ks.map kD)), .val (.ref W.length), .val (.tup (pls.map .str)), s5, s6, s7] ∧ (∀ y ∈ pls, y ∈ places its) ∧ pls.Nodup ∧ ∀ rest, ks = done ++ rest → ledGo (rOf its) 0 [x] ks = ledGo (rOf its) done.length pls rest)
    (fun d W' => W' = gW W (kvs its) (places its) (rOf its) ∧ d = ledGo (rOf its) 0 [x] ks)
    ⟨rfl, [x], _, _, _, rfl, by simpa using hx, by simp, by rintro rest rfl; rfl⟩ (by
    rintro done k rest env W' hd ⟨rfl, pls, s5, s6, s7, rfl, hp, hnd, hgo⟩
    have hgo := hgo (k :: rest) hd
    have kf : ∀ n y, y ∈ pls → run pg dfs (n+1) (n+1) 39 [.ref W.length, .str y] (gW W (kvs its) (places its) (rOf its)) = some (.lst (((rOf its y).map (·.1)).map kD), gW W (kvs its) (places its) (rOf its)) := fun n y hy => kinds_from_eq (hp y hy) (hlen y)
    have al : ∀ n, run pg dfs (n+1) (n+1) 36 [.ref W.length, .tup (pls.map .str), kD k] (gW W (kvs its) (places its) (rOf its)) = some (.tup ((alongF (rOf its) pls k).map .str), gW W (kvs its) (places its) (rOf its)) := fun n => along_eq hp (by have := allEnds_len hnd its k; omega)
    generalize hb : bodyF _ _ _ _ _ _ _ _ = r
    simp [bodyF, aaF, compF, set1F, set2F, runD, startE, x_cons, x_nil, t_nx, t_rt, t_bk, t_ct, t_no, exS.eq_1, exS.eq_2, exS.eq_3, exS.eq_4, exS.eq_5, exS.eq_6, exS.eq_7, exS.eq_8, exS.eq_10, exS.eq_11, exS.eq_12, exS.eq_13, exS.eq_14, exS.eq_15, exS.eq_16, x_forr, evX.eq_1, evX.eq_2, evX.eq_3, evX.eq_4, evX.eq_5, evX.eq_6, evX.eq_7, evX.eq_8, evX.eq_9, evX.eq_10, evX.eq_11, evX.eq_12, evX.eq_13, evX.eq_14, evX.eq_15, evX.eq_16, evX.eq_17, evX.eq_18, evX.eq_19, evX.eq_20, evX.eq_21, evX.eq_22, evX.eq_24, evX.eq_25, evX.eq_26, evX.eq_29, x_aa, evF.eq_1, x_comp, evF.eq_3, evF.eq_4, evF.eq_5, x_sset2, fz, fz1, esc, escB, escs, escBs, escO, escF, escI, escJ, evXs, evBs, evO, evC, evI.eq_1, evI.eq_4, x_rng1, x_rng2, Pat.slots, wipeE, bindP, unpack, cmpD, ixD, L2.atI, L2.ixN, leave, run_s1, run_s2, run_s3, opD, truD, biD, insOf, itD, enD, slD, List.getElem?_cons_zero, List.getElem?_cons_succ, List.getElem?_nil, -getElem?_pos] at hb
    generalize e : forL _ _ _ _ _ _ = o at hb
    rcases use_r (gmap_map D.str 0 _) e (fun done2 env W' => W' = gW W (kvs its) (places its) (rOf its) ∧ (∃ s7, env = [.val (.tup (its.map Itm.d)), .val (.str x), .val (.tup (ks.map kD)), .val (.ref W.length), .val (.tup (pls.map .str)), .val (.int done.length), .val (kD k), s7]) ∧ ∀ y ∈ done2, hasK (rOf its) y k = true)
      (fun d W' => W' = gW W (kvs its) (places its) (rOf its) ∧ ∃ y, pls.find? (fun x => !hasK (rOf its) x k) = some y ∧ d = .tup [.str "stuck", .int done.length, .str y])
      ⟨rfl, ⟨_, rfl⟩, by simp⟩ (by
      rintro done2 y rest2 env W' hd2 ⟨rfl, ⟨s7, rfl⟩, hall⟩
      have hy : y ∈ pls := by rw [hd2]; simp
      by_cases hk2 : hasK (rOf its) y k = true
      · left
        refine ⟨[.val (.tup (its.map Itm.d)), .val (.str x), .val (.tup (ks.map kD)), .val (.ref W.length), .val (.tup (pls.map .str)), .val (.int done.length), .val (kD k), .val (.str y)], gW W (kvs its) (places its) (rOf its), ?_, rfl, rfl, ⟨_, rfl⟩, ?_⟩
        · have hk3 := hk2
          simp only [hasK, decide_eq_true_eq] at hk3
          have e1 := inD_lst_kD (gW W (kvs its) (places its) (rOf its)) k ((rOf its y).map (·.1))
          rw [decide_eq_true hk3] at e1
          simp only [List.map_map] at e1
          simp [bodyF, aaF, compF, set1F, set2F, runD, startE, x_cons, x_nil, t_nx, t_rt, t_bk, t_ct, t_no, exS.eq_1, exS.eq_2, exS.eq_3, exS.eq_4, exS.eq_5, exS.eq_6, exS.eq_7, exS.eq_8, exS.eq_10, exS.eq_11, exS.eq_12, exS.eq_13, exS.eq_14, exS.eq_15, exS.eq_16, x_forr, evX.eq_1, evX.eq_2, evX.eq_3, evX.eq_4, evX.eq_5, evX.eq_6, evX.eq_7, evX.eq_8, evX.eq_9, evX.eq_10, evX.eq_11, evX.eq_12, evX.eq_13, evX.eq_14, evX.eq_15, evX.eq_16, evX.eq_17, evX.eq_18, evX.eq_19, evX.eq_20, evX.eq_21, evX.eq_22, evX.eq_24, evX.eq_25, evX.eq_26, evX.eq_29, x_aa, evF.eq_1, x_comp, evF.eq_3, evF.eq_4, evF.eq_5, x_sset2, fz, fz1, esc, escB, escs, escBs, escO, escF, escI, escJ, evXs, evBs, evO, evC, evI.eq_1, evI.eq_4, x_rng1, x_rng2, Pat.slots, wipeE, bindP, unpack, cmpD, ixD, L2.atI, L2.ixN, leave, run_s1, run_s2, run_s3, opD, truD, biD, insOf, itD, enD, slD, List.getElem?_cons_zero, List.getElem?_cons_succ, List.getElem?_nil, -getElem?_pos, gW_0, mt_kinds_from, g_m2, kf _ y hy, e1]
        · intro z hz
          rcases List.mem_append.mp hz with hz | hz
          · exact hall z hz
          · simp at hz; exact hz ▸ hk2
      · right
        have hk2' : hasK (rOf its) y k = false := by simpa using hk2
        refine ⟨.tup [.str "stuck", .int done.length, .str y], gW W (kvs its) (places its) (rOf its), ?_, rfl, y, ?_, rfl⟩
        · have hk3 := hk2'
          simp only [hasK, decide_eq_false_iff_not] at hk3
          have e1 := inD_lst_kD (gW W (kvs its) (places its) (rOf its)) k ((rOf its y).map (·.1))
          rw [decide_eq_false hk3] at e1
          simp only [List.map_map] at e1
          simp [bodyF, aaF, compF, set1F, set2F, runD, startE, x_cons, x_nil, t_nx, t_rt, t_bk, t_ct, t_no, exS.eq_1, exS.eq_2, exS.eq_3, exS.eq_4, exS.eq_5, exS.eq_6, exS.eq_7, exS.eq_8, exS.eq_10, exS.eq_11, exS.eq_12, exS.eq_13, exS.eq_14, exS.eq_15, exS.eq_16, x_forr, evX.eq_1, evX.eq_2, evX.eq_3, evX.eq_4, evX.eq_5, evX.eq_6, evX.eq_7, evX.eq_8, evX.eq_9, evX.eq_10, evX.eq_11, evX.eq_12, evX.eq_13, evX.eq_14, evX.eq_15, evX.eq_16, evX.eq_17, evX.eq_18, evX.eq_19, evX.eq_20, evX.eq_21, evX.eq_22, evX.eq_24, evX.eq_25, evX.eq_26, evX.eq_29, x_aa, evF.eq_1, x_comp, evF.eq_3, evF.eq_4, evF.eq_5, x_sset2, fz, fz1, esc, escB, escs, escBs, escO, escF, escI, escJ, evXs, evBs, evO, evC, evI.eq_1, evI.eq_4, x_rng1, x_rng2, Pat.slots, wipeE, bindP, unpack, cmpD, ixD, L2.atI, L2.ixN, leave, run_s1, run_s2, run_s3, opD, truD, biD, insOf, itD, enD, slD, List.getElem?_cons_zero, List.getElem?_cons_succ, List.getElem?_nil, -getElem?_pos, gW_0, mt_kinds_from, g_m2, kf _ y hy, e1, sl2_iff]
        · rw [hd2, List.find?_append, List.find?_eq_none.mpr (by intro z hz; simp [hall z hz])]
          simp [hk2']) with ⟨env1, W1, rfl, rfl, ⟨s7', rfl⟩, hall⟩ | ⟨d, W1, rfl, rfl, y, hf, rfl⟩
    · left
      have hno : pls.find? (fun x => !hasK (rOf its) x k) = none := List.find?_eq_none.mpr (by intro z hz; simp [hall z hz])
      refine ⟨[.val (.tup (its.map Itm.d)), .val (.str x), .val (.tup (ks.map kD)), .val (.ref W.length), .val (.tup ((alongF (rOf its) pls k).map .str)), .val (.int done.length), .val (kD k), s7'], gW W (kvs its) (places its) (rOf its), ?_, rfl, rfl, alongF (rOf its) pls k, _, _, _, rfl, ?_, sorted_nd (alongF_sorted ..), ?_⟩
      · simp [runD, startE, x_cons, x_nil, t_nx, t_rt, t_bk, t_ct, t_no, exS.eq_1, exS.eq_2, exS.eq_3, exS.eq_4, exS.eq_5, exS.eq_6, exS.eq_7, exS.eq_8, exS.eq_10, exS.eq_11, exS.eq_12, exS.eq_13, exS.eq_14, exS.eq_15, exS.eq_16, x_forr, evX.eq_1, evX.eq_2, evX.eq_3, evX.eq_4, evX.eq_5, evX.eq_6, evX.eq_7, evX.eq_8, evX.eq_9, evX.eq_10, evX.eq_11, evX.eq_12, evX.eq_13, evX.eq_14, evX.eq_15, evX.eq_16, evX.eq_17, evX.eq_18, evX.eq_19, evX.eq_20, evX.eq_21, evX.eq_22, evX.eq_24, evX.eq_25, evX.eq_26, evX.eq_29, x_aa, evF.eq_1, x_comp, evF.eq_3, evF.eq_4, evF.eq_5, x_sset2, fz, fz1, esc, escB, escs, escBs, escO, escF, escI, escJ, evXs, evBs, evO, evC, evI.eq_1, evI.eq_4, x_rng1, x_rng2, Pat.slots, wipeE, bindP, unpack, cmpD, ixD, L2.atI, L2.ixN, leave, run_s1, run_s2, run_s3, opD, truD, biD, insOf, itD, enD, slD, List.getElem?_cons_zero, List.getElem?_cons_succ, List.getElem?_nil, -getElem?_pos, gW_0, mt_along, g_m3, al] at hb
        exact hb.symm
      · intro y hy
        obtain ⟨p, hp1, hp2⟩ := alongF_mem.mp hy
        exact rOf_place h hp2
      · intro rest' hr
        have : rest = rest' := by
          have := hd.symm.trans hr
          simpa using this
        subst this
        rw [hgo, ledGo, hno]
        simp
    · right
      refine ⟨_, gW W (kvs its) (places its) (rOf its), by simp [runD, startE, x_cons, x_nil, t_nx, t_rt, t_bk, t_ct, t_no, exS.eq_1, exS.eq_2, exS.eq_3, exS.eq_4, exS.eq_5, exS.eq_6, exS.eq_7, exS.eq_8, exS.eq_10, exS.eq_11, exS.eq_12, exS.eq_13, exS.eq_14, exS.eq_15, exS.eq_16, x_forr, evX.eq_1, evX.eq_2, evX.eq_3, evX.eq_4, evX.eq_5, evX.eq_6, evX.eq_7, evX.eq_8, evX.eq_9, evX.eq_10, evX.eq_11, evX.eq_12, evX.eq_13, evX.eq_14, evX.eq_15, evX.eq_16, evX.eq_17, evX.eq_18, evX.eq_19, evX.eq_20, evX.eq_21, evX.eq_22, evX.eq_24, evX.eq_25, evX.eq_26, evX.eq_29, x_aa, evF.eq_1, x_comp, evF.eq_3, evF.eq_4, evF.eq_5, x_sset2, fz, fz1, esc, escB, escs, escBs, escO, escF, escI, escJ, evXs, evBs, evO, evC, evI.eq_1, evI.eq_4, x_rng1, x_rng2, Pat.slots, wipeE, bindP, unpack, cmpD, ixD, L2.atI, L2.ixN, leave, run_s1, run_s2, run_s3, opD, truD, biD, insOf, itD, enD, slD, List.getElem?_cons_zero, List.getElem?_cons_succ, List.getElem?_nil, -getElem?_pos] at hb; exact hb.symm, rfl, ?_⟩
      rw [hgo, ledGo, hf]) with ⟨env1, W1, rfl, rfl, pls, s5, s6, s7, rfl, _, _, hgo⟩ | ⟨d, W1, rfl, rfl, rfl⟩
  · have e1 := hgo [] (by simp)
    have hb2 : ∀ x ∈ W, bndC W.length x = true := List.all_eq_true.mp hW
    have hb := ledGo_bnd W.length (rOf its) ks 0 [x]
    rw [ledGo] at e1
    rw [e1] at hb
    rw [e1]
    simp [runD, startE, x_cons, x_nil, t_nx, t_rt, t_bk, t_ct, t_no, exS.eq_1, exS.eq_2, exS.eq_3, exS.eq_4, exS.eq_5, exS.eq_6, exS.eq_7, exS.eq_8, exS.eq_10, exS.eq_11, exS.eq_12, exS.eq_13, exS.eq_14, exS.eq_15, exS.eq_16, x_forr, evX.eq_1, evX.eq_2, evX.eq_3, evX.eq_4, evX.eq_5, evX.eq_6, evX.eq_7, evX.eq_8, evX.eq_9, evX.eq_10, evX.eq_11, evX.eq_12, evX.eq_13, evX.eq_14, evX.eq_15, evX.eq_16, evX.eq_17, evX.eq_18, evX.eq_19, evX.eq_20, evX.eq_21, evX.eq_22, evX.eq_24, evX.eq_25, evX.eq_26, evX.eq_29, x_aa, evF.eq_1, x_comp, evF.eq_3, evF.eq_4, evF.eq_5, x_sset2, fz, fz1, esc, escB, escs, escBs, escO, escF, escI, escJ, evXs, evBs, evO, evC, evI.eq_1, evI.eq_4, x_rng1, x_rng2, Pat.slots, wipeE, bindP, unpack, cmpD, ixD, L2.atI, L2.ixN, leave, run_s1, run_s2, run_s3, opD, truD, biD, insOf, itD, enD, slD, List.getElem?_cons_zero, List.getElem?_cons_succ, List.getElem?_nil, -getElem?_pos, sl2_iff, gW_take, gW_len, hb]
    exact hb2
  · have hb2 : ∀ x ∈ W, bndC W.length x = true := List.all_eq_true.mp hW
    have hb := ledGo_bnd W.length (rOf its) ks 0 [x]
    simp [runD, startE, x_cons, x_nil, t_nx, t_rt, t_bk, t_ct, t_no, exS.eq_1, exS.eq_2, exS.eq_3, exS.eq_4, exS.eq_5, exS.eq_6, exS.eq_7, exS.eq_8, exS.eq_10, exS.eq_11, exS.eq_12, exS.eq_13, exS.eq_14, exS.eq_15, exS.eq_16, x_forr, evX.eq_1, evX.eq_2, evX.eq_3, evX.eq_4, evX.eq_5, evX.eq_6, evX.eq_7, evX.eq_8, evX.eq_9, evX.eq_10, evX.eq_11, evX.eq_12, evX.eq_13, evX.eq_14, evX.eq_15, evX.eq_16, evX.eq_17, evX.eq_18, evX.eq_19, evX.eq_20, evX.eq_21, evX.eq_22, evX.eq_24, evX.eq_25, evX.eq_26, evX.eq_29, x_aa, evF.eq_1, x_comp, evF.eq_3, evF.eq_4, evF.eq_5, x_sset2, fz, fz1, esc, escB, escs, escBs, escO, escF, escI, escJ, evXs, evBs, evO, evC, evI.eq_1, evI.eq_4, x_rng1, x_rng2, Pat.slots, wipeE, bindP, unpack, cmpD, ixD, L2.atI, L2.ixN, leave, run_s1, run_s2, run_s3, opD, truD, biD, insOf, itD, enD, slD, List.getElem?_cons_zero, List.getElem?_cons_succ, List.getElem?_nil, -getElem?_pos, sl2_iff, gW_take, gW_len, hb]
    exact hb2
end P76
end
section
set_option Elab.async false
set_option linter.all false
set_option maxRecDepth 100000
namespace P76
open Pv Pu
open PySem (Str)
theorem draw_eq {h : Hs} (hv : Hv h) {many : Int} (h0 : 0 < many) (h1 : many < 1000000000) {n : Nat} {X : Wd} :
    run pg dfs (n+1) (n+1) 47 [.ref 3, .int many] (hw h X) = some (.int (drawD many h), hw (drawH many h) X) := by
  have hm : many ≠ 0 := by omega
  have hm2 : many.natAbs < 1073741824 := by omega
  have s1 : smallI 48271 = true := by decide
  have s2 : smallI 69621 = true := by decide
  have s3 : smallI 40014 = true := by decide
  have tl : ∀ h' : Hs, ¬ 0 < h'.r → exSs pg (run pg dfs n) n (b47.drop 2) [.val (.ref 3), .val (.int many), .val (.ref 1), .no, .no, .no, .no] (hw h' X) = some (.rt (.int (tailD many h')) (hw (tailH h') X)) := by
    intro h' hr
    have ms := mix_small h'
    obtain ⟨c0, wide, cells, r, t, m⟩ := h'
    simp only at hr
    cases cells with
    | nil =>
      simp only [mixOf, cellOf] at ms
      simp at ms
      simp [d47, b47, runD, startE, x_cons, x_nil, t_nx, t_rt, t_bk, t_ct, t_no, exS.eq_1, exS.eq_2, exS.eq_3, exS.eq_4, exS.eq_5, exS.eq_6, exS.eq_7, exS.eq_8, exS.eq_10, exS.eq_11, exS.eq_12, exS.eq_13, exS.eq_14, exS.eq_15, exS.eq_16, x_forr, evX.eq_1, evX.eq_2, evX.eq_3, evX.eq_4, evX.eq_5, evX.eq_6, evX.eq_7, evX.eq_8, evX.eq_9, evX.eq_10, evX.eq_11, evX.eq_12, evX.eq_13, evX.eq_14, evX.eq_15, evX.eq_16, evX.eq_17, evX.eq_18, evX.eq_19, evX.eq_20, evX.eq_21, evX.eq_22, evX.eq_24, evX.eq_25, evX.eq_26, evX.eq_29, x_aa, evF.eq_1, x_comp, evF.eq_3, evF.eq_4, evF.eq_5, x_sset2, fz, fz1, esc, escB, escs, escBs, escO, escF, escI, escJ, evXs, evBs, evO, evC, evI.eq_1, evI.eq_4, x_rng1, x_rng2, Pat.slots, wipeE, bindP, unpack, cmpD, ixD, L2.atI, L2.ixN, leave, run_s1, run_s2, run_s3, opD, truD, biD, insOf, itD, enD, slD, List.getElem?_cons_zero, List.getElem?_cons_succ, List.getElem?_nil, -getElem?_pos, hw, dget, at_, kyOf, keyOf, hk1, hk2, hk3, hk4, hk5, hp3, hp4, hp5, hlen, sizeL, eqD_int, s1, s2, s3, hr, ms, hm, tailD, tailH, mixOf, cellOf]
    | cons c cs =>
      have e0 : 0 ≤ t.fmod ((cs.length : Int) + 1) := fmod_lo (by omega)
      have e1 : t.fmod ((cs.length : Int) + 1) < (cs.length : Int) + 1 := fmod_hi (by omega)
      have e2 : (0 : Int) < (cs.length : Int) + 1 := by omega
      have e3 : (cs.length : Int) + 1 ≠ 0 := by omega
      have e5 : (t.fmod ((cs.length : Int) + 1)).toNat < (c :: cs).length := by rw [List.length_cons]; omega
      have e4 : (D.int c :: cs.map D.int)[(t.fmod ((cs.length : Int) + 1)).toNat]? = some (.int ((c :: cs)[(t.fmod ((cs.length : Int) + 1)).toNat]?.getD 0)) := by
        rw [← List.map_cons, List.getElem?_map, List.getElem?_eq_getElem e5]
        rfl
      simp only [mixOf, cellOf] at ms
      simp only [tailD, tailH, mixOf, cellOf]
      generalize (c :: cs)[(t.fmod ((cs.length : Int) + 1)).toNat]?.getD 0 = cc at e4 ms ⊢
      simp [d47, b47, runD, startE, x_cons, x_nil, t_nx, t_rt, t_bk, t_ct, t_no, exS.eq_1, exS.eq_2, exS.eq_3, exS.eq_4, exS.eq_5, exS.eq_6, exS.eq_7, exS.eq_8, exS.eq_10, exS.eq_11, exS.eq_12, exS.eq_13, exS.eq_14, exS.eq_15, exS.eq_16, x_forr, evX.eq_1, evX.eq_2, evX.eq_3, evX.eq_4, evX.eq_5, evX.eq_6, evX.eq_7, evX.eq_8, evX.eq_9, evX.eq_10, evX.eq_11, evX.eq_12, evX.eq_13, evX.eq_14, evX.eq_15, evX.eq_16, evX.eq_17, evX.eq_18, evX.eq_19, evX.eq_20, evX.eq_21, evX.eq_22, evX.eq_24, evX.eq_25, evX.eq_26, evX.eq_29, x_aa, evF.eq_1, x_comp, evF.eq_3, evF.eq_4, evF.eq_5, x_sset2, fz, fz1, esc, escB, escs, escBs, escO, escF, escI, escJ, evXs, evBs, evO, evC, evI.eq_1, evI.eq_4, x_rng1, x_rng2, Pat.slots, wipeE, bindP, unpack, cmpD, ixD, L2.atI, L2.ixN, leave, run_s1, run_s2, run_s3, opD, truD, biD, insOf, itD, enD, slD, List.getElem?_cons_zero, List.getElem?_cons_succ, List.getElem?_nil, -getElem?_pos, hw, dget, at_, kyOf, keyOf, hk1, hk2, hk3, hk4, hk5, hp3, hp4, hp5, hlen, sizeL, eqD_int, s1, s2, s3, hr, e0, e1, e2, e3, e4, ms, hm, tailD, tailH, mixOf, cellOf]
  have hd : ∀ h' : Hs, 0 < h'.r → exSs pg (run pg dfs n) n (b47.drop 2) [.val (.ref 3), .val (.int many), .val (.ref 1), .no, .no, .no, .no] (hw h' X) = some (.rt (.int (h'.r.fmod many)) (hw { h' with r := h'.r.fdiv many } X)) := by
    intro h' hr
    obtain ⟨c0, wide, cells, r, t, m⟩ := h'
    simp only at hr
    simp [d47, b47, runD, startE, x_cons, x_nil, t_nx, t_rt, t_bk, t_ct, t_no, exS.eq_1, exS.eq_2, exS.eq_3, exS.eq_4, exS.eq_5, exS.eq_6, exS.eq_7, exS.eq_8, exS.eq_10, exS.eq_11, exS.eq_12, exS.eq_13, exS.eq_14, exS.eq_15, exS.eq_16, x_forr, evX.eq_1, evX.eq_2, evX.eq_3, evX.eq_4, evX.eq_5, evX.eq_6, evX.eq_7, evX.eq_8, evX.eq_9, evX.eq_10, evX.eq_11, evX.eq_12, evX.eq_13, evX.eq_14, evX.eq_15, evX.eq_16, evX.eq_17, evX.eq_18, evX.eq_19, evX.eq_20, evX.eq_21, evX.eq_22, evX.eq_24, evX.eq_25, evX.eq_26, evX.eq_29, x_aa, evF.eq_1, x_comp, evF.eq_3, evF.eq_4, evF.eq_5, x_sset2, fz, fz1, esc, escB, escs, escBs, escO, escF, escI, escJ, evXs, evBs, evO, evC, evI.eq_1, evI.eq_4, x_rng1, x_rng2, Pat.slots, wipeE, bindP, unpack, cmpD, ixD, L2.atI, L2.ixN, leave, run_s1, run_s2, run_s3, opD, truD, biD, insOf, itD, enD, slD, List.getElem?_cons_zero, List.getElem?_cons_succ, List.getElem?_nil, -getElem?_pos, hw, dget, at_, kyOf, keyOf, hk1, hk2, hk3, hk4, hk5, hp3, hp4, hp5, hlen, sizeL, eqD_int, s1, s2, s3, hr, hm, hm2]
  have st : exSs pg (run pg dfs n) n b47 [.val (.ref 3), .val (.int many), .no, .no, .no, .no, .no] (hw h X) = exSs pg (run pg dfs n) n (b47.drop 2) [.val (.ref 3), .val (.int many), .val (.ref 1), .no, .no, .no, .no] (hw (startH h) X) := by
    obtain ⟨c0, wide, cells, r, t, m⟩ := h
    have e : b47 = b47.take 2 ++ b47.drop 2 := (List.take_append_drop ..).symm
    generalize hb : b47.drop 2 = bb at e
    rw [e]
    simp only [d47, b47, List.take]
    by_cases hr : r = 0
    · cases wide with
      | nil => simp [runD, startE, x_cons, x_nil, t_nx, t_rt, t_bk, t_ct, t_no, exS.eq_1, exS.eq_2, exS.eq_3, exS.eq_4, exS.eq_5, exS.eq_6, exS.eq_7, exS.eq_8, exS.eq_10, exS.eq_11, exS.eq_12, exS.eq_13, exS.eq_14, exS.eq_15, exS.eq_16, x_forr, evX.eq_1, evX.eq_2, evX.eq_3, evX.eq_4, evX.eq_5, evX.eq_6, evX.eq_7, evX.eq_8, evX.eq_9, evX.eq_10, evX.eq_11, evX.eq_12, evX.eq_13, evX.eq_14, evX.eq_15, evX.eq_16, evX.eq_17, evX.eq_18, evX.eq_19, evX.eq_20, evX.eq_21, evX.eq_22, evX.eq_24, evX.eq_25, evX.eq_26, evX.eq_29, x_aa, evF.eq_1, x_comp, evF.eq_3, evF.eq_4, evF.eq_5, x_sset2, fz, fz1, esc, escB, escs, escBs, escO, escF, escI, escJ, evXs, evBs, evO, evC, evI.eq_1, evI.eq_4, x_rng1, x_rng2, Pat.slots, wipeE, bindP, unpack, cmpD, ixD, L2.atI, L2.ixN, leave, run_s1, run_s2, run_s3, opD, truD, biD, insOf, itD, enD, slD, List.getElem?_cons_zero, List.getElem?_cons_succ, List.getElem?_nil, -getElem?_pos, hw, dget, at_, kyOf, keyOf, hk1, hk2, hk3, hk4, hk5, hp3, hp4, hp5, hlen, sizeL, eqD_int, hr, startH]
      | cons w ws =>
        have e2 : (0 : Int) < (ws.length : Int) + 1 := by omega
        simp [runD, startE, x_cons, x_nil, t_nx, t_rt, t_bk, t_ct, t_no, exS.eq_1, exS.eq_2, exS.eq_3, exS.eq_4, exS.eq_5, exS.eq_6, exS.eq_7, exS.eq_8, exS.eq_10, exS.eq_11, exS.eq_12, exS.eq_13, exS.eq_14, exS.eq_15, exS.eq_16, x_forr, evX.eq_1, evX.eq_2, evX.eq_3, evX.eq_4, evX.eq_5, evX.eq_6, evX.eq_7, evX.eq_8, evX.eq_9, evX.eq_10, evX.eq_11, evX.eq_12, evX.eq_13, evX.eq_14, evX.eq_15, evX.eq_16, evX.eq_17, evX.eq_18, evX.eq_19, evX.eq_20, evX.eq_21, evX.eq_22, evX.eq_24, evX.eq_25, evX.eq_26, evX.eq_29, x_aa, evF.eq_1, x_comp, evF.eq_3, evF.eq_4, evF.eq_5, x_sset2, fz, fz1, esc, escB, escs, escBs, escO, escF, escI, escJ, evXs, evBs, evO, evC, evI.eq_1, evI.eq_4, x_rng1, x_rng2, Pat.slots, wipeE, bindP, unpack, cmpD, ixD, L2.atI, L2.ixN, leave, run_s1, run_s2, run_s3, opD, truD, biD, insOf, itD, enD, slD, List.getElem?_cons_zero, List.getElem?_cons_succ, List.getElem?_nil, -getElem?_pos, hw, dget, at_, kyOf, keyOf, hk1, hk2, hk3, hk4, hk5, hp3, hp4, hp5, hlen, sizeL, eqD_int, hr, startH, e2]
    · simp [runD, startE, x_cons, x_nil, t_nx, t_rt, t_bk, t_ct, t_no, exS.eq_1, exS.eq_2, exS.eq_3, exS.eq_4, exS.eq_5, exS.eq_6, exS.eq_7, exS.eq_8, exS.eq_10, exS.eq_11, exS.eq_12, exS.eq_13, exS.eq_14, exS.eq_15, exS.eq_16, x_forr, evX.eq_1, evX.eq_2, evX.eq_3, evX.eq_4, evX.eq_5, evX.eq_6, evX.eq_7, evX.eq_8, evX.eq_9, evX.eq_10, evX.eq_11, evX.eq_12, evX.eq_13, evX.eq_14, evX.eq_15, evX.eq_16, evX.eq_17, evX.eq_18, evX.eq_19, evX.eq_20, evX.eq_21, evX.eq_22, evX.eq_24, evX.eq_25, evX.eq_26, evX.eq_29, x_aa, evF.eq_1, x_comp, evF.eq_3, evF.eq_4, evF.eq_5, x_sset2, fz, fz1, esc, escB, escs, escBs, escO, escF, escI, escJ, evXs, evBs, evO, evC, evI.eq_1, evI.eq_4, x_rng1, x_rng2, Pat.slots, wipeE, bindP, unpack, cmpD, ixD, L2.atI, L2.ixN, leave, run_s1, run_s2, run_s3, opD, truD, biD, insOf, itD, enD, slD, List.getElem?_cons_zero, List.getElem?_cons_succ, List.getElem?_nil, -getElem?_pos, hw, dget, at_, kyOf, keyOf, hk1, hk2, hk3, hk4, hk5, hp3, hp4, hp5, hlen, sizeL, eqD_int, hr, startH]
  rw [run_def (by rfl : dfs 47 = some d47)]
  have hl : ∀ h : Hs, (hw h X).length = X.length + 4 := fun h => rfl
  simp only [runD, d47, List.length_cons, List.length_nil, if_true, startE, List.map, List.replicate, List.append, Nat.zero_add, Nat.reduceAdd, Nat.reduceSub, List.cons_append, List.nil_append]
  rw [st]
  by_cases h3 : 0 < (startH h).r
  · rw [hd _ h3]
    simp [leave, hl, drawD, drawH, h3]
  · rw [tl _ h3]
    simp [leave, hl, drawD, drawH, h3]
theorem pick_spec {α : Type} {f : α → D} {xs : List α} {h : Hs} (hv : Hv h) (h0 : xs ≠ []) (h1 : xs.length < 1000000000) :
    ∃ x ∈ xs, ∀ n X, run pg dfs (n+2) (n+2) 48 [.ref 3, .lst (xs.map f)] (hw h X) = some (f x, hw (drawH xs.length h) X) := by
  have l0 : (0 : Int) < xs.length := by have := List.length_pos_iff.mpr h0; omega
  have l1 : (xs.length : Int) < 1000000000 := by omega
  have e0 := drawD_lo (h := h) l0
  have e1 := drawD_hi (h := h) l0
  have e2 : (drawD xs.length h).toNat < xs.length := by omega
  refine ⟨xs[(drawD xs.length h).toNat], List.getElem_mem .., fun n X => ?_⟩
  rw [run_def (by rfl : dfs 48 = some d48)]
  have e3 : (drawD xs.length h) < (xs.length : Int) := e1
  simp [d48, b48, runD, startE, x_cons, x_nil, t_nx, t_rt, t_bk, t_ct, t_no, exS.eq_1, exS.eq_2, exS.eq_3, exS.eq_4, exS.eq_5, exS.eq_6, exS.eq_7, exS.eq_8, exS.eq_10, exS.eq_11, exS.eq_12, exS.eq_13, exS.eq_14, exS.eq_15, exS.eq_16, x_forr, evX.eq_1, evX.eq_2, evX.eq_3, evX.eq_4, evX.eq_5, evX.eq_6, evX.eq_7, evX.eq_8, evX.eq_9, evX.eq_10, evX.eq_11, evX.eq_12, evX.eq_13, evX.eq_14, evX.eq_15, evX.eq_16, evX.eq_17, evX.eq_18, evX.eq_19, evX.eq_20, evX.eq_21, evX.eq_22, evX.eq_24, evX.eq_25, evX.eq_26, evX.eq_29, x_aa, evF.eq_1, x_comp, evF.eq_3, evF.eq_4, evF.eq_5, x_sset2, fz, fz1, esc, escB, escs, escBs, escO, escF, escI, escJ, evXs, evBs, evO, evC, evI.eq_1, evI.eq_4, x_rng1, x_rng2, Pat.slots, wipeE, bindP, unpack, cmpD, ixD, L2.atI, L2.ixN, leave, run_s1, run_s2, run_s3, opD, truD, biD, insOf, itD, enD, slD, List.getElem?_cons_zero, List.getElem?_cons_succ, List.getElem?_nil, -getElem?_pos, draw_eq hv l0 l1, e0, e3, List.getElem?_eq_getElem e2, hw_len]
theorem pick_str {x : Str} {h : Hs} (hv : Hv h) (h0 : x.cps.toList ≠ []) (h1 : x.cps.toList.length < 1000000000) :
    ∃ c ∈ x.cps.toList, ∃ h', Hv h' ∧ ∀ n X, run pg dfs (n+2) (n+2) 48 [.ref 3, .str x] (hw h X) = some (.str ⟨#[c]⟩, hw h' X) := by
  have l0 : (0 : Int) < x.cps.toList.length := by have := List.length_pos_iff.mpr h0; omega
  have l1 : (x.cps.toList.length : Int) < 1000000000 := by omega
  have e0 := drawD_lo (h := h) l0
  have e1 := drawD_hi (h := h) l0
  have e2 : (drawD x.cps.toList.length h).toNat < x.cps.toList.length := by omega
  refine ⟨x.cps.toList[(drawD x.cps.toList.length h).toNat], List.getElem_mem .., _, drawH_v hv l0, fun n X => ?_⟩
  rw [run_def (by rfl : dfs 48 = some d48)]
  have e3 : (drawD x.cps.toList.length h) < (x.cps.toList.length : Int) := e1
  have e4 : L2.atI x.cps.toList (drawD x.cps.toList.length h) = some x.cps.toList[(drawD x.cps.toList.length h).toNat] := by
    simp only [L2.atI, L2.ixN, e0, e3, if_true]
    simp [List.getElem?_eq_getElem e2]
  obtain ⟨⟨l⟩⟩ := x
  simp only at e4 e0 e3 l0 l1
  simp [d48, b48, runD, startE, x_cons, x_nil, t_nx, t_rt, exS.eq_5, esc, escs, escBs, escB, fz, evX.eq_1, evX.eq_2, evX.eq_19, evX.eq_21, evX.eq_26, evXs, evBs, fz1, biD, ixD, PySem.Str.length, draw_eq hv l0 l1, e4, leave, hw_len]
theorem hand_eq {n : Nat} {ns : List Int} (hl : ns.length ≤ 63) : ∃ h, run pg dfs (n+1) (n+1) 46 [.scr ns] [] = some (.ref 3, hw h []) ∧ Hv h := by
  have l1 : ns.length < 16777216 := by omega
  let wide := (ns.filter fun i => decide (100000000000000000 < (if i < 0 then -i else i))).map fun i : Int => if i < 0 then -i else i
  refine ⟨⟨ns, wide, ns.map fun i => i.fmod 999983, 0, 0, 5⟩, ?_, ⟨?_, by simp, by simp, by simp⟩⟩
  · rw [run_def (by rfl : dfs 46 = some d46)]
    simp [d46, b46, runD, startE, x_cons, x_nil, t_nx, t_rt, t_bk, t_ct, t_no, exS.eq_1, exS.eq_2, exS.eq_3, exS.eq_4, exS.eq_5, exS.eq_6, exS.eq_7, exS.eq_8, exS.eq_10, exS.eq_11, exS.eq_12, exS.eq_13, exS.eq_14, exS.eq_15, exS.eq_16, x_forr, evX.eq_1, evX.eq_2, evX.eq_3, evX.eq_4, evX.eq_5, evX.eq_6, evX.eq_7, evX.eq_8, evX.eq_9, evX.eq_10, evX.eq_11, evX.eq_12, evX.eq_13, evX.eq_14, evX.eq_15, evX.eq_16, evX.eq_17, evX.eq_18, evX.eq_19, evX.eq_20, evX.eq_21, evX.eq_22, evX.eq_24, evX.eq_25, evX.eq_26, evX.eq_29, x_aa, evF.eq_1, x_comp, evF.eq_3, evF.eq_4, evF.eq_5, x_sset2, fz, fz1, esc, escB, escs, escBs, escO, escF, escI, escJ, evXs, evBs, evO, evC, evI.eq_1, evI.eq_4, x_rng1, x_rng2, Pat.slots, wipeE, bindP, unpack, cmpD, ixD, L2.atI, L2.ixN, leave, run_s1, run_s2, run_s3, opD, truD, biD, insOf, itD, enD, slD, List.getElem?_cons_zero, List.getElem?_cons_succ, List.getElem?_nil, -getElem?_pos, sizeL, l1]
    rw [mapL_pure (p := some) rfl _ (by
      intro d hd
      obtain ⟨i, hi, rfl⟩ := List.mem_map.mp hd
      simp [bodyF, aaF, compF, set1F, set2F, runD, startE, x_cons, x_nil, t_nx, t_rt, t_bk, t_ct, t_no, exS.eq_1, exS.eq_2, exS.eq_3, exS.eq_4, exS.eq_5, exS.eq_6, exS.eq_7, exS.eq_8, exS.eq_10, exS.eq_11, exS.eq_12, exS.eq_13, exS.eq_14, exS.eq_15, exS.eq_16, x_forr, evX.eq_1, evX.eq_2, evX.eq_3, evX.eq_4, evX.eq_5, evX.eq_6, evX.eq_7, evX.eq_8, evX.eq_9, evX.eq_10, evX.eq_11, evX.eq_12, evX.eq_13, evX.eq_14, evX.eq_15, evX.eq_16, evX.eq_17, evX.eq_18, evX.eq_19, evX.eq_20, evX.eq_21, evX.eq_22, evX.eq_24, evX.eq_25, evX.eq_26, evX.eq_29, x_aa, evF.eq_1, x_comp, evF.eq_3, evF.eq_4, evF.eq_5, x_sset2, fz, fz1, esc, escB, escs, escBs, escO, escF, escI, escJ, evXs, evBs, evO, evC, evI.eq_1, evI.eq_4, x_rng1, x_rng2, Pat.slots, wipeE, bindP, unpack, cmpD, ixD, L2.atI, L2.ixN, leave, run_s1, run_s2, run_s3, opD, truD, biD, insOf, itD, enD, slD, List.getElem?_cons_zero, List.getElem?_cons_succ, List.getElem?_nil, -getElem?_pos])]
    simp [runD, startE, x_cons, x_nil, t_nx, t_rt, t_bk, t_ct, t_no, exS.eq_1, exS.eq_2, exS.eq_3, exS.eq_4, exS.eq_5, exS.eq_6, exS.eq_7, exS.eq_8, exS.eq_10, exS.eq_11, exS.eq_12, exS.eq_13, exS.eq_14, exS.eq_15, exS.eq_16, x_forr, evX.eq_1, evX.eq_2, evX.eq_3, evX.eq_4, evX.eq_5, evX.eq_6, evX.eq_7, evX.eq_8, evX.eq_9, evX.eq_10, evX.eq_11, evX.eq_12, evX.eq_13, evX.eq_14, evX.eq_15, evX.eq_16, evX.eq_17, evX.eq_18, evX.eq_19, evX.eq_20, evX.eq_21, evX.eq_22, evX.eq_24, evX.eq_25, evX.eq_26, evX.eq_29, x_aa, evF.eq_1, x_comp, evF.eq_3, evF.eq_4, evF.eq_5, x_sset2, fz, fz1, esc, escB, escs, escBs, escO, escF, escI, escJ, evXs, evBs, evO, evC, evI.eq_1, evI.eq_4, x_rng1, x_rng2, Pat.slots, wipeE, bindP, unpack, cmpD, ixD, L2.atI, L2.ixN, leave, run_s1, run_s2, run_s3, opD, truD, biD, insOf, itD, enD, slD, List.getElem?_cons_zero, List.getElem?_cons_succ, List.getElem?_nil, -getElem?_pos, sizeL, l1]
    rw [mapL_pure (p := fun d => match d with | .int i => if 100000000000000000 < (if i < 0 then -i else i) then some (.int (if i < 0 then -i else i)) else none | _ => none) (by simp [okW, beqs_refl]) _ (by
      intro d hd
      obtain ⟨i, hi, rfl⟩ := List.mem_map.mp hd
      by_cases e : 100000000000000000 < (if i < 0 then -i else i)
      · simp [bodyF, aaF, compF, set1F, set2F, runD, startE, x_cons, x_nil, t_nx, t_rt, t_bk, t_ct, t_no, exS.eq_1, exS.eq_2, exS.eq_3, exS.eq_4, exS.eq_5, exS.eq_6, exS.eq_7, exS.eq_8, exS.eq_10, exS.eq_11, exS.eq_12, exS.eq_13, exS.eq_14, exS.eq_15, exS.eq_16, x_forr, evX.eq_1, evX.eq_2, evX.eq_3, evX.eq_4, evX.eq_5, evX.eq_6, evX.eq_7, evX.eq_8, evX.eq_9, evX.eq_10, evX.eq_11, evX.eq_12, evX.eq_13, evX.eq_14, evX.eq_15, evX.eq_16, evX.eq_17, evX.eq_18, evX.eq_19, evX.eq_20, evX.eq_21, evX.eq_22, evX.eq_24, evX.eq_25, evX.eq_26, evX.eq_29, x_aa, evF.eq_1, x_comp, evF.eq_3, evF.eq_4, evF.eq_5, x_sset2, fz, fz1, esc, escB, escs, escBs, escO, escF, escI, escJ, evXs, evBs, evO, evC, evI.eq_1, evI.eq_4, x_rng1, x_rng2, Pat.slots, wipeE, bindP, unpack, cmpD, ixD, L2.atI, L2.ixN, leave, run_s1, run_s2, run_s3, opD, truD, biD, insOf, itD, enD, slD, List.getElem?_cons_zero, List.getElem?_cons_succ, List.getElem?_nil, -getElem?_pos, e]
      · simp [bodyF, aaF, compF, set1F, set2F, runD, startE, x_cons, x_nil, t_nx, t_rt, t_bk, t_ct, t_no, exS.eq_1, exS.eq_2, exS.eq_3, exS.eq_4, exS.eq_5, exS.eq_6, exS.eq_7, exS.eq_8, exS.eq_10, exS.eq_11, exS.eq_12, exS.eq_13, exS.eq_14, exS.eq_15, exS.eq_16, x_forr, evX.eq_1, evX.eq_2, evX.eq_3, evX.eq_4, evX.eq_5, evX.eq_6, evX.eq_7, evX.eq_8, evX.eq_9, evX.eq_10, evX.eq_11, evX.eq_12, evX.eq_13, evX.eq_14, evX.eq_15, evX.eq_16, evX.eq_17, evX.eq_18, evX.eq_19, evX.eq_20, evX.eq_21, evX.eq_22, evX.eq_24, evX.eq_25, evX.eq_26, evX.eq_29, x_aa, evF.eq_1, x_comp, evF.eq_3, evF.eq_4, evF.eq_5, x_sset2, fz, fz1, esc, escB, escs, escBs, escO, escF, escI, escJ, evXs, evBs, evO, evC, evI.eq_1, evI.eq_4, x_rng1, x_rng2, Pat.slots, wipeE, bindP, unpack, cmpD, ixD, L2.atI, L2.ixN, leave, run_s1, run_s2, run_s3, opD, truD, biD, insOf, itD, enD, slD, List.getElem?_cons_zero, List.getElem?_cons_succ, List.getElem?_nil, -getElem?_pos, e])]
    simp [runD, startE, x_cons, x_nil, t_nx, t_rt, t_bk, t_ct, t_no, exS.eq_1, exS.eq_2, exS.eq_3, exS.eq_4, exS.eq_5, exS.eq_6, exS.eq_7, exS.eq_8, exS.eq_10, exS.eq_11, exS.eq_12, exS.eq_13, exS.eq_14, exS.eq_15, exS.eq_16, x_forr, evX.eq_1, evX.eq_2, evX.eq_3, evX.eq_4, evX.eq_5, evX.eq_6, evX.eq_7, evX.eq_8, evX.eq_9, evX.eq_10, evX.eq_11, evX.eq_12, evX.eq_13, evX.eq_14, evX.eq_15, evX.eq_16, evX.eq_17, evX.eq_18, evX.eq_19, evX.eq_20, evX.eq_21, evX.eq_22, evX.eq_24, evX.eq_25, evX.eq_26, evX.eq_29, x_aa, evF.eq_1, x_comp, evF.eq_3, evF.eq_4, evF.eq_5, x_sset2, fz, fz1, esc, escB, escs, escBs, escO, escF, escI, escJ, evXs, evBs, evO, evC, evI.eq_1, evI.eq_4, x_rng1, x_rng2, Pat.slots, wipeE, bindP, unpack, cmpD, ixD, L2.atI, L2.ixN, leave, run_s1, run_s2, run_s3, opD, truD, biD, insOf, itD, enD, slD, List.getElem?_cons_zero, List.getElem?_cons_succ, List.getElem?_nil, -getElem?_pos, sizeL, l1]
    rw [mapL_pure (p := fun d => match d with | .int i => some (.int (i.fmod 999983)) | _ => none) (by simp [okW, beqs_refl]) _ (by
      intro d hd
      obtain ⟨i, hi, rfl⟩ := List.mem_map.mp hd
      simp [bodyF, aaF, compF, set1F, set2F, runD, startE, x_cons, x_nil, t_nx, t_rt, t_bk, t_ct, t_no, exS.eq_1, exS.eq_2, exS.eq_3, exS.eq_4, exS.eq_5, exS.eq_6, exS.eq_7, exS.eq_8, exS.eq_10, exS.eq_11, exS.eq_12, exS.eq_13, exS.eq_14, exS.eq_15, exS.eq_16, x_forr, evX.eq_1, evX.eq_2, evX.eq_3, evX.eq_4, evX.eq_5, evX.eq_6, evX.eq_7, evX.eq_8, evX.eq_9, evX.eq_10, evX.eq_11, evX.eq_12, evX.eq_13, evX.eq_14, evX.eq_15, evX.eq_16, evX.eq_17, evX.eq_18, evX.eq_19, evX.eq_20, evX.eq_21, evX.eq_22, evX.eq_24, evX.eq_25, evX.eq_26, evX.eq_29, x_aa, evF.eq_1, x_comp, evF.eq_3, evF.eq_4, evF.eq_5, x_sset2, fz, fz1, esc, escB, escs, escBs, escO, escF, escI, escJ, evXs, evBs, evO, evC, evI.eq_1, evI.eq_4, x_rng1, x_rng2, Pat.slots, wipeE, bindP, unpack, cmpD, ixD, L2.atI, L2.ixN, leave, run_s1, run_s2, run_s3, opD, truD, biD, insOf, itD, enD, slD, List.getElem?_cons_zero, List.getElem?_cons_succ, List.getElem?_nil, -getElem?_pos])]
    have nd : ([("wide" : Str), "cells", "rest", "turn", "mix"] : List Str).Nodup := by decide +kernel
    simp only [List.nodup_cons, List.mem_cons, List.not_mem_nil, or_false, not_or, List.nodup_nil, not_false_eq_true, and_true, and_assoc] at nd
    have ew : (ns.filterMap fun i : Int => if 100000000000000000 < (if i < 0 then -i else i) then some (D.int (if i < 0 then -i else i)) else none) = wide.map .int := by
      simp only [wide]
      clear hl l1
      induction ns with
      | nil => rfl
      | cons a r ih =>
        rw [List.filterMap_cons, List.filter_cons, ih]
        by_cases e : 100000000000000000 < (if a < 0 then -a else a)
        · simp [e]
        · simp [e]
    simp [runD, startE, x_cons, x_nil, t_nx, t_rt, t_bk, t_ct, t_no, exS.eq_1, exS.eq_2, exS.eq_3, exS.eq_4, exS.eq_5, exS.eq_6, exS.eq_7, exS.eq_8, exS.eq_10, exS.eq_11, exS.eq_12, exS.eq_13, exS.eq_14, exS.eq_15, exS.eq_16, x_forr, evX.eq_1, evX.eq_2, evX.eq_3, evX.eq_4, evX.eq_5, evX.eq_6, evX.eq_7, evX.eq_8, evX.eq_9, evX.eq_10, evX.eq_11, evX.eq_12, evX.eq_13, evX.eq_14, evX.eq_15, evX.eq_16, evX.eq_17, evX.eq_18, evX.eq_19, evX.eq_20, evX.eq_21, evX.eq_22, evX.eq_24, evX.eq_25, evX.eq_26, evX.eq_29, x_aa, evF.eq_1, x_comp, evF.eq_3, evF.eq_4, evF.eq_5, x_sset2, fz, fz1, esc, escB, escs, escBs, escO, escF, escI, escJ, evXs, evBs, evO, evC, evI.eq_1, evI.eq_4, x_rng1, x_rng2, Pat.slots, wipeE, bindP, unpack, cmpD, ixD, L2.atI, L2.ixN, leave, run_s1, run_s2, run_s3, opD, truD, biD, insOf, itD, enD, slD, List.getElem?_cons_zero, List.getElem?_cons_succ, List.getElem?_nil, -getElem?_pos, nd, hw, hdK, List.filterMap_map, Function.comp_def]
    exact ew
  · intro x hx
    obtain ⟨i, hi, rfl⟩ := List.mem_map.mp hx
    split <;> omega
end P76
end
section
set_option Elab.async false
set_option linter.all false
set_option maxRecDepth 100000
set_option maxHeartbeats 1000000
namespace P76
open Pv Pu
open PySem (Str)
/-- what is known of drawn names -/
structure NamesOk (hs : Str) (many : Nat) (out : List Str) : Prop where
  len : out.length = many
  nd : out.Nodup
  form : ∀ x ∈ out, NmF hs TL x
theorem names_spec {n : Nat} {h : Hs} {X : Wd} (hv : Hv h) {hs : Str} (hs0 : hs.cps.toList ≠ []) (hs1 : hs.cps.toList.length < 1000000000) {many : Nat} (hm : many ≤ 20) :
    ∃ out h', run pg dfs (n+3) (n+3) 50 [.ref 3, .int many, .str hs] (hw h X) = some (.lst (out.map .str), hw h' X) ∧ Hv h' ∧ NamesOk hs many out := by
  -- the draws ahead of the loop
  have v1 := drawH_v hv (many := 2) (by decide)
  obtain ⟨c, hc, h2, v2, pk⟩ := pick_str v1 hs0 hs1
  have v3 := drawH_v v2 (many := 8) (by decide)
  have v4 := drawH_v v3 (many := 3) (by decide)
  have v5 := drawH_v v4 (many := 8) (by decide)
  have v6 := drawH_v v5 (many := 3) (by decide)
  have r0 : ∀ h, 0 ≤ drawD 3 h := fun h => drawD_lo (by decide)
  have r1 : ∀ h, drawD 3 h ≤ 1000 := fun h => by have := drawD_hi (h := h) (many := 3) (by decide); omega
  have r2 : ∀ h, (drawD 3 h).toNat < 3 := fun h => by have := drawD_hi (h := h) (many := 3) (by decide); have := r0 h; omega
  have f1 := rep_len (c := sgn (drawD 8 h2)) (r2 (drawH 8 h2))
  have f2 := rep_len (c := sgn (drawD 8 (drawH 3 (drawH 8 h2)))) (r2 (drawH 8 (drawH 3 (drawH 8 h2))))
  have g1 := rep_mem (i := drawD 8 h2) (r2 (drawH 8 h2))
  have g2 := rep_mem (i := drawD 8 (drawH 3 (drawH 8 h2))) (r2 (drawH 8 (drawH 3 (drawH 8 h2))))
  have sm3 : smallI 3 = true := by decide
  have ir : many ≤ 1000000000 := by omega
  rw [run_def (by rfl : dfs 50 = some d50)]
  generalize hal : decide (drawD 2 h = 1) = al
  simp [d50, b50, runD, startE, x_cons, x_nil, t_nx, t_rt, t_bk, t_ct, t_no, exS.eq_1, exS.eq_2, exS.eq_3, exS.eq_4, exS.eq_5, exS.eq_6, exS.eq_7, exS.eq_8, exS.eq_10, exS.eq_11, exS.eq_12, exS.eq_13, exS.eq_14, exS.eq_15, exS.eq_16, x_forr, evX.eq_1, evX.eq_2, evX.eq_3, evX.eq_4, evX.eq_5, evX.eq_6, evX.eq_7, evX.eq_8, evX.eq_9, evX.eq_10, evX.eq_11, evX.eq_12, evX.eq_13, evX.eq_14, evX.eq_15, evX.eq_16, evX.eq_17, evX.eq_18, evX.eq_19, evX.eq_20, evX.eq_21, evX.eq_22, evX.eq_24, evX.eq_25, evX.eq_26, evX.eq_29, x_aa, evF.eq_1, x_comp, evF.eq_3, evF.eq_4, evF.eq_5, x_sset2, fz, fz1, esc, escB, escs, escBs, escO, escF, escI, escJ, evXs, evBs, evO, evC, evI.eq_1, evI.eq_4, x_rng1, x_rng2, Pat.slots, wipeE, bindP, unpack, cmpD, leave, run_s1, run_s2, run_s3, opD, truD, biD, insOf, itD, enD, slD, List.getElem?_cons_zero, List.getElem?_cons_succ, List.getElem?_nil, -getElem?_pos, draw_eq, hv, v1, v2, v3, v4, v5, eqD_int, pk, sign_draw, r0, r1, one_len, rngIf_nat, ir, sl2_iff, hal]
  generalize repS ⟨#[sgn (drawD 8 h2)]⟩ (drawD 3 (drawH 8 h2)).toNat = front at f1 g1 ⊢
  generalize repS ⟨#[sgn (drawD 8 (drawH 3 (drawH 8 h2)))]⟩ (drawD 3 (drawH 8 (drawH 3 (drawH 8 h2)))).toNat = back at f2 g2 ⊢
  generalize drawH 3 (drawH 8 (drawH 3 (drawH 8 h2))) = h6 at v6 ⊢
  clear v3 v4 v5 pk
  generalize e : forL _ _ _ _ _ _ = o
  have fr : ∀ (k : Nat) x, x ∈ (List.range k).map (nmA ⟨#[c]⟩ front back) → NmF hs SG x := fun k x hx => by
    obtain ⟨j, _, rfl⟩ := List.mem_map.mp hx
    exact nmA_f (head_f hc SG) g1 g2 j
  obtain ⟨env1, W1, rfl, h7, out, s9, s10, s11, rfl, v7, rfl, ol, oa, ob⟩ := use_ki e (fun k env W' => ∃ h' out s9 s10 s11, W' = hw h' X ∧ Hv h' ∧ env = [.val (.ref 3), .val (.int many), .val (.str hs), .val (.str "aZ0_b9zA"), .val (.bl al), .val (.str ⟨#[c]⟩), .val (.str front), .val (.str back), .own (out.map .str), s9, s10, s11] ∧ out.length = k ∧
      (al = true → out = (List.range k).map (nmA ⟨#[c]⟩ front back)) ∧ (al = false → out.Nodup ∧ ∀ x ∈ out, NmF hs SG x ∨ ∃ y j, j < k ∧ NmF hs SG y ∧ x = y ++ "q" ++ numS j))
    ⟨h6, [], _, _, _, rfl, v6, rfl, rfl, fun _ => rfl, fun _ => ⟨List.nodup_nil, by simp⟩⟩ (by
    rintro k env W' hk ⟨h', out, s9, s10, s11, rfl, v', rfl, ol, oa, ob⟩
    have l0 : ((1 : Nat) + front.length + 1 + 1 + back.length) ≤ 16777216 := by omega
    generalize hb : bodyF _ _ _ _ _ _ _ _ = r
    have la : (nmA ⟨#[c]⟩ front back k).length = 1 + front.length + 1 + 1 + back.length := by simp [nmA, app_len, one_len]
    have lol : out.length < 16777216 := by omega
    have a1 : (1 : Nat) + front.length ≤ 16777216 := by omega
    have a2 : (1 : Nat) + front.length + 1 ≤ 16777216 := by omega
    have a3 : (1 : Nat) + front.length + 1 + 1 ≤ 16777216 := by omega
    cases al with
    | true =>
      simp [bodyF, aaF, compF, set1F, set2F, runD, startE, x_cons, x_nil, t_nx, t_rt, t_bk, t_ct, t_no, exS.eq_1, exS.eq_2, exS.eq_3, exS.eq_4, exS.eq_5, exS.eq_6, exS.eq_7, exS.eq_8, exS.eq_10, exS.eq_11, exS.eq_12, exS.eq_13, exS.eq_14, exS.eq_15, exS.eq_16, x_forr, evX.eq_1, evX.eq_2, evX.eq_3, evX.eq_4, evX.eq_5, evX.eq_6, evX.eq_7, evX.eq_8, evX.eq_9, evX.eq_10, evX.eq_11, evX.eq_12, evX.eq_13, evX.eq_14, evX.eq_15, evX.eq_16, evX.eq_17, evX.eq_18, evX.eq_19, evX.eq_20, evX.eq_21, evX.eq_22, evX.eq_24, evX.eq_25, evX.eq_26, evX.eq_29, x_aa, evF.eq_1, x_comp, evF.eq_3, evF.eq_4, evF.eq_5, x_sset2, fz, fz1, esc, escB, escs, escBs, escO, escF, escI, escJ, evXs, evBs, evO, evC, evI.eq_1, evI.eq_4, x_rng1, x_rng2, Pat.slots, wipeE, bindP, unpack, cmpD, leave, run_s1, run_s2, run_s3, opD, truD, biD, insOf, itD, enD, slD, List.getElem?_cons_zero, List.getElem?_cons_succ, List.getElem?_nil, -getElem?_pos, sm3, sign_s1, sign_s2, sl2_iff, app_len, one_len, sizeL, lol, a1, a2, a3, l0] at hb
      refine ⟨_, _, .inl hb.symm, rfl, h', out ++ [nmA ⟨#[c]⟩ front back k], _, _, _, rfl, v', by simp [nmA]; exact ⟨rfl, rfl, rfl⟩, by simp [ol], fun _ => ?_, by simp⟩
      rw [oa rfl, List.range_succ, List.map_append]
      rfl
    | false =>
      obtain ⟨c', hc', h8, v8, pk'⟩ := pick_str v' hs0 hs1
      have v9 := drawH_v v8 (many := 4) (by decide)
      have q0 : 0 ≤ drawD 4 h8 := drawD_lo (by decide)
      have q1 : drawD 4 h8 < 4 := drawD_hi (by decide)
      have q2 : drawD 4 h8 ≤ 1000000000 := by omega
      simp [bodyF, aaF, compF, set1F, set2F, runD, startE, x_cons, x_nil, t_nx, t_rt, t_bk, t_ct, t_no, exS.eq_1, exS.eq_2, exS.eq_3, exS.eq_4, exS.eq_5, exS.eq_6, exS.eq_7, exS.eq_8, exS.eq_10, exS.eq_11, exS.eq_12, exS.eq_13, exS.eq_14, exS.eq_15, exS.eq_16, x_forr, evX.eq_1, evX.eq_2, evX.eq_3, evX.eq_4, evX.eq_5, evX.eq_6, evX.eq_7, evX.eq_8, evX.eq_9, evX.eq_10, evX.eq_11, evX.eq_12, evX.eq_13, evX.eq_14, evX.eq_15, evX.eq_16, evX.eq_17, evX.eq_18, evX.eq_19, evX.eq_20, evX.eq_21, evX.eq_22, evX.eq_24, evX.eq_25, evX.eq_26, evX.eq_29, x_aa, evF.eq_1, x_comp, evF.eq_3, evF.eq_4, evF.eq_5, x_sset2, fz, fz1, esc, escB, escs, escBs, escO, escF, escI, escJ, evXs, evBs, evO, evC, evI.eq_1, evI.eq_4, x_rng1, x_rng2, Pat.slots, wipeE, bindP, unpack, cmpD, leave, run_s1, run_s2, run_s3, opD, truD, biD, insOf, itD, enD, slD, List.getElem?_cons_zero, List.getElem?_cons_succ, List.getElem?_nil, -getElem?_pos, sm3, sign_s1, sign_s2, sl2_iff, app_len, one_len, sizeL, lol, a1, a2, a3, l0, pk', draw_eq, v8, rngIf_ok, q0, q2] at hb
      generalize e2 : forL _ _ _ _ _ _ = o2 at hb
      obtain ⟨env2, W2, rfl, h10, x, s11', rfl, v10, rfl, hx, hxl⟩ := use_ki e2 (fun j env W' => ∃ h' x s11, W' = hw h' X ∧ Hv h' ∧ env = [.val (.ref 3), .val (.int many), .val (.str hs), .val (.str "aZ0_b9zA"), .val (.bl false), .val (.str ⟨#[c]⟩), .val (.str front), .val (.str back), .own (out.map .str), .val (.int k), .val (.str x), s11] ∧ NmF hs SG x ∧ x.length ≤ 1 + j)
        ⟨_, ⟨#[c']⟩, _, rfl, v9, rfl, head_f hc' SG, by simp [one_len]⟩ (by
        rintro j env W' hj ⟨h', x, s11, rfl, v', rfl, hx, hxl⟩
        have lx : x.length + 1 ≤ 16777216 := by omega
        refine ⟨[.val (.ref 3), .val (.int many), .val (.str hs), .val (.str "aZ0_b9zA"), .val (.bl false), .val (.str ⟨#[c]⟩), .val (.str front), .val (.str back), .own (out.map .str), .val (.int k), .val (.str (x ++ ⟨#[sgn (drawD 8 h')]⟩)), .val (.int j)], hw (drawH 8 h') X, .inl ?_, rfl, drawH 8 h', x ++ ⟨#[sgn (drawD 8 h')]⟩, _, rfl, drawH_v v' (by decide), rfl, hx.app (by intro d hd; simp at hd; exact hd ▸ sgn_mem _), by rw [app_len, one_len]; omega⟩
        simp [bodyF, aaF, compF, set1F, set2F, runD, startE, x_cons, x_nil, t_nx, t_rt, t_bk, t_ct, t_no, exS.eq_1, exS.eq_2, exS.eq_3, exS.eq_4, exS.eq_5, exS.eq_6, exS.eq_7, exS.eq_8, exS.eq_10, exS.eq_11, exS.eq_12, exS.eq_13, exS.eq_14, exS.eq_15, exS.eq_16, x_forr, evX.eq_1, evX.eq_2, evX.eq_3, evX.eq_4, evX.eq_5, evX.eq_6, evX.eq_7, evX.eq_8, evX.eq_9, evX.eq_10, evX.eq_11, evX.eq_12, evX.eq_13, evX.eq_14, evX.eq_15, evX.eq_16, evX.eq_17, evX.eq_18, evX.eq_19, evX.eq_20, evX.eq_21, evX.eq_22, evX.eq_24, evX.eq_25, evX.eq_26, evX.eq_29, x_aa, evF.eq_1, x_comp, evF.eq_3, evF.eq_4, evF.eq_5, x_sset2, fz, fz1, esc, escB, escs, escBs, escO, escF, escI, escJ, evXs, evBs, evO, evC, evI.eq_1, evI.eq_4, x_rng1, x_rng2, Pat.slots, wipeE, bindP, unpack, cmpD, leave, run_s1, run_s2, run_s3, opD, truD, biD, insOf, itD, enD, slD, List.getElem?_cons_zero, List.getElem?_cons_succ, List.getElem?_nil, -getElem?_pos, draw_eq, v', sign_draw, sl2_iff, one_len, lx])
      have hxl4 : x.length ≤ 5 := by omega
      have lx : x.length + 1 ≤ 16777216 := by omega
      obtain ⟨ond, oform⟩ := ob rfl
      have nk := numS_ok k (by omega)
      by_cases hin : x ∈ out
      · have i1 := inD_lst_str (hw h10 X) x out
        rw [decide_eq_true hin] at i1
        have nk1 : PySem.PyData.strOk (PySem.Str.ofString (Int.repr (k : Int))) = true := nk.1
        have nk2 : PySem.Str.length (PySem.Str.ofString (Int.repr (k : Int))) ≤ 16777216 := by have := nk.2.1; have e : numS k = PySem.Str.ofString (Int.repr (k : Int)) := rfl; rw [e] at this; omega
        have nk3 : k < 1000000 := by omega
        have lq : (PySem.Str.ofString "q").length = 1 := by rfl
        have lx2 : x.length + 1 + PySem.Str.length (PySem.Str.ofString (Int.repr (k : Int))) ≤ 16777216 := by have := nk.2.1; have e : numS k = PySem.Str.ofString (Int.repr (k : Int)) := rfl; rw [e] at this; omega
        have hnew : x ++ "q" ++ numS k ∉ out := by
          intro hm
          rcases oform _ hm with hy | ⟨y, j, hj, hy, e⟩
          · exact q_other hx hy rfl
          · have := q_new hx hy (by omega) (by omega) e
            omega
        simp [runD, startE, x_cons, x_nil, t_nx, t_rt, t_bk, t_ct, t_no, exS.eq_1, exS.eq_2, exS.eq_3, exS.eq_4, exS.eq_5, exS.eq_6, exS.eq_7, exS.eq_8, exS.eq_10, exS.eq_11, exS.eq_12, exS.eq_13, exS.eq_14, exS.eq_15, exS.eq_16, x_forr, evX.eq_1, evX.eq_2, evX.eq_3, evX.eq_4, evX.eq_5, evX.eq_6, evX.eq_7, evX.eq_8, evX.eq_9, evX.eq_10, evX.eq_11, evX.eq_12, evX.eq_13, evX.eq_14, evX.eq_15, evX.eq_16, evX.eq_17, evX.eq_18, evX.eq_19, evX.eq_20, evX.eq_21, evX.eq_22, evX.eq_24, evX.eq_25, evX.eq_26, evX.eq_29, x_aa, evF.eq_1, x_comp, evF.eq_3, evF.eq_4, evF.eq_5, x_sset2, fz, fz1, esc, escB, escs, escBs, escO, escF, escI, escJ, evXs, evBs, evO, evC, evI.eq_1, evI.eq_4, x_rng1, x_rng2, Pat.slots, wipeE, bindP, unpack, cmpD, leave, run_s1, run_s2, run_s3, opD, truD, biD, insOf, itD, enD, slD, List.getElem?_cons_zero, List.getElem?_cons_succ, List.getElem?_nil, -getElem?_pos, i1, nk1, nk2, nk3, sl2_iff, app_len, lq, lx, lx2, sizeL, lol] at hb
        refine ⟨_, _, .inl hb.symm, rfl, h10, out ++ [x ++ "q" ++ numS k], _, _, _, rfl, v10, by simp [numS]; exact ⟨rfl, rfl, rfl⟩, by simp [ol], by simp, fun _ => ⟨?_, ?_⟩⟩
        · rw [List.nodup_append]
          exact ⟨ond, by simp, by intro a ha b hb' e; simp at hb'; exact hnew (hb' ▸ e ▸ ha)⟩
        · intro z hz
          rcases List.mem_append.mp hz with hz | hz
          · rcases oform z hz with h1 | ⟨y, j, hj, hy, e⟩
            · exact .inl h1
            · exact .inr ⟨y, j, by omega, hy, e⟩
          · simp at hz
            exact .inr ⟨x, k, by omega, hx, hz⟩
      · have i1 := inD_lst_str (hw h10 X) x out
        rw [decide_eq_false hin] at i1
        simp [runD, startE, x_cons, x_nil, t_nx, t_rt, t_bk, t_ct, t_no, exS.eq_1, exS.eq_2, exS.eq_3, exS.eq_4, exS.eq_5, exS.eq_6, exS.eq_7, exS.eq_8, exS.eq_10, exS.eq_11, exS.eq_12, exS.eq_13, exS.eq_14, exS.eq_15, exS.eq_16, x_forr, evX.eq_1, evX.eq_2, evX.eq_3, evX.eq_4, evX.eq_5, evX.eq_6, evX.eq_7, evX.eq_8, evX.eq_9, evX.eq_10, evX.eq_11, evX.eq_12, evX.eq_13, evX.eq_14, evX.eq_15, evX.eq_16, evX.eq_17, evX.eq_18, evX.eq_19, evX.eq_20, evX.eq_21, evX.eq_22, evX.eq_24, evX.eq_25, evX.eq_26, evX.eq_29, x_aa, evF.eq_1, x_comp, evF.eq_3, evF.eq_4, evF.eq_5, x_sset2, fz, fz1, esc, escB, escs, escBs, escO, escF, escI, escJ, evXs, evBs, evO, evC, evI.eq_1, evI.eq_4, x_rng1, x_rng2, Pat.slots, wipeE, bindP, unpack, cmpD, leave, run_s1, run_s2, run_s3, opD, truD, biD, insOf, itD, enD, slD, List.getElem?_cons_zero, List.getElem?_cons_succ, List.getElem?_nil, -getElem?_pos, i1, sizeL, lol] at hb
        refine ⟨_, _, .inl hb.symm, rfl, h10, out ++ [x], _, _, _, rfl, v10, by simp; exact ⟨rfl, rfl, rfl⟩, by simp [ol], by simp, fun _ => ⟨?_, ?_⟩⟩
        · rw [List.nodup_append]
          exact ⟨ond, by simp, by intro a ha b hb' e; simp at hb'; exact hin (hb' ▸ e ▸ ha)⟩
        · intro z hz
          rcases List.mem_append.mp hz with hz | hz
          · rcases oform z hz with h1 | ⟨y, j, hj, hy, e⟩
            · exact .inl h1
            · exact .inr ⟨y, j, by omega, hy, e⟩
          · simp at hz
            exact .inl (hz ▸ hx))
  refine ⟨out, h7, by simp [runD, startE, x_cons, x_nil, t_nx, t_rt, t_bk, t_ct, t_no, exS.eq_1, exS.eq_2, exS.eq_3, exS.eq_4, exS.eq_5, exS.eq_6, exS.eq_7, exS.eq_8, exS.eq_10, exS.eq_11, exS.eq_12, exS.eq_13, exS.eq_14, exS.eq_15, exS.eq_16, x_forr, evX.eq_1, evX.eq_2, evX.eq_3, evX.eq_4, evX.eq_5, evX.eq_6, evX.eq_7, evX.eq_8, evX.eq_9, evX.eq_10, evX.eq_11, evX.eq_12, evX.eq_13, evX.eq_14, evX.eq_15, evX.eq_16, evX.eq_17, evX.eq_18, evX.eq_19, evX.eq_20, evX.eq_21, evX.eq_22, evX.eq_24, evX.eq_25, evX.eq_26, evX.eq_29, x_aa, evF.eq_1, x_comp, evF.eq_3, evF.eq_4, evF.eq_5, x_sset2, fz, fz1, esc, escB, escs, escBs, escO, escF, escI, escJ, evXs, evBs, evO, evC, evI.eq_1, evI.eq_4, x_rng1, x_rng2, Pat.slots, wipeE, bindP, unpack, cmpD, leave, run_s1, run_s2, run_s3, opD, truD, biD, insOf, itD, enD, slD, List.getElem?_cons_zero, List.getElem?_cons_succ, List.getElem?_nil, -getElem?_pos, hw_len], v7, ol, ?_, ?_⟩
  · cases al with
    | true =>
      rw [oa rfl]
      refine List.Pairwise.map _ (R := fun a b => a < many ∧ b < many ∧ a ≠ b) (fun a b hab e => hab.2.2 (nmA_inj (by omega) (by omega) e)) ?_
      refine List.Pairwise.imp_of_mem (R := fun a b => a ≠ b) (fun {a b} ha hb hab => ⟨List.mem_range.mp ha, List.mem_range.mp hb, hab⟩) List.nodup_range
    | false => exact (ob rfl).1
  · have tl : ∀ d ∈ SG, d ∈ TL := fun d hd => List.mem_append_left _ hd
    cases al with
    | true => intro x hx; exact (fr _ x (oa rfl ▸ hx)).imp tl
    | false =>
      intro x hx
      rcases (ob rfl).2 x hx with h1 | ⟨y, j, hj, hy, e⟩
      · exact h1.imp tl
      · subst e
        refine ((hy.imp tl).app ?_).app ?_
        · have : (PySem.Str.ofString "q").cps.toList = [113] := by rfl
          rw [this]
          decide
        · intro d hd
          have := (numS_ok j (by omega)).2.2 d hd
          exact List.mem_append_right _ (List.mem_cons_of_mem _ this)
end P76
end
section
set_option Elab.async false
set_option linter.all false
set_option maxRecDepth 100000
set_option maxHeartbeats 1000000
namespace P76
open Pv Pu
open PySem (Str)
theorem points_spec {n : Nat} {h : Hs} {X : Wd} (hv : Hv h) {many : Nat} (hm : many ≤ 100) {low wide : Int} (hw0 : 0 ≤ wide) (hw1 : wide ≤ 100000) :
    ∃ (out : List (Int × Int)) (h' : Hs), run pg dfs (n+2) (n+2) 51 [.ref 3, .int many, .int low, .int wide] (hw h X) = some (.lst (out.map ptD), hw h' X) ∧ Hv h' ∧ out.length = many ∧ ∀ p ∈ out, (low ≤ p.1 ∧ p.1 ≤ low + wide) ∧ (low ≤ p.2 ∧ p.2 ≤ low + wide) := by
  have ir : many ≤ 1000000000 := by omega
  have p0 : 0 < wide + 1 := by omega
  have p1 : wide + 1 < 1000000000 := by omega
  have p2 : wide + 1 ≠ 0 := by omega
  rw [run_def (by rfl : dfs 51 = some d51)]
  simp [d51, b51, runD, startE, x_cons, x_nil, t_nx, t_rt, t_bk, t_ct, t_no, exS.eq_1, exS.eq_2, exS.eq_3, exS.eq_4, exS.eq_5, exS.eq_6, exS.eq_7, exS.eq_8, exS.eq_10, exS.eq_11, exS.eq_12, exS.eq_13, exS.eq_14, exS.eq_15, exS.eq_16, x_forr, evX.eq_1, evX.eq_2, evX.eq_3, evX.eq_4, evX.eq_5, evX.eq_6, evX.eq_7, evX.eq_8, evX.eq_9, evX.eq_10, evX.eq_11, evX.eq_12, evX.eq_13, evX.eq_14, evX.eq_15, evX.eq_16, evX.eq_17, evX.eq_18, evX.eq_19, evX.eq_20, evX.eq_21, evX.eq_22, evX.eq_24, evX.eq_25, evX.eq_26, evX.eq_29, x_aa, evF.eq_1, x_comp, evF.eq_3, evF.eq_4, evF.eq_5, x_sset2, fz, fz1, esc, escB, escs, escBs, escO, escF, escI, escJ, evXs, evBs, evO, evC, evI.eq_1, evI.eq_4, x_rng1, x_rng2, Pat.slots, wipeE, bindP, unpack, cmpD, ixD, L2.atI, L2.ixN, leave, run_s1, run_s2, run_s3, opD, truD, biD, insOf, itD, enD, slD, List.getElem?_cons_zero, List.getElem?_cons_succ, List.getElem?_nil, -getElem?_pos, sl2_iff, rngIf_nat, ir]
  generalize e : forL _ _ _ _ _ _ = o
  obtain ⟨env1, W1, rfl, h1, out, s5, s6, s7, s8, rfl, v1, rfl, ol, of⟩ := use_ki e (fun k env W' => ∃ (h' : Hs) (out : List (Int × Int)) (s5 s6 s7 s8 : Sv), W' = hw h' X ∧ Hv h' ∧ env = [.val (.ref 3), .val (.int many), .val (.int low), .val (.int wide), .own (out.map ptD), s5, s6, s7, s8] ∧ out.length = k ∧ ∀ p ∈ out, (low ≤ p.1 ∧ p.1 ≤ low + wide) ∧ (low ≤ p.2 ∧ p.2 ≤ low + wide))
    ⟨h, [], _, _, _, _, rfl, hv, rfl, rfl, by simp⟩ (by
    rintro k env W' hk ⟨h', out, s5, s6, s7, s8, rfl, v', rfl, ol, of⟩
    generalize hb : bodyF _ _ _ _ _ _ _ _ = r
    have v2 := drawH_v v' (many := wide + 1) p0
    have v3 := drawH_v v2 (many := wide + 1) p0
    have x0 := drawD_lo (h := h') p0
    have x1 := drawD_hi (h := h') p0
    have y0 := drawD_lo (h := drawH (wide + 1) h') p0
    have y1 := drawD_hi (h := drawH (wide + 1) h') p0
    simp [bodyF, aaF, compF, set1F, set2F, runD, startE, x_cons, x_nil, t_nx, t_rt, t_bk, t_ct, t_no, exS.eq_1, exS.eq_2, exS.eq_3, exS.eq_4, exS.eq_5, exS.eq_6, exS.eq_7, exS.eq_8, exS.eq_10, exS.eq_11, exS.eq_12, exS.eq_13, exS.eq_14, exS.eq_15, exS.eq_16, x_forr, evX.eq_1, evX.eq_2, evX.eq_3, evX.eq_4, evX.eq_5, evX.eq_6, evX.eq_7, evX.eq_8, evX.eq_9, evX.eq_10, evX.eq_11, evX.eq_12, evX.eq_13, evX.eq_14, evX.eq_15, evX.eq_16, evX.eq_17, evX.eq_18, evX.eq_19, evX.eq_20, evX.eq_21, evX.eq_22, evX.eq_24, evX.eq_25, evX.eq_26, evX.eq_29, x_aa, evF.eq_1, x_comp, evF.eq_3, evF.eq_4, evF.eq_5, x_sset2, fz, fz1, esc, escB, escs, escBs, escO, escF, escI, escJ, evXs, evBs, evO, evC, evI.eq_1, evI.eq_4, x_rng1, x_rng2, Pat.slots, wipeE, bindP, unpack, cmpD, ixD, L2.atI, L2.ixN, leave, run_s1, run_s2, run_s3, opD, truD, biD, insOf, itD, enD, slD, List.getElem?_cons_zero, List.getElem?_cons_succ, List.getElem?_nil, -getElem?_pos, draw_eq, v', v2, p0, p1, rngIf_nat, ir] at hb
    generalize e : forL _ _ _ _ _ _ = o at hb
    generalize drawD (wide + 1) h' = x at x0 x1 e
    generalize drawD (wide + 1) (drawH (wide + 1) h') = y at y0 y1 e
    generalize drawH (wide + 1) (drawH (wide + 1) h') = h3 at v3 e
    have lo : out.length < 16777216 := by omega
    obtain ⟨env2, W2, rfl, rfl, x', s8', rfl, z0, z1⟩ := use_kb e (fun j env W' => W' = hw h3 X ∧ ∃ x s8, env = [.val (.ref 3), .val (.int many), .val (.int low), .val (.int wide), .own (out.map ptD), .val (.int k), .val (.int x), .val (.int y), s8] ∧ 0 ≤ x ∧ x < wide + 1)
      (fun env W' => W' = hw h3 X ∧ ∃ x s8, env = [.val (.ref 3), .val (.int many), .val (.int low), .val (.int wide), .own (out.map ptD), .val (.int k), .val (.int x), .val (.int y), s8] ∧ 0 ≤ x ∧ x < wide + 1)
      ⟨rfl, x, _, rfl, x0, x1⟩ (by
      rintro j env W' hj ⟨rfl, x, s8, rfl, x0, x1⟩
      have i1 := inD_pt (hw h3 X) (low + x) (low + y) out
      by_cases hin : (low + x, low + y) ∈ out
      · left
        rw [decide_eq_true hin] at i1
        refine ⟨[.val (.ref 3), .val (.int many), .val (.int low), .val (.int wide), .own (out.map ptD), .val (.int k), .val (.int ((x + 1).fmod (wide + 1))), .val (.int y), .val (.int j)], hw h3 X, ?_, rfl, rfl, _, _, rfl, fmod_lo p0, fmod_hi p0⟩
        simp [bodyF, aaF, compF, set1F, set2F, runD, startE, x_cons, x_nil, t_nx, t_rt, t_bk, t_ct, t_no, exS.eq_1, exS.eq_2, exS.eq_3, exS.eq_4, exS.eq_5, exS.eq_6, exS.eq_7, exS.eq_8, exS.eq_10, exS.eq_11, exS.eq_12, exS.eq_13, exS.eq_14, exS.eq_15, exS.eq_16, x_forr, evX.eq_1, evX.eq_2, evX.eq_3, evX.eq_4, evX.eq_5, evX.eq_6, evX.eq_7, evX.eq_8, evX.eq_9, evX.eq_10, evX.eq_11, evX.eq_12, evX.eq_13, evX.eq_14, evX.eq_15, evX.eq_16, evX.eq_17, evX.eq_18, evX.eq_19, evX.eq_20, evX.eq_21, evX.eq_22, evX.eq_24, evX.eq_25, evX.eq_26, evX.eq_29, x_aa, evF.eq_1, x_comp, evF.eq_3, evF.eq_4, evF.eq_5, x_sset2, fz, fz1, esc, escB, escs, escBs, escO, escF, escI, escJ, evXs, evBs, evO, evC, evI.eq_1, evI.eq_4, x_rng1, x_rng2, Pat.slots, wipeE, bindP, unpack, cmpD, ixD, L2.atI, L2.ixN, leave, run_s1, run_s2, run_s3, opD, truD, biD, insOf, itD, enD, slD, List.getElem?_cons_zero, List.getElem?_cons_succ, List.getElem?_nil, -getElem?_pos, sl2_iff, i1, p2]
      · right
        rw [decide_eq_false hin] at i1
        refine ⟨[.val (.ref 3), .val (.int many), .val (.int low), .val (.int wide), .own (out.map ptD), .val (.int k), .val (.int x), .val (.int y), .val (.int j)], hw h3 X, ?_, rfl, _, _, rfl, x0, x1⟩
        simp [bodyF, aaF, compF, set1F, set2F, runD, startE, x_cons, x_nil, t_nx, t_rt, t_bk, t_ct, t_no, exS.eq_1, exS.eq_2, exS.eq_3, exS.eq_4, exS.eq_5, exS.eq_6, exS.eq_7, exS.eq_8, exS.eq_10, exS.eq_11, exS.eq_12, exS.eq_13, exS.eq_14, exS.eq_15, exS.eq_16, x_forr, evX.eq_1, evX.eq_2, evX.eq_3, evX.eq_4, evX.eq_5, evX.eq_6, evX.eq_7, evX.eq_8, evX.eq_9, evX.eq_10, evX.eq_11, evX.eq_12, evX.eq_13, evX.eq_14, evX.eq_15, evX.eq_16, evX.eq_17, evX.eq_18, evX.eq_19, evX.eq_20, evX.eq_21, evX.eq_22, evX.eq_24, evX.eq_25, evX.eq_26, evX.eq_29, x_aa, evF.eq_1, x_comp, evF.eq_3, evF.eq_4, evF.eq_5, x_sset2, fz, fz1, esc, escB, escs, escBs, escO, escF, escI, escJ, evXs, evBs, evO, evC, evI.eq_1, evI.eq_4, x_rng1, x_rng2, Pat.slots, wipeE, bindP, unpack, cmpD, ixD, L2.atI, L2.ixN, leave, run_s1, run_s2, run_s3, opD, truD, biD, insOf, itD, enD, slD, List.getElem?_cons_zero, List.getElem?_cons_succ, List.getElem?_nil, -getElem?_pos, sl2_iff, i1]) (fun env W h => h)
    simp [runD, startE, x_cons, x_nil, t_nx, t_rt, t_bk, t_ct, t_no, exS.eq_1, exS.eq_2, exS.eq_3, exS.eq_4, exS.eq_5, exS.eq_6, exS.eq_7, exS.eq_8, exS.eq_10, exS.eq_11, exS.eq_12, exS.eq_13, exS.eq_14, exS.eq_15, exS.eq_16, x_forr, evX.eq_1, evX.eq_2, evX.eq_3, evX.eq_4, evX.eq_5, evX.eq_6, evX.eq_7, evX.eq_8, evX.eq_9, evX.eq_10, evX.eq_11, evX.eq_12, evX.eq_13, evX.eq_14, evX.eq_15, evX.eq_16, evX.eq_17, evX.eq_18, evX.eq_19, evX.eq_20, evX.eq_21, evX.eq_22, evX.eq_24, evX.eq_25, evX.eq_26, evX.eq_29, x_aa, evF.eq_1, x_comp, evF.eq_3, evF.eq_4, evF.eq_5, x_sset2, fz, fz1, esc, escB, escs, escBs, escO, escF, escI, escJ, evXs, evBs, evO, evC, evI.eq_1, evI.eq_4, x_rng1, x_rng2, Pat.slots, wipeE, bindP, unpack, cmpD, ixD, L2.atI, L2.ixN, leave, run_s1, run_s2, run_s3, opD, truD, biD, insOf, itD, enD, slD, List.getElem?_cons_zero, List.getElem?_cons_succ, List.getElem?_nil, -getElem?_pos, sl2_iff, sizeL, lo] at hb
    refine ⟨_, _, .inl hb.symm, rfl, h3, out ++ [(low + x', low + y)], _, _, _, _, rfl, v3, by simp [ptD]; exact ⟨rfl, rfl, rfl, rfl⟩, by simp [ol], ?_⟩
    intro p hp
    rcases List.mem_append.mp hp with hp | hp
    · exact of p hp
    · simp at hp
      subst hp
      exact ⟨⟨by simp only; omega, by simp only; omega⟩, ⟨by simp only; omega, by simp only; omega⟩⟩)
  exact ⟨out, h1, by simp [runD, startE, x_cons, x_nil, t_nx, t_rt, t_bk, t_ct, t_no, exS.eq_1, exS.eq_2, exS.eq_3, exS.eq_4, exS.eq_5, exS.eq_6, exS.eq_7, exS.eq_8, exS.eq_10, exS.eq_11, exS.eq_12, exS.eq_13, exS.eq_14, exS.eq_15, exS.eq_16, x_forr, evX.eq_1, evX.eq_2, evX.eq_3, evX.eq_4, evX.eq_5, evX.eq_6, evX.eq_7, evX.eq_8, evX.eq_9, evX.eq_10, evX.eq_11, evX.eq_12, evX.eq_13, evX.eq_14, evX.eq_15, evX.eq_16, evX.eq_17, evX.eq_18, evX.eq_19, evX.eq_20, evX.eq_21, evX.eq_22, evX.eq_24, evX.eq_25, evX.eq_26, evX.eq_29, x_aa, evF.eq_1, x_comp, evF.eq_3, evF.eq_4, evF.eq_5, x_sset2, fz, fz1, esc, escB, escs, escBs, escO, escF, escI, escJ, evXs, evBs, evO, evC, evI.eq_1, evI.eq_4, x_rng1, x_rng2, Pat.slots, wipeE, bindP, unpack, cmpD, ixD, L2.atI, L2.ixN, leave, run_s1, run_s2, run_s3, opD, truD, biD, insOf, itD, enD, slD, List.getElem?_cons_zero, List.getElem?_cons_succ, List.getElem?_nil, -getElem?_pos, hw_len], v1, ol, fun a b hab => of (a, b) hab⟩
end P76
end
section
set_option Elab.async false
set_option linter.all false
set_option maxRecDepth 100000
set_option maxHeartbeats 1000000
namespace P76
open Pv Pu
open PySem (Str)
structure PairsOk (size most : Nat) (prs : List (Int × Int)) : Prop where
  nd : prs.Nodup
  ok : ∀ p ∈ prs, 0 ≤ p.1 ∧ p.1 < p.2 ∧ p.2 < size
  len : prs.length ≤ most
theorem pairs_spec {n : Nat} {h : Hs} {X : Wd} (hv : Hv h) {size most : Nat} (hs0 : 0 < size) (hs : size ≤ 1000) (hm : most ≤ 1000000) :
    ∃ (out : List (Int × Int)) (h' : Hs), run pg dfs (n+2) (n+2) 52 [.ref 3, .int size, .int most] (hw h X) = some (.lst (out.map ptD), hw h' X) ∧ Hv h' ∧ PairsOk size most out := by
  have p0 : (0 : Int) < size := by omega
  have p1 : (size : Int) < 1000000000 := by omega
  have p2 : (0 : Int) < 2 * size + 1 := by omega
  have p3 : (2 * size + 1 : Int) < 1000000000 := by omega
  have p4 : (size : Int) ≤ 1000000000 := by omega
  have sm2 : smallI 2 = true := by decide
  have v1 := drawH_v hv (many := 5) (by decide)
  have v2 := drawH_v v1 (many := 2 * size + 1) p2
  have d0 := drawD_lo (h := drawH 5 h) p2
  have d1 := drawD_hi (h := drawH 5 h) p2
  have d2 : drawD (2 * size + 1) (drawH 5 h) ≤ 1000000000 := by omega
  rw [run_def (by rfl : dfs 52 = some d52)]
  generalize hr : runD _ _ _ _ _ _ = r
  simp [d52, b52, runD, startE, x_cons, x_nil, t_nx, t_rt, t_bk, t_ct, t_no, exS.eq_1, exS.eq_2, exS.eq_3, exS.eq_4, exS.eq_5, exS.eq_6, exS.eq_7, exS.eq_8, exS.eq_10, exS.eq_11, exS.eq_12, exS.eq_13, exS.eq_14, exS.eq_15, exS.eq_16, x_forr, evX.eq_1, evX.eq_2, evX.eq_3, evX.eq_4, evX.eq_5, evX.eq_6, evX.eq_7, evX.eq_8, evX.eq_9, evX.eq_10, evX.eq_11, evX.eq_12, evX.eq_13, evX.eq_14, evX.eq_15, evX.eq_16, evX.eq_17, evX.eq_18, evX.eq_19, evX.eq_20, evX.eq_21, evX.eq_22, evX.eq_24, evX.eq_25, evX.eq_26, evX.eq_29, x_aa, evF.eq_1, x_comp, evF.eq_3, evF.eq_4, evF.eq_5, x_sset2, fz, fz1, esc, escB, escs, escBs, escO, escF, escI, escJ, evXs, evBs, evO, evC, evI.eq_1, evI.eq_4, x_rng1, x_rng2, Pat.slots, wipeE, bindP, unpack, cmpD, ixD, L2.atI, L2.ixN, leave, run_s1, run_s2, run_s3, opD, truD, biD, insOf, itD, enD, slD, List.getElem?_cons_zero, List.getElem?_cons_succ, List.getElem?_nil, -getElem?_pos, sl2_iff, draw_eq, hv, rngIf2_ok, p4] at hr
  generalize drawD 5 h = shape at hr
  generalize e : forL _ _ _ _ _ _ = o at hr
  obtain ⟨env1, W1, rfl, rfl, out, s5, rfl, nd1, ok1, sh1, l1⟩ := use_ki e (fun k env W' => W' = hw (drawH 5 h) X ∧ ∃ (out : List (Int × Int)) (s5 : Sv), env = [.val (.ref 3), .val (.int size), .val (.int most), .val (.int shape), .own (out.map ptD), s5, .no, .no] ∧ out.Nodup ∧ (∀ p ∈ out, 0 ≤ p.1 ∧ p.1 < p.2 ∧ p.2 ≤ k) ∧ (shape = 1 → ∀ p ∈ out, p.2 = p.1 + 1) ∧ out.length ≤ k)
    ⟨rfl, [], _, rfl, List.nodup_nil, by simp, by simp, by simp⟩ (by
    rintro k env W' hk ⟨rfl, out, s5, rfl, nd1, ok1, sh1, l1⟩
    have hk2 : (k : Int) < size - 1 := by omega
    generalize hb : bodyF _ _ _ _ _ _ _ _ = r
    have lo : out.length < 16777216 := by omega
    have fresh : ∀ a : Int, (a, 1 + (k : Int)) ∉ out := fun a hm => by have := (ok1 _ hm).2.2; simp only at this; omega
    have nd2 : ∀ a : Int, (out ++ [(a, 1 + (k : Int))]).Nodup := fun a => by
      rw [List.nodup_append]
      exact ⟨nd1, by simp, by intro x hx y hy e; simp at hy; exact fresh a (hy ▸ e ▸ hx)⟩
    by_cases h2 : shape < 2
    · have h3 : ¬ shape = 2 := by omega
      simp [bodyF, aaF, compF, set1F, set2F, runD, startE, x_cons, x_nil, t_nx, t_rt, t_bk, t_ct, t_no, exS.eq_1, exS.eq_2, exS.eq_3, exS.eq_4, exS.eq_5, exS.eq_6, exS.eq_7, exS.eq_8, exS.eq_10, exS.eq_11, exS.eq_12, exS.eq_13, exS.eq_14, exS.eq_15, exS.eq_16, x_forr, evX.eq_1, evX.eq_2, evX.eq_3, evX.eq_4, evX.eq_5, evX.eq_6, evX.eq_7, evX.eq_8, evX.eq_9, evX.eq_10, evX.eq_11, evX.eq_12, evX.eq_13, evX.eq_14, evX.eq_15, evX.eq_16, evX.eq_17, evX.eq_18, evX.eq_19, evX.eq_20, evX.eq_21, evX.eq_22, evX.eq_24, evX.eq_25, evX.eq_26, evX.eq_29, x_aa, evF.eq_1, x_comp, evF.eq_3, evF.eq_4, evF.eq_5, x_sset2, fz, fz1, esc, escB, escs, escBs, escO, escF, escI, escJ, evXs, evBs, evO, evC, evI.eq_1, evI.eq_4, x_rng1, x_rng2, Pat.slots, wipeE, bindP, unpack, cmpD, ixD, L2.atI, L2.ixN, leave, run_s1, run_s2, run_s3, opD, truD, biD, insOf, itD, enD, slD, List.getElem?_cons_zero, List.getElem?_cons_succ, List.getElem?_nil, -getElem?_pos, h2, h3, sl2_iff, sizeL, lo, eqD_int] at hb
      refine ⟨_, _, .inl hb.symm, rfl, rfl, out ++ [(1 + (k : Int) - 1, 1 + (k : Int))], _, by simp [ptD]; rfl, nd2 _, ?_, ?_, by simp; omega⟩
      · intro p hp
        rcases List.mem_append.mp hp with hp | hp
        · have := ok1 p hp; omega
        · simp at hp; subst hp; simp only; omega
      · intro hs p hp
        rcases List.mem_append.mp hp with hp | hp
        · exact sh1 hs p hp
        · simp at hp; subst hp; simp only; omega
    · by_cases h3 : shape = 2
      · simp [bodyF, aaF, compF, set1F, set2F, runD, startE, x_cons, x_nil, t_nx, t_rt, t_bk, t_ct, t_no, exS.eq_1, exS.eq_2, exS.eq_3, exS.eq_4, exS.eq_5, exS.eq_6, exS.eq_7, exS.eq_8, exS.eq_10, exS.eq_11, exS.eq_12, exS.eq_13, exS.eq_14, exS.eq_15, exS.eq_16, x_forr, evX.eq_1, evX.eq_2, evX.eq_3, evX.eq_4, evX.eq_5, evX.eq_6, evX.eq_7, evX.eq_8, evX.eq_9, evX.eq_10, evX.eq_11, evX.eq_12, evX.eq_13, evX.eq_14, evX.eq_15, evX.eq_16, evX.eq_17, evX.eq_18, evX.eq_19, evX.eq_20, evX.eq_21, evX.eq_22, evX.eq_24, evX.eq_25, evX.eq_26, evX.eq_29, x_aa, evF.eq_1, x_comp, evF.eq_3, evF.eq_4, evF.eq_5, x_sset2, fz, fz1, esc, escB, escs, escBs, escO, escF, escI, escJ, evXs, evBs, evO, evC, evI.eq_1, evI.eq_4, x_rng1, x_rng2, Pat.slots, wipeE, bindP, unpack, cmpD, ixD, L2.atI, L2.ixN, leave, run_s1, run_s2, run_s3, opD, truD, biD, insOf, itD, enD, slD, List.getElem?_cons_zero, List.getElem?_cons_succ, List.getElem?_nil, -getElem?_pos, h2, h3, sl2_iff, sizeL, lo, eqD_int] at hb
        refine ⟨_, _, .inl hb.symm, rfl, rfl, out ++ [(0, 1 + (k : Int))], _, by simp [ptD, h3]; rfl, nd2 _, ?_, fun hs => by omega, by simp; omega⟩
        intro p hp
        rcases List.mem_append.mp hp with hp | hp
        · have := ok1 p hp; omega
        · simp at hp; subst hp; simp only; omega
      · simp [bodyF, aaF, compF, set1F, set2F, runD, startE, x_cons, x_nil, t_nx, t_rt, t_bk, t_ct, t_no, exS.eq_1, exS.eq_2, exS.eq_3, exS.eq_4, exS.eq_5, exS.eq_6, exS.eq_7, exS.eq_8, exS.eq_10, exS.eq_11, exS.eq_12, exS.eq_13, exS.eq_14, exS.eq_15, exS.eq_16, x_forr, evX.eq_1, evX.eq_2, evX.eq_3, evX.eq_4, evX.eq_5, evX.eq_6, evX.eq_7, evX.eq_8, evX.eq_9, evX.eq_10, evX.eq_11, evX.eq_12, evX.eq_13, evX.eq_14, evX.eq_15, evX.eq_16, evX.eq_17, evX.eq_18, evX.eq_19, evX.eq_20, evX.eq_21, evX.eq_22, evX.eq_24, evX.eq_25, evX.eq_26, evX.eq_29, x_aa, evF.eq_1, x_comp, evF.eq_3, evF.eq_4, evF.eq_5, x_sset2, fz, fz1, esc, escB, escs, escBs, escO, escF, escI, escJ, evXs, evBs, evO, evC, evI.eq_1, evI.eq_4, x_rng1, x_rng2, Pat.slots, wipeE, bindP, unpack, cmpD, ixD, L2.atI, L2.ixN, leave, run_s1, run_s2, run_s3, opD, truD, biD, insOf, itD, enD, slD, List.getElem?_cons_zero, List.getElem?_cons_succ, List.getElem?_nil, -getElem?_pos, h2, h3, sl2_iff, sizeL, lo, eqD_int] at hb
        refine ⟨_, _, .inl hb.symm, rfl, rfl, out, _, rfl, nd1, fun p hp => by have := ok1 p hp; omega, sh1, by omega⟩)
  have lo : out.length < 16777216 := by omega
  obtain ⟨bb, hbb⟩ : ∃ bb, bb = b52.drop 4 := ⟨_, rfl⟩
  have hb2 := hbb
  simp only [b52, List.drop_succ_cons, List.drop_zero] at hb2
  rw [← hb2] at hr
  -- the drawn pairs
  have tail : ∀ (out2 : List (Int × Int)) (s5 : Sv), out2.Nodup → (∀ p ∈ out2, 0 ≤ p.1 ∧ p.1 < p.2 ∧ p.2 < size) → out2.length ≤ 1001 → ∃ (out3 : List (Int × Int)) (h' : Hs), exSs pg (run pg dfs (n+1)) (n+1) bb [.val (.ref 3), .val (.int size), .val (.int most), .val (.int shape), .own (out2.map ptD), s5, .no, .no] (hw (drawH 5 h) X) = some (.rt (.lst (out3.map ptD)) (hw h' X)) ∧ Hv h' ∧ PairsOk size most out3 := by
    intro out2 s5 nd2 ok2 l2
    rw [hb2]
    generalize hq : exSs _ _ _ _ _ _ = q
    simp [runD, startE, x_cons, x_nil, t_nx, t_rt, t_bk, t_ct, t_no, exS.eq_1, exS.eq_2, exS.eq_3, exS.eq_4, exS.eq_5, exS.eq_6, exS.eq_7, exS.eq_8, exS.eq_10, exS.eq_11, exS.eq_12, exS.eq_13, exS.eq_14, exS.eq_15, exS.eq_16, x_forr, evX.eq_1, evX.eq_2, evX.eq_3, evX.eq_4, evX.eq_5, evX.eq_6, evX.eq_7, evX.eq_8, evX.eq_9, evX.eq_10, evX.eq_11, evX.eq_12, evX.eq_13, evX.eq_14, evX.eq_15, evX.eq_16, evX.eq_17, evX.eq_18, evX.eq_19, evX.eq_20, evX.eq_21, evX.eq_22, evX.eq_24, evX.eq_25, evX.eq_26, evX.eq_29, x_aa, evF.eq_1, x_comp, evF.eq_3, evF.eq_4, evF.eq_5, x_sset2, fz, fz1, esc, escB, escs, escBs, escO, escF, escI, escJ, evXs, evBs, evO, evC, evI.eq_1, evI.eq_4, x_rng1, x_rng2, Pat.slots, wipeE, bindP, unpack, cmpD, ixD, L2.atI, L2.ixN, leave, run_s1, run_s2, run_s3, opD, truD, biD, insOf, itD, enD, slD, List.getElem?_cons_zero, List.getElem?_cons_succ, List.getElem?_nil, -getElem?_pos, draw_eq, v1, p2, p3, rngIf_ok, d0, d2, sm2] at hq
    generalize e : forL _ _ _ _ _ _ = o at hq
    obtain ⟨env1, W1, rfl, h3, out3, s5, s6, s7, rfl, v3, rfl, nd3, ok3, l3⟩ := use_ki e (fun k env W' => ∃ (h' : Hs) (out : List (Int × Int)) (s5 s6 s7 : Sv), W' = hw h' X ∧ Hv h' ∧ env = [.val (.ref 3), .val (.int size), .val (.int most), .val (.int shape), .own (out.map ptD), s5, s6, s7] ∧ out.Nodup ∧ (∀ p ∈ out, 0 ≤ p.1 ∧ p.1 < p.2 ∧ p.2 < size) ∧ out.length ≤ 1001 + k)
      ⟨_, out2, _, _, _, rfl, v2, rfl, nd2, ok2, l2⟩ (by
      rintro k env W' hk ⟨h', out, s5, s6, s7, rfl, v', rfl, nd', ok', l'⟩
      have hk2 : k < 3000 := by omega
      have lo : out.length < 16777216 := by omega
      generalize hb : bodyF _ _ _ _ _ _ _ _ = r
      have v4 := drawH_v v' (many := size) p0
      have v5 := drawH_v v4 (many := size) p0
      have a0 := drawD_lo (h := h') p0
      have b1 := drawD_hi (h := drawH size h') p0
      have i1 := inD_pt (hw (drawH size (drawH size h')) X) (drawD size h') (drawD size (drawH size h')) out
      by_cases hlt : drawD size h' < drawD size (drawH size h')
      · by_cases hin : (drawD size h', drawD size (drawH size h')) ∈ out
        · rw [decide_eq_true hin] at i1
          simp [bodyF, aaF, compF, set1F, set2F, runD, startE, x_cons, x_nil, t_nx, t_rt, t_bk, t_ct, t_no, exS.eq_1, exS.eq_2, exS.eq_3, exS.eq_4, exS.eq_5, exS.eq_6, exS.eq_7, exS.eq_8, exS.eq_10, exS.eq_11, exS.eq_12, exS.eq_13, exS.eq_14, exS.eq_15, exS.eq_16, x_forr, evX.eq_1, evX.eq_2, evX.eq_3, evX.eq_4, evX.eq_5, evX.eq_6, evX.eq_7, evX.eq_8, evX.eq_9, evX.eq_10, evX.eq_11, evX.eq_12, evX.eq_13, evX.eq_14, evX.eq_15, evX.eq_16, evX.eq_17, evX.eq_18, evX.eq_19, evX.eq_20, evX.eq_21, evX.eq_22, evX.eq_24, evX.eq_25, evX.eq_26, evX.eq_29, x_aa, evF.eq_1, x_comp, evF.eq_3, evF.eq_4, evF.eq_5, x_sset2, fz, fz1, esc, escB, escs, escBs, escO, escF, escI, escJ, evXs, evBs, evO, evC, evI.eq_1, evI.eq_4, x_rng1, x_rng2, Pat.slots, wipeE, bindP, unpack, cmpD, ixD, L2.atI, L2.ixN, leave, run_s1, run_s2, run_s3, opD, truD, biD, insOf, itD, enD, slD, List.getElem?_cons_zero, List.getElem?_cons_succ, List.getElem?_nil, -getElem?_pos, draw_eq v' p0 p1, draw_eq v4 p0 p1, hlt, sl2_iff, i1] at hb
          exact ⟨_, _, .inl hb.symm, rfl, _, out, _, _, _, rfl, v5, rfl, nd', ok', by omega⟩
        · rw [decide_eq_false hin] at i1
          simp [bodyF, aaF, compF, set1F, set2F, runD, startE, x_cons, x_nil, t_nx, t_rt, t_bk, t_ct, t_no, exS.eq_1, exS.eq_2, exS.eq_3, exS.eq_4, exS.eq_5, exS.eq_6, exS.eq_7, exS.eq_8, exS.eq_10, exS.eq_11, exS.eq_12, exS.eq_13, exS.eq_14, exS.eq_15, exS.eq_16, x_forr, evX.eq_1, evX.eq_2, evX.eq_3, evX.eq_4, evX.eq_5, evX.eq_6, evX.eq_7, evX.eq_8, evX.eq_9, evX.eq_10, evX.eq_11, evX.eq_12, evX.eq_13, evX.eq_14, evX.eq_15, evX.eq_16, evX.eq_17, evX.eq_18, evX.eq_19, evX.eq_20, evX.eq_21, evX.eq_22, evX.eq_24, evX.eq_25, evX.eq_26, evX.eq_29, x_aa, evF.eq_1, x_comp, evF.eq_3, evF.eq_4, evF.eq_5, x_sset2, fz, fz1, esc, escB, escs, escBs, escO, escF, escI, escJ, evXs, evBs, evO, evC, evI.eq_1, evI.eq_4, x_rng1, x_rng2, Pat.slots, wipeE, bindP, unpack, cmpD, ixD, L2.atI, L2.ixN, leave, run_s1, run_s2, run_s3, opD, truD, biD, insOf, itD, enD, slD, List.getElem?_cons_zero, List.getElem?_cons_succ, List.getElem?_nil, -getElem?_pos, draw_eq v' p0 p1, draw_eq v4 p0 p1, hlt, sl2_iff, i1, sizeL, lo] at hb
          refine ⟨_, _, .inl hb.symm, rfl, _, out ++ [(drawD size h', drawD size (drawH size h'))], _, _, _, rfl, v5, by simp [ptD]; exact ⟨rfl, rfl, rfl⟩, ?_, ?_, by simp; omega⟩
          · rw [List.nodup_append]
            exact ⟨nd', by simp, by intro x hx y hy e; simp at hy; exact hin (hy ▸ e ▸ hx)⟩
          · intro p hp
            rcases List.mem_append.mp hp with hp | hp
            · exact ok' p hp
            · simp at hp; subst hp; exact ⟨a0, hlt, b1⟩
      · simp [bodyF, aaF, compF, set1F, set2F, runD, startE, x_cons, x_nil, t_nx, t_rt, t_bk, t_ct, t_no, exS.eq_1, exS.eq_2, exS.eq_3, exS.eq_4, exS.eq_5, exS.eq_6, exS.eq_7, exS.eq_8, exS.eq_10, exS.eq_11, exS.eq_12, exS.eq_13, exS.eq_14, exS.eq_15, exS.eq_16, x_forr, evX.eq_1, evX.eq_2, evX.eq_3, evX.eq_4, evX.eq_5, evX.eq_6, evX.eq_7, evX.eq_8, evX.eq_9, evX.eq_10, evX.eq_11, evX.eq_12, evX.eq_13, evX.eq_14, evX.eq_15, evX.eq_16, evX.eq_17, evX.eq_18, evX.eq_19, evX.eq_20, evX.eq_21, evX.eq_22, evX.eq_24, evX.eq_25, evX.eq_26, evX.eq_29, x_aa, evF.eq_1, x_comp, evF.eq_3, evF.eq_4, evF.eq_5, x_sset2, fz, fz1, esc, escB, escs, escBs, escO, escF, escI, escJ, evXs, evBs, evO, evC, evI.eq_1, evI.eq_4, x_rng1, x_rng2, Pat.slots, wipeE, bindP, unpack, cmpD, ixD, L2.atI, L2.ixN, leave, run_s1, run_s2, run_s3, opD, truD, biD, insOf, itD, enD, slD, List.getElem?_cons_zero, List.getElem?_cons_succ, List.getElem?_nil, -getElem?_pos, draw_eq v' p0 p1, draw_eq v4 p0 p1, hlt] at hb
        exact ⟨_, _, .inl hb.symm, rfl, _, out, _, _, _, rfl, v5, rfl, nd', ok', by omega⟩)
    have ec : cutL (out3.map ptD) none (some (most : Int)) = (out3.take most).map ptD := by
      rw [cutL, HT.sIx_none, HT.sIx_nat, List.length_map, Nat.sub_zero, List.drop_zero, ← List.map_take]
      congr 1
      rw [Nat.min_comm]
      exact List.take_eq_take_iff.mpr (by omega)
    simp [runD, startE, x_cons, x_nil, t_nx, t_rt, t_bk, t_ct, t_no, exS.eq_1, exS.eq_2, exS.eq_3, exS.eq_4, exS.eq_5, exS.eq_6, exS.eq_7, exS.eq_8, exS.eq_10, exS.eq_11, exS.eq_12, exS.eq_13, exS.eq_14, exS.eq_15, exS.eq_16, x_forr, evX.eq_1, evX.eq_2, evX.eq_3, evX.eq_4, evX.eq_5, evX.eq_6, evX.eq_7, evX.eq_8, evX.eq_9, evX.eq_10, evX.eq_11, evX.eq_12, evX.eq_13, evX.eq_14, evX.eq_15, evX.eq_16, evX.eq_17, evX.eq_18, evX.eq_19, evX.eq_20, evX.eq_21, evX.eq_22, evX.eq_24, evX.eq_25, evX.eq_26, evX.eq_29, x_aa, evF.eq_1, x_comp, evF.eq_3, evF.eq_4, evF.eq_5, x_sset2, fz, fz1, esc, escB, escs, escBs, escO, escF, escI, escJ, evXs, evBs, evO, evC, evI.eq_1, evI.eq_4, x_rng1, x_rng2, Pat.slots, wipeE, bindP, unpack, cmpD, ixD, L2.atI, L2.ixN, leave, run_s1, run_s2, run_s3, opD, truD, biD, insOf, itD, enD, slD, List.getElem?_cons_zero, List.getElem?_cons_succ, List.getElem?_nil, -getElem?_pos, ec] at hq
    refine ⟨out3.take most, h3, by rw [← hq, List.map_take], v3, nd3.sublist (List.take_sublist ..), fun p hp => ok3 p (List.mem_of_mem_take hp), by rw [List.length_take]; omega⟩
  have wide : ∀ p ∈ out, 0 ≤ p.1 ∧ p.1 < p.2 ∧ p.2 < size := fun p hp => by have := ok1 p hp; omega
  have fin : ∀ (out3 : List (Int × Int)) (h' : Hs), leave false (hw h X) (.lst (out3.map ptD)) (hw h' X) = some (.lst (out3.map ptD), hw h' X) := fun _ _ => by simp [leave, hw_len]
  by_cases hring : shape = 1 ∧ (2 : Int) < size
  · obtain ⟨hs1, hs2⟩ := hring
    have hfr : (0, (size : Int) - 1) ∉ out := fun hm => by have := sh1 hs1 _ hm; simp only at this; omega
    obtain ⟨out3, h', e3, v3, ok3⟩ := tail (out ++ [(0, (size : Int) - 1)]) s5 (by
      rw [List.nodup_append]
      exact ⟨nd1, by simp, by intro x hx y hy e; simp at hy; exact hfr (hy ▸ e ▸ hx)⟩) (by
      intro p hp
      rcases List.mem_append.mp hp with hp | hp
      · exact wide p hp
      · simp at hp; subst hp; simp only; omega) (by simp; omega)
    simp [ptD] at e3
    simp [runD, startE, x_cons, x_nil, t_nx, t_rt, t_bk, t_ct, t_no, exS.eq_1, exS.eq_2, exS.eq_3, exS.eq_4, exS.eq_5, exS.eq_6, exS.eq_7, exS.eq_8, exS.eq_10, exS.eq_11, exS.eq_12, exS.eq_13, exS.eq_14, exS.eq_15, exS.eq_16, x_forr, evX.eq_1, evX.eq_2, evX.eq_3, evX.eq_4, evX.eq_5, evX.eq_6, evX.eq_7, evX.eq_8, evX.eq_9, evX.eq_10, evX.eq_11, evX.eq_12, evX.eq_13, evX.eq_14, evX.eq_15, evX.eq_16, evX.eq_17, evX.eq_18, evX.eq_19, evX.eq_20, evX.eq_21, evX.eq_22, evX.eq_24, evX.eq_25, evX.eq_26, evX.eq_29, x_aa, evF.eq_1, x_comp, evF.eq_3, evF.eq_4, evF.eq_5, x_sset2, fz, fz1, esc, escB, escs, escBs, escO, escF, escI, escJ, evXs, evBs, evO, evC, evI.eq_1, evI.eq_4, x_rng1, x_rng2, Pat.slots, wipeE, bindP, unpack, cmpD, ixD, L2.atI, L2.ixN, leave, run_s1, run_s2, run_s3, opD, truD, biD, insOf, itD, enD, slD, List.getElem?_cons_zero, List.getElem?_cons_succ, List.getElem?_nil, -getElem?_pos, hs1, hs2, sl2_iff, sizeL, lo, eqD_int] at hr
    simp [hs1] at e3
    rw [e3] at hr
    simp [runD, startE, x_cons, x_nil, t_nx, t_rt, t_bk, t_ct, t_no, exS.eq_1, exS.eq_2, exS.eq_3, exS.eq_4, exS.eq_5, exS.eq_6, exS.eq_7, exS.eq_8, exS.eq_10, exS.eq_11, exS.eq_12, exS.eq_13, exS.eq_14, exS.eq_15, exS.eq_16, x_forr, evX.eq_1, evX.eq_2, evX.eq_3, evX.eq_4, evX.eq_5, evX.eq_6, evX.eq_7, evX.eq_8, evX.eq_9, evX.eq_10, evX.eq_11, evX.eq_12, evX.eq_13, evX.eq_14, evX.eq_15, evX.eq_16, evX.eq_17, evX.eq_18, evX.eq_19, evX.eq_20, evX.eq_21, evX.eq_22, evX.eq_24, evX.eq_25, evX.eq_26, evX.eq_29, x_aa, evF.eq_1, x_comp, evF.eq_3, evF.eq_4, evF.eq_5, x_sset2, fz, fz1, esc, escB, escs, escBs, escO, escF, escI, escJ, evXs, evBs, evO, evC, evI.eq_1, evI.eq_4, x_rng1, x_rng2, Pat.slots, wipeE, bindP, unpack, cmpD, ixD, L2.atI, L2.ixN, leave, run_s1, run_s2, run_s3, opD, truD, biD, insOf, itD, enD, slD, List.getElem?_cons_zero, List.getElem?_cons_succ, List.getElem?_nil, -getElem?_pos, hw_len] at hr
    exact ⟨out3, h', hr.symm, v3, ok3⟩
  · obtain ⟨out3, h', e3, v3, ok3⟩ := tail out s5 nd1 wide (by omega)
    by_cases hs1 : shape = 1
    · have hs2 : ¬ (2 : Int) < size := fun q => hring ⟨hs1, q⟩
      simp [runD, startE, x_cons, x_nil, t_nx, t_rt, t_bk, t_ct, t_no, exS.eq_1, exS.eq_2, exS.eq_3, exS.eq_4, exS.eq_5, exS.eq_6, exS.eq_7, exS.eq_8, exS.eq_10, exS.eq_11, exS.eq_12, exS.eq_13, exS.eq_14, exS.eq_15, exS.eq_16, x_forr, evX.eq_1, evX.eq_2, evX.eq_3, evX.eq_4, evX.eq_5, evX.eq_6, evX.eq_7, evX.eq_8, evX.eq_9, evX.eq_10, evX.eq_11, evX.eq_12, evX.eq_13, evX.eq_14, evX.eq_15, evX.eq_16, evX.eq_17, evX.eq_18, evX.eq_19, evX.eq_20, evX.eq_21, evX.eq_22, evX.eq_24, evX.eq_25, evX.eq_26, evX.eq_29, x_aa, evF.eq_1, x_comp, evF.eq_3, evF.eq_4, evF.eq_5, x_sset2, fz, fz1, esc, escB, escs, escBs, escO, escF, escI, escJ, evXs, evBs, evO, evC, evI.eq_1, evI.eq_4, x_rng1, x_rng2, Pat.slots, wipeE, bindP, unpack, cmpD, ixD, L2.atI, L2.ixN, leave, run_s1, run_s2, run_s3, opD, truD, biD, insOf, itD, enD, slD, List.getElem?_cons_zero, List.getElem?_cons_succ, List.getElem?_nil, -getElem?_pos, hs1, hs2, sl2_iff, sizeL, lo, eqD_int] at hr
      simp [hs1] at e3
      rw [e3] at hr
      simp [runD, startE, x_cons, x_nil, t_nx, t_rt, t_bk, t_ct, t_no, exS.eq_1, exS.eq_2, exS.eq_3, exS.eq_4, exS.eq_5, exS.eq_6, exS.eq_7, exS.eq_8, exS.eq_10, exS.eq_11, exS.eq_12, exS.eq_13, exS.eq_14, exS.eq_15, exS.eq_16, x_forr, evX.eq_1, evX.eq_2, evX.eq_3, evX.eq_4, evX.eq_5, evX.eq_6, evX.eq_7, evX.eq_8, evX.eq_9, evX.eq_10, evX.eq_11, evX.eq_12, evX.eq_13, evX.eq_14, evX.eq_15, evX.eq_16, evX.eq_17, evX.eq_18, evX.eq_19, evX.eq_20, evX.eq_21, evX.eq_22, evX.eq_24, evX.eq_25, evX.eq_26, evX.eq_29, x_aa, evF.eq_1, x_comp, evF.eq_3, evF.eq_4, evF.eq_5, x_sset2, fz, fz1, esc, escB, escs, escBs, escO, escF, escI, escJ, evXs, evBs, evO, evC, evI.eq_1, evI.eq_4, x_rng1, x_rng2, Pat.slots, wipeE, bindP, unpack, cmpD, ixD, L2.atI, L2.ixN, leave, run_s1, run_s2, run_s3, opD, truD, biD, insOf, itD, enD, slD, List.getElem?_cons_zero, List.getElem?_cons_succ, List.getElem?_nil, -getElem?_pos, hw_len] at hr
      exact ⟨out3, h', hr.symm, v3, ok3⟩
    · simp [runD, startE, x_cons, x_nil, t_nx, t_rt, t_bk, t_ct, t_no, exS.eq_1, exS.eq_2, exS.eq_3, exS.eq_4, exS.eq_5, exS.eq_6, exS.eq_7, exS.eq_8, exS.eq_10, exS.eq_11, exS.eq_12, exS.eq_13, exS.eq_14, exS.eq_15, exS.eq_16, x_forr, evX.eq_1, evX.eq_2, evX.eq_3, evX.eq_4, evX.eq_5, evX.eq_6, evX.eq_7, evX.eq_8, evX.eq_9, evX.eq_10, evX.eq_11, evX.eq_12, evX.eq_13, evX.eq_14, evX.eq_15, evX.eq_16, evX.eq_17, evX.eq_18, evX.eq_19, evX.eq_20, evX.eq_21, evX.eq_22, evX.eq_24, evX.eq_25, evX.eq_26, evX.eq_29, x_aa, evF.eq_1, x_comp, evF.eq_3, evF.eq_4, evF.eq_5, x_sset2, fz, fz1, esc, escB, escs, escBs, escO, escF, escI, escJ, evXs, evBs, evO, evC, evI.eq_1, evI.eq_4, x_rng1, x_rng2, Pat.slots, wipeE, bindP, unpack, cmpD, ixD, L2.atI, L2.ixN, leave, run_s1, run_s2, run_s3, opD, truD, biD, insOf, itD, enD, slD, List.getElem?_cons_zero, List.getElem?_cons_succ, List.getElem?_nil, -getElem?_pos, hs1, sl2_iff, sizeL, lo, eqD_int] at hr
      rw [e3] at hr
      simp [runD, startE, x_cons, x_nil, t_nx, t_rt, t_bk, t_ct, t_no, exS.eq_1, exS.eq_2, exS.eq_3, exS.eq_4, exS.eq_5, exS.eq_6, exS.eq_7, exS.eq_8, exS.eq_10, exS.eq_11, exS.eq_12, exS.eq_13, exS.eq_14, exS.eq_15, exS.eq_16, x_forr, evX.eq_1, evX.eq_2, evX.eq_3, evX.eq_4, evX.eq_5, evX.eq_6, evX.eq_7, evX.eq_8, evX.eq_9, evX.eq_10, evX.eq_11, evX.eq_12, evX.eq_13, evX.eq_14, evX.eq_15, evX.eq_16, evX.eq_17, evX.eq_18, evX.eq_19, evX.eq_20, evX.eq_21, evX.eq_22, evX.eq_24, evX.eq_25, evX.eq_26, evX.eq_29, x_aa, evF.eq_1, x_comp, evF.eq_3, evF.eq_4, evF.eq_5, x_sset2, fz, fz1, esc, escB, escs, escBs, escO, escF, escI, escJ, evXs, evBs, evO, evC, evI.eq_1, evI.eq_4, x_rng1, x_rng2, Pat.slots, wipeE, bindP, unpack, cmpD, ixD, L2.atI, L2.ixN, leave, run_s1, run_s2, run_s3, opD, truD, biD, insOf, itD, enD, slD, List.getElem?_cons_zero, List.getElem?_cons_succ, List.getElem?_nil, -getElem?_pos, hw_len] at hr
      exact ⟨out3, h', hr.symm, v3, ok3⟩
end P76
end
section
set_option Elab.async false
set_option linter.all false
set_option maxRecDepth 100000
set_option maxHeartbeats 1000000
namespace P76
open Pv Pu
open PySem (Str)
def isPl : Itm → Bool
  | .pl .. => true
  | _ => false
/-- every road stands behind its places -/
def EndsOk (its : List Itm) : Prop := ∀ done a b c k rest, its = done ++ .rd a b c k :: rest → a ∈ places done ∧ b ∈ places done
theorem places_app (a b : List Itm) : places (a ++ b) = places a ++ places b := by simp [places]
theorem keys_app (a b : List Itm) : keys (a ++ b) = keys a ++ keys b := by simp [keys]
theorem places_rd {l : List Itm} (h : ∀ x ∈ l, isPl x = false) : places l = [] := by
  induction l with
  | nil => rfl
  | cons x l ih =>
    have h1 := h x (List.mem_cons_self ..)
    cases x with
    | pl => simp [isPl] at h1
    | rd a b c k =>
      have := ih (fun y hy => h y (List.mem_cons_of_mem _ hy))
      simpa [places, plOf, List.filterMap_cons] using this
theorem keys_pl {l : List Itm} (h : ∀ x ∈ l, isPl x = true) : keys l = [] := by
  induction l with
  | nil => rfl
  | cons x l ih =>
    have h1 := h x (List.mem_cons_self ..)
    cases x with
    | rd => simp [isPl] at h1
    | pl =>
      have := ih (fun y hy => h y (List.mem_cons_of_mem _ hy))
      simpa [keys, keyO, List.filterMap_cons] using this
/-- one more item behind -/
theorem EndsOk.snoc {its : List Itm} (h : EndsOk its) {x : Itm} (hx : ∀ a b c k, x = .rd a b c k → a ∈ places its ∧ b ∈ places its) : EndsOk (its ++ [x]) := by
  intro done a b c k rest e
  rcases List.append_eq_append_iff.mp e with ⟨m, e1, e2⟩ | ⟨m, e1, e2⟩
  · cases m with
    | nil =>
      simp at e2 e1
      obtain ⟨rfl, rfl⟩ := e2
      subst e1
      exact hx _ _ _ _ rfl
    | cons y m => simp at e2
  · cases m with
    | nil =>
      simp at e2 e1
      obtain ⟨rfl, rfl⟩ := e2
      subst e1
      exact hx _ _ _ _ rfl
    | cons y m =>
      simp at e2
      obtain ⟨e3, e4⟩ := e2
      subst e3
      exact h done a b c k m e1
theorem EndsOk.app {its l : List Itm} (h : EndsOk its) (hl : ∀ a b c k, Itm.rd a b c k ∈ l → a ∈ places its ∧ b ∈ places its) : EndsOk (its ++ l) := by
  induction l generalizing its with
  | nil => simpa using h
  | cons x l ih =>
    have := ih (h.snoc (x := x) (fun a b c k e => hl a b c k (e ▸ List.mem_cons_self ..))) (fun a b c k hm => by
      have := hl a b c k (List.mem_cons_of_mem _ hm)
      rw [places_app]
      exact ⟨List.mem_append_left _ this.1, List.mem_append_left _ this.2⟩)
    simpa using this
theorem mixed_spec {n : Nat} {h : Hs} {X : Wd} (hv : Hv h) {pls rds : List Itm} (hp : ∀ x ∈ pls, isPl x = true) (hr : ∀ x ∈ rds, isPl x = false) (hl : pls.length + rds.length ≤ 10000)
    (he : ∀ a b c k, Itm.rd a b c k ∈ rds → a ∈ places pls ∧ b ∈ places pls) :
    ∃ (its : List Itm) (h' : Hs), run pg dfs (n+2) (n+2) 53 [.ref 3, .lst (pls.map Itm.d), .lst (rds.map Itm.d)] (hw h X) = some (.lst (its.map Itm.d), hw h' X) ∧ Hv h' ∧ its.Perm (pls ++ rds) ∧ places its = places pls ∧ EndsOk its := by
  rw [run_def (by rfl : dfs 53 = some d53)]
  generalize hr0 : runD _ _ _ _ _ _ = r
  simp [d53, b53, runD, startE, x_cons, x_nil, t_nx, t_rt, t_bk, t_ct, t_no, exS.eq_1, exS.eq_2, exS.eq_3, exS.eq_4, exS.eq_5, exS.eq_6, exS.eq_7, exS.eq_8, exS.eq_10, exS.eq_11, exS.eq_12, exS.eq_13, exS.eq_14, exS.eq_15, exS.eq_16, x_forr, evX.eq_1, evX.eq_2, evX.eq_3, evX.eq_4, evX.eq_5, evX.eq_6, evX.eq_7, evX.eq_8, evX.eq_9, evX.eq_10, evX.eq_11, evX.eq_12, evX.eq_13, evX.eq_14, evX.eq_15, evX.eq_16, evX.eq_17, evX.eq_18, evX.eq_19, evX.eq_20, evX.eq_21, evX.eq_22, evX.eq_24, evX.eq_25, evX.eq_26, evX.eq_29, x_aa, evF.eq_1, x_comp, evF.eq_3, evF.eq_4, evF.eq_5, x_sset2, fz, fz1, esc, escB, escs, escBs, escO, escF, escI, escJ, evXs, evBs, evO, evC, evI.eq_1, evI.eq_4, x_rng1, x_rng2, Pat.slots, wipeE, bindP, unpack, cmpD, ixD, L2.atI, L2.ixN, leave, run_s1, run_s2, run_s3, opD, truD, biD, insOf, itD, enD, slD, List.getElem?_cons_zero, List.getElem?_cons_succ, List.getElem?_nil, -getElem?_pos, sl2_iff] at hr0
  generalize e : forL _ _ _ _ _ _ = o at hr0
  obtain ⟨env1, W1, rfl, h1, items, left, s5, s6, s7, s8, s9, rfl, v1, rfl, perm, pe, ends, lrd⟩ := use_i (gmap_map Itm.d 0 _) e (fun done env W' => ∃ (h' : Hs) (items left : List Itm) (s5 s6 s7 s8 s9 : Sv), W' = hw h' X ∧ Hv h' ∧ env = [.val (.ref 3), .val (.lst (pls.map Itm.d)), .val (.lst (rds.map Itm.d)), .own (items.map Itm.d), .val (.lst (left.map Itm.d)), s5, s6, s7, s8, s9] ∧ (items ++ left).Perm (done ++ rds) ∧ places items = places done ∧ EndsOk items ∧ (∀ x ∈ left, isPl x = false))
    ⟨h, [], rds, _, _, _, _, _, rfl, hv, rfl, by simp, rfl, by intro done a b c k rest e; simp at e, hr⟩ (by
    rintro done x rest env W' hd ⟨h', items, left, s5, s6, s7, s8, s9, rfl, v', rfl, perm, pe, ends, lrd⟩
    have hx : isPl x = true := hp x (by rw [hd]; simp)
    have lsum : items.length + left.length = done.length + rds.length := by simpa using perm.length_eq
    have ld : done.length < pls.length := by rw [hd]; simp
    have lo : items.length < 16777216 := by omega
    have lo1 : items.length + 1 < 16777216 := by omega
    generalize hb : bodyF _ _ _ _ _ _ _ _ = r
    simp [bodyF, aaF, compF, set1F, set2F, runD, startE, x_cons, x_nil, t_nx, t_rt, t_bk, t_ct, t_no, exS.eq_1, exS.eq_2, exS.eq_3, exS.eq_4, exS.eq_5, exS.eq_6, exS.eq_7, exS.eq_8, exS.eq_10, exS.eq_11, exS.eq_12, exS.eq_13, exS.eq_14, exS.eq_15, exS.eq_16, x_forr, evX.eq_1, evX.eq_2, evX.eq_3, evX.eq_4, evX.eq_5, evX.eq_6, evX.eq_7, evX.eq_8, evX.eq_9, evX.eq_10, evX.eq_11, evX.eq_12, evX.eq_13, evX.eq_14, evX.eq_15, evX.eq_16, evX.eq_17, evX.eq_18, evX.eq_19, evX.eq_20, evX.eq_21, evX.eq_22, evX.eq_24, evX.eq_25, evX.eq_26, evX.eq_29, x_aa, evF.eq_1, x_comp, evF.eq_3, evF.eq_4, evF.eq_5, x_sset2, fz, fz1, esc, escB, escs, escBs, escO, escF, escI, escJ, evXs, evBs, evO, evC, evI.eq_1, evI.eq_4, x_rng1, x_rng2, Pat.slots, wipeE, bindP, unpack, cmpD, ixD, L2.atI, L2.ixN, leave, run_s1, run_s2, run_s3, opD, truD, biD, insOf, itD, enD, slD, List.getElem?_cons_zero, List.getElem?_cons_succ, List.getElem?_nil, -getElem?_pos, sizeL, lo, lo1] at hb
    rw [mapL_pure (p := fun d => match d with | .tup (.str w :: .str nm :: _) => if w = PySem.Str.ofString "place" then some (.str nm) else none | _ => none) rfl _ (by
      intro d hd
      have : ∃ y ∈ items ++ [x], d = Itm.d y := by
        rcases List.mem_append.mp hd with hd | hd
        · obtain ⟨y, hy, rfl⟩ := List.mem_map.mp hd
          exact ⟨y, List.mem_append_left _ hy, rfl⟩
        · simp at hd
          exact ⟨x, by simp, hd⟩
      obtain ⟨y, hy, rfl⟩ := this
      cases y with
      | pl nm x y k => simp [bodyF, aaF, compF, set1F, set2F, runD, startE, x_cons, x_nil, t_nx, t_rt, t_bk, t_ct, t_no, exS.eq_1, exS.eq_2, exS.eq_3, exS.eq_4, exS.eq_5, exS.eq_6, exS.eq_7, exS.eq_8, exS.eq_10, exS.eq_11, exS.eq_12, exS.eq_13, exS.eq_14, exS.eq_15, exS.eq_16, x_forr, evX.eq_1, evX.eq_2, evX.eq_3, evX.eq_4, evX.eq_5, evX.eq_6, evX.eq_7, evX.eq_8, evX.eq_9, evX.eq_10, evX.eq_11, evX.eq_12, evX.eq_13, evX.eq_14, evX.eq_15, evX.eq_16, evX.eq_17, evX.eq_18, evX.eq_19, evX.eq_20, evX.eq_21, evX.eq_22, evX.eq_24, evX.eq_25, evX.eq_26, evX.eq_29, x_aa, evF.eq_1, x_comp, evF.eq_3, evF.eq_4, evF.eq_5, x_sset2, fz, fz1, esc, escB, escs, escBs, escO, escF, escI, escJ, evXs, evBs, evO, evC, evI.eq_1, evI.eq_4, x_rng1, x_rng2, Pat.slots, wipeE, bindP, unpack, cmpD, ixD, L2.atI, L2.ixN, leave, run_s1, run_s2, run_s3, opD, truD, biD, insOf, itD, enD, slD, List.getElem?_cons_zero, List.getElem?_cons_succ, List.getElem?_nil, -getElem?_pos, Itm.d, eqD_str]
      | rd a b c k => simp [bodyF, aaF, compF, set1F, set2F, runD, startE, x_cons, x_nil, t_nx, t_rt, t_bk, t_ct, t_no, exS.eq_1, exS.eq_2, exS.eq_3, exS.eq_4, exS.eq_5, exS.eq_6, exS.eq_7, exS.eq_8, exS.eq_10, exS.eq_11, exS.eq_12, exS.eq_13, exS.eq_14, exS.eq_15, exS.eq_16, x_forr, evX.eq_1, evX.eq_2, evX.eq_3, evX.eq_4, evX.eq_5, evX.eq_6, evX.eq_7, evX.eq_8, evX.eq_9, evX.eq_10, evX.eq_11, evX.eq_12, evX.eq_13, evX.eq_14, evX.eq_15, evX.eq_16, evX.eq_17, evX.eq_18, evX.eq_19, evX.eq_20, evX.eq_21, evX.eq_22, evX.eq_24, evX.eq_25, evX.eq_26, evX.eq_29, x_aa, evF.eq_1, x_comp, evF.eq_3, evF.eq_4, evF.eq_5, x_sset2, fz, fz1, esc, escB, escs, escBs, escO, escF, escI, escJ, evXs, evBs, evO, evC, evI.eq_1, evI.eq_4, x_rng1, x_rng2, Pat.slots, wipeE, bindP, unpack, cmpD, ixD, L2.atI, L2.ixN, leave, run_s1, run_s2, run_s3, opD, truD, biD, insOf, itD, enD, slD, List.getElem?_cons_zero, List.getElem?_cons_succ, List.getElem?_nil, -getElem?_pos, Itm.d, eqD_str, s_rp])] at hb
    have ep : ∀ l : List Itm, (l.map Itm.d).filterMap (fun d => match d with | .tup (.str w :: .str nm :: _) => if w = PySem.Str.ofString "place" then some (D.str nm) else none | _ => none) = (places l).map .str := by
      intro l
      induction l with
      | nil => rfl
      | cons y l ih => cases y <;> simp [Itm.d, places, plOf, List.filterMap_cons, s_rp] at ih ⊢ <;> exact ih
    have ep2 := ep (items ++ [x])
    rw [List.map_append] at ep2
    simp only [List.map_cons, List.map_nil] at ep2
    rw [ep2] at hb
    simp [runD, startE, x_cons, x_nil, t_nx, t_rt, t_bk, t_ct, t_no, exS.eq_1, exS.eq_2, exS.eq_3, exS.eq_4, exS.eq_5, exS.eq_6, exS.eq_7, exS.eq_8, exS.eq_10, exS.eq_11, exS.eq_12, exS.eq_13, exS.eq_14, exS.eq_15, exS.eq_16, x_forr, evX.eq_1, evX.eq_2, evX.eq_3, evX.eq_4, evX.eq_5, evX.eq_6, evX.eq_7, evX.eq_8, evX.eq_9, evX.eq_10, evX.eq_11, evX.eq_12, evX.eq_13, evX.eq_14, evX.eq_15, evX.eq_16, evX.eq_17, evX.eq_18, evX.eq_19, evX.eq_20, evX.eq_21, evX.eq_22, evX.eq_24, evX.eq_25, evX.eq_26, evX.eq_29, x_aa, evF.eq_1, x_comp, evF.eq_3, evF.eq_4, evF.eq_5, x_sset2, fz, fz1, esc, escB, escs, escBs, escO, escF, escI, escJ, evXs, evBs, evO, evC, evI.eq_1, evI.eq_4, x_rng1, x_rng2, Pat.slots, wipeE, bindP, unpack, cmpD, ixD, L2.atI, L2.ixN, leave, run_s1, run_s2, run_s3, opD, truD, biD, insOf, itD, enD, slD, List.getElem?_cons_zero, List.getElem?_cons_succ, List.getElem?_nil, -getElem?_pos, sl2_iff] at hb
    generalize e2 : forL _ _ _ _ _ _ = o2 at hb
    obtain ⟨env2, W2, rfl, h2, items2, later, s9', rfl, v2, rfl, perm2, pe2, ends2, lrd2⟩ := use_i (gmap_map Itm.d 0 _) e2 (fun done2 env W' => ∃ (h' : Hs) (items2 later : List Itm) (s9 : Sv), W' = hw h' X ∧ Hv h' ∧ env = [.val (.ref 3), .val (.lst (pls.map Itm.d)), .val (.lst (rds.map Itm.d)), .own (items2.map Itm.d), .val (.lst (left.map Itm.d)), .val x.d, .own ((places (items ++ [x])).map .str), s7, .own (later.map Itm.d), s9] ∧ (items2 ++ later).Perm ((items ++ [x]) ++ done2) ∧ places items2 = places (items ++ [x]) ∧ EndsOk items2 ∧ (∀ y ∈ later, isPl y = false))
      ⟨h', items ++ [x], [], _, rfl, v', by simp; rfl, by simp, rfl, ends.snoc (by rintro a b c k rfl; simp [isPl] at hx), by simp⟩ (by
      rintro done2 y rest2 env W' hd2 ⟨h', items2, later, s9, rfl, v', rfl, perm2, pe2, ends2, lrd2⟩
      have hy : isPl y = false := lrd y (by rw [hd2]; simp)
      have lsum2 : items2.length + later.length = items.length + (done2.length + 1) := by simpa using perm2.length_eq
      have ld2 : done2.length < left.length := by rw [hd2]; simp
      have lo2 : items2.length < 16777216 := by omega
      have lo3 : later.length < 16777216 := by omega
      cases y with
      | pl => simp [isPl] at hy
      | rd a b c k =>
        generalize hb : bodyF _ _ _ _ _ _ _ _ = r
        have i1 := inD_lst_str (hw h' X) a (places (items ++ [x]))
        have i2 := inD_lst_str (hw h' X) b (places (items ++ [x]))
        have later_case : r = some (.nx [.val (.ref 3), .val (.lst (pls.map Itm.d)), .val (.lst (rds.map Itm.d)), .own (items2.map Itm.d), .val (.lst (left.map Itm.d)), .val x.d, .own ((places (items ++ [x])).map .str), s7, .own ((later ++ [Itm.rd a b c k]).map Itm.d), .val (Itm.rd a b c k).d] (hw h' X)) ∨ r = some (.nx [.val (.ref 3), .val (.lst (pls.map Itm.d)), .val (.lst (rds.map Itm.d)), .own (items2.map Itm.d), .val (.lst (left.map Itm.d)), .val x.d, .own ((places (items ++ [x])).map .str), s7, .own ((later ++ [Itm.rd a b c k]).map Itm.d), .val (Itm.rd a b c k).d] (hw (drawH 3 h') X)) ∨ (a ∈ places (items ++ [x]) ∧ b ∈ places (items ++ [x]) ∧ r = some (.nx [.val (.ref 3), .val (.lst (pls.map Itm.d)), .val (.lst (rds.map Itm.d)), .own ((items2 ++ [Itm.rd a b c k]).map Itm.d), .val (.lst (left.map Itm.d)), .val x.d, .own ((places (items ++ [x])).map .str), s7, .own (later.map Itm.d), .val (Itm.rd a b c k).d] (hw (drawH 3 h') X))) := by
          by_cases ha : a ∈ places (items ++ [x])
          · rw [decide_eq_true ha] at i1
            by_cases hb' : b ∈ places (items ++ [x])
            · rw [decide_eq_true hb'] at i2
              by_cases hz : drawD 3 h' = 0
              · right; right
                simp [bodyF, aaF, compF, set1F, set2F, runD, startE, x_cons, x_nil, t_nx, t_rt, t_bk, t_ct, t_no, exS.eq_1, exS.eq_2, exS.eq_3, exS.eq_4, exS.eq_5, exS.eq_6, exS.eq_7, exS.eq_8, exS.eq_10, exS.eq_11, exS.eq_12, exS.eq_13, exS.eq_14, exS.eq_15, exS.eq_16, x_forr, evX.eq_1, evX.eq_2, evX.eq_3, evX.eq_4, evX.eq_5, evX.eq_6, evX.eq_7, evX.eq_8, evX.eq_9, evX.eq_10, evX.eq_11, evX.eq_12, evX.eq_13, evX.eq_14, evX.eq_15, evX.eq_16, evX.eq_17, evX.eq_18, evX.eq_19, evX.eq_20, evX.eq_21, evX.eq_22, evX.eq_24, evX.eq_25, evX.eq_26, evX.eq_29, x_aa, evF.eq_1, x_comp, evF.eq_3, evF.eq_4, evF.eq_5, x_sset2, fz, fz1, esc, escB, escs, escBs, escO, escF, escI, escJ, evXs, evBs, evO, evC, evI.eq_1, evI.eq_4, x_rng1, x_rng2, Pat.slots, wipeE, bindP, unpack, cmpD, ixD, L2.atI, L2.ixN, leave, run_s1, run_s2, run_s3, opD, truD, biD, insOf, itD, enD, slD, List.getElem?_cons_zero, List.getElem?_cons_succ, List.getElem?_nil, -getElem?_pos, Itm.d, i1, i2, draw_eq, v', hz, eqD_int, sizeL, lo2, lo3] at hb
                exact ⟨ha, hb', by rw [← hb]; simp [Itm.d]⟩
              · right; left
                simp [bodyF, aaF, compF, set1F, set2F, runD, startE, x_cons, x_nil, t_nx, t_rt, t_bk, t_ct, t_no, exS.eq_1, exS.eq_2, exS.eq_3, exS.eq_4, exS.eq_5, exS.eq_6, exS.eq_7, exS.eq_8, exS.eq_10, exS.eq_11, exS.eq_12, exS.eq_13, exS.eq_14, exS.eq_15, exS.eq_16, x_forr, evX.eq_1, evX.eq_2, evX.eq_3, evX.eq_4, evX.eq_5, evX.eq_6, evX.eq_7, evX.eq_8, evX.eq_9, evX.eq_10, evX.eq_11, evX.eq_12, evX.eq_13, evX.eq_14, evX.eq_15, evX.eq_16, evX.eq_17, evX.eq_18, evX.eq_19, evX.eq_20, evX.eq_21, evX.eq_22, evX.eq_24, evX.eq_25, evX.eq_26, evX.eq_29, x_aa, evF.eq_1, x_comp, evF.eq_3, evF.eq_4, evF.eq_5, x_sset2, fz, fz1, esc, escB, escs, escBs, escO, escF, escI, escJ, evXs, evBs, evO, evC, evI.eq_1, evI.eq_4, x_rng1, x_rng2, Pat.slots, wipeE, bindP, unpack, cmpD, ixD, L2.atI, L2.ixN, leave, run_s1, run_s2, run_s3, opD, truD, biD, insOf, itD, enD, slD, List.getElem?_cons_zero, List.getElem?_cons_succ, List.getElem?_nil, -getElem?_pos, Itm.d, i1, i2, draw_eq, v', hz, eqD_int, sizeL, lo2, lo3] at hb
                rw [← hb]; simp [Itm.d]
            · rw [decide_eq_false hb'] at i2
              left
              simp [bodyF, aaF, compF, set1F, set2F, runD, startE, x_cons, x_nil, t_nx, t_rt, t_bk, t_ct, t_no, exS.eq_1, exS.eq_2, exS.eq_3, exS.eq_4, exS.eq_5, exS.eq_6, exS.eq_7, exS.eq_8, exS.eq_10, exS.eq_11, exS.eq_12, exS.eq_13, exS.eq_14, exS.eq_15, exS.eq_16, x_forr, evX.eq_1, evX.eq_2, evX.eq_3, evX.eq_4, evX.eq_5, evX.eq_6, evX.eq_7, evX.eq_8, evX.eq_9, evX.eq_10, evX.eq_11, evX.eq_12, evX.eq_13, evX.eq_14, evX.eq_15, evX.eq_16, evX.eq_17, evX.eq_18, evX.eq_19, evX.eq_20, evX.eq_21, evX.eq_22, evX.eq_24, evX.eq_25, evX.eq_26, evX.eq_29, x_aa, evF.eq_1, x_comp, evF.eq_3, evF.eq_4, evF.eq_5, x_sset2, fz, fz1, esc, escB, escs, escBs, escO, escF, escI, escJ, evXs, evBs, evO, evC, evI.eq_1, evI.eq_4, x_rng1, x_rng2, Pat.slots, wipeE, bindP, unpack, cmpD, ixD, L2.atI, L2.ixN, leave, run_s1, run_s2, run_s3, opD, truD, biD, insOf, itD, enD, slD, List.getElem?_cons_zero, List.getElem?_cons_succ, List.getElem?_nil, -getElem?_pos, Itm.d, i1, i2, draw_eq, v', eqD_int, sizeL, lo2, lo3] at hb
              rw [← hb]; simp [Itm.d]
          · rw [decide_eq_false ha] at i1
            left
            simp [bodyF, aaF, compF, set1F, set2F, runD, startE, x_cons, x_nil, t_nx, t_rt, t_bk, t_ct, t_no, exS.eq_1, exS.eq_2, exS.eq_3, exS.eq_4, exS.eq_5, exS.eq_6, exS.eq_7, exS.eq_8, exS.eq_10, exS.eq_11, exS.eq_12, exS.eq_13, exS.eq_14, exS.eq_15, exS.eq_16, x_forr, evX.eq_1, evX.eq_2, evX.eq_3, evX.eq_4, evX.eq_5, evX.eq_6, evX.eq_7, evX.eq_8, evX.eq_9, evX.eq_10, evX.eq_11, evX.eq_12, evX.eq_13, evX.eq_14, evX.eq_15, evX.eq_16, evX.eq_17, evX.eq_18, evX.eq_19, evX.eq_20, evX.eq_21, evX.eq_22, evX.eq_24, evX.eq_25, evX.eq_26, evX.eq_29, x_aa, evF.eq_1, x_comp, evF.eq_3, evF.eq_4, evF.eq_5, x_sset2, fz, fz1, esc, escB, escs, escBs, escO, escF, escI, escJ, evXs, evBs, evO, evC, evI.eq_1, evI.eq_4, x_rng1, x_rng2, Pat.slots, wipeE, bindP, unpack, cmpD, ixD, L2.atI, L2.ixN, leave, run_s1, run_s2, run_s3, opD, truD, biD, insOf, itD, enD, slD, List.getElem?_cons_zero, List.getElem?_cons_succ, List.getElem?_nil, -getElem?_pos, Itm.d, i1, i2, draw_eq, v', eqD_int, sizeL, lo2, lo3] at hb
            rw [← hb]; simp [Itm.d]
        have lrd3 : ∀ y ∈ later ++ [Itm.rd a b c k], isPl y = false := fun y hy => by
          rcases List.mem_append.mp hy with hy | hy
          · exact lrd2 y hy
          · simp at hy; subst hy; rfl
        have permL : (items2 ++ (later ++ [Itm.rd a b c k])).Perm ((items ++ [x]) ++ (done2 ++ [Itm.rd a b c k])) := by
          rw [← List.append_assoc, ← List.append_assoc]
          exact perm2.append_right _
        rcases later_case with e | e | ⟨ha, hb', e⟩
        · exact ⟨_, _, .inl e, rfl, h', items2, later ++ [Itm.rd a b c k], _, rfl, v', rfl, permL, pe2, ends2, lrd3⟩
        · exact ⟨_, _, .inl e, rfl, _, items2, later ++ [Itm.rd a b c k], _, rfl, drawH_v v' (by decide), rfl, permL, pe2, ends2, lrd3⟩
        · refine ⟨_, _, .inl e, rfl, _, items2 ++ [Itm.rd a b c k], later, _, rfl, drawH_v v' (by decide), rfl, ?_, ?_, ends2.snoc (by rintro a b c k e; cases e; rw [pe2]; exact ⟨ha, hb'⟩), lrd2⟩
          · refine List.Perm.trans ?_ permL
            rw [List.append_assoc]
            exact List.Perm.append_left _ List.perm_append_comm
          · rw [places_app, pe2]; simp [places, plOf, List.filterMap_cons])
    simp [runD, startE, x_cons, x_nil, t_nx, t_rt, t_bk, t_ct, t_no, exS.eq_1, exS.eq_2, exS.eq_3, exS.eq_4, exS.eq_5, exS.eq_6, exS.eq_7, exS.eq_8, exS.eq_10, exS.eq_11, exS.eq_12, exS.eq_13, exS.eq_14, exS.eq_15, exS.eq_16, x_forr, evX.eq_1, evX.eq_2, evX.eq_3, evX.eq_4, evX.eq_5, evX.eq_6, evX.eq_7, evX.eq_8, evX.eq_9, evX.eq_10, evX.eq_11, evX.eq_12, evX.eq_13, evX.eq_14, evX.eq_15, evX.eq_16, evX.eq_17, evX.eq_18, evX.eq_19, evX.eq_20, evX.eq_21, evX.eq_22, evX.eq_24, evX.eq_25, evX.eq_26, evX.eq_29, x_aa, evF.eq_1, x_comp, evF.eq_3, evF.eq_4, evF.eq_5, x_sset2, fz, fz1, esc, escB, escs, escBs, escO, escF, escI, escJ, evXs, evBs, evO, evC, evI.eq_1, evI.eq_4, x_rng1, x_rng2, Pat.slots, wipeE, bindP, unpack, cmpD, ixD, L2.atI, L2.ixN, leave, run_s1, run_s2, run_s3, opD, truD, biD, insOf, itD, enD, slD, List.getElem?_cons_zero, List.getElem?_cons_succ, List.getElem?_nil, -getElem?_pos] at hb
    refine ⟨_, _, .inl hb.symm, rfl, h2, items2, later, _, _, _, _, _, rfl, v2, rfl, ?_, ?_, ends2, lrd2⟩
    · refine perm2.trans ?_
      have q1 : ((items ++ [x]) ++ left).Perm (items ++ left ++ [x]) := by
        rw [List.append_assoc, List.append_assoc]
        exact List.Perm.append_left _ List.perm_append_comm
      refine q1.trans ((perm.append_right _).trans ?_)
      rw [List.append_assoc, List.append_assoc]
      exact List.Perm.append_left _ List.perm_append_comm
    · rw [pe2, places_app, places_app, pe])
  have lsum : items.length + left.length = pls.length + rds.length := by simpa using perm.length_eq
  have lo : items.length + left.length ≤ 16777216 := by omega
  simp [runD, startE, x_cons, x_nil, t_nx, t_rt, t_bk, t_ct, t_no, exS.eq_1, exS.eq_2, exS.eq_3, exS.eq_4, exS.eq_5, exS.eq_6, exS.eq_7, exS.eq_8, exS.eq_10, exS.eq_11, exS.eq_12, exS.eq_13, exS.eq_14, exS.eq_15, exS.eq_16, x_forr, evX.eq_1, evX.eq_2, evX.eq_3, evX.eq_4, evX.eq_5, evX.eq_6, evX.eq_7, evX.eq_8, evX.eq_9, evX.eq_10, evX.eq_11, evX.eq_12, evX.eq_13, evX.eq_14, evX.eq_15, evX.eq_16, evX.eq_17, evX.eq_18, evX.eq_19, evX.eq_20, evX.eq_21, evX.eq_22, evX.eq_24, evX.eq_25, evX.eq_26, evX.eq_29, x_aa, evF.eq_1, x_comp, evF.eq_3, evF.eq_4, evF.eq_5, x_sset2, fz, fz1, esc, escB, escs, escBs, escO, escF, escI, escJ, evXs, evBs, evO, evC, evI.eq_1, evI.eq_4, x_rng1, x_rng2, Pat.slots, wipeE, bindP, unpack, cmpD, ixD, L2.atI, L2.ixN, leave, run_s1, run_s2, run_s3, opD, truD, biD, insOf, itD, enD, slD, List.getElem?_cons_zero, List.getElem?_cons_succ, List.getElem?_nil, -getElem?_pos, sl2_iff, lo, hw_len] at hr0
  refine ⟨items ++ left, h1, by rw [← hr0]; simp, v1, perm, ?_, ends.app (fun a b c k hm => ?_)⟩
  · rw [places_app, places_rd lrd, pe, List.append_nil]
  · have hm2 : Itm.rd a b c k ∈ pls ++ rds := perm.mem_iff.mp (List.mem_append_right _ hm)
    rw [pe]
    rcases List.mem_append.mp hm2 with hm2 | hm2
    · have := hp _ hm2; simp [isPl] at this
    · exact he a b c k hm2
end P76
end
section
set_option Elab.async false
set_option linter.all false
set_option maxRecDepth 100000
set_option maxHeartbeats 2000000
namespace P76
open Pv Pu
open PySem (Str)
structure LandOk (names : List Str) (most : Nat) (pk rk : List (Option Str)) (its : List Itm) : Prop where
  shop : ShopOk its
  pl : places its = names
  keys : (keys its).length ≤ most
  pkind : ∀ nm x y k, Itm.pl nm x y k ∈ its → k ∈ pk
  rkind : ∀ a b c k, Itm.rd a b c k ∈ its → k ∈ rk
theorem land_spec {n : Nat} {h : Hs} {X : Wd} (hv : Hv h) {names : List Str} (hn : names.Nodup) (hnm : ∀ x ∈ names, nameRow x = true) (hl : names.length ≤ 16) {most : Nat} (hm : most ≤ 40) {pk rk : List (Option Str)} (pk0 : pk ≠ []) (rk0 : rk ≠ [])
    (pk1 : pk.length ≤ 1000) (rk1 : rk.length ≤ 1000) (pkk : ∀ k ∈ pk, kindOk k = true) (rkk : ∀ k ∈ rk, kindOk k = true) :
    ∃ (its : List Itm) (h' : Hs), run pg dfs (n+4) (n+4) 54 [.ref 3, .lst (names.map .str), .int most, .lst (pk.map kD), .lst (rk.map kD)] (hw h X) = some (.lst (its.map Itm.d), hw h' X) ∧ Hv h' ∧ LandOk names most pk rk its := by
  -- the spots
  obtain ⟨w, hw_, pkw⟩ := pick_spec (f := D.int) (xs := [(if (names.length : Int) < 6 then 6 else (names.length : Int)), 40, 999]) hv (by simp) (by simp)
  have v1 := drawH_v hv (many := 3) (by decide)
  have w0 : 0 ≤ w ∧ w ≤ 999 := by simp at hw_; rcases hw_ with e | e | e <;> subst e <;> (try split) <;> omega
  obtain ⟨spots, h2, es, v2, sl, sok⟩ := points_spec (n := n+1) (X := X) (many := names.length) (low := 0) (wide := w) v1 (by omega) w0.1 (by omega)
  have ir : names.length ≤ 1000000000 := by omega
  have lo : names.length < 16777216 := by omega
  rw [run_def (by rfl : dfs 54 = some d54)]
  generalize hr : runD _ _ _ _ _ _ = r
  simp only [List.map_cons, List.map_nil, List.length_cons, List.length_nil] at pkw
  simp at pkw
  simp [d54, b54, runD, startE, x_cons, x_nil, t_nx, t_rt, t_bk, t_ct, t_no, exS.eq_1, exS.eq_2, exS.eq_3, exS.eq_4, exS.eq_5, exS.eq_6, exS.eq_7, exS.eq_8, exS.eq_10, exS.eq_11, exS.eq_12, exS.eq_13, exS.eq_14, exS.eq_15, exS.eq_16, x_forr, evX.eq_1, evX.eq_2, evX.eq_3, evX.eq_4, evX.eq_5, evX.eq_6, evX.eq_7, evX.eq_8, evX.eq_9, evX.eq_10, evX.eq_11, evX.eq_12, evX.eq_13, evX.eq_14, evX.eq_15, evX.eq_16, evX.eq_17, evX.eq_18, evX.eq_19, evX.eq_20, evX.eq_21, evX.eq_22, evX.eq_24, evX.eq_25, evX.eq_26, evX.eq_29, x_aa, evF.eq_1, x_comp, evF.eq_3, evF.eq_4, evF.eq_5, x_sset2, fz, fz1, esc, escB, escs, escBs, escO, escF, escI, escJ, evXs, evBs, evO, evC, evI.eq_1, evI.eq_4, x_rng1, x_rng2, Pat.slots, wipeE, bindP, unpack, cmpD, ixD, L2.atI, L2.ixN, leave, run_s1, run_s2, run_s3, opD, truD, biD, insOf, itD, enD, slD, List.getElem?_cons_zero, List.getElem?_cons_succ, List.getElem?_nil, -getElem?_pos, sl2_iff, pkw, es, rngIf_nat, ir, rngD_len, sizeL, lo] at hr
  generalize e : mapL _ _ _ _ _ = o at hr
  obtain ⟨ys, W3, rfl, h3, pls, rfl, v3, rfl, lp, pp, pa, pf, pkd⟩ := use_mk e (fun k out W' => ∃ (h' : Hs) (pls : List Itm), W' = hw h' X ∧ Hv h' ∧ out = pls.map Itm.d ∧ pls.length = k ∧ places pls = names.take k ∧ (∀ x ∈ pls, isPl x = true) ∧ (∀ x ∈ pls, x.Form) ∧ ∀ nm x y k, Itm.pl nm x y k ∈ pls → k ∈ pk)
    ⟨h2, [], rfl, v2, rfl, rfl, rfl, by simp, by simp, by simp⟩ (by
    rintro k out W' hk ⟨h', pls, rfl, v', rfl, lp, pp, pa, pf, pkd⟩
    obtain ⟨kd, hkd, pkk2⟩ := pick_spec (f := kD) (xs := pk) v' pk0 (by omega)
    have v4 := drawH_v v' (many := pk.length) (by have := List.length_pos_iff.mpr pk0; omega)
    have i1 := ix_lst (W := hw h' X) (f := D.str) hk
    have hk2 : k < spots.length := by omega
    have i2 := ix_lst (W := hw h' X) (f := ptD) hk2
    have so := sok _ (List.getElem_mem hk2)
    refine ⟨some (Itm.pl names[k] spots[k].1 spots[k].2 kd).d, hw (drawH pk.length h') X, ?_, rfl, drawH pk.length h', pls ++ [Itm.pl names[k] spots[k].1 spots[k].2 kd], rfl, v4, by simp, by simp [lp], ?_, ?_, ?_, ?_⟩
    · have hpt : ptD spots[k] = .tup [.int spots[k].1, .int spots[k].2] := rfl
      rw [hpt] at i2
      simp [bodyF, aaF, compF, set1F, set2F, runD, startE, x_cons, x_nil, t_nx, t_rt, t_bk, t_ct, t_no, exS.eq_1, exS.eq_2, exS.eq_3, exS.eq_4, exS.eq_5, exS.eq_6, exS.eq_7, exS.eq_8, exS.eq_10, exS.eq_11, exS.eq_12, exS.eq_13, exS.eq_14, exS.eq_15, exS.eq_16, x_forr, evX.eq_1, evX.eq_2, evX.eq_3, evX.eq_4, evX.eq_5, evX.eq_6, evX.eq_7, evX.eq_8, evX.eq_9, evX.eq_10, evX.eq_11, evX.eq_12, evX.eq_13, evX.eq_14, evX.eq_15, evX.eq_16, evX.eq_17, evX.eq_18, evX.eq_19, evX.eq_20, evX.eq_21, evX.eq_22, evX.eq_24, evX.eq_25, evX.eq_26, evX.eq_29, x_aa, evF.eq_1, x_comp, evF.eq_3, evF.eq_4, evF.eq_5, x_sset2, fz, fz1, esc, escB, escs, escBs, escO, escF, escI, escJ, evXs, evBs, evO, evC, evI.eq_1, evI.eq_4, x_rng1, x_rng2, Pat.slots, wipeE, bindP, unpack, cmpD, leave, run_s1, run_s2, run_s3, opD, truD, biD, insOf, itD, enD, slD, List.getElem?_cons_zero, List.getElem?_cons_succ, List.getElem?_nil, -getElem?_pos, i1, i2, pkk2, sl2_iff, Itm.d]
    · rw [places_app, pp, List.take_succ_eq_append_getElem hk]
      simp [places, plOf, List.filterMap_cons]
    · intro x hx
      rcases List.mem_append.mp hx with hx | hx
      · exact pa x hx
      · simp at hx; subst hx; rfl
    · intro x hx
      rcases List.mem_append.mp hx with hx | hx
      · exact pf x hx
      · simp at hx; subst hx
        exact ⟨hnm _ (List.getElem_mem ..), ⟨by omega, by omega⟩, ⟨by omega, by omega⟩, pkk kd hkd⟩
    · intro nm x y k' hx
      rcases List.mem_append.mp hx with hx | hx
      · exact pkd _ _ _ _ hx
      · simp at hx; exact hx.2.2.2 ▸ hkd)
  rw [List.take_length] at pp
  -- the end: what mixed makes of places and roads
  have fin : ∀ (h4 : Hs) (rds : List Itm), Hv h4 → (∀ x ∈ rds, isPl x = false) → (∀ x ∈ rds, x.Form) → rds.length ≤ most → (keys rds).Nodup → (keys rds).length ≤ most → (∀ a b c k, Itm.rd a b c k ∈ rds → (a ∈ names ∧ b ∈ names ∧ a ≠ b) ∧ k ∈ rk) →
      ∃ (its : List Itm) (h' : Hs), run pg dfs (n+3) (n+3) 53 [.ref 3, .lst (pls.map Itm.d), .lst (rds.map Itm.d)] (hw h4 X) = some (.lst (its.map Itm.d), hw h' X) ∧ Hv h' ∧ LandOk names most pk rk its := by
    intro h4 rds v4 hrd hrf hrl hrn hrk hre
    obtain ⟨its, h', em, v', perm, pe, eo⟩ := mixed_spec (n := n+1) (X := X) v4 pa hrd (by omega) (fun a b c k hm => by rw [pp]; exact ⟨(hre a b c k hm).1.1, (hre a b c k hm).1.2.1⟩)
    refine ⟨its, h', em, v', ?_⟩
    have kp : (keys its).Perm (keys rds) := by
      have := perm.filterMap keyO
      have e1 : keys (pls ++ rds) = keys rds := by rw [keys_app, keys_pl pa, List.nil_append]
      rw [← e1]
      exact this
    have mem : ∀ x, x ∈ its → x ∈ pls ∨ x ∈ rds := fun x hx => List.mem_append.mp (perm.mem_iff.mp hx)
    refine ⟨⟨?_, by rw [pe, pp]; exact hn, kp.nodup_iff.mpr hrn, by rw [pe, pp]; exact hl, by rw [kp.length_eq]; omega, ?_⟩, by rw [pe, pp], by rw [kp.length_eq]; exact hrk, ?_, ?_⟩
    · intro x hx
      rcases mem x hx with hx | hx
      · exact pf x hx
      · exact hrf x hx
    · intro done a b c k rest ee
      obtain ⟨q1, q2⟩ := eo done a b c k rest ee
      refine ⟨q1, q2, ?_⟩
      have : Itm.rd a b c k ∈ its := by rw [ee]; simp
      rcases mem _ this with hx | hx
      · have := pa _ hx; simp [isPl] at this
      · exact (hre a b c k hx).1.2.2
    · intro nm x y k hx
      rcases mem _ hx with hx | hx
      · exact pkd _ _ _ _ hx
      · have := hrd _ hx; simp [isPl] at this
    · intro a b c k hx
      rcases mem _ hx with hx | hx
      · have := pa _ hx; simp [isPl] at this
      · exact (hre a b c k hx).2
  by_cases h0 : names.length = 0
  · obtain ⟨its, h', em, v', lok⟩ := fin h3 [] v3 (by simp) (by simp) (by simp) (by simp [keys]) (by simp [keys]) (by simp)
    simp only [List.map_nil] at em
    have h00 : ¬ (0 : Nat) < names.length := by omega
    simp [runD, startE, x_cons, x_nil, t_nx, t_rt, t_bk, t_ct, t_no, exS.eq_1, exS.eq_2, exS.eq_3, exS.eq_4, exS.eq_5, exS.eq_6, exS.eq_7, exS.eq_8, exS.eq_10, exS.eq_11, exS.eq_12, exS.eq_13, exS.eq_14, exS.eq_15, exS.eq_16, x_forr, evX.eq_1, evX.eq_2, evX.eq_3, evX.eq_4, evX.eq_5, evX.eq_6, evX.eq_7, evX.eq_8, evX.eq_9, evX.eq_10, evX.eq_11, evX.eq_12, evX.eq_13, evX.eq_14, evX.eq_15, evX.eq_16, evX.eq_17, evX.eq_18, evX.eq_19, evX.eq_20, evX.eq_21, evX.eq_22, evX.eq_24, evX.eq_25, evX.eq_26, evX.eq_29, x_aa, evF.eq_1, x_comp, evF.eq_3, evF.eq_4, evF.eq_5, x_sset2, fz, fz1, esc, escB, escs, escBs, escO, escF, escI, escJ, evXs, evBs, evO, evC, evI.eq_1, evI.eq_4, x_rng1, x_rng2, Pat.slots, wipeE, bindP, unpack, cmpD, ixD, L2.atI, L2.ixN, leave, run_s1, run_s2, run_s3, opD, truD, biD, insOf, itD, enD, slD, List.getElem?_cons_zero, List.getElem?_cons_succ, List.getElem?_nil, -getElem?_pos, sl2_iff, em, h00, hw_len] at hr
    exact ⟨its, h', hr.symm, v', lok⟩
  · obtain ⟨prs, h4, ep, v4, pnd, pok, plen⟩ := pairs_spec (n := n+1) (X := X) (most := most) v3 (show 0 < names.length by omega) (by omega) (by omega)
    have h00 : (0 : Nat) < names.length := by omega
    simp [runD, startE, x_cons, x_nil, t_nx, t_rt, t_bk, t_ct, t_no, exS.eq_1, exS.eq_2, exS.eq_3, exS.eq_4, exS.eq_5, exS.eq_6, exS.eq_7, exS.eq_8, exS.eq_10, exS.eq_11, exS.eq_12, exS.eq_13, exS.eq_14, exS.eq_15, exS.eq_16, x_forr, evX.eq_1, evX.eq_2, evX.eq_3, evX.eq_4, evX.eq_5, evX.eq_6, evX.eq_7, evX.eq_8, evX.eq_9, evX.eq_10, evX.eq_11, evX.eq_12, evX.eq_13, evX.eq_14, evX.eq_15, evX.eq_16, evX.eq_17, evX.eq_18, evX.eq_19, evX.eq_20, evX.eq_21, evX.eq_22, evX.eq_24, evX.eq_25, evX.eq_26, evX.eq_29, x_aa, evF.eq_1, x_comp, evF.eq_3, evF.eq_4, evF.eq_5, x_sset2, fz, fz1, esc, escB, escs, escBs, escO, escF, escI, escJ, evXs, evBs, evO, evC, evI.eq_1, evI.eq_4, x_rng1, x_rng2, Pat.slots, wipeE, bindP, unpack, cmpD, ixD, L2.atI, L2.ixN, leave, run_s1, run_s2, run_s3, opD, truD, biD, insOf, itD, enD, slD, List.getElem?_cons_zero, List.getElem?_cons_succ, List.getElem?_nil, -getElem?_pos, sl2_iff, ep, h00] at hr
    generalize e2 : forL _ _ _ _ _ _ = o2 at hr
    obtain ⟨env1, W1, rfl, h5, rds, s10, s11, s12, s13, rfl, v5, rfl, lr, rd1, rf1, rk1', re1⟩ := use_i (gmap_map ptD 0 _) e2 (fun done env W' => ∃ (h' : Hs) (rds : List Itm) (s10 s11 s12 s13 : Sv), W' = hw h' X ∧ Hv h' ∧ env = [.val (.ref 3), .val (.lst (names.map .str)), .val (.int most), .val (.lst (pk.map kD)), .val (.lst (rk.map kD)), .val (.int names.length), .val (.lst (spots.map ptD)), .own (pls.map Itm.d), .no, .own (rds.map Itm.d), s10, s11, s12, s13] ∧ rds.length = done.length ∧ (∀ x ∈ rds, isPl x = false) ∧ (∀ x ∈ rds, x.Form) ∧ keys rds = done.map (keyP names) ∧ (∀ a b c k, Itm.rd a b c k ∈ rds → (a ∈ names ∧ b ∈ names ∧ a ≠ b) ∧ k ∈ rk))
      ⟨h4, [], _, _, _, _, rfl, v4, rfl, rfl, by simp, by simp, rfl, by simp⟩ (by
      rintro done p rest env W' hd ⟨h', rds, s10, s11, s12, s13, rfl, v', rfl, lr, rd1, rf1, rk1', re1⟩
      have hp := pok p (by rw [hd]; simp)
      have ldp : done.length < prs.length := by rw [hd]; simp
      obtain ⟨a, b⟩ := p
      simp only at hp
      obtain ⟨a, rfl⟩ := Int.eq_ofNat_of_zero_le hp.1
      obtain ⟨b, rfl⟩ := Int.eq_ofNat_of_zero_le (show 0 ≤ b by omega)
      have la : a < names.length := by omega
      have lb : b < names.length := by omega
      have ab : nth names (a : Int) ≠ nth names (b : Int) := fun h => by have := nth_inj hn la lb h; omega
      obtain ⟨q, hq, pkq⟩ := pick_spec (f := ptD) (xs := [((a : Int), (b : Int)), ((b : Int), (a : Int))]) v' (by simp) (by simp)
      have v6 := drawH_v v' (many := 2) (by decide)
      obtain ⟨c, hc, pkc⟩ := pick_spec (f := D.int) (xs := [1, 1, 2, 3, 999]) v6 (by simp) (by simp)
      have v7 := drawH_v v6 (many := 5) (by decide)
      obtain ⟨kd, hkd, pkk2⟩ := pick_spec (f := kD) (xs := rk) v7 rk0 (by omega)
      have v8 := drawH_v v7 (many := rk.length) (by have := List.length_pos_iff.mpr rk0; omega)
      have hc2 : 1 ≤ c ∧ c ≤ 999 := by simp at hc; omega
      simp [ptD] at pkq
      simp at pkc
      have lor : rds.length < 16777216 := by omega
      have go : ∀ x y : Nat, (hx : x < names.length) → (hy : y < names.length) → q = ((x : Int), (y : Int)) → keyP names ((a : Int), (b : Int)) = (mnS names[x] names[y], mxS names[x] names[y]) → names[x] ≠ names[y] →
          ∃ env1 W1, bodyF pg (run pg dfs (n+3)) (n+3) (Pat.tup [10, 11]) [St.asg 12 (.call 48 (.cons (.var 0) (.cons (.fr (.disp (.cons (.tup (.cons (.var 10) (.cons (.var 11) .nil))) (.cons (.tup (.cons (.var 11) (.cons (.var 10) .nil))) .nil)))) .nil))),
            .asg 13 (.call 48 (.cons (.var 0) (.cons (.fr (.disp (.cons (.cst (.int 1)) (.cons (.cst (.int 1)) (.cons (.cst (.int 2)) (.cons (.cst (.int 3)) (.cons (.cst (.int 999)) .nil))))))) .nil))),
            .app 9 (.tup (.cons (.cst (.str "road")) (.cons (.ix (.var 1) (.ix (.var 12) (.cst (.int 0)))) (.cons (.ix (.var 1) (.ix (.var 12) (.cst (.int 1)))) (.cons (.var 13) (.cons (.call 48 (.cons (.var 0) (.cons (.var 4) .nil))) .nil))))))] (ptD ((a : Int), (b : Int))) [.val (.ref 3), .val (.lst (names.map .str)), .val (.int most), .val (.lst (pk.map kD)), .val (.lst (rk.map kD)), .val (.int names.length), .val (.lst (spots.map ptD)), .own (pls.map Itm.d), .no, .own (rds.map Itm.d), s10, s11, s12, s13] (hw h' X) = some (.nx env1 W1) ∧ (∃ (h' : Hs) (rds : List Itm) (s10 s11 s12 s13 : Sv), W1 = hw h' X ∧ Hv h' ∧ env1 = [.val (.ref 3), .val (.lst (names.map .str)), .val (.int most), .val (.lst (pk.map kD)), .val (.lst (rk.map kD)), .val (.int names.length), .val (.lst (spots.map ptD)), .own (pls.map Itm.d), .no, .own (rds.map Itm.d), s10, s11, s12, s13] ∧ rds.length = (done ++ [((a : Int), (b : Int))]).length ∧ (∀ x ∈ rds, isPl x = false) ∧ (∀ x ∈ rds, x.Form) ∧ keys rds = (done ++ [((a : Int), (b : Int))]).map (keyP names) ∧ (∀ a b c k, Itm.rd a b c k ∈ rds → (a ∈ names ∧ b ∈ names ∧ a ≠ b) ∧ k ∈ rk)) := by
        rintro x y hx hy rfl hkey hxy
        have i1 := ix_lst (W := hw (drawH 5 (drawH 2 h')) X) (f := D.str) hx
        have i2 := ix_lst (W := hw (drawH 5 (drawH 2 h')) X) (f := D.str) hy
        have j1 : ∀ (W : Wd), ixD W (.tup [.int (x : Int), .int (y : Int)]) (.int 0) = some (.int x) := fun W => by simp [ixD, L2.atI, L2.ixN]
        have j2 : ∀ (W : Wd), ixD W (.tup [.int (x : Int), .int (y : Int)]) (.int 1) = some (.int y) := fun W => by simp [ixD, L2.atI, L2.ixN]
        refine ⟨[.val (.ref 3), .val (.lst (names.map .str)), .val (.int most), .val (.lst (pk.map kD)), .val (.lst (rk.map kD)), .val (.int names.length), .val (.lst (spots.map ptD)), .own (pls.map Itm.d), .no, .own ((rds ++ [Itm.rd names[x] names[y] c kd]).map Itm.d), .val (.int a), .val (.int b), .val (.tup [.int x, .int y]), .val (.int c)], hw (drawH rk.length (drawH 5 (drawH 2 h'))) X, ?_, _, rds ++ [Itm.rd names[x] names[y] c kd], _, _, _, _, rfl, v8, rfl, by simp [lr], ?_, ?_, ?_, ?_⟩
        · simp [bodyF, aaF, compF, set1F, set2F, runD, startE, x_cons, x_nil, t_nx, t_rt, t_bk, t_ct, t_no, exS.eq_1, exS.eq_2, exS.eq_3, exS.eq_4, exS.eq_5, exS.eq_6, exS.eq_7, exS.eq_8, exS.eq_10, exS.eq_11, exS.eq_12, exS.eq_13, exS.eq_14, exS.eq_15, exS.eq_16, x_forr, evX.eq_1, evX.eq_2, evX.eq_3, evX.eq_4, evX.eq_5, evX.eq_6, evX.eq_7, evX.eq_8, evX.eq_9, evX.eq_10, evX.eq_11, evX.eq_12, evX.eq_13, evX.eq_14, evX.eq_15, evX.eq_16, evX.eq_17, evX.eq_18, evX.eq_19, evX.eq_20, evX.eq_21, evX.eq_22, evX.eq_24, evX.eq_25, evX.eq_26, evX.eq_29, x_aa, evF.eq_1, x_comp, evF.eq_3, evF.eq_4, evF.eq_5, x_sset2, fz, fz1, esc, escB, escs, escBs, escO, escF, escI, escJ, evXs, evBs, evO, evC, evI.eq_1, evI.eq_4, x_rng1, x_rng2, Pat.slots, wipeE, bindP, unpack, cmpD, leave, run_s1, run_s2, run_s3, opD, truD, biD, insOf, itD, enD, slD, List.getElem?_cons_zero, List.getElem?_cons_succ, List.getElem?_nil, -getElem?_pos, ptD, sl2_iff, pkq, pkc, pkk2, i1, i2, j1, j2, sizeL, lor, Itm.d]
        · intro z hz
          rcases List.mem_append.mp hz with hz | hz
          · exact rd1 z hz
          · simp at hz; subst hz; rfl
        · intro z hz
          rcases List.mem_append.mp hz with hz | hz
          · exact rf1 z hz
          · simp at hz; subst hz
            exact ⟨hnm _ (List.getElem_mem ..), hnm _ (List.getElem_mem ..), hc2, rkk kd hkd⟩
        · rw [keys_app, rk1', List.map_append, List.map_cons, List.map_nil, hkey]
          simp [keys, keyO]
        · intro a' b' c' k' hz
          rcases List.mem_append.mp hz with hz | hz
          · exact re1 _ _ _ _ hz
          · simp at hz
            obtain ⟨rfl, rfl, rfl, rfl⟩ := hz
            exact ⟨⟨List.getElem_mem .., List.getElem_mem .., hxy⟩, hkd⟩
      have ab' : names[a] ≠ names[b] := by rw [nth_eq la, nth_eq lb] at ab; exact ab
      rcases List.mem_cons.mp hq with e | hq
      · obtain ⟨env1, W1, h1, h2⟩ := go a b la lb e (by simp only [keyP, nth_eq la, nth_eq lb]) ab'
        exact ⟨env1, W1, .inl h1, rfl, h2⟩
      · have e : q = ((b : Int), (a : Int)) := by simpa using hq
        obtain ⟨env1, W1, h1, h2⟩ := go b a lb la e (by
          simp only [keyP, nth_eq la, nth_eq lb]
          have := mnmx_symm ab'
          rw [this.1, this.2]) (fun h => ab' h.symm)
        exact ⟨env1, W1, .inl h1, rfl, h2⟩)
    have kn : (keys rds).Nodup := by
      rw [rk1']
      refine List.Pairwise.map _ (R := fun p q => (p ∈ prs ∧ q ∈ prs) ∧ p ≠ q) (fun p q hpq e => hpq.2 (keyP_inj hn (pok _ hpq.1.1) (pok _ hpq.1.2) e)) ?_
      exact List.Pairwise.imp_of_mem (R := fun a b => a ≠ b) (fun {a b} ha hb hab => ⟨⟨ha, hb⟩, hab⟩) pnd
    obtain ⟨its, h', em, v', lok⟩ := fin h5 rds v5 rd1 rf1 (by omega) kn (by rw [rk1', List.length_map]; exact plen) re1
    simp [runD, startE, x_cons, x_nil, t_nx, t_rt, t_bk, t_ct, t_no, exS.eq_1, exS.eq_2, exS.eq_3, exS.eq_4, exS.eq_5, exS.eq_6, exS.eq_7, exS.eq_8, exS.eq_10, exS.eq_11, exS.eq_12, exS.eq_13, exS.eq_14, exS.eq_15, exS.eq_16, x_forr, evX.eq_1, evX.eq_2, evX.eq_3, evX.eq_4, evX.eq_5, evX.eq_6, evX.eq_7, evX.eq_8, evX.eq_9, evX.eq_10, evX.eq_11, evX.eq_12, evX.eq_13, evX.eq_14, evX.eq_15, evX.eq_16, evX.eq_17, evX.eq_18, evX.eq_19, evX.eq_20, evX.eq_21, evX.eq_22, evX.eq_24, evX.eq_25, evX.eq_26, evX.eq_29, x_aa, evF.eq_1, x_comp, evF.eq_3, evF.eq_4, evF.eq_5, x_sset2, fz, fz1, esc, escB, escs, escBs, escO, escF, escI, escJ, evXs, evBs, evO, evC, evI.eq_1, evI.eq_4, x_rng1, x_rng2, Pat.slots, wipeE, bindP, unpack, cmpD, ixD, L2.atI, L2.ixN, leave, run_s1, run_s2, run_s3, opD, truD, biD, insOf, itD, enD, slD, List.getElem?_cons_zero, List.getElem?_cons_succ, List.getElem?_nil, -getElem?_pos, sl2_iff, em, hw_len] at hr
    exact ⟨its, h', hr.symm, v', lok⟩
end P76
end
section
set_option Elab.async false
set_option linter.all false
set_option maxRecDepth 100000
set_option maxHeartbeats 2000000
namespace P76
open Pv Pu
open PySem (Str)
theorem same_str {n : Nat} {W : Wd} {x : Str} : run pg dfs (n+1) (n+1) 49 [.str x, .str x] W = some (.bl true, W) := by
  rw [run_def (by rfl : dfs 49 = some d49)]
  simp [d49, b49, runD, startE, x_cons, x_nil, t_nx, t_rt, t_bk, t_ct, t_no, exS.eq_1, exS.eq_2, exS.eq_3, exS.eq_4, exS.eq_5, exS.eq_6, exS.eq_7, exS.eq_8, exS.eq_10, exS.eq_11, exS.eq_12, exS.eq_13, exS.eq_14, exS.eq_15, exS.eq_16, x_forr, evX.eq_1, evX.eq_2, evX.eq_3, evX.eq_4, evX.eq_5, evX.eq_6, evX.eq_7, evX.eq_8, evX.eq_9, evX.eq_10, evX.eq_11, evX.eq_12, evX.eq_13, evX.eq_14, evX.eq_15, evX.eq_16, evX.eq_17, evX.eq_18, evX.eq_19, evX.eq_20, evX.eq_21, evX.eq_22, evX.eq_24, evX.eq_25, evX.eq_26, evX.eq_29, x_aa, evF.eq_1, x_comp, evF.eq_3, evF.eq_4, evF.eq_5, x_sset2, fz, fz1, esc, escB, escs, escBs, escO, escF, escI, escJ, evXs, evBs, evO, evC, evI.eq_1, evI.eq_4, x_rng1, x_rng2, Pat.slots, wipeE, bindP, unpack, cmpD, ixD, L2.atI, L2.ixN, leave, run_s1, run_s2, run_s3, opD, truD, biD, insOf, itD, enD, slD, List.getElem?_cons_zero, List.getElem?_cons_succ, List.getElem?_nil, -getElem?_pos, eqD_str]
theorem same_int {n : Nat} {W : Wd} {x : Int} : run pg dfs (n+1) (n+1) 49 [.int x, .int x] W = some (.bl true, W) := by
  rw [run_def (by rfl : dfs 49 = some d49)]
  simp [d49, b49, runD, startE, x_cons, x_nil, t_nx, t_rt, t_bk, t_ct, t_no, exS.eq_1, exS.eq_2, exS.eq_3, exS.eq_4, exS.eq_5, exS.eq_6, exS.eq_7, exS.eq_8, exS.eq_10, exS.eq_11, exS.eq_12, exS.eq_13, exS.eq_14, exS.eq_15, exS.eq_16, x_forr, evX.eq_1, evX.eq_2, evX.eq_3, evX.eq_4, evX.eq_5, evX.eq_6, evX.eq_7, evX.eq_8, evX.eq_9, evX.eq_10, evX.eq_11, evX.eq_12, evX.eq_13, evX.eq_14, evX.eq_15, evX.eq_16, evX.eq_17, evX.eq_18, evX.eq_19, evX.eq_20, evX.eq_21, evX.eq_22, evX.eq_24, evX.eq_25, evX.eq_26, evX.eq_29, x_aa, evF.eq_1, x_comp, evF.eq_3, evF.eq_4, evF.eq_5, x_sset2, fz, fz1, esc, escB, escs, escBs, escO, escF, escI, escJ, evXs, evBs, evO, evC, evI.eq_1, evI.eq_4, x_rng1, x_rng2, Pat.slots, wipeE, bindP, unpack, cmpD, ixD, L2.atI, L2.ixN, leave, run_s1, run_s2, run_s3, opD, truD, biD, insOf, itD, enD, slD, List.getElem?_cons_zero, List.getElem?_cons_succ, List.getElem?_nil, -getElem?_pos, eqD_int]
theorem same_tup {n : Nat} {W : Wd} {xs : List D} (hl : xs.length ≤ 1000000000) (h : ∀ x ∈ xs, run pg dfs (n+1) (n+1) 49 [x, x] W = some (.bl true, W)) : run pg dfs (n+2) (n+2) 49 [.tup xs, .tup xs] W = some (.bl true, W) := by
  rw [run_def (by rfl : dfs 49 = some d49)]
  simp [d49, b49, runD, startE, x_cons, x_nil, t_nx, t_rt, t_bk, t_ct, t_no, exS.eq_1, exS.eq_2, exS.eq_3, exS.eq_4, exS.eq_5, exS.eq_6, exS.eq_7, exS.eq_8, exS.eq_10, exS.eq_11, exS.eq_12, exS.eq_13, exS.eq_14, exS.eq_15, exS.eq_16, x_forr, evX.eq_1, evX.eq_2, evX.eq_3, evX.eq_4, evX.eq_5, evX.eq_6, evX.eq_7, evX.eq_8, evX.eq_9, evX.eq_10, evX.eq_11, evX.eq_12, evX.eq_13, evX.eq_14, evX.eq_15, evX.eq_16, evX.eq_17, evX.eq_18, evX.eq_19, evX.eq_20, evX.eq_21, evX.eq_22, evX.eq_24, evX.eq_25, evX.eq_26, evX.eq_29, x_aa, evF.eq_1, x_comp, evF.eq_3, evF.eq_4, evF.eq_5, x_sset2, fz, fz1, esc, escB, escs, escBs, escO, escF, escI, escJ, evXs, evBs, evO, evC, evI.eq_1, evI.eq_4, x_rng1, x_rng2, Pat.slots, wipeE, bindP, unpack, cmpD, ixD, L2.atI, L2.ixN, leave, run_s1, run_s2, run_s3, opD, truD, biD, insOf, itD, enD, slD, List.getElem?_cons_zero, List.getElem?_cons_succ, List.getElem?_nil, -getElem?_pos, eqD_int, rngIf_nat, hl]
  generalize e : forL _ _ _ _ _ _ = o
  rcases use_kr e (fun k env W' => W' = W ∧ ∃ s2, env = [.val (.tup xs), .val (.tup xs), s2]) (fun d W' => False) ⟨rfl, _, rfl⟩ (by
    rintro k env W' hk ⟨rfl, s2, rfl⟩
    left
    have i1 : ixD W' (.tup xs) (.int k) = some xs[k] := atI_nat hk
    have e1 := h xs[k] (List.getElem_mem ..)
    exact ⟨[.val (.tup xs), .val (.tup xs), .val (.int k)], W', by simp [bodyF, aaF, compF, set1F, set2F, runD, startE, x_cons, x_nil, t_nx, t_rt, t_bk, t_ct, t_no, exS.eq_1, exS.eq_2, exS.eq_3, exS.eq_4, exS.eq_5, exS.eq_6, exS.eq_7, exS.eq_8, exS.eq_10, exS.eq_11, exS.eq_12, exS.eq_13, exS.eq_14, exS.eq_15, exS.eq_16, x_forr, evX.eq_1, evX.eq_2, evX.eq_3, evX.eq_4, evX.eq_5, evX.eq_6, evX.eq_7, evX.eq_8, evX.eq_9, evX.eq_10, evX.eq_11, evX.eq_12, evX.eq_13, evX.eq_14, evX.eq_15, evX.eq_16, evX.eq_17, evX.eq_18, evX.eq_19, evX.eq_20, evX.eq_21, evX.eq_22, evX.eq_24, evX.eq_25, evX.eq_26, evX.eq_29, x_aa, evF.eq_1, x_comp, evF.eq_3, evF.eq_4, evF.eq_5, x_sset2, fz, fz1, esc, escB, escs, escBs, escO, escF, escI, escJ, evXs, evBs, evO, evC, evI.eq_1, evI.eq_4, x_rng1, x_rng2, Pat.slots, wipeE, bindP, unpack, cmpD, leave, run_s1, run_s2, run_s3, opD, truD, biD, insOf, itD, enD, slD, List.getElem?_cons_zero, List.getElem?_cons_succ, List.getElem?_nil, -getElem?_pos, i1, e1], rfl, rfl, _, rfl⟩) with ⟨env1, W1, rfl, rfl, s2, rfl⟩ | ⟨d, W1, rfl, hf⟩
  · simp [runD, startE, x_cons, x_nil, t_nx, t_rt, t_bk, t_ct, t_no, exS.eq_1, exS.eq_2, exS.eq_3, exS.eq_4, exS.eq_5, exS.eq_6, exS.eq_7, exS.eq_8, exS.eq_10, exS.eq_11, exS.eq_12, exS.eq_13, exS.eq_14, exS.eq_15, exS.eq_16, x_forr, evX.eq_1, evX.eq_2, evX.eq_3, evX.eq_4, evX.eq_5, evX.eq_6, evX.eq_7, evX.eq_8, evX.eq_9, evX.eq_10, evX.eq_11, evX.eq_12, evX.eq_13, evX.eq_14, evX.eq_15, evX.eq_16, evX.eq_17, evX.eq_18, evX.eq_19, evX.eq_20, evX.eq_21, evX.eq_22, evX.eq_24, evX.eq_25, evX.eq_26, evX.eq_29, x_aa, evF.eq_1, x_comp, evF.eq_3, evF.eq_4, evF.eq_5, x_sset2, fz, fz1, esc, escB, escs, escBs, escO, escF, escI, escJ, evXs, evBs, evO, evC, evI.eq_1, evI.eq_4, x_rng1, x_rng2, Pat.slots, wipeE, bindP, unpack, cmpD, ixD, L2.atI, L2.ixN, leave, run_s1, run_s2, run_s3, opD, truD, biD, insOf, itD, enD, slD, List.getElem?_cons_zero, List.getElem?_cons_succ, List.getElem?_nil, -getElem?_pos]
  · exact hf.elim
theorem same_led {n : Nat} {W : Wd} {f : Rds} {ks : List (Option Str)} {i : Nat} {pls : List Str} (hp : pls.length ≤ 1000) (ha : ∀ pls k, pls.length ≤ 1000 → (alongF f pls k).length ≤ 1000) : run pg dfs (n+3) (n+3) 49 [ledGo f i pls ks, ledGo f i pls ks] W = some (.bl true, W) := by
  induction ks generalizing i pls with
  | nil =>
    rw [ledGo]
    refine same_tup (by simp) (fun x hx => ?_)
    simp at hx
    rcases hx with e | e
    · subst e; exact same_str
    · subst e
      refine same_tup (by simp; omega) (fun x hx => ?_)
      obtain ⟨y, hy, rfl⟩ := List.mem_map.mp hx
      exact same_str
  | cons k ks ih =>
    rw [ledGo]
    split
    · refine same_tup (by simp) (fun x hx => ?_)
      simp at hx
      rcases hx with e | e | e <;> subst e
      · exact same_str
      · exact same_int
      · exact same_str
    · exact ih (ha _ _ hp)
/-- the ends of one place -/
theorem ways_ends {n : Nat} {W : Wd} {its : List Itm} {pl : Str} {ks : List (Option Str)} {j : Nat} (hj : j < ks.length) {x : Str} (hl : its.length ≤ 1000) {s3 s5 s6 s9 s10 s11 s12 : Sv} {o : Option Out}
    (e : forL (bodyF pg (run pg dfs n) n (Pat.one 9) [(.ite (.and (.cmp .eq (.ix (.var 9) (.cst (.int 0))) (.cst (.str "road"))) (.cmp .eq (.ix (.var 9) (.cst (.int 4))) (.ix (.var 2) (.var 4))))
         [(.forr (.tup [10, 11]) (.seq (.fr (.disp (.cons (.tup (.cons (.ix (.var 9) (.cst (.int 1))) (.cons (.ix (.var 9) (.cst (.int 2))) .nil))) (.cons (.tup (.cons (.ix (.var 9) (.cst (.int 2))) (.cons (.ix (.var 9) (.cst (.int 1))) .nil))) .nil)))))
           [(.ite (.cmp .eq (.var 10) (.var 7))
             [(.app 8 (.var 11))]
             [])])]
         [])]) none W (its.map Itm.d) [.val (.lst (its.map Itm.d)), .val (.str pl), .val (.lst (ks.map kD)), s3, .val (.int j), s5, s6, .val (.str x), .own [], s9, s10, s11, s12] W = o) :
    ∃ s9 s10 s11, o = some (.nx [.val (.lst (its.map Itm.d)), .val (.str pl), .val (.lst (ks.map kD)), s3, .val (.int j), s5, s6, .val (.str x), .own ((endsF (rOf its) ks[j] x).map .str), s9, s10, s11, s12] W) := by
  obtain ⟨env1, W1, rfl, rfl, t9, t10, t11, rfl⟩ := use_i (gmap_map Itm.d 0 _) e (fun done env W' => W' = W ∧ ∃ s9 s10 s11, env = [.val (.lst (its.map Itm.d)), .val (.str pl), .val (.lst (ks.map kD)), s3, .val (.int j), s5, s6, .val (.str x), .own ((endsF (rOf done) ks[j] x).map .str), s9, s10, s11, s12])
    ⟨rfl, _, _, _, rfl⟩ (by
    rintro done it rest env W' hd ⟨rfl, t9, t10, t11, rfl⟩
    generalize hb : bodyF _ _ _ _ _ _ _ _ = r
    have i1 := ix_lst (W := W') (f := kD) hj
    have ld : done.length ≤ its.length := by rw [hd]; simp
    have le : (endsF (rOf done) ks[j] x).length < 16777000 := by
      have h1 : (endsF (rOf done) ks[j] x).length ≤ (rOf done x).length := List.length_filterMap_le ..
      have h2 := rOf_len done x
      omega
    have le1 : (endsF (rOf done) ks[j] x).length < 16777216 := by omega
    have le2 : (endsF (rOf done) ks[j] x).length + 1 < 16777216 := by omega
    cases it with
    | pl nm a b k =>
      simp [bodyF, aaF, compF, set1F, set2F, runD, startE, x_cons, x_nil, t_nx, t_rt, t_bk, t_ct, t_no, exS.eq_1, exS.eq_2, exS.eq_3, exS.eq_4, exS.eq_5, exS.eq_6, exS.eq_7, exS.eq_8, exS.eq_10, exS.eq_11, exS.eq_12, exS.eq_13, exS.eq_14, exS.eq_15, exS.eq_16, x_forr, evX.eq_1, evX.eq_2, evX.eq_3, evX.eq_4, evX.eq_5, evX.eq_6, evX.eq_7, evX.eq_8, evX.eq_9, evX.eq_10, evX.eq_11, evX.eq_12, evX.eq_13, evX.eq_14, evX.eq_15, evX.eq_16, evX.eq_17, evX.eq_18, evX.eq_19, evX.eq_20, evX.eq_21, evX.eq_22, evX.eq_24, evX.eq_25, evX.eq_26, evX.eq_29, x_aa, evF.eq_1, x_comp, evF.eq_3, evF.eq_4, evF.eq_5, x_sset2, fz, fz1, esc, escB, escs, escBs, escO, escF, escI, escJ, evXs, evBs, evO, evC, evI.eq_1, evI.eq_4, x_rng1, x_rng2, Pat.slots, wipeE, bindP, unpack, cmpD, ixD, L2.atI, L2.ixN, leave, run_s1, run_s2, run_s3, opD, truD, biD, insOf, itD, enD, slD, List.getElem?_cons_zero, List.getElem?_cons_succ, List.getElem?_nil, -getElem?_pos, Itm.d, eqD_str, s_pr] at hb
      refine ⟨_, _, .inl hb.symm, rfl, rfl, _, _, _, by simp [endsF_snoc, r1]; exact ⟨rfl, rfl, rfl⟩⟩
    | rd a b c k =>
      have j0 : ∀ W, ixD W (Itm.rd a b c k).d (.int 0) = some (.str "road") := fun W => by simp [ixD, Itm.d, L2.atI, L2.ixN]
      have j1 : ∀ W, ixD W (Itm.rd a b c k).d (.int 1) = some (.str a) := fun W => by simp [ixD, Itm.d, L2.atI, L2.ixN]
      have j2 : ∀ W, ixD W (Itm.rd a b c k).d (.int 2) = some (.str b) := fun W => by simp [ixD, Itm.d, L2.atI, L2.ixN]
      have j4 : ∀ W, ixD W (Itm.rd a b c k).d (.int 4) = some (kD k) := fun W => by simp [ixD, Itm.d, L2.atI, L2.ixN]
      by_cases hk : k = ks[j]
      · subst hk
        by_cases ha : a = x
        · subst ha
          by_cases hb' : b = a
          · subst hb'
            simp [bodyF, aaF, compF, set1F, set2F, runD, startE, x_cons, x_nil, t_nx, t_rt, t_bk, t_ct, t_no, exS.eq_1, exS.eq_2, exS.eq_3, exS.eq_4, exS.eq_5, exS.eq_6, exS.eq_7, exS.eq_8, exS.eq_10, exS.eq_11, exS.eq_12, exS.eq_13, exS.eq_14, exS.eq_15, exS.eq_16, x_forr, evX.eq_1, evX.eq_2, evX.eq_3, evX.eq_4, evX.eq_5, evX.eq_6, evX.eq_7, evX.eq_8, evX.eq_9, evX.eq_10, evX.eq_11, evX.eq_12, evX.eq_13, evX.eq_14, evX.eq_15, evX.eq_16, evX.eq_17, evX.eq_18, evX.eq_19, evX.eq_20, evX.eq_21, evX.eq_22, evX.eq_24, evX.eq_25, evX.eq_26, evX.eq_29, x_aa, evF.eq_1, x_comp, evF.eq_3, evF.eq_4, evF.eq_5, x_sset2, fz, fz1, esc, escB, escs, escBs, escO, escF, escI, escJ, evXs, evBs, evO, evC, evI.eq_1, evI.eq_4, x_rng1, x_rng2, Pat.slots, wipeE, bindP, unpack, cmpD, leave, run_s1, run_s2, run_s3, opD, truD, biD, insOf, itD, enD, slD, List.getElem?_cons_zero, List.getElem?_cons_succ, List.getElem?_nil, -getElem?_pos, j0, j1, j2, j4, i1, eqD_str, eqD_kD, sl2_iff, forL, okW, sizeL, le1, le2] at hb
            refine ⟨_, _, .inl hb.symm, rfl, rfl, _, _, _, by simp [endsF_snoc, r1, outOf]; exact ⟨rfl, rfl, rfl⟩⟩
          · simp [bodyF, aaF, compF, set1F, set2F, runD, startE, x_cons, x_nil, t_nx, t_rt, t_bk, t_ct, t_no, exS.eq_1, exS.eq_2, exS.eq_3, exS.eq_4, exS.eq_5, exS.eq_6, exS.eq_7, exS.eq_8, exS.eq_10, exS.eq_11, exS.eq_12, exS.eq_13, exS.eq_14, exS.eq_15, exS.eq_16, x_forr, evX.eq_1, evX.eq_2, evX.eq_3, evX.eq_4, evX.eq_5, evX.eq_6, evX.eq_7, evX.eq_8, evX.eq_9, evX.eq_10, evX.eq_11, evX.eq_12, evX.eq_13, evX.eq_14, evX.eq_15, evX.eq_16, evX.eq_17, evX.eq_18, evX.eq_19, evX.eq_20, evX.eq_21, evX.eq_22, evX.eq_24, evX.eq_25, evX.eq_26, evX.eq_29, x_aa, evF.eq_1, x_comp, evF.eq_3, evF.eq_4, evF.eq_5, x_sset2, fz, fz1, esc, escB, escs, escBs, escO, escF, escI, escJ, evXs, evBs, evO, evC, evI.eq_1, evI.eq_4, x_rng1, x_rng2, Pat.slots, wipeE, bindP, unpack, cmpD, leave, run_s1, run_s2, run_s3, opD, truD, biD, insOf, itD, enD, slD, List.getElem?_cons_zero, List.getElem?_cons_succ, List.getElem?_nil, -getElem?_pos, j0, j1, j2, j4, i1, eqD_str, eqD_kD, sl2_iff, forL, okW, hb', sizeL, le1, le2] at hb
            refine ⟨_, _, .inl hb.symm, rfl, rfl, _, _, _, by simp [endsF_snoc, r1, outOf, hb']; exact ⟨rfl, rfl, rfl⟩⟩
        · by_cases hb' : b = x
          · subst hb'
            simp [bodyF, aaF, compF, set1F, set2F, runD, startE, x_cons, x_nil, t_nx, t_rt, t_bk, t_ct, t_no, exS.eq_1, exS.eq_2, exS.eq_3, exS.eq_4, exS.eq_5, exS.eq_6, exS.eq_7, exS.eq_8, exS.eq_10, exS.eq_11, exS.eq_12, exS.eq_13, exS.eq_14, exS.eq_15, exS.eq_16, x_forr, evX.eq_1, evX.eq_2, evX.eq_3, evX.eq_4, evX.eq_5, evX.eq_6, evX.eq_7, evX.eq_8, evX.eq_9, evX.eq_10, evX.eq_11, evX.eq_12, evX.eq_13, evX.eq_14, evX.eq_15, evX.eq_16, evX.eq_17, evX.eq_18, evX.eq_19, evX.eq_20, evX.eq_21, evX.eq_22, evX.eq_24, evX.eq_25, evX.eq_26, evX.eq_29, x_aa, evF.eq_1, x_comp, evF.eq_3, evF.eq_4, evF.eq_5, x_sset2, fz, fz1, esc, escB, escs, escBs, escO, escF, escI, escJ, evXs, evBs, evO, evC, evI.eq_1, evI.eq_4, x_rng1, x_rng2, Pat.slots, wipeE, bindP, unpack, cmpD, leave, run_s1, run_s2, run_s3, opD, truD, biD, insOf, itD, enD, slD, List.getElem?_cons_zero, List.getElem?_cons_succ, List.getElem?_nil, -getElem?_pos, j0, j1, j2, j4, i1, eqD_str, eqD_kD, sl2_iff, forL, okW, ha, sizeL, le1, le2] at hb
            refine ⟨_, _, .inl hb.symm, rfl, rfl, _, _, _, by simp [endsF_snoc, r1, outOf, ha]; exact ⟨rfl, rfl, rfl⟩⟩
          · simp [bodyF, aaF, compF, set1F, set2F, runD, startE, x_cons, x_nil, t_nx, t_rt, t_bk, t_ct, t_no, exS.eq_1, exS.eq_2, exS.eq_3, exS.eq_4, exS.eq_5, exS.eq_6, exS.eq_7, exS.eq_8, exS.eq_10, exS.eq_11, exS.eq_12, exS.eq_13, exS.eq_14, exS.eq_15, exS.eq_16, x_forr, evX.eq_1, evX.eq_2, evX.eq_3, evX.eq_4, evX.eq_5, evX.eq_6, evX.eq_7, evX.eq_8, evX.eq_9, evX.eq_10, evX.eq_11, evX.eq_12, evX.eq_13, evX.eq_14, evX.eq_15, evX.eq_16, evX.eq_17, evX.eq_18, evX.eq_19, evX.eq_20, evX.eq_21, evX.eq_22, evX.eq_24, evX.eq_25, evX.eq_26, evX.eq_29, x_aa, evF.eq_1, x_comp, evF.eq_3, evF.eq_4, evF.eq_5, x_sset2, fz, fz1, esc, escB, escs, escBs, escO, escF, escI, escJ, evXs, evBs, evO, evC, evI.eq_1, evI.eq_4, x_rng1, x_rng2, Pat.slots, wipeE, bindP, unpack, cmpD, leave, run_s1, run_s2, run_s3, opD, truD, biD, insOf, itD, enD, slD, List.getElem?_cons_zero, List.getElem?_cons_succ, List.getElem?_nil, -getElem?_pos, j0, j1, j2, j4, i1, eqD_str, eqD_kD, sl2_iff, forL, okW, ha, hb', sizeL, le1, le2] at hb
            refine ⟨_, _, .inl hb.symm, rfl, rfl, _, _, _, by simp [endsF_snoc, r1, outOf, ha, hb']; exact ⟨rfl, rfl, rfl⟩⟩
      · simp [bodyF, aaF, compF, set1F, set2F, runD, startE, x_cons, x_nil, t_nx, t_rt, t_bk, t_ct, t_no, exS.eq_1, exS.eq_2, exS.eq_3, exS.eq_4, exS.eq_5, exS.eq_6, exS.eq_7, exS.eq_8, exS.eq_10, exS.eq_11, exS.eq_12, exS.eq_13, exS.eq_14, exS.eq_15, exS.eq_16, x_forr, evX.eq_1, evX.eq_2, evX.eq_3, evX.eq_4, evX.eq_5, evX.eq_6, evX.eq_7, evX.eq_8, evX.eq_9, evX.eq_10, evX.eq_11, evX.eq_12, evX.eq_13, evX.eq_14, evX.eq_15, evX.eq_16, evX.eq_17, evX.eq_18, evX.eq_19, evX.eq_20, evX.eq_21, evX.eq_22, evX.eq_24, evX.eq_25, evX.eq_26, evX.eq_29, x_aa, evF.eq_1, x_comp, evF.eq_3, evF.eq_4, evF.eq_5, x_sset2, fz, fz1, esc, escB, escs, escBs, escO, escF, escI, escJ, evXs, evBs, evO, evC, evI.eq_1, evI.eq_4, x_rng1, x_rng2, Pat.slots, wipeE, bindP, unpack, cmpD, leave, run_s1, run_s2, run_s3, opD, truD, biD, insOf, itD, enD, slD, List.getElem?_cons_zero, List.getElem?_cons_succ, List.getElem?_nil, -getElem?_pos, j0, j1, j2, j4, i1, eqD_str, eqD_kD, hk] at hb
        have : (r1 x (Itm.rd a b c k)).filterMap (outOf ks[j]) = [] := by
          simp only [r1]
          split <;> split <;> simp [outOf, hk]
        refine ⟨_, _, .inl hb.symm, rfl, rfl, _, _, _, by simp [endsF_snoc, this]; exact ⟨rfl, rfl, rfl⟩⟩)
  exact ⟨_, _, _, rfl⟩
/-- the ends of a row of places -/
theorem ways_row {n : Nat} {W : Wd} {its : List Itm} {pl : Str} {ks : List (Option Str)} {j : Nat} (hj : j < ks.length) {rows : List Str} (hl : its.length ≤ 1000) (hrl : rows.length ≤ 1000)
    (hbnd : ∀ done rest, rows = done ++ rest → (done.foldl (wStep (rOf its) ks[j]) ([], [])).1.length ≤ 1000) {s3 s7 s8 s9 s10 s11 : Sv} {o : Option Out}
    (e : forL (bodyF pg (run pg dfs n) n (Pat.one 7) [(.asgF 8 (.disp .nil)),
      (.forr (.one 9) (.seq (.var 0))
       [(.ite (.and (.cmp .eq (.ix (.var 9) (.cst (.int 0))) (.cst (.str "road"))) (.cmp .eq (.ix (.var 9) (.cst (.int 4))) (.ix (.var 2) (.var 4))))
         [(.forr (.tup [10, 11]) (.seq (.fr (.disp (.cons (.tup (.cons (.ix (.var 9) (.cst (.int 1))) (.cons (.ix (.var 9) (.cst (.int 2))) .nil))) (.cons (.tup (.cons (.ix (.var 9) (.cst (.int 2))) (.cons (.ix (.var 9) (.cst (.int 1))) .nil))) .nil)))))
           [(.ite (.cmp .eq (.var 10) (.var 7))
             [(.app 8 (.var 11))]
             [])])]
         [])]),
      (.ite (.cmp .eq (.bi .len (.cons (.var 8) .nil)) (.cst (.int 0)))
       [(.app 6 (.var 7))]
       []),
      (.asg 5 (.op .add (.var 5) (.fr (.comp (.one 12) (.seq (.var 8)) (.yes (.cmp .notin (.var 12) (.var 5))) (.var 12)))))]) none W (rows.map .str) [.val (.lst (its.map Itm.d)), .val (.str pl), .val (.lst (ks.map kD)), s3, .val (.int j), .own [], .own [], s7, s8, s9, s10, s11, .no] W = o) :
    ∃ s5 s7 s8 s9 s10 s11, o = some (.nx [.val (.lst (its.map Itm.d)), .val (.str pl), .val (.lst (ks.map kD)), s3, .val (.int j), s5, .own ((wRow (rOf its) ks[j] rows).2.map .str), s7, s8, s9, s10, s11, .no] W) ∧ (s5 = .own ((wRow (rOf its) ks[j] rows).1.map .str) ∨ s5 = .val (.lst ((wRow (rOf its) ks[j] rows).1.map .str))) := by
  obtain ⟨env1, W1, rfl, rfl, s5, t7, t8, t9, t10, t11, rfl, h5, _⟩ := use_i (gmap_map D.str 0 _) e (fun done env W' => W' = W ∧ ∃ s5 s7 s8 s9 s10 s11, env = [.val (.lst (its.map Itm.d)), .val (.str pl), .val (.lst (ks.map kD)), s3, .val (.int j), s5, .own ((done.foldl (wStep (rOf its) ks[j]) ([], [])).2.map .str), s7, s8, s9, s10, s11, .no] ∧ (s5 = .own ((done.foldl (wStep (rOf its) ks[j]) ([], [])).1.map .str) ∨ s5 = .val (.lst ((done.foldl (wStep (rOf its) ks[j]) ([], [])).1.map .str))) ∧ (done.foldl (wStep (rOf its) ks[j]) ([], [])).2.length ≤ done.length)
    ⟨rfl, _, _, _, _, _, _, rfl, .inl rfl, by simp⟩ (by
    rintro done x rest env W' hd ⟨rfl, s5, t7, t8, t9, t10, t11, rfl, h5, hst⟩
    have b1 := hbnd done (x :: rest) hd
    have b2 := hbnd (done ++ [x]) rest (by simp [hd])
    have ld : done.length ≤ rows.length := by rw [hd]; simp
    rw [List.foldl_append] at b2
    simp only [List.foldl_append, List.foldl_cons, List.foldl_nil] at b2 ⊢
    generalize done.foldl (wStep (rOf its) ks[j]) ([], []) = acc at b1 b2 h5 hst ⊢
    generalize hb : bodyF _ _ _ _ _ _ _ _ = r
    have lst' : acc.2.length < 16777216 := by omega
    have res : ∃ s7 s8 s9 s10 s11, r = some (.nx [.val (.lst (its.map Itm.d)), .val (.str pl), .val (.lst (ks.map kD)), s3, .val (.int j), .val (.lst ((wStep (rOf its) ks[j] acc x).1.map .str)), .own ((wStep (rOf its) ks[j] acc x).2.map .str), s7, s8, s9, s10, s11, .no] W') := by
      have hp : ∀ y ∈ (endsF (rOf its) ks[j] x).map D.str, ∀ s5, (s5 = Sv.own (acc.1.map .str) ∨ s5 = Sv.val (.lst (acc.1.map .str))) → ∀ (s6 t9 t10 t11 : Sv), compF pg (run pg dfs n) n (Pat.one 12) (Oe.yes (Ex.cmp COp.notin (Ex.var 12) (Ex.var 5))) (Ex.var 12) [.val (.lst (its.map Itm.d)), .val (.str pl), .val (.lst (ks.map kD)), s3, .val (.int j), s5, s6, .val (.str x), .own ((endsF (rOf its) ks[j] x).map .str), t9, t10, t11, .no] y W' = some ((fun d => match d with | .str y => if y ∈ acc.1 then none else some (D.str y) | _ => none) y, W') := by
        intro y hy s5 h5 s6 t9 t10 t11
        obtain ⟨z, hz, rfl⟩ := List.mem_map.mp hy
        have i1 := inD_lst_str W' z acc.1
        by_cases hm : z ∈ acc.1
        · rw [decide_eq_true hm] at i1
          rcases h5 with rfl | rfl <;> simp [bodyF, aaF, compF, set1F, set2F, runD, startE, x_cons, x_nil, t_nx, t_rt, t_bk, t_ct, t_no, exS.eq_1, exS.eq_2, exS.eq_3, exS.eq_4, exS.eq_5, exS.eq_6, exS.eq_7, exS.eq_8, exS.eq_10, exS.eq_11, exS.eq_12, exS.eq_13, exS.eq_14, exS.eq_15, exS.eq_16, x_forr, evX.eq_1, evX.eq_2, evX.eq_3, evX.eq_4, evX.eq_5, evX.eq_6, evX.eq_7, evX.eq_8, evX.eq_9, evX.eq_10, evX.eq_11, evX.eq_12, evX.eq_13, evX.eq_14, evX.eq_15, evX.eq_16, evX.eq_17, evX.eq_18, evX.eq_19, evX.eq_20, evX.eq_21, evX.eq_22, evX.eq_24, evX.eq_25, evX.eq_26, evX.eq_29, x_aa, evF.eq_1, x_comp, evF.eq_3, evF.eq_4, evF.eq_5, x_sset2, fz, fz1, esc, escB, escs, escBs, escO, escF, escI, escJ, evXs, evBs, evO, evC, evI.eq_1, evI.eq_4, x_rng1, x_rng2, Pat.slots, wipeE, bindP, unpack, cmpD, ixD, L2.atI, L2.ixN, leave, run_s1, run_s2, run_s3, opD, truD, biD, insOf, itD, enD, slD, List.getElem?_cons_zero, List.getElem?_cons_succ, List.getElem?_nil, -getElem?_pos, i1, hm]
        · rw [decide_eq_false hm] at i1
          rcases h5 with rfl | rfl <;> simp [bodyF, aaF, compF, set1F, set2F, runD, startE, x_cons, x_nil, t_nx, t_rt, t_bk, t_ct, t_no, exS.eq_1, exS.eq_2, exS.eq_3, exS.eq_4, exS.eq_5, exS.eq_6, exS.eq_7, exS.eq_8, exS.eq_10, exS.eq_11, exS.eq_12, exS.eq_13, exS.eq_14, exS.eq_15, exS.eq_16, x_forr, evX.eq_1, evX.eq_2, evX.eq_3, evX.eq_4, evX.eq_5, evX.eq_6, evX.eq_7, evX.eq_8, evX.eq_9, evX.eq_10, evX.eq_11, evX.eq_12, evX.eq_13, evX.eq_14, evX.eq_15, evX.eq_16, evX.eq_17, evX.eq_18, evX.eq_19, evX.eq_20, evX.eq_21, evX.eq_22, evX.eq_24, evX.eq_25, evX.eq_26, evX.eq_29, x_aa, evF.eq_1, x_comp, evF.eq_3, evF.eq_4, evF.eq_5, x_sset2, fz, fz1, esc, escB, escs, escBs, escO, escF, escI, escJ, evXs, evBs, evO, evC, evI.eq_1, evI.eq_4, x_rng1, x_rng2, Pat.slots, wipeE, bindP, unpack, cmpD, ixD, L2.atI, L2.ixN, leave, run_s1, run_s2, run_s3, opD, truD, biD, insOf, itD, enD, slD, List.getElem?_cons_zero, List.getElem?_cons_succ, List.getElem?_nil, -getElem?_pos, i1, hm]
      have ef : ((endsF (rOf its) ks[j] x).map D.str).filterMap (fun d => match d with | .str y => if y ∈ acc.1 then none else some (D.str y) | _ => none) = ((endsF (rOf its) ks[j] x).filter (fun y => !decide (y ∈ acc.1))).map .str := by
        generalize endsF (rOf its) ks[j] x = l
        induction l with
        | nil => rfl
        | cons y l ih =>
          rw [List.map_cons, List.filterMap_cons, ih, List.filter_cons]
          by_cases hm : y ∈ acc.1 <;> simp [hm]
      have le : (endsF (rOf its) ks[j] x).length < 16777216 := by
        have h1 : (endsF (rOf its) ks[j] x).length ≤ (rOf its x).length := List.length_filterMap_le ..
        have h2 := rOf_len its x
        omega
      have l2 : acc.1.length + ((endsF (rOf its) ks[j] x).filter (fun y => !decide (y ∈ acc.1))).length ≤ 16777216 := by
        have : (wStep (rOf its) ks[j] acc x).1.length ≤ 1000 := b2
        simp only [wStep, List.length_append] at this
        omega
      have l3 : acc.1.length ≤ 16777216 := by omega
      by_cases he : (endsF (rOf its) ks[j] x).length = 0
      · have he0 : endsF (rOf its) ks[j] x = [] := List.length_eq_zero_iff.mp he
        rcases h5 with rfl | rfl
        · simp [bodyF, aaF, compF, set1F, set2F, runD, startE, x_cons, x_nil, t_nx, t_rt, t_bk, t_ct, t_no, exS.eq_1, exS.eq_2, exS.eq_3, exS.eq_4, exS.eq_5, exS.eq_6, exS.eq_7, exS.eq_8, exS.eq_10, exS.eq_11, exS.eq_12, exS.eq_13, exS.eq_14, exS.eq_15, exS.eq_16, x_forr, evX.eq_1, evX.eq_2, evX.eq_3, evX.eq_4, evX.eq_5, evX.eq_6, evX.eq_7, evX.eq_8, evX.eq_9, evX.eq_10, evX.eq_11, evX.eq_12, evX.eq_13, evX.eq_14, evX.eq_15, evX.eq_16, evX.eq_17, evX.eq_18, evX.eq_19, evX.eq_20, evX.eq_21, evX.eq_22, evX.eq_24, evX.eq_25, evX.eq_26, evX.eq_29, x_aa, evF.eq_1, x_comp, evF.eq_3, evF.eq_4, evF.eq_5, x_sset2, fz, fz1, esc, escB, escs, escBs, escO, escF, escI, escJ, evXs, evBs, evO, evC, evI.eq_1, evI.eq_4, x_rng1, x_rng2, Pat.slots, wipeE, bindP, unpack, cmpD, ixD, L2.atI, L2.ixN, leave, run_s1, run_s2, run_s3, opD, truD, biD, insOf, itD, enD, slD, List.getElem?_cons_zero, List.getElem?_cons_succ, List.getElem?_nil, -getElem?_pos, sl2_iff] at hb
          generalize e2 : forL _ _ _ _ _ _ = o2 at hb
          obtain ⟨u9, u10, u11, rfl⟩ := ways_ends hj hl e2
          simp [runD, startE, x_cons, x_nil, t_nx, t_rt, t_bk, t_ct, t_no, exS.eq_1, exS.eq_2, exS.eq_3, exS.eq_4, exS.eq_5, exS.eq_6, exS.eq_7, exS.eq_8, exS.eq_10, exS.eq_11, exS.eq_12, exS.eq_13, exS.eq_14, exS.eq_15, exS.eq_16, x_forr, evX.eq_1, evX.eq_2, evX.eq_3, evX.eq_4, evX.eq_5, evX.eq_6, evX.eq_7, evX.eq_8, evX.eq_9, evX.eq_10, evX.eq_11, evX.eq_12, evX.eq_13, evX.eq_14, evX.eq_15, evX.eq_16, evX.eq_17, evX.eq_18, evX.eq_19, evX.eq_20, evX.eq_21, evX.eq_22, evX.eq_24, evX.eq_25, evX.eq_26, evX.eq_29, x_aa, evF.eq_1, x_comp, evF.eq_3, evF.eq_4, evF.eq_5, x_sset2, fz, fz1, esc, escB, escs, escBs, escO, escF, escI, escJ, evXs, evBs, evO, evC, evI.eq_1, evI.eq_4, x_rng1, x_rng2, Pat.slots, wipeE, bindP, unpack, cmpD, ixD, L2.atI, L2.ixN, leave, run_s1, run_s2, run_s3, opD, truD, biD, insOf, itD, enD, slD, List.getElem?_cons_zero, List.getElem?_cons_succ, List.getElem?_nil, -getElem?_pos, sl2_iff, eqD_int, he0, sizeL, lst', mapL, l3] at hb
          exact ⟨_, _, _, _, _, by rw [← hb]; simp [wStep, he0]; exact ⟨rfl, rfl, rfl, rfl, rfl⟩⟩
        · simp [bodyF, aaF, compF, set1F, set2F, runD, startE, x_cons, x_nil, t_nx, t_rt, t_bk, t_ct, t_no, exS.eq_1, exS.eq_2, exS.eq_3, exS.eq_4, exS.eq_5, exS.eq_6, exS.eq_7, exS.eq_8, exS.eq_10, exS.eq_11, exS.eq_12, exS.eq_13, exS.eq_14, exS.eq_15, exS.eq_16, x_forr, evX.eq_1, evX.eq_2, evX.eq_3, evX.eq_4, evX.eq_5, evX.eq_6, evX.eq_7, evX.eq_8, evX.eq_9, evX.eq_10, evX.eq_11, evX.eq_12, evX.eq_13, evX.eq_14, evX.eq_15, evX.eq_16, evX.eq_17, evX.eq_18, evX.eq_19, evX.eq_20, evX.eq_21, evX.eq_22, evX.eq_24, evX.eq_25, evX.eq_26, evX.eq_29, x_aa, evF.eq_1, x_comp, evF.eq_3, evF.eq_4, evF.eq_5, x_sset2, fz, fz1, esc, escB, escs, escBs, escO, escF, escI, escJ, evXs, evBs, evO, evC, evI.eq_1, evI.eq_4, x_rng1, x_rng2, Pat.slots, wipeE, bindP, unpack, cmpD, ixD, L2.atI, L2.ixN, leave, run_s1, run_s2, run_s3, opD, truD, biD, insOf, itD, enD, slD, List.getElem?_cons_zero, List.getElem?_cons_succ, List.getElem?_nil, -getElem?_pos, sl2_iff] at hb
          generalize e2 : forL _ _ _ _ _ _ = o2 at hb
          obtain ⟨u9, u10, u11, rfl⟩ := ways_ends hj hl e2
          simp [runD, startE, x_cons, x_nil, t_nx, t_rt, t_bk, t_ct, t_no, exS.eq_1, exS.eq_2, exS.eq_3, exS.eq_4, exS.eq_5, exS.eq_6, exS.eq_7, exS.eq_8, exS.eq_10, exS.eq_11, exS.eq_12, exS.eq_13, exS.eq_14, exS.eq_15, exS.eq_16, x_forr, evX.eq_1, evX.eq_2, evX.eq_3, evX.eq_4, evX.eq_5, evX.eq_6, evX.eq_7, evX.eq_8, evX.eq_9, evX.eq_10, evX.eq_11, evX.eq_12, evX.eq_13, evX.eq_14, evX.eq_15, evX.eq_16, evX.eq_17, evX.eq_18, evX.eq_19, evX.eq_20, evX.eq_21, evX.eq_22, evX.eq_24, evX.eq_25, evX.eq_26, evX.eq_29, x_aa, evF.eq_1, x_comp, evF.eq_3, evF.eq_4, evF.eq_5, x_sset2, fz, fz1, esc, escB, escs, escBs, escO, escF, escI, escJ, evXs, evBs, evO, evC, evI.eq_1, evI.eq_4, x_rng1, x_rng2, Pat.slots, wipeE, bindP, unpack, cmpD, ixD, L2.atI, L2.ixN, leave, run_s1, run_s2, run_s3, opD, truD, biD, insOf, itD, enD, slD, List.getElem?_cons_zero, List.getElem?_cons_succ, List.getElem?_nil, -getElem?_pos, sl2_iff, eqD_int, he0, sizeL, lst', mapL, l3] at hb
          exact ⟨_, _, _, _, _, by rw [← hb]; simp [wStep, he0]; exact ⟨rfl, rfl, rfl, rfl, rfl⟩⟩
      · rcases h5 with rfl | rfl
        · simp [bodyF, aaF, compF, set1F, set2F, runD, startE, x_cons, x_nil, t_nx, t_rt, t_bk, t_ct, t_no, exS.eq_1, exS.eq_2, exS.eq_3, exS.eq_4, exS.eq_5, exS.eq_6, exS.eq_7, exS.eq_8, exS.eq_10, exS.eq_11, exS.eq_12, exS.eq_13, exS.eq_14, exS.eq_15, exS.eq_16, x_forr, evX.eq_1, evX.eq_2, evX.eq_3, evX.eq_4, evX.eq_5, evX.eq_6, evX.eq_7, evX.eq_8, evX.eq_9, evX.eq_10, evX.eq_11, evX.eq_12, evX.eq_13, evX.eq_14, evX.eq_15, evX.eq_16, evX.eq_17, evX.eq_18, evX.eq_19, evX.eq_20, evX.eq_21, evX.eq_22, evX.eq_24, evX.eq_25, evX.eq_26, evX.eq_29, x_aa, evF.eq_1, x_comp, evF.eq_3, evF.eq_4, evF.eq_5, x_sset2, fz, fz1, esc, escB, escs, escBs, escO, escF, escI, escJ, evXs, evBs, evO, evC, evI.eq_1, evI.eq_4, x_rng1, x_rng2, Pat.slots, wipeE, bindP, unpack, cmpD, ixD, L2.atI, L2.ixN, leave, run_s1, run_s2, run_s3, opD, truD, biD, insOf, itD, enD, slD, List.getElem?_cons_zero, List.getElem?_cons_succ, List.getElem?_nil, -getElem?_pos, sl2_iff] at hb
          generalize e2 : forL _ _ _ _ _ _ = o2 at hb
          obtain ⟨u9, u10, u11, rfl⟩ := ways_ends hj hl e2
          have m := mapL_pure (gd := none) (W := W') rfl _ (fun y hy => hp y hy (.own (acc.1.map .str)) (.inl rfl) (.own (acc.2.map .str)) u9 u10 u11)
          simp [runD, startE, x_cons, x_nil, t_nx, t_rt, t_bk, t_ct, t_no, exS.eq_1, exS.eq_2, exS.eq_3, exS.eq_4, exS.eq_5, exS.eq_6, exS.eq_7, exS.eq_8, exS.eq_10, exS.eq_11, exS.eq_12, exS.eq_13, exS.eq_14, exS.eq_15, exS.eq_16, x_forr, evX.eq_1, evX.eq_2, evX.eq_3, evX.eq_4, evX.eq_5, evX.eq_6, evX.eq_7, evX.eq_8, evX.eq_9, evX.eq_10, evX.eq_11, evX.eq_12, evX.eq_13, evX.eq_14, evX.eq_15, evX.eq_16, evX.eq_17, evX.eq_18, evX.eq_19, evX.eq_20, evX.eq_21, evX.eq_22, evX.eq_24, evX.eq_25, evX.eq_26, evX.eq_29, x_aa, evF.eq_1, x_comp, evF.eq_3, evF.eq_4, evF.eq_5, x_sset2, fz, fz1, esc, escB, escs, escBs, escO, escF, escI, escJ, evXs, evBs, evO, evC, evI.eq_1, evI.eq_4, x_rng1, x_rng2, Pat.slots, wipeE, bindP, unpack, cmpD, ixD, L2.atI, L2.ixN, leave, run_s1, run_s2, run_s3, opD, truD, biD, insOf, itD, enD, slD, List.getElem?_cons_zero, List.getElem?_cons_succ, List.getElem?_nil, -getElem?_pos, sl2_iff, eqD_int, he, sizeL, le] at hb
          rw [m, ef] at hb
          simp [runD, startE, x_cons, x_nil, t_nx, t_rt, t_bk, t_ct, t_no, exS.eq_1, exS.eq_2, exS.eq_3, exS.eq_4, exS.eq_5, exS.eq_6, exS.eq_7, exS.eq_8, exS.eq_10, exS.eq_11, exS.eq_12, exS.eq_13, exS.eq_14, exS.eq_15, exS.eq_16, x_forr, evX.eq_1, evX.eq_2, evX.eq_3, evX.eq_4, evX.eq_5, evX.eq_6, evX.eq_7, evX.eq_8, evX.eq_9, evX.eq_10, evX.eq_11, evX.eq_12, evX.eq_13, evX.eq_14, evX.eq_15, evX.eq_16, evX.eq_17, evX.eq_18, evX.eq_19, evX.eq_20, evX.eq_21, evX.eq_22, evX.eq_24, evX.eq_25, evX.eq_26, evX.eq_29, x_aa, evF.eq_1, x_comp, evF.eq_3, evF.eq_4, evF.eq_5, x_sset2, fz, fz1, esc, escB, escs, escBs, escO, escF, escI, escJ, evXs, evBs, evO, evC, evI.eq_1, evI.eq_4, x_rng1, x_rng2, Pat.slots, wipeE, bindP, unpack, cmpD, ixD, L2.atI, L2.ixN, leave, run_s1, run_s2, run_s3, opD, truD, biD, insOf, itD, enD, slD, List.getElem?_cons_zero, List.getElem?_cons_succ, List.getElem?_nil, -getElem?_pos, sl2_iff, l2] at hb
          exact ⟨_, _, _, _, _, by rw [← hb]; simp [wStep, he]; exact ⟨rfl, rfl, rfl, rfl, rfl⟩⟩
        · simp [bodyF, aaF, compF, set1F, set2F, runD, startE, x_cons, x_nil, t_nx, t_rt, t_bk, t_ct, t_no, exS.eq_1, exS.eq_2, exS.eq_3, exS.eq_4, exS.eq_5, exS.eq_6, exS.eq_7, exS.eq_8, exS.eq_10, exS.eq_11, exS.eq_12, exS.eq_13, exS.eq_14, exS.eq_15, exS.eq_16, x_forr, evX.eq_1, evX.eq_2, evX.eq_3, evX.eq_4, evX.eq_5, evX.eq_6, evX.eq_7, evX.eq_8, evX.eq_9, evX.eq_10, evX.eq_11, evX.eq_12, evX.eq_13, evX.eq_14, evX.eq_15, evX.eq_16, evX.eq_17, evX.eq_18, evX.eq_19, evX.eq_20, evX.eq_21, evX.eq_22, evX.eq_24, evX.eq_25, evX.eq_26, evX.eq_29, x_aa, evF.eq_1, x_comp, evF.eq_3, evF.eq_4, evF.eq_5, x_sset2, fz, fz1, esc, escB, escs, escBs, escO, escF, escI, escJ, evXs, evBs, evO, evC, evI.eq_1, evI.eq_4, x_rng1, x_rng2, Pat.slots, wipeE, bindP, unpack, cmpD, ixD, L2.atI, L2.ixN, leave, run_s1, run_s2, run_s3, opD, truD, biD, insOf, itD, enD, slD, List.getElem?_cons_zero, List.getElem?_cons_succ, List.getElem?_nil, -getElem?_pos, sl2_iff] at hb
          generalize e2 : forL _ _ _ _ _ _ = o2 at hb
          obtain ⟨u9, u10, u11, rfl⟩ := ways_ends hj hl e2
          have m := mapL_pure (gd := none) (W := W') rfl _ (fun y hy => hp y hy (.val (.lst (acc.1.map .str))) (.inr rfl) (.own (acc.2.map .str)) u9 u10 u11)
          simp [runD, startE, x_cons, x_nil, t_nx, t_rt, t_bk, t_ct, t_no, exS.eq_1, exS.eq_2, exS.eq_3, exS.eq_4, exS.eq_5, exS.eq_6, exS.eq_7, exS.eq_8, exS.eq_10, exS.eq_11, exS.eq_12, exS.eq_13, exS.eq_14, exS.eq_15, exS.eq_16, x_forr, evX.eq_1, evX.eq_2, evX.eq_3, evX.eq_4, evX.eq_5, evX.eq_6, evX.eq_7, evX.eq_8, evX.eq_9, evX.eq_10, evX.eq_11, evX.eq_12, evX.eq_13, evX.eq_14, evX.eq_15, evX.eq_16, evX.eq_17, evX.eq_18, evX.eq_19, evX.eq_20, evX.eq_21, evX.eq_22, evX.eq_24, evX.eq_25, evX.eq_26, evX.eq_29, x_aa, evF.eq_1, x_comp, evF.eq_3, evF.eq_4, evF.eq_5, x_sset2, fz, fz1, esc, escB, escs, escBs, escO, escF, escI, escJ, evXs, evBs, evO, evC, evI.eq_1, evI.eq_4, x_rng1, x_rng2, Pat.slots, wipeE, bindP, unpack, cmpD, ixD, L2.atI, L2.ixN, leave, run_s1, run_s2, run_s3, opD, truD, biD, insOf, itD, enD, slD, List.getElem?_cons_zero, List.getElem?_cons_succ, List.getElem?_nil, -getElem?_pos, sl2_iff, eqD_int, he, sizeL, le] at hb
          rw [m, ef] at hb
          simp [runD, startE, x_cons, x_nil, t_nx, t_rt, t_bk, t_ct, t_no, exS.eq_1, exS.eq_2, exS.eq_3, exS.eq_4, exS.eq_5, exS.eq_6, exS.eq_7, exS.eq_8, exS.eq_10, exS.eq_11, exS.eq_12, exS.eq_13, exS.eq_14, exS.eq_15, exS.eq_16, x_forr, evX.eq_1, evX.eq_2, evX.eq_3, evX.eq_4, evX.eq_5, evX.eq_6, evX.eq_7, evX.eq_8, evX.eq_9, evX.eq_10, evX.eq_11, evX.eq_12, evX.eq_13, evX.eq_14, evX.eq_15, evX.eq_16, evX.eq_17, evX.eq_18, evX.eq_19, evX.eq_20, evX.eq_21, evX.eq_22, evX.eq_24, evX.eq_25, evX.eq_26, evX.eq_29, x_aa, evF.eq_1, x_comp, evF.eq_3, evF.eq_4, evF.eq_5, x_sset2, fz, fz1, esc, escB, escs, escBs, escO, escF, escI, escJ, evXs, evBs, evO, evC, evI.eq_1, evI.eq_4, x_rng1, x_rng2, Pat.slots, wipeE, bindP, unpack, cmpD, ixD, L2.atI, L2.ixN, leave, run_s1, run_s2, run_s3, opD, truD, biD, insOf, itD, enD, slD, List.getElem?_cons_zero, List.getElem?_cons_succ, List.getElem?_nil, -getElem?_pos, sl2_iff, l2] at hb
          exact ⟨_, _, _, _, _, by rw [← hb]; simp [wStep, he]; exact ⟨rfl, rfl, rfl, rfl, rfl⟩⟩
    obtain ⟨u7, u8, u9, u10, u11, hr⟩ := res
    refine ⟨_, _, .inl hr, rfl, rfl, _, _, _, _, _, _, rfl, .inr rfl, ?_⟩
    simp only [wStep, List.length_append, List.length_cons, List.length_nil]
    split
    · simp; omega
    · omega)
  exact ⟨s5, t7, t8, t9, t10, t11, rfl, h5⟩
end P76
end
section
set_option Elab.async false
set_option linter.all false
set_option maxRecDepth 100000
set_option maxHeartbeats 2000000
namespace P76
open Pv Pu
open PySem (Str)
theorem wRow_props {its : List Itm} (h : ShopOk its) {kd : Option Str} {rows : List Str} : (wRow (rOf its) kd rows).1.Nodup ∧ (∀ x ∈ (wRow (rOf its) kd rows).1, x ∈ places its) := by
  obtain ⟨w1, w2, w3⟩ := fold_w (endsF_nd h.ne h.ndK kd) rows ([], []) List.nodup_nil
  refine ⟨w1, fun y hy => ?_⟩
  rcases (w2 y).mp hy with hy | ⟨x, hx, hy⟩
  · cases hy
  · exact rOf_place h (endsF_mem.mp hy)
theorem ways_eq {n : Nat} {W : Wd} {its : List Itm} (h : ShopOk its) {pl : Str} (hpl : pl ∈ places its) {ks : List (Option Str)} (hks : ks.length ≤ 1000) : run pg dfs (n+1) (n+1) 55 [.lst (its.map Itm.d), .str pl, .lst (ks.map kD)] W = some (wGo (rOf its) 0 [pl] ks, W) := by
  have hil : its.length ≤ 1000 := by have := its_len its; have := h.lP; have := h.lK; omega
  have ir : ks.length ≤ 1000000000 := by omega
  rw [run_def (by rfl : dfs 55 = some d55)]
  generalize hr : runD _ _ _ _ _ _ = r
  simp [d55, b55, runD, startE, x_cons, x_nil, t_nx, t_rt, t_bk, t_ct, t_no, exS.eq_1, exS.eq_2, exS.eq_3, exS.eq_4, exS.eq_5, exS.eq_6, exS.eq_7, exS.eq_8, exS.eq_10, exS.eq_11, exS.eq_12, exS.eq_13, exS.eq_14, exS.eq_15, exS.eq_16, x_forr, evX.eq_1, evX.eq_2, evX.eq_3, evX.eq_4, evX.eq_5, evX.eq_6, evX.eq_7, evX.eq_8, evX.eq_9, evX.eq_10, evX.eq_11, evX.eq_12, evX.eq_13, evX.eq_14, evX.eq_15, evX.eq_16, evX.eq_17, evX.eq_18, evX.eq_19, evX.eq_20, evX.eq_21, evX.eq_22, evX.eq_24, evX.eq_25, evX.eq_26, evX.eq_29, x_aa, evF.eq_1, x_comp, evF.eq_3, evF.eq_4, evF.eq_5, x_sset2, fz, fz1, esc, escB, escs, escBs, escO, escF, escI, escJ, evXs, evBs, evO, evC, evI.eq_1, evI.eq_4, x_rng1, x_rng2, Pat.slots, wipeE, bindP, unpack, cmpD, ixD, L2.atI, L2.ixN, leave, run_s1, run_s2, run_s3, opD, truD, biD, insOf, itD, enD, slD, List.getElem?_cons_zero, List.getElem?_cons_succ, List.getElem?_nil, -getElem?_pos, sl2_iff, rngIf_nat, ir] at hr
  generalize e : forL _ _ _ _ _ _ = o at hr
  rcases use_kr e (fun j env W' => W' = W ∧ ∃ rows s3 s4 s5 s6 s7 s8 s9 s10 s11, env = [.val (.lst (its.map Itm.d)), .val (.str pl), .val (.lst (ks.map kD)), s3, s4, s5, s6, s7, s8, s9, s10, s11, .no] ∧ (s3 = .own (rows.map .str) ∨ s3 = .val (.lst (rows.map .str))) ∧ rows.Nodup ∧ (∀ x ∈ rows, x ∈ places its) ∧ wGo (rOf its) 0 [pl] ks = wGo (rOf its) j rows (ks.drop j))
    (fun d W' => W' = W ∧ d = wGo (rOf its) 0 [pl] ks)
    ⟨rfl, [pl], _, _, _, _, _, _, _, _, _, rfl, .inl rfl, by simp, by simpa using hpl, rfl⟩ (by
    rintro j env W' hj ⟨rfl, rows, s3, s4, s5, s6, s7, s8, s9, s10, s11, rfl, h3, hnd, hsub, hgo⟩
    have hrl : rows.length ≤ 1000 := by have := nd_len hnd hsub; have := h.lP; omega
    have hbnd : ∀ done rest, rows = done ++ rest → (done.foldl (wStep (rOf its) ks[j]) ([], [])).1.length ≤ 1000 := fun done rest _ => by
      have w := wRow_props h (kd := ks[j]) (rows := done)
      have := h.lP
      have q : (done.foldl (wStep (rOf its) ks[j]) ([], [])).1.length ≤ (places its).length := nd_len w.1 w.2
      omega
    rw [List.drop_eq_getElem_cons hj, wGo] at hgo
    have w := wRow_props h (kd := ks[j]) (rows := rows)
    generalize hb : bodyF _ _ _ _ _ _ _ _ = r
    have key : ∃ s5 s7 s8 s9 s10 s11, thenS pg (run pg dfs n) n (some (.nx [.val (.lst (its.map Itm.d)), .val (.str pl), .val (.lst (ks.map kD)), .val (.lst (rows.map .str)), .val (.int j), s5, .own ((wRow (rOf its) ks[j] rows).2.map .str), s7, s8, s9, s10, s11, .no] W')) [(.ite (.cmp .gt (.bi .len (.cons (.var 6) .nil)) (.cst (.int 0)))
     [(.ret (.tup (.cons (.cst (.str "stuck")) (.cons (.var 4) (.cons (.bi .minl (.cons (.var 6) .nil)) .nil)))))]
     []),
    (.asg 3 (.var 5))] = r ∧ (s5 = .own ((wRow (rOf its) ks[j] rows).1.map .str) ∨ s5 = .val (.lst ((wRow (rOf its) ks[j] rows).1.map .str))) := by
      rcases h3 with rfl | rfl
      · simp [bodyF, aaF, compF, set1F, set2F, runD, startE, x_cons, x_nil, t_nx, t_rt, t_bk, t_ct, t_no, exS.eq_1, exS.eq_2, exS.eq_3, exS.eq_4, exS.eq_5, exS.eq_6, exS.eq_7, exS.eq_8, exS.eq_10, exS.eq_11, exS.eq_12, exS.eq_13, exS.eq_14, exS.eq_15, exS.eq_16, x_forr, evX.eq_1, evX.eq_2, evX.eq_3, evX.eq_4, evX.eq_5, evX.eq_6, evX.eq_7, evX.eq_8, evX.eq_9, evX.eq_10, evX.eq_11, evX.eq_12, evX.eq_13, evX.eq_14, evX.eq_15, evX.eq_16, evX.eq_17, evX.eq_18, evX.eq_19, evX.eq_20, evX.eq_21, evX.eq_22, evX.eq_24, evX.eq_25, evX.eq_26, evX.eq_29, x_aa, evF.eq_1, x_comp, evF.eq_3, evF.eq_4, evF.eq_5, x_sset2, fz, fz1, esc, escB, escs, escBs, escO, escF, escI, escJ, evXs, evBs, evO, evC, evI.eq_1, evI.eq_4, x_rng1, x_rng2, Pat.slots, wipeE, bindP, unpack, cmpD, ixD, L2.atI, L2.ixN, leave, run_s1, run_s2, run_s3, opD, truD, biD, insOf, itD, enD, slD, List.getElem?_cons_zero, List.getElem?_cons_succ, List.getElem?_nil, -getElem?_pos, sl2_iff] at hb
        generalize e2 : forL _ _ _ _ _ _ = o2 at hb
        obtain ⟨t5, t7, t8, t9, t10, t11, rfl, h5⟩ := ways_row hj hil hrl hbnd e2
        exact ⟨_, _, _, _, _, _, hb, h5⟩
      · simp [bodyF, aaF, compF, set1F, set2F, runD, startE, x_cons, x_nil, t_nx, t_rt, t_bk, t_ct, t_no, exS.eq_1, exS.eq_2, exS.eq_3, exS.eq_4, exS.eq_5, exS.eq_6, exS.eq_7, exS.eq_8, exS.eq_10, exS.eq_11, exS.eq_12, exS.eq_13, exS.eq_14, exS.eq_15, exS.eq_16, x_forr, evX.eq_1, evX.eq_2, evX.eq_3, evX.eq_4, evX.eq_5, evX.eq_6, evX.eq_7, evX.eq_8, evX.eq_9, evX.eq_10, evX.eq_11, evX.eq_12, evX.eq_13, evX.eq_14, evX.eq_15, evX.eq_16, evX.eq_17, evX.eq_18, evX.eq_19, evX.eq_20, evX.eq_21, evX.eq_22, evX.eq_24, evX.eq_25, evX.eq_26, evX.eq_29, x_aa, evF.eq_1, x_comp, evF.eq_3, evF.eq_4, evF.eq_5, x_sset2, fz, fz1, esc, escB, escs, escBs, escO, escF, escI, escJ, evXs, evBs, evO, evC, evI.eq_1, evI.eq_4, x_rng1, x_rng2, Pat.slots, wipeE, bindP, unpack, cmpD, ixD, L2.atI, L2.ixN, leave, run_s1, run_s2, run_s3, opD, truD, biD, insOf, itD, enD, slD, List.getElem?_cons_zero, List.getElem?_cons_succ, List.getElem?_nil, -getElem?_pos, sl2_iff] at hb
        generalize e2 : forL _ _ _ _ _ _ = o2 at hb
        obtain ⟨t5, t7, t8, t9, t10, t11, rfl, h5⟩ := ways_row hj hil hrl hbnd e2
        exact ⟨_, _, _, _, _, _, hb, h5⟩
    clear hb
    obtain ⟨t5, t7, t8, t9, t10, t11, hb, h5⟩ := key
    cases hst : (wRow (rOf its) ks[j] rows).2 with
    | nil =>
      left
      rw [hst] at hgo hb
      refine ⟨[.val (.lst (its.map Itm.d)), .val (.str pl), .val (.lst (ks.map kD)), .val (.lst ((wRow (rOf its) ks[j] rows).1.map .str)), .val (.int j), .val (.lst ((wRow (rOf its) ks[j] rows).1.map .str)), .own [], t7, t8, t9, t10, t11, .no], W', ?_, rfl, rfl, (wRow (rOf its) ks[j] rows).1, _, _, _, _, _, _, _, _, _, rfl, .inr rfl, w.1, w.2, hgo⟩
      rcases h5 with rfl | rfl <;> (simp [runD, startE, x_cons, x_nil, t_nx, t_rt, t_bk, t_ct, t_no, exS.eq_1, exS.eq_2, exS.eq_3, exS.eq_4, exS.eq_5, exS.eq_6, exS.eq_7, exS.eq_8, exS.eq_10, exS.eq_11, exS.eq_12, exS.eq_13, exS.eq_14, exS.eq_15, exS.eq_16, x_forr, evX.eq_1, evX.eq_2, evX.eq_3, evX.eq_4, evX.eq_5, evX.eq_6, evX.eq_7, evX.eq_8, evX.eq_9, evX.eq_10, evX.eq_11, evX.eq_12, evX.eq_13, evX.eq_14, evX.eq_15, evX.eq_16, evX.eq_17, evX.eq_18, evX.eq_19, evX.eq_20, evX.eq_21, evX.eq_22, evX.eq_24, evX.eq_25, evX.eq_26, evX.eq_29, x_aa, evF.eq_1, x_comp, evF.eq_3, evF.eq_4, evF.eq_5, x_sset2, fz, fz1, esc, escB, escs, escBs, escO, escF, escI, escJ, evXs, evBs, evO, evC, evI.eq_1, evI.eq_4, x_rng1, x_rng2, Pat.slots, wipeE, bindP, unpack, cmpD, ixD, L2.atI, L2.ixN, leave, run_s1, run_s2, run_s3, opD, truD, biD, insOf, itD, enD, slD, List.getElem?_cons_zero, List.getElem?_cons_succ, List.getElem?_nil, -getElem?_pos] at hb; exact hb.symm)
    | cons s r' =>
      right
      rw [hst] at hgo hb
      have lp : (0 : Int) < (r'.length : Int) + 1 := by omega
      have ss : strsOf (D.str s :: r'.map .str) = some (s :: r') := strsOf_map (s :: r')
      refine ⟨_, W', ?_, rfl, hgo.symm⟩
      simp [runD, startE, x_cons, x_nil, t_nx, t_rt, t_bk, t_ct, t_no, exS.eq_1, exS.eq_2, exS.eq_3, exS.eq_4, exS.eq_5, exS.eq_6, exS.eq_7, exS.eq_8, exS.eq_10, exS.eq_11, exS.eq_12, exS.eq_13, exS.eq_14, exS.eq_15, exS.eq_16, x_forr, evX.eq_1, evX.eq_2, evX.eq_3, evX.eq_4, evX.eq_5, evX.eq_6, evX.eq_7, evX.eq_8, evX.eq_9, evX.eq_10, evX.eq_11, evX.eq_12, evX.eq_13, evX.eq_14, evX.eq_15, evX.eq_16, evX.eq_17, evX.eq_18, evX.eq_19, evX.eq_20, evX.eq_21, evX.eq_22, evX.eq_24, evX.eq_25, evX.eq_26, evX.eq_29, x_aa, evF.eq_1, x_comp, evF.eq_3, evF.eq_4, evF.eq_5, x_sset2, fz, fz1, esc, escB, escs, escBs, escO, escF, escI, escJ, evXs, evBs, evO, evC, evI.eq_1, evI.eq_4, x_rng1, x_rng2, Pat.slots, wipeE, bindP, unpack, cmpD, ixD, L2.atI, L2.ixN, leave, run_s1, run_s2, run_s3, opD, truD, biD, insOf, itD, enD, slD, List.getElem?_cons_zero, List.getElem?_cons_succ, List.getElem?_nil, -getElem?_pos, sl2_iff, lp, ss] at hb
      exact hb.symm) with ⟨env1, W1, rfl, rfl, rows, s3, s4, s5, s6, s7, s8, s9, s10, s11, rfl, h3, hnd, hsub, hgo⟩ | ⟨d, W1, rfl, rfl, rfl⟩
  · rw [List.drop_length, wGo] at hgo
    rcases h3 with rfl | rfl
    · simp [runD, startE, x_cons, x_nil, t_nx, t_rt, t_bk, t_ct, t_no, exS.eq_1, exS.eq_2, exS.eq_3, exS.eq_4, exS.eq_5, exS.eq_6, exS.eq_7, exS.eq_8, exS.eq_10, exS.eq_11, exS.eq_12, exS.eq_13, exS.eq_14, exS.eq_15, exS.eq_16, x_forr, evX.eq_1, evX.eq_2, evX.eq_3, evX.eq_4, evX.eq_5, evX.eq_6, evX.eq_7, evX.eq_8, evX.eq_9, evX.eq_10, evX.eq_11, evX.eq_12, evX.eq_13, evX.eq_14, evX.eq_15, evX.eq_16, evX.eq_17, evX.eq_18, evX.eq_19, evX.eq_20, evX.eq_21, evX.eq_22, evX.eq_24, evX.eq_25, evX.eq_26, evX.eq_29, x_aa, evF.eq_1, x_comp, evF.eq_3, evF.eq_4, evF.eq_5, x_sset2, fz, fz1, esc, escB, escs, escBs, escO, escF, escI, escJ, evXs, evBs, evO, evC, evI.eq_1, evI.eq_4, x_rng1, x_rng2, Pat.slots, wipeE, bindP, unpack, cmpD, ixD, L2.atI, L2.ixN, leave, run_s1, run_s2, run_s3, opD, truD, biD, insOf, itD, enD, slD, List.getElem?_cons_zero, List.getElem?_cons_succ, List.getElem?_nil, -getElem?_pos, sl2_iff, srtD, strsOf_map] at hr
      rw [hgo]; exact hr.symm
    · simp [runD, startE, x_cons, x_nil, t_nx, t_rt, t_bk, t_ct, t_no, exS.eq_1, exS.eq_2, exS.eq_3, exS.eq_4, exS.eq_5, exS.eq_6, exS.eq_7, exS.eq_8, exS.eq_10, exS.eq_11, exS.eq_12, exS.eq_13, exS.eq_14, exS.eq_15, exS.eq_16, x_forr, evX.eq_1, evX.eq_2, evX.eq_3, evX.eq_4, evX.eq_5, evX.eq_6, evX.eq_7, evX.eq_8, evX.eq_9, evX.eq_10, evX.eq_11, evX.eq_12, evX.eq_13, evX.eq_14, evX.eq_15, evX.eq_16, evX.eq_17, evX.eq_18, evX.eq_19, evX.eq_20, evX.eq_21, evX.eq_22, evX.eq_24, evX.eq_25, evX.eq_26, evX.eq_29, x_aa, evF.eq_1, x_comp, evF.eq_3, evF.eq_4, evF.eq_5, x_sset2, fz, fz1, esc, escB, escs, escBs, escO, escF, escI, escJ, evXs, evBs, evO, evC, evI.eq_1, evI.eq_4, x_rng1, x_rng2, Pat.slots, wipeE, bindP, unpack, cmpD, ixD, L2.atI, L2.ixN, leave, run_s1, run_s2, run_s3, opD, truD, biD, insOf, itD, enD, slD, List.getElem?_cons_zero, List.getElem?_cons_succ, List.getElem?_nil, -getElem?_pos, sl2_iff, srtD, strsOf_map] at hr
      rw [hgo]; exact hr.symm
  · simp [runD, startE, x_cons, x_nil, t_nx, t_rt, t_bk, t_ct, t_no, exS.eq_1, exS.eq_2, exS.eq_3, exS.eq_4, exS.eq_5, exS.eq_6, exS.eq_7, exS.eq_8, exS.eq_10, exS.eq_11, exS.eq_12, exS.eq_13, exS.eq_14, exS.eq_15, exS.eq_16, x_forr, evX.eq_1, evX.eq_2, evX.eq_3, evX.eq_4, evX.eq_5, evX.eq_6, evX.eq_7, evX.eq_8, evX.eq_9, evX.eq_10, evX.eq_11, evX.eq_12, evX.eq_13, evX.eq_14, evX.eq_15, evX.eq_16, evX.eq_17, evX.eq_18, evX.eq_19, evX.eq_20, evX.eq_21, evX.eq_22, evX.eq_24, evX.eq_25, evX.eq_26, evX.eq_29, x_aa, evF.eq_1, x_comp, evF.eq_3, evF.eq_4, evF.eq_5, x_sset2, fz, fz1, esc, escB, escs, escBs, escO, escF, escI, escJ, evXs, evBs, evO, evC, evI.eq_1, evI.eq_4, x_rng1, x_rng2, Pat.slots, wipeE, bindP, unpack, cmpD, ixD, L2.atI, L2.ixN, leave, run_s1, run_s2, run_s3, opD, truD, biD, insOf, itD, enD, slD, List.getElem?_cons_zero, List.getElem?_cons_succ, List.getElem?_nil, -getElem?_pos] at hr
    exact hr.symm
end P76
end
section
set_option Elab.async false
set_option linter.all false
set_option maxRecDepth 100000
set_option maxHeartbeats 4000000
namespace P76
open Pv Pu
open PySem (Str)
theorem one_row {n : Nat} {h : Hs} {its : List Itm} (hs : ShopOk its) (hk9 : (keys its).length ≤ 9) {x : Str} (hx : x ∈ places its) {ks : List (Option Str)} (hks : ∀ k ∈ ks, kindOk k = true) (hl : ks.length ≤ 1000) :
    run pg dfs (n+12) (n+12) 45 [.tup (its.map Itm.d), .str x, .tup (ks.map kD)] (hw h []) = some (ledGo (rOf its) 0 [x] ks, hw h []) ∧
    run pg dfs (n+12) (n+12) 55 [.lst (its.map Itm.d), .str x, .lst (ks.map kD)] (hw h []) = some (ledGo (rOf its) 0 [x] ks, hw h []) ∧
    run pg dfs (n+12) (n+12) 49 [ledGo (rOf its) 0 [x] ks, ledGo (rOf its) 0 [x] ks] (hw h []) = some (.bl true, hw h []) := by
  refine ⟨led_by_eq hs (hw_ok h) hx hks (by omega), ?_, same_led (n := n+9) (by simp) (fun pls k _ => ?_)⟩
  · rw [led_ways (endsF_nd hs.ne hs.ndK) ks 0 [x] [x] (by simp [SortedS]) (by simp) (fun _ => Iff.rfl)]
    exact ways_eq (n := n+11) hs hx hl
  · have := nd_len (sorted_nd (alongF_sorted (rOf its) pls k)) (m := places its) (fun y hy => by
      obtain ⟨p, _, hp⟩ := alongF_mem.mp hy
      exact rOf_place hs hp)
    have := hs.lP
    omega
theorem law_true {n : Nat} {ns : List Int} (hns : ns.length ≤ 63) : ∃ W, run pg dfs (n+13) (n+13) 56 [.scr ns] [] = some (.bl true, W) := by
  obtain ⟨h0, eh, v0⟩ := hand_eq (n := n+11) hns
  obtain ⟨kx, hkx, pk1⟩ := pick_spec (f := D.str) (xs := [("K" : Str), "Lm"]) v0 (by simp) (by simp)
  have v1 := drawH_v v0 (many := 2) (by decide)
  have d0 := drawD_lo (h := drawH 2 h0) (many := 6) (by decide)
  have d1 := drawD_hi (h := drawH 2 h0) (many := 6) (by decide)
  have v2 := drawH_v v1 (many := 6) (by decide)
  obtain ⟨m, hm⟩ : ∃ m : Nat, (1 + drawD 6 (drawH 2 h0) : Int) = m := ⟨(1 + drawD 6 (drawH 2 h0)).toNat, by omega⟩
  have kkx : kindOk (some kx) = true := by
    simp at hkx
    rcases hkx with e | e <;> subst e
    · exact kK
    · exact kL
  obtain ⟨names, h3, en, v3, nok⟩ := names_spec (n := n+9) (X := []) v2 (hs := "abkqz") (by decide +kernel) (by decide +kernel) (many := m) (by omega)
  have v4 := drawH_v v3 (many := 2) (by decide)
  have e0 := drawD_lo (h := h3) (many := 2) (by decide)
  have e1 := drawD_hi (h := h3) (many := 2) (by decide)
  obtain ⟨hi, hhi, pk2⟩ := pick_spec (f := D.int) (xs := [1, 2, 2]) v4 (by simp) (by simp)
  have v5 := drawH_v v4 (many := 3) (by decide)
  -- the kinds of the roads
  obtain ⟨rk, erk, rk0, rk1, rkk⟩ : ∃ rk : List (Option Str), cutL [D.non, .str "K", .str kx] (some (drawD 2 h3)) (some (1 + hi)) = rk.map kD ∧ rk ≠ [] ∧ rk.length ≤ 1000 ∧ ∀ k ∈ rk, kindOk k = true := by
    have q0 : drawD 2 h3 = 0 ∨ drawD 2 h3 = 1 := by omega
    have q1 : hi = 1 ∨ hi = 2 := by simp at hhi; omega
    have n0 : kindOk none = true := rfl
    rcases q0 with q0 | q0 <;> rcases q1 with q1 | q1 <;> rw [q0, q1]
    · exact ⟨[none, some "K"], by simp [cutL, HT.sIx, kD], by simp, by simp, by simp [kK, n0]⟩
    · exact ⟨[none, some "K", some kx], by simp [cutL, HT.sIx, kD], by simp, by simp, by simp [kK, n0, kkx]⟩
    · exact ⟨[some "K"], by simp [cutL, HT.sIx, kD], by simp, by simp, by simp [kK]⟩
    · exact ⟨[some "K", some kx], by simp [cutL, HT.sIx, kD], by simp, by simp, by simp [kK, kkx]⟩
  obtain ⟨its, h6, el, v6, lok⟩ := land_spec (n := n+8) (X := []) v5 nok.nd (fun x hx => nm_ok (nok.form x hx)) (by rw [nok.len]; omega) (most := 9) (by omega) (pk := [none, some "K"]) (rk := rk) (by simp) rk0 (by simp) rk1 (by simp [kK]; rfl) rkk
  have f0 := drawD_lo (h := h6) (many := 6) (by decide)
  have f1 := drawD_hi (h := h6) (many := 6) (by decide)
  have f2 : drawD 6 h6 ≤ 1000000000 := by omega
  have f3 : drawD 6 h6 < (PySem.sizeLine : Int) := by rw [sizeL]; omega
  have v7 := drawH_v v6 (many := 6) (by decide)
  rw [run_def (by rfl : dfs 56 = some d56)]
  generalize hr : runD _ _ _ _ _ _ = r
  simp at pk1 pk2
  simp [kD] at el
  simp [d56, b56, runD, startE, x_cons, x_nil, t_nx, t_rt, t_bk, t_ct, t_no, exS.eq_1, exS.eq_2, exS.eq_3, exS.eq_4, exS.eq_5, exS.eq_6, exS.eq_7, exS.eq_8, exS.eq_10, exS.eq_11, exS.eq_12, exS.eq_13, exS.eq_14, exS.eq_15, exS.eq_16, x_forr, evX.eq_1, evX.eq_2, evX.eq_3, evX.eq_4, evX.eq_5, evX.eq_6, evX.eq_7, evX.eq_8, evX.eq_9, evX.eq_10, evX.eq_11, evX.eq_12, evX.eq_13, evX.eq_14, evX.eq_15, evX.eq_16, evX.eq_17, evX.eq_18, evX.eq_19, evX.eq_20, evX.eq_21, evX.eq_22, evX.eq_24, evX.eq_25, evX.eq_26, evX.eq_29, x_aa, evF.eq_1, x_comp, evF.eq_3, evF.eq_4, evF.eq_5, x_sset2, fz, fz1, esc, escB, escs, escBs, escO, escF, escI, escJ, evXs, evBs, evO, evC, evI.eq_1, evI.eq_4, x_rng1, x_rng2, Pat.slots, wipeE, bindP, unpack, cmpD, ixD, L2.atI, L2.ixN, leave, run_s1, run_s2, run_s3, opD, truD, biD, insOf, itD, enD, slD, List.getElem?_cons_zero, List.getElem?_cons_succ, List.getElem?_nil, -getElem?_pos, eh, sl2_iff, pk1, draw_eq, v1, hm, en, v3, pk2, erk, el, v6, rngIf_ok, f0, f2, f3, rngD_len] at hr
  generalize e : mapL _ _ _ _ _ = o at hr
  obtain ⟨ys, W7, rfl, h8, row, rfl, v8, rfl, rl, rok⟩ := use_mk e (fun k out W' => ∃ (h' : Hs) (row : List (Option Str)), W' = hw h' [] ∧ Hv h' ∧ out = row.map kD ∧ row.length = k ∧ ∀ k ∈ row, kindOk k = true)
    ⟨_, [], rfl, v7, rfl, rfl, by simp⟩ (by
    rintro k out W' hk ⟨h', row, rfl, v', rfl, rl, rok⟩
    obtain ⟨kd, hkd, pk3⟩ := pick_spec (f := kD) (xs := [none, some ("K" : Str), some kx, none, some "K", some kx, some "Zz"]) v' (by simp) (by simp)
    have v9 := drawH_v v' (many := 7) (by decide)
    simp [kD] at pk3
    refine ⟨some (kD kd), hw (drawH 7 h') [], ?_, rfl, drawH 7 h', row ++ [kd], rfl, v9, by simp, by simp [rl], ?_⟩
    · simp [bodyF, aaF, compF, set1F, set2F, runD, startE, x_cons, x_nil, t_nx, t_rt, t_bk, t_ct, t_no, exS.eq_1, exS.eq_2, exS.eq_3, exS.eq_4, exS.eq_5, exS.eq_6, exS.eq_7, exS.eq_8, exS.eq_10, exS.eq_11, exS.eq_12, exS.eq_13, exS.eq_14, exS.eq_15, exS.eq_16, x_forr, evX.eq_1, evX.eq_2, evX.eq_3, evX.eq_4, evX.eq_5, evX.eq_6, evX.eq_7, evX.eq_8, evX.eq_9, evX.eq_10, evX.eq_11, evX.eq_12, evX.eq_13, evX.eq_14, evX.eq_15, evX.eq_16, evX.eq_17, evX.eq_18, evX.eq_19, evX.eq_20, evX.eq_21, evX.eq_22, evX.eq_24, evX.eq_25, evX.eq_26, evX.eq_29, x_aa, evF.eq_1, x_comp, evF.eq_3, evF.eq_4, evF.eq_5, x_sset2, fz, fz1, esc, escB, escs, escBs, escO, escF, escI, escJ, evXs, evBs, evO, evC, evI.eq_1, evI.eq_4, x_rng1, x_rng2, Pat.slots, wipeE, bindP, unpack, cmpD, ixD, L2.atI, L2.ixN, leave, run_s1, run_s2, run_s3, opD, truD, biD, insOf, itD, enD, slD, List.getElem?_cons_zero, List.getElem?_cons_succ, List.getElem?_nil, -getElem?_pos, sl2_iff, pk3]
      cases kd <;> rfl
    · intro q hq
      rcases List.mem_append.mp hq with hq | hq
      · exact rok q hq
      · simp at hq; subst hq
        simp at hkd
        have hq2 : q = none ∨ q = some "K" ∨ q = some kx ∨ q = some "Zz" := by grind
        rcases hq2 with e | e | e | e <;> rw [e]
        · rfl
        · exact kK
        · exact kkx
        · exact kZ)
  simp [runD, startE, x_cons, x_nil, t_nx, t_rt, t_bk, t_ct, t_no, exS.eq_1, exS.eq_2, exS.eq_3, exS.eq_4, exS.eq_5, exS.eq_6, exS.eq_7, exS.eq_8, exS.eq_10, exS.eq_11, exS.eq_12, exS.eq_13, exS.eq_14, exS.eq_15, exS.eq_16, x_forr, evX.eq_1, evX.eq_2, evX.eq_3, evX.eq_4, evX.eq_5, evX.eq_6, evX.eq_7, evX.eq_8, evX.eq_9, evX.eq_10, evX.eq_11, evX.eq_12, evX.eq_13, evX.eq_14, evX.eq_15, evX.eq_16, evX.eq_17, evX.eq_18, evX.eq_19, evX.eq_20, evX.eq_21, evX.eq_22, evX.eq_24, evX.eq_25, evX.eq_26, evX.eq_29, x_aa, evF.eq_1, x_comp, evF.eq_3, evF.eq_4, evF.eq_5, x_sset2, fz, fz1, esc, escB, escs, escBs, escO, escF, escI, escJ, evXs, evBs, evO, evC, evI.eq_1, evI.eq_4, x_rng1, x_rng2, Pat.slots, wipeE, bindP, unpack, cmpD, ixD, L2.atI, L2.ixN, leave, run_s1, run_s2, run_s3, opD, truD, biD, insOf, itD, enD, slD, List.getElem?_cons_zero, List.getElem?_cons_succ, List.getElem?_nil, -getElem?_pos, sl2_iff] at hr
  generalize e2 : forL _ _ _ _ _ _ = o2 at hr
  have lr : row.length ≤ 6 := by omega
  have hk9 := lok.keys
  rcases use_r (gmap_map D.str 0 _) e2 (fun done env W' => W' = hw h8 [] ∧ ∃ s7 s8, env = [.val (.scr ns), .val (.ref 3), .own [.non, .str "K", .str kx], .val (.lst (names.map .str)), .val (.lst (its.map Itm.d)), .val (.tup (its.map Itm.d)), .own (row.map kD), s7, s8])
    (fun d W' => False) ⟨rfl, _, _, rfl⟩ (by
    rintro done x rest env W' hd ⟨rfl, s7, s8, rfl⟩
    left
    have hx : x ∈ places its := by rw [lok.pl, hd]; simp
    generalize hb : bodyF _ _ _ _ _ _ _ _ = r
    have l1 : (row.length : Int) + 1 ≤ 1000000000 := by omega
    have l0 : (0 : Int) ≤ (row.length : Int) + 1 := by omega
    simp [bodyF, aaF, compF, set1F, set2F, runD, startE, x_cons, x_nil, t_nx, t_rt, t_bk, t_ct, t_no, exS.eq_1, exS.eq_2, exS.eq_3, exS.eq_4, exS.eq_5, exS.eq_6, exS.eq_7, exS.eq_8, exS.eq_10, exS.eq_11, exS.eq_12, exS.eq_13, exS.eq_14, exS.eq_15, exS.eq_16, x_forr, evX.eq_1, evX.eq_2, evX.eq_3, evX.eq_4, evX.eq_5, evX.eq_6, evX.eq_7, evX.eq_8, evX.eq_9, evX.eq_10, evX.eq_11, evX.eq_12, evX.eq_13, evX.eq_14, evX.eq_15, evX.eq_16, evX.eq_17, evX.eq_18, evX.eq_19, evX.eq_20, evX.eq_21, evX.eq_22, evX.eq_24, evX.eq_25, evX.eq_26, evX.eq_29, x_aa, evF.eq_1, x_comp, evF.eq_3, evF.eq_4, evF.eq_5, x_sset2, fz, fz1, esc, escB, escs, escBs, escO, escF, escI, escJ, evXs, evBs, evO, evC, evI.eq_1, evI.eq_4, x_rng1, x_rng2, Pat.slots, wipeE, bindP, unpack, cmpD, ixD, L2.atI, L2.ixN, leave, run_s1, run_s2, run_s3, opD, truD, biD, insOf, itD, enD, slD, List.getElem?_cons_zero, List.getElem?_cons_succ, List.getElem?_nil, -getElem?_pos, rngIf_ok l0 l1] at hb
    generalize e3 : forL _ _ _ _ _ _ = o3 at hb
    rcases use_kr e3 (fun j env W' => W' = hw h8 [] ∧ ∃ s7, env = [.val (.scr ns), .val (.ref 3), .own [.non, .str "K", .str kx], .val (.lst (names.map .str)), .val (.lst (its.map Itm.d)), .val (.tup (its.map Itm.d)), .own (row.map kD), s7, .val (.str x)])
      (fun d W' => False) ⟨rfl, _, rfl⟩ (by
      rintro j env W' hj ⟨rfl, s7, rfl⟩
      left
      obtain ⟨o1, o2, o3⟩ := one_row (n := n) (h := h8) lok.shop hk9 hx (ks := row.take j) (fun k hk => rok k (List.mem_of_mem_take hk)) (by rw [List.length_take]; omega)
      have ec := cut_take kD row j
      refine ⟨[.val (.scr ns), .val (.ref 3), .own [.non, .str "K", .str kx], .val (.lst (names.map .str)), .val (.lst (its.map Itm.d)), .val (.tup (its.map Itm.d)), .own (row.map kD), .val (.int j), .val (.str x)], hw h8 [], ?_, rfl, rfl, _, rfl⟩
      simp [bodyF, aaF, compF, set1F, set2F, runD, startE, x_cons, x_nil, t_nx, t_rt, t_bk, t_ct, t_no, exS.eq_1, exS.eq_2, exS.eq_3, exS.eq_4, exS.eq_5, exS.eq_6, exS.eq_7, exS.eq_8, exS.eq_10, exS.eq_11, exS.eq_12, exS.eq_13, exS.eq_14, exS.eq_15, exS.eq_16, x_forr, evX.eq_1, evX.eq_2, evX.eq_3, evX.eq_4, evX.eq_5, evX.eq_6, evX.eq_7, evX.eq_8, evX.eq_9, evX.eq_10, evX.eq_11, evX.eq_12, evX.eq_13, evX.eq_14, evX.eq_15, evX.eq_16, evX.eq_17, evX.eq_18, evX.eq_19, evX.eq_20, evX.eq_21, evX.eq_22, evX.eq_24, evX.eq_25, evX.eq_26, evX.eq_29, x_aa, evF.eq_1, x_comp, evF.eq_3, evF.eq_4, evF.eq_5, x_sset2, fz, fz1, esc, escB, escs, escBs, escO, escF, escI, escJ, evXs, evBs, evO, evC, evI.eq_1, evI.eq_4, x_rng1, x_rng2, Pat.slots, wipeE, bindP, unpack, cmpD, ixD, L2.atI, L2.ixN, leave, run_s1, run_s2, run_s3, opD, truD, biD, insOf, itD, enD, slD, List.getElem?_cons_zero, List.getElem?_cons_succ, List.getElem?_nil, -getElem?_pos, ec, ← List.map_take, o1, o2, o3]) with ⟨env1, W1, rfl, rfl, s7', rfl⟩ | ⟨d, W1, rfl, hf⟩
    · exact ⟨_, _, hb.symm, rfl, rfl, _, _, rfl⟩
    · exact hf.elim) with ⟨env1, W1, rfl, rfl, s7, s8, rfl⟩ | ⟨d, W1, rfl, hf⟩
  · simp [runD, startE, x_cons, x_nil, t_nx, t_rt, t_bk, t_ct, t_no, exS.eq_1, exS.eq_2, exS.eq_3, exS.eq_4, exS.eq_5, exS.eq_6, exS.eq_7, exS.eq_8, exS.eq_10, exS.eq_11, exS.eq_12, exS.eq_13, exS.eq_14, exS.eq_15, exS.eq_16, x_forr, evX.eq_1, evX.eq_2, evX.eq_3, evX.eq_4, evX.eq_5, evX.eq_6, evX.eq_7, evX.eq_8, evX.eq_9, evX.eq_10, evX.eq_11, evX.eq_12, evX.eq_13, evX.eq_14, evX.eq_15, evX.eq_16, evX.eq_17, evX.eq_18, evX.eq_19, evX.eq_20, evX.eq_21, evX.eq_22, evX.eq_24, evX.eq_25, evX.eq_26, evX.eq_29, x_aa, evF.eq_1, x_comp, evF.eq_3, evF.eq_4, evF.eq_5, x_sset2, fz, fz1, esc, escB, escs, escBs, escO, escF, escI, escJ, evXs, evBs, evO, evC, evI.eq_1, evI.eq_4, x_rng1, x_rng2, Pat.slots, wipeE, bindP, unpack, cmpD, ixD, L2.atI, L2.ixN, leave, run_s1, run_s2, run_s3, opD, truD, biD, insOf, itD, enD, slD, List.getElem?_cons_zero, List.getElem?_cons_succ, List.getElem?_nil, -getElem?_pos, bnd] at hr
    exact ⟨_, hr.symm⟩
  · exact hf.elim
end P76
end
set_option Elab.async false
set_option linter.all false
set_option maxRecDepth 100000
set_option maxHeartbeats 0
open PySem PySem.W PyProof.Rows
theorem P76.dfs_eq : Pv.LT.dfs P76.T0 = P76.dfs := by
  funext f
  match f with
  | 0 => rfl
  | 1 => rfl
  | 2 => rfl
  | 3 => rfl
  | 4 => rfl
  | 5 => rfl
  | 6 => rfl
  | 7 => rfl
  | 8 => rfl
  | 9 => rfl
  | 10 => rfl
  | 11 => rfl
  | 12 => rfl
  | 13 => rfl
  | 14 => rfl
  | 15 => rfl
  | 16 => rfl
  | 17 => rfl
  | 18 => rfl
  | 19 => rfl
  | 20 => rfl
  | 21 => rfl
  | 22 => rfl
  | 23 => rfl
  | 24 => rfl
  | 25 => rfl
  | 26 => rfl
  | 27 => rfl
  | 28 => rfl
  | 29 => rfl
  | 30 => rfl
  | 31 => rfl
  | 32 => rfl
  | 33 => rfl
  | 34 => rfl
  | 35 => rfl
  | 36 => rfl
  | 37 => rfl
  | 38 => rfl
  | 39 => rfl
  | 40 => rfl
  | 41 => rfl
  | 42 => rfl
  | 43 => rfl
  | 44 => rfl
  | 45 => rfl
  | 46 => rfl
  | 47 => rfl
  | 48 => rfl
  | 49 => rfl
  | 50 => rfl
  | 51 => rfl
  | 52 => rfl
  | 53 => rfl
  | 54 => rfl
  | 55 => rfl
  | 56 => rfl
  | _ + 57 => rfl
theorem PySem.Challenge.cw_sheetlines_k76_led_by_all_ways_holds : PySem.Challenge.rw_sheetlines_k76_led_by_all_ways.Holds := by
  refine k76_of fun ns h1 h2 => ?_
  rw [P76.dfs_eq]
  exact P76.law_true (n := 27) h1

