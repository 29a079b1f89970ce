import PyProof.Rows.All
import Wide.All
import OpenK.AllK
import Wide.FinOn
import HandS.AnyAll
import HandS.GenList
import PyProof.TupleOfGen
import HandS.ForMost
import HandS.ForExc
import HandS.ForSpec
import HandS.Wide
import HandS.Deep
import HandS.TupAny
import HandS.TupMul
import HandS.Gcd
import HandS.IsInst
import HandS.TupSets
import HandS.Text
import HandS.FStr
import HandS.Codes
import KE.DatumOrd
import HandS.Zip
import HandS.Rev
import HandS.Walk
import HandS.WordsExc
import HandS.Comp
import PyProof.StrOps2
import HandS.Defaults
import HandS.Exc
import HandS.ExcInit
import HandS.ExcSuper
import KE.KSuper
import KE.KExcSuper
import HandS.ExcIs
import HandS.ExcField
import HandS.TryOnly
import KE.GoesEnum
import PySem.Challenge.RW_sharewright_k60_whole_tastes_texts
import HandS.Head0
import HandS.Head1
import HandS.Head2
import HandS.Head3
import HandS.HeadEnd
import HandS.HeadHook1
import HandS.HeadHook2
import HandS.HeadHook3
import HandS.HeadHook4
import HandS.HeadWalk
section
set_option Elab.async false
set_option linter.all false
set_option maxRecDepth 100000
set_option maxHeartbeats 2000000
/-! A generator expression whose element is any code that the layer reads: its frame, its turns. -/
namespace GxA
open PySem PySem.Spec PyProof.Rows L2 GenW

/-- the frame of a generator expression that was made at s -/
abbrev gx (X : Cx) (A : Around) (s : Shared) (H : Hp) (cenv : Env) (fp : List Addr) (pn : List (Addr × Obj)) : Cx :=
  { X with A := A, s_0 := s, H_0 := H, env := cenv, outer := X.stack, stack := cenv :: X.stack, ex := fp, fn := fun _ => false, calm := true, pn := pn, xe := fun _ _ => False }

section
variable {X : Cx} {pins : List (Addr × Obj)} {σ : L2.St} {H : Hp} {s s' : Shared} {A : Around}
theorem gx_start {scope : Scope} {own : List (Str × Nat)} {fp : List Addr} {pn : List (Addr × Obj)} {code : Value} {m : Str → Option Value}
    (I : Inv X pins σ H s) (ok : BlkOk X.N X.env.scope scope own) (hcell : ∀ y ∈ scope.names, y.2 ≠ .cell) (hN : X.N.Nodup)
    (hfp : ∀ b ∈ fp, FpOk X pins H b ∧ b < s.heap.objs.size) (hh : A.handled = none)
    (hfr : A.frames = some (genEnv scope (cloFrom X.env.cells scope.names []) s.heap.objs.size code builtinsNs X.env :: X.stack))
    (hos : s'.os = s.os) (hb : AllBare s'.gens) (kp : ∀ b o, s.heap.get? b = some o → s'.heap.get? b = some o) (hns : s'.heap.Ns s.heap.objs.size m)
    (hpn : ∀ p ∈ pn, s'.heap.get? p.1 = some p.2 ∧ s.heap.objs.size < p.1 ∧ ∀ v, p.2.data ≠ .cell v) :
    Inv (gx X A s H (genEnv scope (cloFrom X.env.cells scope.names []) s.heap.objs.size code builtinsNs X.env) fp pn) [] (wipe σ (own.map (·.2))) H s' := by
  have hfree : ∀ y ∈ scope.names, y.2 = .free → ∃ c, X.env.cells.lookup y.1 = some c := fun y hy e => by
    rcases ok.free y hy e with k | k
    · exact I.ok.has _ (.inl k)
    · exact I.ok.has _ (.inr k)
  generalize hcenv : genEnv scope (cloFrom X.env.cells scope.names []) s.heap.objs.size code builtinsNs X.env = cenv at hfr ⊢
  have hL : cenv.locals = s.heap.objs.size := by rw [← hcenv]; rfl
  have hcl : cenv.cells = cloFrom X.env.cells scope.names [] := by rw [← hcenv]; rfl
  have hsc : cenv.scope = scope := by rw [← hcenv]; rfl
  have cm : ∀ {y c}, (y, c) ∈ cloFrom X.env.cells scope.names [] → X.env.cells.lookup y = some c ∧ c < s.heap.objs.size := fun {y c} hm => by
    rcases cloFrom_mem hm with hm | ⟨h1, rfl⟩
    · cases hm
    · obtain ⟨c, hc⟩ := hfree _ h1 rfl
      rw [hc]
      obtain ⟨w, z⟩ := I.cell _ _ hc
      exact ⟨rfl, z.lt⟩
  have mem : ∀ {y c}, cenv.cells.lookup y = some c → X.env.cells.lookup y = some c ∧ c < s.heap.objs.size := fun {y c} e => by
    rw [hcl] at e
    exact cm (PySem.mem_of_lookup e)
  have look : ∀ {y}, scope.names.lookup y = some .free → ∃ c, cenv.cells.lookup y = some c ∧ X.env.cells.lookup y = some c := fun {y} hl => by
    have hy : (y, NameKind.free) ∈ scope.names := PySem.mem_of_lookup hl
    obtain ⟨c', e'⟩ := mem_lookup (cloFrom_has (cells := X.env.cells) (acc := []) hy)
    rw [← hcl] at e'
    exact ⟨c', e', (mem e').1⟩
  have kind : ∀ {y k}, cenv.kindOf y = some k → scope.names.lookup y = some k := fun {y k} h => by
    unfold Env.kindOf at h
    rw [hsc] at h
    exact h
  have okB : (gx X A s H cenv fp pn).Ok := by
    refine ⟨I.ok.mod, by show cenv.scope.kind = _; rw [hsc]; exact ok.kind, by show cenv.globals = _; rw [← hcenv]; exact I.ok.glob, by show cenv.builtins = _; rw [← hcenv]; rfl, by show s.heap.objs.size ≤ cenv.locals; rw [hL]; exact Nat.le_refl _,
      fun y z c e1 e2 => ?_, fun y hy => ?_, fun y c z e => ?_, fun _ => hh, hfr, .inr ⟨rfl, by show cenv.frame = some cenv.locals; rw [← hcenv]; rfl⟩, fun b hb => ⟨?_, fun y c e z => ?_⟩, I.bs, Nat.le_trans I.ok.bsz I.sz, fun b o e hb => ?_, fun b hb z => ?_, I.stack, I.stkFree⟩
    · exact I.ok.inj y z c (mem e1).1 (mem e2).1
    · show ∃ c, cenv.cells.lookup y = some c
      rcases hy with hy | hy
      · exact absurd rfl (hcell _ (PySem.mem_of_lookup (kind hy)))
      · obtain ⟨c, h1, _⟩ := look (kind hy)
        exact ⟨c, h1⟩
    · exact absurd (show false = true from z) Bool.false_ne_true
    · show b ≠ cenv.locals
      rw [hL]; exact Nat.ne_of_lt (hfp b hb).2
    · exact (hfp b hb).1.2.2.2.2.1 y c (mem e).1 z
    · rcases (hfp b hb).1.2.2.2.1 with z | z
      · exact I.ok.noex b o e z
      · exact absurd (Nat.lt_of_lt_of_le (Heap.lt_size e) (Nat.le_trans I.ok.bsz z)) (Nat.lt_irrefl _)
    · rcases List.mem_cons.mp (I.stkSub b z) with z | z
      · exact (hfp b hb).1.2.1 z
      · exact (hfp b hb).1.2.2.1 z
  refine ⟨okB, hos, hb, Un.kept kp, ⟨m, ?_, fun i y av e1 e2 e3 => ?_⟩, fun y c e => ?_, ?_, fun y c e => ?_, fun p hp => ?_, I.hok.kept kp, by rw [wipe_length]; exact I.len⟩
  · show Heap.Ns _ cenv.locals _
    rw [hL]
    exact hns
  · obtain ⟨e2, hne⟩ := wipe_some e2
    have hfr : scope.names.lookup y = some .free ∧ cenv.kindOf y = some .free := by
      have no : ∀ k, scope.names.lookup y = some k → k = .local ∨ k = .cell → False := fun k e hh => by
        rcases ok.own _ (PySem.mem_of_lookup e) hh with e' | e'
        · obtain ⟨p, hp, hpy⟩ := List.mem_map.mp e'
          have e3 := ok.ix p hp
          have : p.1 = y := hpy
          rw [this] at e3
          exact hne (List.mem_map.mpr ⟨p, hp, nodup_ix hN e3 e1⟩)
        · exact e' (List.mem_of_getElem? e1)
      have e3 : Vis cenv.scope y := e3
      rw [hsc] at e3
      rcases e3 with e3 | e3 | e3
      · exact (no _ e3 (.inl rfl)).elim
      · exact (no _ e3 (.inr rfl)).elim
      · exact ⟨e3, by unfold Env.kindOf; rw [hsc]; exact e3⟩
    obtain ⟨m, hn, hl⟩ := I.loc
    have hvis : Vis X.env.scope y := (ok.free _ (PySem.mem_of_lookup hfr.1) rfl).elim (fun k => .inr (.inl k)) (fun k => .inr (.inr k))
    obtain ⟨w, r, q⟩ := hl i y av e1 e2 hvis
    refine ⟨w, r, .inr ⟨.inr hfr.2, ?_⟩⟩
    obtain ⟨c, h1, h2⟩ := look hfr.1
    rcases q with ⟨k, _⟩ | ⟨_, c', e', z⟩
    · have k : X.env.scope.names.lookup y = some .local := k
      rcases ok.free _ (PySem.mem_of_lookup hfr.1) rfl with k' | k' <;> rw [show X.env.scope.names.lookup y = _ from k'] at k <;> cases k
    · rw [h2] at e'; cases e'
      exact ⟨c, h1, z.keeps kp⟩
  · have e : cenv.cells.lookup y = some c := e
    obtain ⟨w, z⟩ := I.cell y c (mem e).1
    exact ⟨w, z.keeps kp⟩
  · show H cenv.locals = none
    rw [hL]; exact I.hok.fresh (Nat.le_refl _)
  · have e : cenv.cells.lookup y = some c := e
    exact I.freeC y c (mem e).1
  · have hp : p ∈ pn := by simpa using hp
    obtain ⟨h1, h2, h3⟩ := hpn p hp
    refine ⟨h1, I.hok.fresh (Nat.le_of_lt h2), ?_, fun z => ?_, h3⟩
    · show p.1 ≠ cenv.locals
      rw [hL]; exact Nat.ne_of_gt h2
    · have hz : p.1 < s.heap.objs.size := by
        rcases List.mem_cons.mp (I.stkSub _ z) with z | z
        · rw [z]; exact I.lt
        · obtain ⟨_, o, ho, _⟩ := I.funs.mem z
          exact Heap.lt_size ho
      exact absurd (Nat.lt_trans h2 hz) (Nat.lt_irrefl _)
end

/-- the end: all turns are gone -/
def RgP (PO : List V → List (Addr × Obj) → Prop) (Xg : Cx) (σw : L2.St) (Fin : List V → Hp → Prop) : GenEnd := fun _ _ r s₁ => r = .ok .next ∧ ∃ ys pl H, PO ys pl ∧ Inv Xg pl σw H s₁ ∧ Fin ys H
/-- an item comes out -/
def YgP (PO : List V → List (Addr × Obj) → Prop) (Xg : Cx) (SL : Value → Shared → Shared → Prop) (Yd : List V → V → Hp → Prop → Prop) : Protocol := fun _ _ v s₁ kap =>
  ∃ ys y pl σ2 H, ∃ C : Prop, RelV y v ∧ PO ys pl ∧ Inv Xg pl σ2 H s₁ ∧ Yd ys y H C ∧ (C → ∀ s', SL v s₁ s' → kap (.send .none) s')

/-- the turns, as a wish: W by turn, measure, what came out, heap -/
def Turns (J : It) (g : TG) (tt : TT) (te : TE) (vs : List Nat) (σw : L2.St) (Yd : List V → V → Hp → Prop → Prop) (Fin : List V → Hp → Prop) (W : Nat → Nat → List V → Hp → Prop) : Prop :=
  ∀ i m ys H, W i m ys H → (J.stop i H ∧ Fin ys H) ∨ (J.go i H ∧ ∃ Nx : List V → Hp → Prop, (∀ ys' H', Nx ys' H' → ∃ m', m' < m ∧ W (i + 1) m' ys' H') ∧ ∀ x H', J.yld i H x H' → g x σw H' fun σ2 H2 => wipe σ2 vs = σw ∧ tt σ2 H2 fun b H3 =>
    if b = true then te σ2 H3 fun y H4 => Yd ys y H4 (Nx (ys ++ [y]) H4) else Nx ys H3)

section
variable {Xg : Cx} {A : Around} {elt tg iter : Expr} {ifs : List Expr} {scope : Scope} {pos : Pos} {it : Addr} {fp : List Addr} {tn : Nat → Heap → Prop} {J : It} {vs : List Nat} {σw : L2.St}
  {g : TG} {tt : TT} {te : TE} {W : Nat → Nat → List V → Hp → Prop} {PO : List V → List (Addr × Obj) → Prop} {SL : Value → Shared → Shared → Prop} {Yd : List V → V → Hp → Prop → Prop} {Fin : List V → Hp → Prop}

theorem seg_gx (hov : A.over (.compLoop (.GeneratorExp elt [⟨tg, iter, ifs, 0⟩] scope pos) 0 (.ref it) .none Xg.env) [] = Xg.A)
    (hc : Xg.calm = true) (hco : Xg.env.scope.isCoroutine = false) (hxe : Xg.xe = fun _ _ => False) (T : Turn Xg.prog Xg.w Xg.K tg J fp it tn)
    (pg : PG Xg tg g) (pt : PTs Xg ifs tt) (pe : PE Xg elt te) (hPO : ∀ ys pl, PO ys pl → ∀ p ∈ pl, p.1 ∉ fp) (hpn : ∀ p ∈ Xg.pn, p.1 ∉ fp) (hex : Xg.ex = fp)
    (hwake : ∀ ys y v pl σ2 H s s', RelV y v → PO ys pl → Inv Xg pl σ2 H s → SL v s s' → ∃ pl', PO (ys ++ [y]) pl' ∧ Inv Xg pl' σ2 H s' ∧ ∀ b ∈ fp, ∀ o, s.heap.get? b = some o → s'.heap.get? b = some o)
    (turn : Turns J g tt te vs σw Yd Fin W) :
    ∀ (m n i : Nat) (ys : List V) (pl : List (Addr × Obj)) (H : Hp) (s s₀ : Shared), m < n → W i m ys H → PO ys pl → Inv Xg pl σw H s → tn i s.heap → (∀ b ∈ fp, H b = none) →
      Seg (model Xg.prog Xg.w) A (RgP PO Xg σw Fin) (YgP PO Xg SL Yd) n s₀ (.compLoop (.GeneratorExp elt [⟨tg, iter, ifs, 0⟩] scope pos) 0 (.ref it) .none Xg.env)
        ((model Xg.prog Xg.w).den (.compLoop (.GeneratorExp elt [⟨tg, iter, ifs, 0⟩] scope pos) 0 (.ref it) .none Xg.env)) [] s := by
  have stat : ∀ {ys : List V} {pl : List (Addr × Obj)} {σ' : L2.St} {H' : Hp} {s' : Shared}, PO ys pl → Inv Xg pl σ' H' s' → (∀ b ∈ fp, H' b = none) → ∀ b ∈ fp, FpOk Xg pl H' b := fun {ys pl σ' H' s'} hp I' hn b hb => by
    have hb' : b ∈ Xg.ex := by rw [hex]; exact hb
    refine ⟨hn b hb, (I'.ok.exf b hb').1, I'.ok.exfs b hb', .inl hb', fun x c e => (I'.ok.exf b hb').2 x c e, fun p hp' z => ?_⟩
    rcases List.mem_append.mp hp' with hp' | hp'
    · exact hpn p hp' (z ▸ hb)
    · exact hPO ys pl hp p hp' (z ▸ hb)
  have nox : ∀ {α : Type} {t : Sem α} {Q : α → Shared → Prop} {E : Value → Shared → Prop} {s : Shared}, wpAny (model Xg.prog Xg.w) Xg.A t Q Xg.xe s → wpAny (model Xg.prog Xg.w) Xg.A t Q E s := fun {α t Q E s} h => by
    rw [hxe] at h
    exact wpAny_mono h (fun _ _ q => q) fun _ _ z => False.elim z
  intro m
  induction m using Nat.strongRecOn with
  | ind m ih =>
    intro n i ys pl H s s₀ hmn hW hp I st hf
    show Seg _ A _ _ n s₀ _ ((compTurn (.GeneratorExp elt [⟨tg, iter, ifs, 0⟩] scope pos) 0 (.ref it) .none Xg.env).onRaise (leaving Xg.env)) [] s
    rw [compTurn_gen, Sem.onRaise_eq_wrap]
    refine seg_bind_wrap (wpAny_standAt ?_)
    rcases turn i m ys H hW with ⟨stop, fin⟩ | ⟨go, Nx, hNx, step⟩
    · refine seg_bind_wrap ?_
      rw [hov]
      refine wpAny_mono (T.done Xg rfl rfl rfl hc i pl s σw H (fun _ _ => False) I (stat hp I hf) st stop) (fun r s1 ⟨hr, I1⟩ => ?_) fun _ _ z => False.elim z
      subst hr
      exact seg_end (.ok .next) ⟨rfl, ys, pl, H, hp, I1, fin⟩
    · refine seg_bind_wrap ?_
      rw [hov]
      refine wpAny_mono (T.item Xg rfl rfl rfl hc i pl s σw H (fun _ _ => False) I (stat hp I hf) st go) (fun r s1 ⟨u, hr, h1⟩ => ?_) fun _ _ z => False.elim z
      subst hr
      refine seg_bind_wrap ?_
      rw [hov]
      refine wpAny_mono h1 (fun _ s2 ⟨x, H2, I2, r2, y2, st2, n2⟩ => ?_) fun _ _ z => False.elim z
      have I2' := I2.pinned (stat hp I2 n2) (T.obj _ _ st2)
      refine seg_bind_wrap ?_
      rw [hov]
      refine nox (thn (pg.run _ s2 σw H2 x u _ I2' r2 (step x H2 y2)) fun _ s3 ⟨σ3, H3, I3, hw3, q3⟩ => ?_)
      refine seg_bind_wrap ?_
      rw [hov]
      refine nox (thn (pt.run _ s3 σ3 H3 _ I3 q3) fun b s4 ⟨H4, I4, q4⟩ => ?_)
      have pin' : ∀ {σ' : L2.St} {H' : Hp} {s' : Shared}, Inv Xg (pl ++ pinsAt fp s2.heap) σ' H' s' → ∀ b ∈ fp, ∀ o, s2.heap.get? b = some o → s'.heap.get? b = some o ∧ H' b = none := fun {σ' H' s'} I' b hb o e =>
        let z := I'.pin (b, o) (List.mem_append_right _ (List.mem_append_right _ (mem_pinsAt hb e)))
        ⟨z.1, z.2.1⟩
      have free' : ∀ {σ' : L2.St} {H' : Hp} {s' : Shared}, Inv Xg (pl ++ pinsAt fp s2.heap) σ' H' s' → ∀ b ∈ fp, H' b = none := fun {σ' H' s'} I' b hb => by
        obtain ⟨o, e, _⟩ := T.obj _ _ st2 b hb
        exact (pin' I' b hb o e).2
      have hl : σw.length = σ3.length := by rw [← hw3, wipe_length]
      have weak : ∀ {pl' : List (Addr × Obj)} {H' : Hp} {s' : Shared}, Inv Xg pl' σ3 H' s' → Inv Xg pl' σw H' s' := fun {pl' H' s'} I' => I'.weak hl fun j v e => by
        rw [← hw3] at e
        exact (wipe_some e).1
      cases b with
      | false =>
        simp only [Bool.false_eq_true, if_false] at q4 ⊢
        obtain ⟨m', hm, w'⟩ := hNx ys H4 q4
        exact seg_again rfl (ih m' hm n (i + 1) ys pl H4 s4 s₀ (by omega) w' hp (weak I4.unpinned) (T.keep _ _ _ st2 fun b hb o e => (pin' I4 b hb o e).1) (free' I4))
      | true =>
        simp only [if_true] at q4 ⊢
        have hy : ∀ v, yieldOut Xg.env v = yieldValue v := fun v => by simp only [yieldOut, hco, Bool.false_eq_true, if_false]
        simp only [hy]
        rw [Sem.bind_eq_wrap', Sem.bind_eq_wrap', Sem.wrap_wrap, Sem.wrap_wrap]
        refine seg_wrap ?_
        rw [hov]
        refine nox (thn (pe.run _ s4 σ3 H4 _ I4 q4) fun v s5 ⟨y, H5, I5, r5, q5⟩ => ?_)
        have st5 : tn (i + 1) s5.heap := T.keep _ _ _ st2 fun b hb o e => (pin' I5 b hb o e).1
        have f5 := free' I5
        have I5' := I5.unpinned
        have cont : Nx (ys ++ [y]) H5 → ∃ m', m' < m ∧ W (i + 1) m' (ys ++ [y]) H5 := fun h => hNx _ _ h
        refine seg_at ?_
        obtain ⟨n, rfl⟩ : ∃ k, n = k + 1 := ⟨n - 1, by omega⟩
        refine seg_yield rfl rfl rfl ⟨ys, y, pl, σ3, H5, _, r5, hp, I5', q5, fun hC s' hS => ?_⟩
        obtain ⟨m', hm, w'⟩ := cont hC
        obtain ⟨pl', hp', I6, hk⟩ := hwake ys y v pl σ3 H5 s5 s' r5 hp I5' hS
        exact seg_again rfl (ih m' hm n (i + 1) (ys ++ [y]) pl' H5 s' s' (by omega) w' hp' (weak I6) (T.keep _ _ _ st5 fun b hb o e => hk b hb o e) f5)

theorem seg_gx0 (hov : A.over (.compStart (.GeneratorExp elt [⟨tg, iter, ifs, 0⟩] scope pos) 0 (.ref it) .none Xg.env) [] = Xg.A)
    (hov2 : A.over (.compLoop (.GeneratorExp elt [⟨tg, iter, ifs, 0⟩] scope pos) 0 (.ref it) .none Xg.env) [] = Xg.A)
    (hc : Xg.calm = true) (hco : Xg.env.scope.isCoroutine = false) (hxe : Xg.xe = fun _ _ => False) (T : Turn Xg.prog Xg.w Xg.K tg J fp it tn)
    (pg : PG Xg tg g) (pt : PTs Xg ifs tt) (pe : PE Xg elt te) (hPO : ∀ ys pl, PO ys pl → ∀ p ∈ pl, p.1 ∉ fp) (hpn : ∀ p ∈ Xg.pn, p.1 ∉ fp) (hex : Xg.ex = fp)
    (hwake : ∀ ys y v pl σ2 H s s', RelV y v → PO ys pl → Inv Xg pl σ2 H s → SL v s s' → ∃ pl', PO (ys ++ [y]) pl' ∧ Inv Xg pl' σ2 H s' ∧ ∀ b ∈ fp, ∀ o, s.heap.get? b = some o → s'.heap.get? b = some o)
    (turn : Turns J g tt te vs σw Yd Fin W) 
    (m n : Nat) (ys : List V) (pl : List (Addr × Obj)) (H : Hp) (s s₀ : Shared) (hmn : m < n) (hW : W 0 m ys H) (hp : PO ys pl) (I : Inv Xg pl σw H s) (st : tn 0 s.heap) (hf : ∀ b ∈ fp, H b = none) :
      Seg (model Xg.prog Xg.w) A (RgP PO Xg σw Fin) (YgP PO Xg SL Yd) n s₀ (.compStart (.GeneratorExp elt [⟨tg, iter, ifs, 0⟩] scope pos) 0 (.ref it) .none Xg.env)
        ((model Xg.prog Xg.w).den (.compStart (.GeneratorExp elt [⟨tg, iter, ifs, 0⟩] scope pos) 0 (.ref it) .none Xg.env)) [] s := by
  have loop := seg_gx hov2 hc hco hxe T pg pt pe hPO hpn hex hwake turn m n 0 ys pl H s s₀ hmn hW hp I st hf
  show Seg _ A _ _ n s₀ _ ((compStart (.GeneratorExp elt [⟨tg, iter, ifs, 0⟩] scope pos) 0 (.ref it) .none Xg.env).onRaise (leaving Xg.env)) [] s
  unfold compStart
  rw [Sem.onRaise_eq_wrap]
  show Seg _ A _ _ n s₀ _ ((ask >>= _).wrap _ _ _ _) [] s
  refine seg_bind_wrap (wpAny_askSetting ?_)
  split
  · exact seg_again rfl loop
  · first
      | exact seg_bind_wrap (wpAny_rule (seg_bind_wrap (wpAny_standAt (seg_bind_wrap (T.self _ 0 s _ _ st (seg_again rfl loop))))))
      | (refine seg_bind_wrap (wpAny_rule ?_); show Seg _ A _ _ n s₀ _ ((standAt iter.pos >>= _).wrap _ _ _ _) [] s; exact seg_bind_wrap (wpAny_standAt (seg_bind_wrap (T.self _ 0 s _ _ st (seg_again rfl loop)))))
end
end GxA
end
section
set_option Elab.async false
set_option linter.all false
set_option maxRecDepth 100000
set_option maxHeartbeats 2000000
/-! A generator expression is made. -/
namespace GxA
open PySem PySem.Spec PyProof.Rows L2 GenW GxR
section
variable {X : Cx} {pins : List (Addr × Obj)} {σ : L2.St} {H : Hp} {s : Shared}
/-- the frame's code -/
abbrev gcode (elt tg iter : Expr) (ifs : List Expr) (scope : Scope) (gpos : Pos) (it : Addr) (cenv : Env) : Code := .compStart (.GeneratorExp elt [⟨tg, iter, ifs, 0⟩] scope gpos) 0 (.ref it) .none cenv
abbrev genvOf (X : Cx) (scope : Scope) (C : Addr) (code : Value) : Env := genEnv scope (cloFrom X.env.cells scope.names []) C code builtinsNs X.env
/-- a generator at a, not yet begun -/
structure Made (X : Cx) (pins : List (Addr × Obj)) (σ : L2.St) (elt tg iter : Expr) (ifs : List Expr) (scope : Scope) (gpos : Pos) (J : It) (H3 : Hp) (a : Addr) (s5 : Shared)
    (s4 : Shared) (it : Addr) (fp : List Addr) (tn : Nat → Heap → Prop) (g : Nat) (code : Value) : Prop where
  inv : Inv X pins σ H3 s4
  fpo : ∀ b ∈ fp, FpOk X pins H3 b ∧ b < s4.heap.objs.size
  turn : Turn X.prog X.w X.K tg J fp it tn
  st : tn 0 s5.heap
  os : s5.os = s4.os
  bare : AllBare s5.gens
  kp : ∀ b o, s4.heap.get? b = some o → s5.heap.get? b = some o
  ns : ∃ m, s5.heap.Ns s4.heap.objs.size m
  lta : s4.heap.objs.size < a
  gen : s5.heap.IsGen a g
  fresh : s5.gens[g]? = some (.fresh (gcode elt tg iter ifs scope gpos it (genvOf X scope s4.heap.objs.size code)))

theorem gx_made {c P : Addr} {elt tg iter : Expr} {ifs : List Expr} {gpos : Pos} {scope : Scope} {own : List (Str × Nat)} {wi : TI} {k : Nat} {Q' : Value → Shared → Prop} {R : It → Hp → Prop}
    (hr : Room k X.A) (TB : TabB X.base X.mg c P) (hcode : X.env.code = .ref c) (ok : BlkOk X.N X.env.scope scope own) (hcell : ∀ y ∈ scope.names, y.2 ≠ .cell) (hco : scope.isCoroutine = false)
    (hdot : scope.names.lookup (".0" : Str) = some NameKind.local) (hi : PI X tg iter wi) (hs : ∀ v, genFold iter X.env v = pure v) (I : Inv X pins σ H s)
    (h : wi σ H fun J H1 => TabG H1 P ∧ ∀ H2, Tabbed P H1 H2 → R J H2)
    (hQ : ∀ J H3 a s5 s4 it fp tn g code, R J H3 → Made X pins σ elt tg iter ifs scope gpos J H3 a s5 s4 it fp tn g code → Q' (.ref a) s5) :
    wpAny (model X.prog X.w) X.A (eval (.GeneratorExp elt [⟨tg, iter, ifs, 0⟩] scope gpos) X.env) Q' X.xe s := by
  have hfree : ∀ y ∈ scope.names, y.2 = .free → ∃ c, X.env.cells.lookup y.1 = some c := fun y hy e => by
    rcases ok.free y hy e with k | k
    · exact I.ok.has _ (.inl k)
    · exact I.ok.has _ (.inr k)
  refine wpAny_GeneratorExp_make hco (closure_ok hfree) hcell hdot ok.kind (by have := hr.dp; omega) ?_ hs
  refine thn (hi.run pins s σ H _ I h) fun xv s1 h1 => thn h1 fun itv s2 h2 => ?_
  obtain ⟨it, fp, tn, J, H2, e, I2, T, st2, f2, ⟨ps, hP, ht⟩, hR⟩ := h2
  subst e
  have hPs : s2.heap.get? P = some { cls := .none, data := .fields ps } := I2.hok P _ hP
  have hPlt : P < s2.heap.objs.size := Heap.lt_size hPs
  have cd : PySem.W.CodeHd s2.heap c P := TB.code.keeps fun b u e => I2.bk b u e
  have lim2 : s2.heap.NoLimit := I2.nolimit
  have fsz : ∀ b ∈ fp, b < s2.heap.objs.size := fun b hb => by
    obtain ⟨o, e, _⟩ := T.obj _ _ st2 b hb
    exact Heap.lt_size e
  have cont : ∀ (code : Value) (h3 : Heap) (tk : Nat) (ps' : Array Value), Heap.ExtBut P s2.heap h3 → s2.heap.objs.size ≤ h3.objs.size → h3.get? P = some { cls := .none, data := .fields ps' } → (∃ more, ps' = ps ++ more) → TriplesOk ps'.toList →
      wpAny (model X.prog X.w) X.A (builtinsFor X.env.globals X.env.builtins) (fun bi s₄ =>
        ∀ h', h'.Ns s₄.heap.objs.size (fun y => if y = ".0" then some (Value.ref it) else none) → Heap.SameBut s₄.heap.objs.size (s₄.heap.push { cls := .type "frame", data := .dict #[] }) h' →
          Q' (.ref h'.objs.size) { s₄ with
            gens := s₄.gens.push (.fresh (.compStart (.GeneratorExp elt [⟨tg, iter, ifs, 0⟩] scope gpos) 0 (.ref it) .none (genEnv scope (cloFrom X.env.cells scope.names []) s₄.heap.objs.size code bi X.env))),
            toks := s₄.toks + 1 + 1 + 1,
            heap := h'.push { cls := .type "generator", data := .fields #[.int s₄.gens.size 0, .str "<genexpr>" (s₄.toks + 1), .str (X.env.qual ++ "<genexpr>") (s₄.toks + 1 + 1)] } }) X.xe { s2 with heap := h3, toks := tk } := by
    intro code h3 tk ps' hx hsz hP3 hmore ht3
    obtain ⟨more, em⟩ := hmore
    obtain ⟨bm, ob, e1, e2, e3, e4, e5, e6, e7, e8⟩ := TB.bm
    have keep3 : ∀ b u, b ≠ P → s2.heap.get? b = some u → h3.get? b = some u := fun b u hb e => hx b u hb e
    refine wpAny_builtinsFor (m := X.mg) (by rw [I2.ok.glob]; exact (I2.mod.glob.keeps I2.bk).extBut hx TB.gP) e1 e2 (keep3 _ _ e4 (I2.bk _ _ e5)) e6 e7 e8 ?_
    intro h' hn' hs'
    have I3 : Inv X pins σ (upd H2 P (.tbl (ps ++ more))) { s2 with heap := h3, toks := tk } :=
      inv_tab (g' := s2.gens) (d' := s2.drawn) I2 hP (fun b o hb e => keep3 b o hb e) (by rw [← em]; exact hP3) I2.bare
    have hszh : h'.objs.size = h3.objs.size + 1 := by rw [hs'.1, Heap.size_push]
    have keep' : ∀ b o, h3.get? b = some o → h'.get? b = some o := fun b o e => hs'.extBut b o (Nat.ne_of_lt (Heap.lt_size e)) (Heap.get?_push_of_some _ e)
    have keep5 : ∀ b o, h3.get? b = some o → (h'.push { cls := .type "generator", data := .fields #[.int s2.gens.size 0, .str "<genexpr>" (tk + 1), .str (X.env.qual ++ "<genexpr>") (tk + 1 + 1)] }).get? b = some o :=
      fun b o e => Heap.get?_push_of_some _ (keep' b o e)
    have nfP : ∀ b ∈ fp, b ≠ P := fun b hb z => by
      have q := (f2 b hb).1
      rw [z, hP] at q
      cases q
    refine hQ J (upd H2 P (.tbl (ps ++ more))) _ _ { s2 with heap := h3, toks := tk } it fp tn s2.gens.size code (hR _ ⟨⟨ps ++ more, upd_same, by rw [← em]; exact ht3⟩, fun b hb => upd_ne hb⟩)
      ⟨I3, fun b hb => ⟨⟨by rw [upd_ne (nfP b hb)]; exact (f2 b hb).1, (f2 b hb).2⟩, Nat.lt_of_lt_of_le (fsz b hb) hsz⟩, T, ?_, rfl, I2.bare.push rfl, keep5, ⟨_, hn'.push _⟩, ?_, ⟨_, _, _, Heap.get?_push_size _ rfl, rfl, rfl, rfl⟩, Array.getElem?_push_size ..⟩
    · exact T.keep _ _ _ st2 fun b hb o e => keep5 b o (keep3 b o (nfP b hb) e)
    · show h3.objs.size < h'.objs.size
      omega
  refine ⟨lim2, ?_⟩
  cases hf : codeAmong gpos ps.toList with
  | none =>
    refine wpAny_genexprCodeX hcode (cd.code hPs ht) (cd.tab hPs) hf fun c' h' tk hx hge hlt hco' _ htab' _ => ?_
    obtain ⟨o1, vs, f1, tf, fl, tg, inF, tx, tt, op, _, _, _, _, _, _, _, _, _, htr, _⟩ := hco'
    exact cont _ h' tk _ hx (Nat.le_trans hge (Nat.le_of_lt hlt)) htab'.2 ⟨_, rfl⟩ htr
  | some cv =>
    refine wpAny_genexprCode_hit hcode (cd.code hPs ht) hf ?_
    exact cont cv s2.heap s2.toks ps (Heap.ExtBut.refl _ _) (Nat.le_refl _) hPs ⟨#[], by simp⟩ ht
end
end GxA
end
section
set_option Elab.async false
set_option linter.all false
set_option maxRecDepth 100000
set_option maxHeartbeats 2000000
/-! all, any, tuple of a generator expression. -/
namespace GxA
open PySem PySem.Spec PyProof.Rows L2 GenW GxR
/-- nothing but new things and marks -/
structure Near (s s' : Shared) : Prop where
  os : s'.os = s.os
  bare : AllBare s'.gens
  kp : ∀ b o, s.heap.get? b = some o → s'.heap.get? b = some o
section
variable {X : Cx} {pins : List (Addr × Obj)} {σ : L2.St} {H H' : Hp} {s s' : Shared}
theorem inv_near (I : Inv X pins σ H s) (n : Near s s') : Inv X pins σ H s' :=
  I.call' (ch := []) n.os (Un.kept n.kp) (I.hok.kept n.kp) n.bare fun b hb => absurd hb (by simp)

/-- the generator begins to run -/
theorem made_seg {elt tg iter : Expr} {ifs : List Expr} {gpos : Pos} {scope : Scope} {own : List (Str × Nat)} {J : It} {H3 : Hp} {a : Addr} {s5 s4 s6 : Shared} {it : Addr} {fp : List Addr} {tn : Nat → Heap → Prop} {gn : Nat} {code : Value}
    {g : TG} {tt : TT} {te : TE} {W : Nat → Nat → List V → Hp → Prop} {PO : List V → List (Addr × Obj) → Prop} {SL : Value → Shared → Shared → Prop} {Yd : List V → V → Hp → Prop → Prop} {Fin : List V → Hp → Prop} {Aw : Around} {go : Obj} {pl : List (Addr × Obj)}
    (M : Made X pins σ elt tg iter ifs scope gpos J H3 a s5 s4 it fp tn gn code) (ok : BlkOk X.N X.env.scope scope own) (hcell : ∀ y ∈ scope.names, y.2 ≠ .cell) (hN : X.N.Nodup) (hco : scope.isCoroutine = false)
    (hh : Aw.handled = none) (hfr : Aw.frames = some X.stack) (ha : s6.heap.get? a = some go) (hgo : ∀ v, go.data ≠ .cell v) (n6 : Near s5 s6)
    (pg : PG (gx X (Aw.deeper (genvOf X scope s4.heap.objs.size code)) s4 H3 (genvOf X scope s4.heap.objs.size code) fp [(a, go)]) tg g)
    (pt : PTs (gx X (Aw.deeper (genvOf X scope s4.heap.objs.size code)) s4 H3 (genvOf X scope s4.heap.objs.size code) fp [(a, go)]) ifs tt)
    (pe : PE (gx X (Aw.deeper (genvOf X scope s4.heap.objs.size code)) s4 H3 (genvOf X scope s4.heap.objs.size code) fp [(a, go)]) elt te)
    (hPO : ∀ ys pl, PO ys pl → ∀ p ∈ pl, p.1 ∉ fp) (hp : PO [] pl)
    (hpl : ∀ p ∈ pl, s6.heap.get? p.1 = some p.2 ∧ s4.heap.objs.size < p.1 ∧ ∀ v, p.2.data ≠ .cell v)
    (hwake : ∀ ys y v pl σ2 H s s', RelV y v → PO ys pl → Inv (gx X (Aw.deeper (genvOf X scope s4.heap.objs.size code)) s4 H3 (genvOf X scope s4.heap.objs.size code) fp [(a, go)]) pl σ2 H s → SL v s s' →
      ∃ pl', PO (ys ++ [y]) pl' ∧ Inv (gx X (Aw.deeper (genvOf X scope s4.heap.objs.size code)) s4 H3 (genvOf X scope s4.heap.objs.size code) fp [(a, go)]) pl' σ2 H s' ∧ ∀ b ∈ fp, ∀ o, s.heap.get? b = some o → s'.heap.get? b = some o)
    (turn : Turns J g tt te (own.map (·.2)) (wipe σ (own.map (·.2))) Yd Fin W) {m n : Nat} (hmn : m < n) (hW : W 0 m [] H3) :
    Seg (model X.prog X.w) Aw (RgP PO (gx X (Aw.deeper (genvOf X scope s4.heap.objs.size code)) s4 H3 (genvOf X scope s4.heap.objs.size code) fp [(a, go)]) (wipe σ (own.map (·.2))) Fin)
      (YgP PO (gx X (Aw.deeper (genvOf X scope s4.heap.objs.size code)) s4 H3 (genvOf X scope s4.heap.objs.size code) fp [(a, go)]) SL Yd) n s6 (gcode elt tg iter ifs scope gpos it (genvOf X scope s4.heap.objs.size code))
      ((model X.prog X.w).den (gcode elt tg iter ifs scope gpos it (genvOf X scope s4.heap.objs.size code))) [] s6 := by
  obtain ⟨mm, hns⟩ := M.ns
  have I6 := gx_start (A := Aw.deeper (genvOf X scope s4.heap.objs.size code)) (own := own) (fp := fp) (pn := [(a, go)]) (code := code) (s' := s6) (m := mm) M.inv ok hcell hN M.fpo hh (Around.frames_deeper hfr)
    (n6.os.trans M.os) n6.bare (fun b o e => n6.kp b o (M.kp b o e)) (hns.keeps n6.kp) (fun p hp' => by
      have e : p = (a, go) := by simpa using hp'
      subst e
      exact ⟨ha, M.lta, hgo⟩)
  have nst : ∀ b, b ∈ frs X.stack → b < s4.heap.objs.size := fun b z => by
    rcases List.mem_cons.mp (M.inv.stkSub _ z) with z | z
    · rw [z]; exact M.inv.lt
    · obtain ⟨_, o, ho, _⟩ := M.inv.funs.mem z
      exact Heap.lt_size ho
  have I7 : Inv (gx X (Aw.deeper (genvOf X scope s4.heap.objs.size code)) s4 H3 (genvOf X scope s4.heap.objs.size code) fp [(a, go)]) pl (wipe σ (own.map (·.2))) H3 s6 := I6.pins_of fun p hp' => by
    obtain ⟨h1, h2, h3⟩ := hpl p hp'
    exact ⟨h1, M.inv.hok.fresh (Nat.le_of_lt h2), Nat.ne_of_gt h2, fun z => absurd (Nat.lt_trans h2 (nst _ z)) (Nat.lt_irrefl _), h3⟩
  refine seg_gx0 (Xg := gx X (Aw.deeper (genvOf X scope s4.heap.objs.size code)) s4 H3 (genvOf X scope s4.heap.objs.size code) fp [(a, go)]) rfl rfl rfl hco rfl M.turn pg pt pe hPO (fun p hp' z => ?_) rfl hwake turn m n [] pl H3 s6 s6 hmn hW hp I7
    (M.turn.keep _ _ _ M.st fun b _ o e => n6.kp b o e) fun b hb => (M.fpo b hb).1.1
  have e : p = (a, go) := by simpa using hp'
  subst e
  exact absurd (Nat.lt_trans M.lta (M.fpo _ z).2) (Nat.lt_irrefl _)

/-- back in the def -/
theorem made_back {elt tg iter : Expr} {ifs : List Expr} {gpos : Pos} {scope : Scope} {J : It} {H3 : Hp} {a : Addr} {s5 s4 : Shared} {it : Addr} {fp : List Addr} {tn : Nat → Heap → Prop} {gn : Nat} {code : Value} {A : Around} {cenv : Env} {pn pl : List (Addr × Obj)} {σ2 : L2.St}
    (M : Made X pins σ elt tg iter ifs scope gpos J H3 a s5 s4 it fp tn gn code) (I : Inv (gx X A s4 H3 cenv fp pn) pl σ2 H s) : Inv X pins σ H s :=
  M.inv.call' (ch := fp) I.os I.base I.hok I.bare fun b hb => ⟨(M.fpo b hb).1.2.2.2.1, (M.fpo b hb).1.2.1, (M.fpo b hb).1.2.2.2.2.1, (M.fpo b hb).1.2.2.2.2.2⟩
end

/-! ### the loops of all and any -/
/-- what all, any want at an item -/
def YB (a : Addr) (g : Nat) (D : Bool → Shared → Prop → Prop) : Protocol := fun _ _ v s1 kap =>
  ∃ b, ∃ C : Prop, v = .bool b ∧ AllBare s1.gens ∧ s1.heap.NoLimit ∧ s1.heap.IsGen a g ∧ D b s1 C ∧ (C → ∀ s', Near s1 s' → kap (.send .none) s')
def RB (Fz : Shared → Prop) : GenEnd := fun n s₀ r s₁ => ((r = .ok (.ret .none) ∨ r = .ok .next) ∧ (fun (_ : Nat) (_ s₁ : Shared) => AllBare s₁.gens ∧ Fz s₁) n s₀ s₁) ∨ ∃ e, r = .error e ∧ (fun (_ : Value) (_ : Shared) => False) e s₁
section
variable {P : Program} {w : World} {A : Around} {R : Result → Shared → Prop} {a : Addr} {g : Nat} {Fz : Shared → Prop} {D : Bool → Shared → Prop → Prop}
theorem near_gens {s s' : Shared} (h1 : s'.os = s.os) (h2 : AllBare s'.gens) (h3 : s'.heap = s.heap) : Near s s' := ⟨h1, h2, fun b o e => by rw [h3]; exact e⟩
theorem all_loop (hh : A.handled = none) (hd : A.depth < recursionLimit) (hend : ∀ s1 s', Fz s1 → Near s1 s' → R (.ok (.ret (.bool true))) s') (hstop : ∀ s1 s' C, D false s1 C → Near s1 s' → R (.ok (.ret (.bool false))) s') (hgo : ∀ s1 C, D true s1 C → C) :
    ∀ (m : Nat) (s : Shared), s.heap.IsGen a g → s.heap.NoLimit → (∃ gs, s.gens[g]? = some gs ∧ gs.Goes (model P w) A.in1.in1 (RB Fz) (YB a g D) m (.send .none) (s.setGen g .running)) →
      codeAny (model P w) A (.builtin "all.loop" ⟨[.ref a], []⟩) R s := by
  intro m
  induction m with
  | zero =>
    intro s hg hl ⟨gs, hgs, hgo'⟩
    refine codeAny_builtin PySem.F.entry_all_loop ?_
    rw [Around.under_plainId PySem.F.plain_all_loop _]
    show wpAny _ A.in1 (pyNext (.ref a) >>= _) _ _ s
    refine wpAny_bind (next_genG (A := A.in1) (F := fun _ _ s₁ => AllBare s₁.gens ∧ Fz s₁) (Er := fun _ _ => False) hh hl hd hg hgs hgo' (fun v s₁ gs' hbare hv => ?_) (fun s₁ hp h' hk => ?_) fun e s₁ he => he.elim)
    · obtain ⟨b, C, rfl, hb1, hl1, hg1, hD, hk⟩ := hv
      refine wpAny_bind (wpAny_holding (wpAny_truthy_bool (wpAny_bind (wpAny_letGo ?_))))
      cases b with
      | true => exact (hk (hgo _ _ hD) s₁ (near_gens rfl hb1 rfl)).elim
      | false =>
        simp only [Bool.false_eq_true, if_false]
        exact wpAny_bind (wpAny_rule (wpAny_pure (hstop s₁ _ C hD (near_gens rfl (allBare_setGen hb1 hbare) rfl))))
    · exact wpAny_bind (wpAny_rule (wpAny_pure (hend s₁ _ hp.2 ⟨rfl, allBare_setGen hp.1 rfl, hk⟩)))
  | succ m ih =>
    intro s hg hl ⟨gs, hgs, hgo'⟩
    have hgl : g < s.gens.size := (Array.getElem?_eq_some_iff.mp hgs).1
    refine codeAny_builtin PySem.F.entry_all_loop ?_
    rw [Around.under_plainId PySem.F.plain_all_loop _]
    show wpAny _ A.in1 (pyNext (.ref a) >>= _) _ _ s
    refine wpAny_bind (wpAny_gsz (n := g + 1) hgl (next_genG (A := A.in1) (F := fun _ _ s₁ => AllBare s₁.gens ∧ Fz s₁) (Er := fun _ _ => False) hh hl hd hg hgs hgo' (fun v s₁ gs' hbare hv => ?_) (fun s₁ hp h' hk => ?_) fun e s₁ he => he.elim))
    · intro hsz
      obtain ⟨b, C, rfl, hb1, hl1, hg1, hD, hk⟩ := hv
      refine wpAny_bind (wpAny_holding (wpAny_truthy_bool (wpAny_bind (wpAny_letGo ?_))))
      cases b with
      | true =>
        simp only [if_true]
        have hsz1 : g < s₁.gens.size := by
          have q : (s₁.setGen g gs').gens.size = s₁.gens.size := setGen_size _ _ _
          have hsz' : g + 1 ≤ (s₁.setGen g gs').gens.size := hsz
          omega
        refine wpAny_pure ⟨plainId_quiet PySem.F.plain_all_loop _, ih (s₁.setGen g gs') hg1 hl1 ⟨gs', setGen_at hsz1, ?_⟩⟩
        exact hk (hgo _ _ hD) _ (near_gens rfl (allBare_setGen (s := s₁.setGen g gs') (allBare_setGen hb1 hbare) rfl) rfl)
      | false =>
        simp only [Bool.false_eq_true, if_false]
        exact wpAny_bind (wpAny_rule (wpAny_pure (hstop s₁ _ C hD (near_gens rfl (allBare_setGen hb1 hbare) rfl))))
    · intro hsz
      exact wpAny_bind (wpAny_rule (wpAny_pure (hend s₁ _ hp.2 ⟨rfl, allBare_setGen hp.1 rfl, hk⟩)))
theorem any_loop (hh : A.handled = none) (hd : A.depth < recursionLimit) (hend : ∀ s1 s', Fz s1 → Near s1 s' → R (.ok (.ret (.bool false))) s') (hstop : ∀ s1 s' C, D true s1 C → Near s1 s' → R (.ok (.ret (.bool true))) s') (hgo : ∀ s1 C, D false s1 C → C) :
    ∀ (m : Nat) (s : Shared), s.heap.IsGen a g → s.heap.NoLimit → (∃ gs, s.gens[g]? = some gs ∧ gs.Goes (model P w) A.in1.in1 (RB Fz) (YB a g D) m (.send .none) (s.setGen g .running)) →
      codeAny (model P w) A (.builtin "any.loop" ⟨[.ref a], []⟩) R s := by
  intro m
  induction m with
  | zero =>
    intro s hg hl ⟨gs, hgs, hgo'⟩
    refine codeAny_builtin PySem.F.entry_any_loop ?_
    rw [Around.under_plainId PySem.F.plain_any_loop _]
    show wpAny _ A.in1 (pyNext (.ref a) >>= _) _ _ s
    refine wpAny_bind (next_genG (A := A.in1) (F := fun _ _ s₁ => AllBare s₁.gens ∧ Fz s₁) (Er := fun _ _ => False) hh hl hd hg hgs hgo' (fun v s₁ gs' hbare hv => ?_) (fun s₁ hp h' hk => ?_) fun e s₁ he => he.elim)
    · obtain ⟨b, C, rfl, hb1, hl1, hg1, hD, hk⟩ := hv
      refine wpAny_bind (wpAny_holding (wpAny_truthy_bool (wpAny_bind (wpAny_letGo ?_))))
      cases b with
      | false => exact (hk (hgo _ _ hD) s₁ (near_gens rfl hb1 rfl)).elim
      | true =>
        simp only [if_true]
        exact wpAny_bind (wpAny_rule (wpAny_pure (hstop s₁ _ C hD (near_gens rfl (allBare_setGen hb1 hbare) rfl))))
    · exact wpAny_bind (wpAny_rule (wpAny_pure (hend s₁ _ hp.2 ⟨rfl, allBare_setGen hp.1 rfl, hk⟩)))
  | succ m ih =>
    intro s hg hl ⟨gs, hgs, hgo'⟩
    have hgl : g < s.gens.size := (Array.getElem?_eq_some_iff.mp hgs).1
    refine codeAny_builtin PySem.F.entry_any_loop ?_
    rw [Around.under_plainId PySem.F.plain_any_loop _]
    show wpAny _ A.in1 (pyNext (.ref a) >>= _) _ _ s
    refine wpAny_bind (wpAny_gsz (n := g + 1) hgl (next_genG (A := A.in1) (F := fun _ _ s₁ => AllBare s₁.gens ∧ Fz s₁) (Er := fun _ _ => False) hh hl hd hg hgs hgo' (fun v s₁ gs' hbare hv => ?_) (fun s₁ hp h' hk => ?_) fun e s₁ he => he.elim))
    · intro hsz
      obtain ⟨b, C, rfl, hb1, hl1, hg1, hD, hk⟩ := hv
      refine wpAny_bind (wpAny_holding (wpAny_truthy_bool (wpAny_bind (wpAny_letGo ?_))))
      cases b with
      | false =>
        simp only [Bool.false_eq_true, if_false]
        have hsz1 : g < s₁.gens.size := by
          have q : (s₁.setGen g gs').gens.size = s₁.gens.size := setGen_size _ _ _
          have hsz' : g + 1 ≤ (s₁.setGen g gs').gens.size := hsz
          omega
        refine wpAny_pure ⟨plainId_quiet PySem.F.plain_any_loop _, ih (s₁.setGen g gs') hg1 hl1 ⟨gs', setGen_at hsz1, ?_⟩⟩
        exact hk (hgo _ _ hD) _ (near_gens rfl (allBare_setGen (s := s₁.setGen g gs') (allBare_setGen hb1 hbare) rfl) rfl)
      | true =>
        simp only [if_true]
        exact wpAny_bind (wpAny_rule (wpAny_pure (hstop s₁ _ C hD (near_gens rfl (allBare_setGen hb1 hbare) rfl))))
    · intro hsz
      exact wpAny_bind (wpAny_rule (wpAny_pure (hend s₁ _ hp.2 ⟨rfl, allBare_setGen hp.1 rfl, hk⟩)))
end
end GxA
end
section
set_option Elab.async false
set_option linter.all false
set_option maxRecDepth 100000
set_option maxHeartbeats 2000000
/-! all(..), any(..) of a generator expression, as expressions. -/
namespace GxA
open PySem PySem.Spec PyProof.Rows L2 GenW GxR
theorem room_gx2 {k : Nat} {A : Around} (r : Room (k + 1) A) (env : Env) : Room k (A.in1.in1.deeper env) :=
  ⟨r.hd, by have := r.dp; show A.depth + 1 + 3 * k + 5 < _; omega, by have := r.un; show A.units + 1 + 1 + 3 + 16 * k + 200 < _; omega⟩
theorem room_gx3 {k : Nat} {A : Around} (r : Room (k + 1) A) (env : Env) : Room k (A.in1.in1.in1.deeper env) :=
  ⟨r.hd, by have := r.dp; show A.depth + 1 + 3 * k + 5 < _; omega, by have := r.un; show A.units + 1 + 1 + 1 + 3 + 16 * k + 200 < _; omega⟩
theorem room_gx4 {k : Nat} {A : Around} (r : Room (k + 1) A) (env : Env) : Room k (A.in1.in1.in1.in1.deeper env) :=
  ⟨r.hd, by have := r.dp; show A.depth + 1 + 3 * k + 5 < _; omega, by have := r.un; show A.units + 1 + 1 + 1 + 1 + 3 + 16 * k + 200 < _; omega⟩
section
variable {X : Cx}
/-- z: the answer that ends it (all: False; any: True) -/
def ydB (z : Bool) (Q : VK) : List V → V → Hp → Prop → Prop := fun _ y H C => ∃ b, y = .bl b ∧ (b = z → Q (.bl z) H) ∧ (b = (!z) → C)
def tGenB (z : Bool) (P : Addr) (wi : TI) (g : TG) (tt : TT) (te : TE) (vs : List Nat) : TE := fun σ H Q => wi σ H fun J H1 => TabG H1 P ∧ ∀ H2, Tabbed P H1 H2 →
  ∃ W : Nat → Nat → List V → Hp → Prop, (∃ m, W 0 m [] H2) ∧ Turns J g tt te vs (wipe σ vs) (ydB z Q) (fun _ H => Q (.bl (!z)) H) W

/-- the generator runs, asked by all or any -/
theorem made_goes {pins : List (Addr × Obj)} {σ : L2.St} {z : Bool} {Q : VK} {elt tg iter : Expr} {ifs : List Expr} {gpos : Pos} {scope : Scope} {own : List (Str × Nat)} {J : It} {H3 : Hp} {a : Addr} {s5 s4 s6 : Shared} {it : Addr} {fp : List Addr} {tn : Nat → Heap → Prop} {gn : Nat} {code : Value}
    {g : TG} {tt : TT} {te : TE} {W : Nat → Nat → List V → Hp → Prop} {Aw : Around} {k : Nat}
    (M : Made X pins σ elt tg iter ifs scope gpos J H3 a s5 s4 it fp tn gn code) (ok : BlkOk X.N X.env.scope scope own) (hcell : ∀ y ∈ scope.names, y.2 ≠ .cell) (hN : X.N.Nodup) (hco : scope.isCoroutine = false)
    (hh : Aw.handled = none) (hfr : Aw.frames = some X.stack) (hrm : ∀ env, Room k (Aw.deeper env)) (n6 : Near s5 s6)
    (hgt : ∀ A s H C code fp pn, Room k A → PG (gx X A s H (genvOf X scope C code) fp pn) tg g) (ht : ∀ A s H C code fp pn, Room k A → PTs (gx X A s H (genvOf X scope C code) fp pn) ifs tt) (he : ∀ A s H C code fp pn, Room k A → PE (gx X A s H (genvOf X scope C code) fp pn) elt te)
    (turn : Turns J g tt te (own.map (·.2)) (wipe σ (own.map (·.2))) (ydB z Q) (fun _ H => Q (.bl (!z)) H) W) {m : Nat} (hW : W 0 m [] H3) :
    GenState.Goes (model X.prog X.w) Aw (RB fun s1 => ∃ H', Inv X pins σ H' s1 ∧ Q (.bl (!z)) H') (YB a gn fun b s1 C => ∃ H', Inv X pins σ H' s1 ∧ (b = z → Q (.bl z) H') ∧ (b = (!z) → C)) (m + 1)
      (.fresh (gcode elt tg iter ifs scope gpos it (genvOf X scope s4.heap.objs.size code))) (.send .none) s6 := by
  obtain ⟨go, nm, qn, hgo, hgc⟩ := id M.gen
  have isg : ∀ {s : Shared}, s.heap.get? a = some go → s.heap.IsGen a gn := fun {s} e => ⟨go, nm, qn, e, hgc⟩
  have hdat : ∀ v, go.data ≠ .cell v := fun v q => by
    obtain ⟨_, hd, _⟩ := hgc
    rw [hd] at q
    cases q
  refine ⟨rfl, ?_⟩
  have base := made_seg (PO := fun _ pl => pl = []) (SL := fun _ => Near) (Yd := ydB z Q) (Fin := fun _ H => Q (.bl (!z)) H) (pl := []) (n := m + 1) (m := m) (Aw := Aw) M ok hcell hN hco hh hfr (n6.kp _ _ hgo) hdat n6 (hgt _ _ _ _ _ _ _ (hrm _)) (ht _ _ _ _ _ _ _ (hrm _)) (he _ _ _ _ _ _ _ (hrm _))
    (fun ys pl e p hp => by rw [e] at hp; cases hp) rfl (fun p hp => by cases hp) (fun ys y v pl σ2 H s s' rv e I n => ⟨[], rfl, by rw [e] at I; exact inv_near I n, fun b _ o q => n.kp b o q⟩) turn (Nat.lt_succ_self m) hW
  refine seg_imp (fun n s₀ r s1 h => ?_) (fun n s₀ v s1 kap kap' hk h => ?_) _ base
  · obtain ⟨hr, ys, pl, H', _, I, q⟩ := h
    exact .inl ⟨.inr hr, I.bare, H', made_back M I, q⟩
  · obtain ⟨ys, y, pl, σ2, H', C, rv, epl, I, ⟨b, rfl, q1, q2⟩, hC⟩ := h
    cases rv
    have J := made_back M I
    exact ⟨b, C, rfl, I.bare, J.nolimit, isg (I.pin (a, go) (List.mem_append_left _ (List.mem_singleton.mpr rfl))).1, ⟨H', J, q1, q2⟩, fun hc s' n => hk _ _ (hC hc s' n)⟩

variable {c P : Addr} {elt tg iter : Expr} {ifs : List Expr} {gpos p pos : Pos} {scope : Scope} {own : List (Str × Nat)} {wi : TI} {g : TG} {tt : TT} {te : TE} {k : Nat}
theorem pe_allG (hr : Room (k + 1) X.A) (hg : Gl X "all") (hm : X.mg "all" = none) (TB : TabB X.base X.mg c P) (hcode : X.env.code = .ref c) (hN : X.N.Nodup) (ok : BlkOk X.N X.env.scope scope own) (hcell : ∀ y ∈ scope.names, y.2 ≠ .cell) (hco : scope.isCoroutine = false)
    (hdot : scope.names.lookup (".0" : Str) = some NameKind.local) (hi : PI X tg iter wi)
    (hgt : ∀ A s H C code fp pn, Room k A → PG (gx X A s H (genvOf X scope C code) fp pn) tg g) (ht : ∀ A s H C code fp pn, Room k A → PTs (gx X A s H (genvOf X scope C code) fp pn) ifs tt) (he : ∀ A s H C code fp pn, Room k A → PE (gx X A s H (genvOf X scope C code) fp pn) elt te)
    (hs : ∀ v, genFold iter X.env v = pure v := by intro _; rfl)
    (hst : starEach [.GeneratorExp elt [⟨tg, iter, ifs, 0⟩] scope gpos] X.env = (false, eval (.GeneratorExp elt [⟨tg, iter, ifs, 0⟩] scope gpos) X.env) :: starEach [] X.env := by rfl) :
    PE X (.Call (.Name "all" p) [.GeneratorExp elt [⟨tg, iter, ifs, 0⟩] scope gpos] [] pos) (tGenB false P wi g tt te (own.map (·.2))) := by
  refine ⟨fun pins s σ H Q I h => ?_⟩
  refine wpAny_Call_Name_kw (ld_blt I hg hm boot_all ?_)
  refine PyProof.Rows.callWith_builtin1 ?_ hst (by rfl)
  rw [hst]
  show wpAny _ _ (spliced ((false, eval (.GeneratorExp elt [⟨tg, iter, ifs, 0⟩] scope gpos) X.env) :: backTo pos (starEach [] X.env))) _ _ s
  refine Calls.spliced_cons (gx_made (R := fun J H2 => ∃ W : Nat → Nat → List V → Hp → Prop, (∃ m, W 0 m [] H2) ∧ Turns J g tt te (own.map fun (x : Str × Nat) => x.2) (wipe σ (own.map fun (x : Str × Nat) => x.2)) (ydB false Q) (fun _ H => Q (.bl true) H) W) hr TB hcode ok hcell hco hdot hi hs I h
    fun J H3 a s5 s4 it fp tn gn code ⟨W, ⟨m, hW⟩, turn⟩ M => ?_)
  refine Calls.spliced_nil ?_
  have lim5 : s5.heap.NoLimit := M.inv.nolimit.keeps M.kp
  have dp : X.A.depth < recursionLimit := hr.depth
  refine call_function_tree PySem.F.kind_all PySem.F.plain_all PySem.F.entry_all (PySem.F.args_all1 _) ?_
  unfold Builtin.«all»
  refine wpAny_bind (m := oneArg "all" _) (wpAny_pure ?_)
  refine wpAny_bind (wpAny_pyIter_gen M.gen ?_)
  have goes := made_goes (z := false) (s6 := s5.setGen gn .running) (Aw := X.A.in1.in1) (k := k) M ok hcell hN hco hr.hd M.inv.ok.frames (fun env => room_gx2 hr env) (near_gens rfl (allBare_setGen M.bare rfl) rfl) hgt ht he turn hW
  refine wpAny_pure ⟨plainId_quiet PySem.F.plain_all_loop _, all_loop (A := X.A) (a := a) (g := gn) (Fz := fun s1 => ∃ H', Inv X pins σ H' s1 ∧ Q (.bl true) H')
    (D := fun b s1 C => ∃ H', Inv X pins σ H' s1 ∧ (b = false → Q (.bl false) H') ∧ (b = true → C)) hr.hd dp (fun s1 s' ⟨H', J, q⟩ n => ?_) (fun s1 s' C ⟨H', J, q1, _⟩ n => ?_) (fun s1 C ⟨H', J, _, q2⟩ => q2 rfl) (m + 1) s5 M.gen lim5 ⟨_, M.fresh, goes⟩⟩
  · exact ⟨.bl true, H', inv_near J n, rfl, q⟩
  · exact ⟨.bl false, H', inv_near J n, rfl, q1 rfl⟩
theorem pe_anyG (hr : Room (k + 1) X.A) (hg : Gl X "any") (hm : X.mg "any" = none) (TB : TabB X.base X.mg c P) (hcode : X.env.code = .ref c) (hN : X.N.Nodup) (ok : BlkOk X.N X.env.scope scope own) (hcell : ∀ y ∈ scope.names, y.2 ≠ .cell) (hco : scope.isCoroutine = false)
    (hdot : scope.names.lookup (".0" : Str) = some NameKind.local) (hi : PI X tg iter wi)
    (hgt : ∀ A s H C code fp pn, Room k A → PG (gx X A s H (genvOf X scope C code) fp pn) tg g) (ht : ∀ A s H C code fp pn, Room k A → PTs (gx X A s H (genvOf X scope C code) fp pn) ifs tt) (he : ∀ A s H C code fp pn, Room k A → PE (gx X A s H (genvOf X scope C code) fp pn) elt te)
    (hs : ∀ v, genFold iter X.env v = pure v := by intro _; rfl)
    (hst : starEach [.GeneratorExp elt [⟨tg, iter, ifs, 0⟩] scope gpos] X.env = (false, eval (.GeneratorExp elt [⟨tg, iter, ifs, 0⟩] scope gpos) X.env) :: starEach [] X.env := by rfl) :
    PE X (.Call (.Name "any" p) [.GeneratorExp elt [⟨tg, iter, ifs, 0⟩] scope gpos] [] pos) (tGenB true P wi g tt te (own.map (·.2))) := by
  refine ⟨fun pins s σ H Q I h => ?_⟩
  refine wpAny_Call_Name_kw (ld_blt I hg hm boot_any ?_)
  refine PyProof.Rows.callWith_builtin1 ?_ hst (by rfl)
  rw [hst]
  show wpAny _ _ (spliced ((false, eval (.GeneratorExp elt [⟨tg, iter, ifs, 0⟩] scope gpos) X.env) :: backTo pos (starEach [] X.env))) _ _ s
  refine Calls.spliced_cons (gx_made (R := fun J H2 => ∃ W : Nat → Nat → List V → Hp → Prop, (∃ m, W 0 m [] H2) ∧ Turns J g tt te (own.map fun (x : Str × Nat) => x.2) (wipe σ (own.map fun (x : Str × Nat) => x.2)) (ydB true Q) (fun _ H => Q (.bl false) H) W) hr TB hcode ok hcell hco hdot hi hs I h
    fun J H3 a s5 s4 it fp tn gn code ⟨W, ⟨m, hW⟩, turn⟩ M => ?_)
  refine Calls.spliced_nil ?_
  have lim5 : s5.heap.NoLimit := M.inv.nolimit.keeps M.kp
  have dp : X.A.depth < recursionLimit := hr.depth
  refine call_function_tree PySem.F.kind_any PySem.F.plain_any PySem.F.entry_any (PySem.F.args_any1 _) ?_
  unfold Builtin.«any»
  refine wpAny_bind (m := oneArg "any" _) (wpAny_pure ?_)
  refine wpAny_bind (wpAny_pyIter_gen M.gen ?_)
  have goes := made_goes (z := true) (s6 := s5.setGen gn .running) (Aw := X.A.in1.in1) (k := k) M ok hcell hN hco hr.hd M.inv.ok.frames (fun env => room_gx2 hr env) (near_gens rfl (allBare_setGen M.bare rfl) rfl) hgt ht he turn hW
  refine wpAny_pure ⟨plainId_quiet PySem.F.plain_any_loop _, any_loop (A := X.A) (a := a) (g := gn) (Fz := fun s1 => ∃ H', Inv X pins σ H' s1 ∧ Q (.bl false) H')
    (D := fun b s1 C => ∃ H', Inv X pins σ H' s1 ∧ (b = true → Q (.bl true) H') ∧ (b = false → C)) hr.hd dp (fun s1 s' ⟨H', J, q⟩ n => ?_) (fun s1 s' C ⟨H', J, q1, _⟩ n => ?_) (fun s1 C ⟨H', J, _, q2⟩ => q2 rfl) (m + 1) s5 M.gen lim5 ⟨_, M.fresh, goes⟩⟩
  · exact ⟨.bl false, H', inv_near J n, rfl, q⟩
  · exact ⟨.bl true, H', inv_near J n, rfl, q1 rfl⟩
end
end GxA
end
section
set_option Elab.async false
set_option linter.all false
set_option maxRecDepth 100000
set_option maxHeartbeats 2000000
/-! tuple(..) of a generator expression. -/
namespace GxA
open PySem PySem.Spec PyProof.Rows L2 GenW GxR
/-- an item for the list at S -/
def YT (S a : Addr) (g : Nat) : Protocol := fun _ _ v s1 kap =>
  AllBare s1.gens ∧ s1.heap.NoLimit ∧ s1.heap.IsGen a g ∧ (∃ (acc : Array Value) (c : Nat), s1.heap.get? S = some (lstObj acc c) ∧ acc.size < sizeLine) ∧ ∀ s', Slept S v s1 s' → kap (.send .none) s'
section
variable {P : Program} {w : World} {A : Around} {R : Result → Shared → Prop} {a S : Addr} {g : Nat} {Fz : Shared → Prop} {res : Value}
theorem drain2 (hh : A.handled = none) (hd : A.depth < recursionLimit) (hSa : S ≠ a) (hSc : S ≠ cStatics) (hend : ∀ s1 s', Fz s1 → Near s1 s' → R (.ok (.ret res)) s') :
    ∀ (m : Nat) (s : Shared), s.heap.IsGen a g → s.heap.NoLimit → (∃ gs, s.gens[g]? = some gs ∧ gs.Goes (model P w) A.in1.in1 (RB Fz) (YT S a g) m (.send .none) (s.setGen g .running)) →
      codeAny (model P w) A (.builtin "list.extend.loop" ⟨[.ref S, .ref a, res], []⟩) R s := by
  intro m
  induction m with
  | zero =>
    intro s hg hl ⟨gs, hgs, hgo⟩
    refine codeAny_builtin PySem.F.entry_extend_loop ?_
    rw [Around.under_plainId PySem.F.plain_extend_loop _]
    show wpAny _ A.in1 (pyNext (.ref a) >>= _) _ _ s
    refine wpAny_bind (next_genG (A := A.in1) (F := fun _ _ s₁ => AllBare s₁.gens ∧ Fz s₁) (Er := fun _ _ => False) hh hl hd hg hgs hgo (fun v s₁ gs' hbare hv => ?_) (fun s₁ hp h' hk => ?_) fun e s₁ he => he.elim)
    · obtain ⟨hb1, _, _, ⟨acc, c, hS1, _⟩, hk⟩ := hv
      exact False.elim (hk _ (Slept.push hS1 hb1))
    · exact wpAny_pure (hend s₁ _ hp.2 ⟨rfl, allBare_setGen hp.1 rfl, hk⟩)
  | succ m ih =>
    intro s hg hl ⟨gs, hgs, hgo⟩
    have hgl : g < s.gens.size := (Array.getElem?_eq_some_iff.mp hgs).1
    refine codeAny_builtin PySem.F.entry_extend_loop ?_
    rw [Around.under_plainId PySem.F.plain_extend_loop _]
    show wpAny _ A.in1 (pyNext (.ref a) >>= _) _ _ s
    refine wpAny_bind (wpAny_gsz (n := g + 1) hgl (next_genG (A := A.in1) (F := fun _ _ s₁ => AllBare s₁.gens ∧ Fz s₁) (Er := fun _ _ => False) hh hl hd hg hgs hgo (fun v s₁ gs' hbare hv => ?_) (fun s₁ hp h' hk => ?_) fun e s₁ he => he.elim))
    · intro hsz
      obtain ⟨hb1, hl1, hg1, ⟨acc, c, hS1, hasz'⟩, hk⟩ := hv
      show wpAny _ A.in1 (updateSeq S (·.push v) >>= _) _ _ _
      refine wpAny_bind ?_
      refine wpAny_updateSeq hS1 rfl (wpAny_pure ⟨plainId_quiet PySem.F.plain_extend_loop _, ?_⟩) (Nat.le_of_lt hasz') (by show (acc.push v).size ≤ sizeLine + 1; rw [Array.size_push]; omega)
      have keep3 : ∀ b o, b ≠ S → s₁.heap.get? b = some o → (s₁.heap.update S (Obj.mapSeq (·.push v))).get? b = some o := fun b o hbS e => (Heap.get?_update_other _ _ (Ne.symm hbS)).trans e
      have hsz1 : g < s₁.gens.size := by
        have q : (s₁.setGen g gs').gens.size = s₁.gens.size := setGen_size _ _ _
        have hsz' : g + 1 ≤ (s₁.setGen g gs').gens.size := hsz
        omega
      refine ih { s₁.setGen g gs' with heap := s₁.heap.update S (Obj.mapSeq (·.push v)) } ?_ ?_ ⟨gs', setGen_at hsz1, ?_⟩
      · obtain ⟨o, nm, qn, ho, r⟩ := hg1
        exact ⟨o, nm, qn, keep3 a o (Ne.symm hSa) ho, r⟩
      · obtain ⟨mc, hns, hnn⟩ := hl1
        exact ⟨mc, hns.at' fun o e => keep3 _ o (Ne.symm hSc) e, hnn⟩
      · exact hk _ (Slept.push hS1 (allBare_setGen (s := s₁.setGen g gs') (allBare_setGen hb1 hbare) rfl))
    · intro hsz
      exact wpAny_pure (hend s₁ _ hp.2 ⟨rfl, allBare_setGen hp.1 rfl, hk⟩)

/-- collect(g): S the new list -/
theorem collect_gen {s : Shared} {E : Value → Shared → Prop} {Q : List Value → Shared → Prop} {n : Nat} (hh : A.handled = none) (hd : A.depth < recursionLimit) (hg : s.heap.IsGen a g) (ha : a < s.heap.objs.size) (hl : s.heap.NoLimit) (hbare : AllBare s.gens)
    {gs : GenState} (hgs : s.gens[g]? = some gs)
    (hgo : ∀ s6, Near s s6 → (∃ c, s6.heap.get? s.heap.objs.size = some (lstObj #[] c)) → gs.Goes (model P w) A.in1.in1 (RB Fz) (YT s.heap.objs.size a g) n (.send .none) s6)
    (hend : ∀ s1 s', Fz s1 → Near s1 s' → ∃ acc c, s'.heap.get? s.heap.objs.size = some (lstObj acc c) ∧ Q acc.toList s') :
    wpAny (model P w) A (collect (.ref a)) Q E s := by
  have hSa : s.heap.objs.size ≠ a := Nat.ne_of_gt ha
  have hcl : cStatics < s.heap.objs.size := let ⟨_, hn, _⟩ := hl; hn.lt
  have hSc : s.heap.objs.size ≠ cStatics := Nat.ne_of_gt hcl
  have k1 : ∀ b o, s.heap.get? b = some o → (s.heap.push { cls := .type "list", data := .seq ([] : List Value).toArray }).get? b = some o := fun b o e => Heap.get?_push_of_some _ e
  have up : ∀ (h : Heap) (f : Obj → Obj), (∀ b o, s.heap.get? b = some o → h.get? b = some o) → ∀ b o, s.heap.get? b = some o → (h.update s.heap.objs.size f).get? b = some o := fun h f q b o e =>
    (Heap.get?_update_other _ _ (Ne.symm (Nat.ne_of_lt (Heap.lt_size e)))).trans (q b o e)
  have gty : ∀ {h : Heap}, (∀ b o, s.heap.get? b = some o → h.get? b = some o) → h.IsGen a g := fun {h} q => hg.keeps q
  unfold collect
  refine wpAny_bind (wpAny_runValue (codeAny_builtin PySem.F.entry_proto_collect ?_))
  rw [Around.under_plainId PySem.F.plain_proto_collect _]
  show wpAny _ A.in1 (newList [] >>= fun l => again (.builtin "list.__iadd__" ⟨[l, .ref a], []⟩)) _ _ s
  refine wpAny_bind (wpAny_newObj_type ?_)
  refine wpAny_pure ⟨plainId_quiet PySem.F.plain_list_iadd _, codeAny_builtin PySem.F.entry_list_iadd ?_⟩
  rw [Around.under_plainId PySem.F.plain_list_iadd _]
  show wpAny _ A.in1 (Builtin.List.listExtendWith (.ref s.heap.objs.size) (.ref a) (.ref s.heap.objs.size)) _ _ _
  unfold Builtin.List.listExtendWith
  refine wpAny_bind (wpAny_typeOf (Heap.IsGen.typeIs (s := { s with heap := _ }) (gty k1)) ?_)
  have h1 : Builtin.List.listSameRef (.ref s.heap.objs.size) (.ref a) = false := by simp [Builtin.List.listSameRef, hSa]
  have h2 : (Value.type "generator" == Value.type "list") = false := by decide
  have h3 : (Value.type "generator" == Value.type "tuple") = false := by decide
  simp only [h1, h2, h3, Bool.or_false, Bool.false_eq_true, if_false]
  refine wpAny_bind (wpAny_pyIter_gen (s := { s with heap := _ }) (gty k1) ?_)
  refine wpAny_bind (wpAny_holding ?_)
  unfold Builtin.List.listLengthHint
  refine wpAny_bind (wpAny_specialOf (Heap.IsGen.typeIs (s := { s with heap := _ }) (gty k1)) PySem.F.gen_no_len ?_)
  show wpAny _ A.in1 (specialOf (Value.ref a) (Str.ofString "__length_hint__") >>= _) _ _ _
  refine wpAny_bind (wpAny_specialOf (Heap.IsGen.typeIs (s := { s with heap := _ }) (gty k1)) PySem.F.gen_no_hint ?_)
  refine wpAny_pure ?_
  show wpAny _ A.in1 (rule "list.extend.makes-room" >>= fun _ => Builtin.List.listTouch (.ref s.heap.objs.size) >>= fun _ =>
    again (.builtin "list.extend.loop" ⟨[.ref s.heap.objs.size, .ref a, .ref s.heap.objs.size], []⟩)) _ _ _
  refine wpAny_bind (wpAny_rule ?_)
  have hS₁ : (s.heap.push { cls := .type "list", data := .seq ([] : List Value).toArray }).get? s.heap.objs.size = some { cls := .type "list", data := .seq ([] : List Value).toArray } := Heap.get?_push_size _ rfl
  refine wpAny_bind ?_
  show wpAny _ A.in1 (updateSeq s.heap.objs.size (·.push .none) >>= fun _ => updateSeq s.heap.objs.size (·.pop)) _ _ _
  refine wpAny_bind (wpAny_updateSeq hS₁ rfl ?_)
  have hS₂ := Heap.get?_update_self (Obj.mapSeq (·.push Value.none)) hS₁ rfl
  refine wpAny_updateSeq (hz := by seq_fits) hS₂ rfl ?_
  have hS₃ := Heap.get?_update_self (Obj.mapSeq (·.pop)) hS₂ rfl
  have k3 := up _ (Obj.mapSeq (·.pop)) (up _ (Obj.mapSeq (·.push Value.none)) k1)
  refine wpAny_pure ⟨plainId_quiet PySem.F.plain_extend_loop _, ?_⟩
  refine drain2 (Fz := Fz) (S := s.heap.objs.size) (a := a) (g := g) hh hd hSa hSc (fun s1 s' hF hn => ?_) n _ (gty k3) (hl.keeps k3) ⟨_, hgs, hgo _ ⟨rfl, allBare_setGen (s := { s with heap := _ }) hbare rfl, k3⟩ ⟨_, hS₃⟩⟩
  obtain ⟨acc, c, hS', q⟩ := hend s1 s' hF hn
  show wpAny _ A (load s.heap.objs.size >>= _) _ _ s'
  exact wpAny_bind (wpAny_load hS' (wpAny_pure q))

/-- tuple(g) -/
theorem call_tuple_of_gen {s : Shared} {E : Value → Shared → Prop} {Q : Value → Shared → Prop} {n : Nat} (hh : A.handled = none) (hd : A.depth + 1 < recursionLimit) (hg : s.heap.IsGen a g) (ha : a < s.heap.objs.size) (hl : s.heap.NoLimit) (hbare : AllBare s.gens)
    {gs : GenState} (hgs : s.gens[g]? = some gs)
    (hgo : ∀ s6, Near s s6 → (∃ c, s6.heap.get? s.heap.objs.size = some (lstObj #[] c)) → gs.Goes (model P w) A.in1.in1.in1.in1 (RB Fz) (YT s.heap.objs.size a g) n (.send .none) s6)
    (hend : ∀ s1 s', Fz s1 → Near s1 s' → ∃ acc c, s'.heap.get? s.heap.objs.size = some (lstObj acc c) ∧ acc.size ≤ sizeLine ∧ Q (.ref s'.heap.objs.size) { s' with heap := s'.heap.push { cls := .type "tuple", data := .seq acc } }) :
    wpAny (model P w) A (call (.type "tuple") [.ref a]) Q E s := by
  refine callType_codes (Q₁ := fun obj s₁ => s₁.TypeIs obj "tuple" ∧ Q obj s₁) PySem.F.called_tuple (PySem.F.typeCall_tuple_1 _) PySem.F.entry_object_init ?_ fun obj s₁ h₁ => ?_
  · refine codeAny_of_tree ?_
    show wpAny _ A.in1.in1 (do checkBuiltinCall "tuple.__new__" ⟨[.type "tuple", .ref a], []⟩; again (.builtin "tuple.__new__" ⟨[.type "tuple", .ref a], []⟩)) _ _ s
    refine wpAny_bind (wpAny_of_eq (PySem.F.newCall_tuple_1 _) (wpAny_pure ⟨plainId_quiet PySem.F.plain_tuple_new _, codeAny_builtin PySem.F.entry_tuple_new ?_⟩))
    rw [Around.under_plainId PySem.F.plain_tuple_new _]
    have hsub := sub_tuple_self
    have hinit := init_tuple_lookup
    have hmh := madeHere_tuple
    have hTI : s.TypeIs (.ref a) "generator" := hg.typeIs
    wp_walk using wpAny_typeOf hTI, collect_gen (A := A.in1.in1) (Fz := Fz) (n := n) hh (by show A.depth < _; omega) hg ha hl hbare hgs hgo
    intro s1 s' hF hn
    obtain ⟨acc, c, hS', hz, q⟩ := hend s1 s' hF hn
    refine ⟨acc, c, hS', ?_⟩
    show wpAny _ _ (Builtin.Tuple.tupleExact acc.toList.toArray >>= fun v => ret v) _ _ _
    unfold Builtin.Tuple.tupleExact
    refine wpAny_bind (wpAny_newObj_type ?_ (by show acc.toList.toArray.size ≤ sizeLine; simp only [Array.toArray_toList]; exact hz))
    refine wpAny_pure ?_
    have e : acc.toList.toArray = acc := by simp
    rw [e]
    exact ⟨⟨_, Heap.get?_push_size _ rfl, rfl⟩, q⟩
  · exact ⟨h₁.1, PySem.F.args_object_init_2 obj _, object_init_meets PySem.F.called_tuple.init.lookup PySem.F.called_tuple.made (by decide) P w A.in1 _ s₁ ⟨h₁.1, rfl, h₁.2⟩⟩
end
end GxA
end
section
set_option Elab.async false
set_option linter.all false
set_option maxRecDepth 100000
set_option maxHeartbeats 2000000
namespace GxA
open PySem PySem.Spec PyProof.Rows L2 GenW GxR
section
variable {X : Cx}
def tGenT (P : Addr) (wi : TI) (g : TG) (tt : TT) (te : TE) (vs : List Nat) : TE := fun σ H Q => wi σ H fun J H1 => TabG H1 P ∧ ∀ H2, Tabbed P H1 H2 →
  ∃ W : Nat → Nat → List V → Hp → Prop, (∃ m, W 0 m [] H2) ∧ Turns J g tt te vs (wipe σ vs) (fun ys _ _ C => ys.length < sizeLine ∧ C) (fun ys H => ys.length ≤ sizeLine ∧ ∀ p, H p = none → Q (.ref p) (upd H p (.tup ys))) W
/-- the pin of the list that tuple fills -/
def POt (S : Addr) : List V → List (Addr × Obj) → Prop := fun ys pl => ∃ (acc : Array Value) (c : Nat), pl = [(S, lstObj acc c)] ∧ Vals ys acc.toList
theorem woken {Xg : Cx} {S : Addr} {fp : List Addr} (hS : Xg.s_0.heap.objs.size < S) (hL : S ≠ Xg.env.locals) (hc : ∀ x c, Xg.env.cells.lookup x = some c → c ≠ S) (hpn : ∀ p ∈ Xg.pn, p.1 ≠ S) (hfp : ∀ b ∈ fp, b ≠ S)
    {ys : List V} {y : V} {v : Value} {pl : List (Addr × Obj)} {σ2 : L2.St} {H : Hp} {s s' : Shared} (rv : RelV y v) (hp : POt S ys pl) (I : Inv Xg pl σ2 H s) (z : Slept S v s s') :
    ∃ pl', POt S (ys ++ [y]) pl' ∧ Inv Xg pl' σ2 H s' ∧ ∀ b ∈ fp, ∀ o, s.heap.get? b = some o → s'.heap.get? b = some o := by
  obtain ⟨acc, c, rfl, r⟩ := hp
  have hA : Apart Xg S := ⟨Nat.le_of_lt hS, hL, hc⟩
  obtain ⟨acc', c', r', I'⟩ := GI.woken (X := Xg) (ip := []) hpn (fun p hp => by cases hp) hA ⟨acc, c, r, I⟩ rv z
  exact ⟨_, ⟨acc', c', rfl, r'⟩, I', fun b hb o e => z.keep b o (hfp b hb) e⟩
variable {c P : Addr} {elt tg iter : Expr} {ifs : List Expr} {gpos p pos : Pos} {scope : Scope} {own : List (Str × Nat)} {wi : TI} {g : TG} {tt : TT} {te : TE} {k : Nat}
theorem pe_tupG (hr : Room (k + 1) X.A) (hg : Gl X "tuple") (hm : X.mg "tuple" = none) (TB : TabB X.base X.mg c P) (hcode : X.env.code = .ref c) (hN : X.N.Nodup) (ok : BlkOk X.N X.env.scope scope own) (hcell : ∀ y ∈ scope.names, y.2 ≠ .cell) (hco : scope.isCoroutine = false)
    (hdot : scope.names.lookup (".0" : Str) = some NameKind.local) (hi : PI X tg iter wi)
    (hgt : ∀ A s H C code fp pn, Room k A → PG (gx X A s H (genvOf X scope C code) fp pn) tg g) (ht : ∀ A s H C code fp pn, Room k A → PTs (gx X A s H (genvOf X scope C code) fp pn) ifs tt) (he : ∀ A s H C code fp pn, Room k A → PE (gx X A s H (genvOf X scope C code) fp pn) elt te)
    (hs : ∀ v, genFold iter X.env v = pure v := by intro _; rfl)
    (hst : starEach [.GeneratorExp elt [⟨tg, iter, ifs, 0⟩] scope gpos] X.env = (false, eval (.GeneratorExp elt [⟨tg, iter, ifs, 0⟩] scope gpos) X.env) :: starEach [] X.env := by rfl) :
    PE X (.Call (.Name "tuple" p) [.GeneratorExp elt [⟨tg, iter, ifs, 0⟩] scope gpos] [] pos) (tGenT P wi g tt te (own.map (·.2))) := by
  refine ⟨fun pins s σ H Q I h => ?_⟩
  refine wpAny_Call_Name_kw (ld_blt I hg hm (by decide +kernel : bootBuiltins "tuple" = some (.type "tuple")) ?_)
  refine PyProof.Rows.callWith_type1 ?_ hst (by rfl)
  rw [hst]
  show wpAny _ _ (spliced ((false, eval (.GeneratorExp elt [⟨tg, iter, ifs, 0⟩] scope gpos) X.env) :: backTo pos (starEach [] X.env))) _ _ s
  refine Calls.spliced_cons (gx_made (R := fun J H2 => ∃ W : Nat → Nat → List V → Hp → Prop, (∃ m, W 0 m [] H2) ∧ Turns J g tt te (own.map fun (x : Str × Nat) => x.2) (wipe σ (own.map fun (x : Str × Nat) => x.2)) (fun ys _ _ C => ys.length < sizeLine ∧ C)
    (fun ys H => ys.length ≤ sizeLine ∧ ∀ p, H p = none → Q (.ref p) (upd H p (.tup ys))) W) hr TB hcode ok hcell hco hdot hi hs I h
    fun J H3 a s5 s4 it fp tn gn code ⟨W, ⟨m, hW⟩, turn⟩ M => ?_)
  refine Calls.spliced_nil ?_
  have lim5 : s5.heap.NoLimit := M.inv.nolimit.keeps M.kp
  obtain ⟨go, nm, qn, hgo, hgc⟩ := id M.gen
  have isg : ∀ {s : Shared}, s.heap.get? a = some go → s.heap.IsGen a gn := fun {s} e => ⟨go, nm, qn, e, hgc⟩
  have hdat : ∀ v, go.data ≠ .cell v := fun v q => by
    obtain ⟨_, hd, _⟩ := hgc
    rw [hd] at q
    cases q
  have ha5 : a < s5.heap.objs.size := Heap.lt_size hgo
  generalize hS : s5.heap.objs.size = S at ha5
  have hS4 : s4.heap.objs.size < S := Nat.lt_trans M.lta ha5
  have goes : ∀ s6, Near s5 s6 → (∃ c, s6.heap.get? s5.heap.objs.size = some (lstObj #[] c)) → GenState.Goes (model X.prog X.w) X.A.in1.in1.in1.in1
      (RB fun s1 => ∃ H' ys acc c, Inv X pins σ H' s1 ∧ s1.heap.get? S = some (lstObj acc c) ∧ Vals ys acc.toList ∧ ys.length ≤ sizeLine ∧ ∀ p, H' p = none → Q (.ref p) (upd H' p (.tup ys))) (YT s5.heap.objs.size a gn) (m + 1)
      (.fresh (gcode elt tg iter ifs scope gpos it (genvOf X scope s4.heap.objs.size code))) (.send .none) s6 := by
    rintro s6 n6 ⟨c6, hS6⟩
    rw [hS] at hS6 ⊢
    refine ⟨rfl, ?_⟩
    have base := made_seg (PO := POt S) (SL := fun v s s' => Slept S v s s') (Yd := fun ys _ _ C => ys.length < sizeLine ∧ C) (Fin := fun ys H => ys.length ≤ sizeLine ∧ ∀ p, H p = none → Q (.ref p) (upd H p (.tup ys)))
      (pl := [(S, lstObj #[] c6)]) (n := m + 1) (m := m) (Aw := X.A.in1.in1.in1.in1) M ok hcell hN hco hr.hd M.inv.ok.frames (n6.kp _ _ hgo) hdat n6
      (hgt _ _ _ _ _ _ _ (room_gx4 hr _)) (ht _ _ _ _ _ _ _ (room_gx4 hr _)) (he _ _ _ _ _ _ _ (room_gx4 hr _))
      (fun ys pl ⟨acc, c, e, _⟩ p hp => by
        rw [e] at hp
        have ep : p = (S, lstObj acc c) := by simpa using hp
        subst ep
        exact fun z => absurd (Nat.lt_trans (M.fpo _ z).2 hS4) (Nat.lt_irrefl _)) ⟨#[], c6, rfl, .nil⟩
      (fun p hp => by
        have ep : p = (S, lstObj #[] c6) := by simpa using hp
        subst ep
        exact ⟨hS6, hS4, fun v q => by cases q⟩)
      (fun ys y v pl σ2 H s s' rv hp I z => woken (Xg := gx X (X.A.in1.in1.in1.in1.deeper (genvOf X scope s4.heap.objs.size code)) s4 H3 (genvOf X scope s4.heap.objs.size code) fp [(a, go)]) hS4 (Nat.ne_of_gt hS4) (fun x c e q => by
          obtain ⟨v, hcell⟩ := I.cell x c e
          have hlt : c < S := by
            have e' : (cloFrom X.env.cells scope.names []).lookup x = some c := e
            rcases cloFrom_mem (PySem.mem_of_lookup e') with hm | ⟨h1, h2⟩
            · cases hm
            · rcases ok.free _ h1 rfl with kk | kk
              · obtain ⟨c0, hc0⟩ := M.inv.ok.has x (.inl kk)
                rw [hc0] at h2
                obtain ⟨w', z'⟩ := M.inv.cell x c0 hc0
                have : c = c0 := h2
                rw [this]
                exact Nat.lt_trans z'.lt hS4
              · obtain ⟨c0, hc0⟩ := M.inv.ok.has x (.inr kk)
                rw [hc0] at h2
                obtain ⟨w', z'⟩ := M.inv.cell x c0 hc0
                have : c = c0 := h2
                rw [this]
                exact Nat.lt_trans z'.lt hS4
          exact absurd (q ▸ hlt) (Nat.lt_irrefl _))
        (fun p hp => by
          have ep : p = (a, go) := by simpa using hp
          subst ep
          exact Nat.ne_of_lt ha5) (fun b hb => Nat.ne_of_lt (Nat.lt_trans (M.fpo b hb).2 hS4)) rv hp I z) turn (Nat.lt_succ_self m) hW
    refine seg_imp (fun n s₀ r s1 h => ?_) (fun n s₀ v s1 kap kap' hk h => ?_) _ base
    · obtain ⟨hr, ys, pl, H', ⟨acc, c, e, rv⟩, I, q1, q2⟩ := h
      rw [e] at I
      exact .inl ⟨.inr hr, I.bare, H', ys, acc, c, made_back M I, (I.pin (S, lstObj acc c) (List.mem_append_right _ (List.mem_singleton.mpr rfl))).1, rv, q1, q2⟩
    · obtain ⟨ys, y, pl, σ2, H', C, rv, ⟨acc, c, e, ra⟩, I, ⟨q1, q2⟩, hC⟩ := h
      rw [e] at I
      have J := made_back M I
      refine ⟨I.bare, J.nolimit, isg (I.pin (a, go) (List.mem_append_left _ (List.mem_singleton.mpr rfl))).1, ⟨acc, c, (I.pin (S, lstObj acc c) (List.mem_append_right _ (List.mem_singleton.mpr rfl))).1, ?_⟩, fun s' n => hk _ _ (hC q2 s' n)⟩
      have e1 := ra.length
      simp only [Array.length_toList] at e1
      omega
  refine call_tuple_of_gen (n := m + 1) hr.hd (by have := hr.dp; omega) M.gen (by rw [hS]; exact ha5) lim5 M.bare M.fresh goes fun s1 s' ⟨H', ys, acc, c, J, e, rv, q1, q2⟩ n => ?_
  rw [hS]
  have J' := inv_near J n
  have el := rv.length
  simp only [Array.length_toList] at el
  refine ⟨acc, c, n.kp _ _ e, by omega, .ref s'.heap.objs.size, upd H' s'.heap.objs.size (.tup ys), J'.laid (t' := s'.toks) (fun b o q => Heap.get?_push_of_some _ q) (Nat.le_refl _) ⟨q1, acc.toList, rv, ⟨_, Heap.get?_push_size _ rfl, rfl, 0, by simp⟩⟩, rfl, q2 _ (J'.hok.fresh (Nat.le_refl _))⟩
end
end GxA
end
section
set_option Elab.async false
set_option linter.all false
set_option maxRecDepth 100000
set_option maxHeartbeats 2000000
/-! The data layer: what a value is, what a slot holds, who owns a list. -/
namespace Dv
open PySem PySem.Spec PyProof.Rows L2 GxR
/-- data: scr the law's script; lst a list that is read only; own a list that one name alone holds; lck such a list while it is gone through -/
inductive D where
  | non | bl (b : Bool) | int (i : Int) | str (x : Str) | scr (ns : List Int)
  | tup (ds : List D) | lst (ds : List D) | own (ds : List D) | lck (ds : List D)
  deriving Inhabited
abbrev Env := List (Option D)
/-- what an expression comes to -/
inductive Out (α : Type) where
  | ok (a : α) (ρ : Env) | exc (c : Str) (d : D) (ρ : Env) | bad
def Out.bind {α β : Type} (o : Out α) (f : α → Env → Out β) : Out β := match o with
  | .ok a ρ => f a ρ
  | .exc c d ρ => .exc c d ρ
  | .bad => .bad
@[simp] theorem Out.bind_ok {α β : Type} (a : α) (ρ : Env) (f : α → Env → Out β) : (Out.ok a ρ).bind f = f a ρ := rfl
@[simp] theorem Out.bind_exc {α β : Type} (c : Str) (d : D) (ρ : Env) (f : α → Env → Out β) : (Out.exc c d ρ : Out α).bind f = .exc c d ρ := rfl
@[simp] theorem Out.bind_bad {α β : Type} (f : α → Env → Out β) : (Out.bad : Out α).bind f = .bad := rfl
/-- of an option -/
def Out.of {α : Type} (o : Option α) (ρ : Env) : Out α := match o with
  | some a => .ok a ρ
  | none => .bad
@[simp] theorem Out.of_some {α : Type} (a : α) (ρ : Env) : Out.of (some a) ρ = .ok a ρ := rfl
@[simp] theorem Out.of_none {α : Type} (ρ : Env) : (Out.of none ρ : Out α) = .bad := rfl
inductive Flow where
  | next (ρ : Env) | ret (d : D) (ρ : Env) | brk (ρ : Env) | cnt (ρ : Env) | exc (c : Str) (d : D) (ρ : Env) | bad
def frz : D → D
  | .own ds => .lst ds
  | .lck ds => .lst ds
  | d => d
@[simp] theorem frz_non : frz .non = .non := rfl
@[simp] theorem frz_bl (b) : frz (.bl b) = .bl b := rfl
@[simp] theorem frz_int (b) : frz (.int b) = .int b := rfl
@[simp] theorem frz_str (b) : frz (.str b) = .str b := rfl
@[simp] theorem frz_scr (b) : frz (.scr b) = .scr b := rfl
@[simp] theorem frz_tup (b) : frz (.tup b) = .tup b := rfl
@[simp] theorem frz_lst (b) : frz (.lst b) = .lst b := rfl
@[simp] theorem frz_own (b) : frz (.own b) = .lst b := rfl
@[simp] theorem frz_lck (b) : frz (.lck b) = .lst b := rfl
@[simp] theorem frz_frz (d : D) : frz (frz d) = frz d := by cases d <;> rfl

/-! ### what stands in the heap -/
mutual
def Frz (K : PySem.W.Frag) (F : Hp) : D → V → Prop
  | .non, v => v = .non
  | .bl b, v => v = .bl b
  | .int i, v => v = .int i
  | .str x, v => v = .str x
  | .scr ns, v => ∃ a, v = .ref a ∧ SqL K F a (ns.map V.int)
  | .tup ds, v => ∃ a xs, v = .ref a ∧ SqT K F a xs ∧ FrzL K F ds xs
  | .lst ds, v => ∃ a xs, v = .ref a ∧ F a = some (.lst xs) ∧ FrzL K F ds xs
  | .own _, _ => False
  | .lck _, _ => False
def FrzL (K : PySem.W.Frag) (F : Hp) : List D → List V → Prop
  | [], xs => xs = []
  | d :: ds, xs => ∃ x r, xs = x :: r ∧ Frz K F d x ∧ FrzL K F ds r
end
/-- one heap within another -/
def Sub (F G : Hp) : Prop := ∀ a o, F a = some o → G a = some o
theorem Sub.refl (F : Hp) : Sub F F := fun _ _ h => h
theorem Sub.trans {F G H : Hp} (a : Sub F G) (b : Sub G H) : Sub F H := fun c o h => b c o (a c o h)
theorem Sub.upd {F : Hp} {a : Addr} {o : HO} (h : F a = none) : Sub F (upd F a o) := fun b u e => by
  rw [upd_ne (ne_of_none e h)]; exact e
theorem Sub.sqL {K : PySem.W.Frag} {F G : Hp} (s : Sub F G) {a : Addr} {xs : List V} (h : SqL K F a xs) : SqL K G a xs := by
  rcases h with (h | ⟨o, h⟩) | h
  · exact .inl (.inl (s _ _ h))
  · exact .inl (.inr ⟨o, s _ _ h⟩)
  · exact .inr h
theorem Sub.sqT {K : PySem.W.Frag} {F G : Hp} (s : Sub F G) {a : Addr} {xs : List V} (h : SqT K F a xs) : SqT K G a xs := by
  rcases h with (h | ⟨o, h⟩) | h
  · exact .inl (.inl (s _ _ h))
  · exact .inl (.inr ⟨o, s _ _ h⟩)
  · exact .inr h
mutual
theorem Frz.mono {K : PySem.W.Frag} {F G : Hp} (s : Sub F G) : ∀ {d : D} {v : V}, Frz K F d v → Frz K G d v
  | .non, _, h => by unfold Frz at h ⊢; exact h
  | .bl _, _, h => by unfold Frz at h ⊢; exact h
  | .int _, _, h => by unfold Frz at h ⊢; exact h
  | .str _, _, h => by unfold Frz at h ⊢; exact h
  | .scr _, _, h => by
    unfold Frz at h ⊢
    obtain ⟨a, e, q⟩ := h
    exact ⟨a, e, s.sqL q⟩
  | .tup _, _, h => by
    unfold Frz at h ⊢
    obtain ⟨a, xs, e, q, r⟩ := h
    exact ⟨a, xs, e, s.sqT q, FrzL.mono s r⟩
  | .lst _, _, h => by
    unfold Frz at h ⊢
    obtain ⟨a, xs, e, q, r⟩ := h
    exact ⟨a, xs, e, s _ _ q, FrzL.mono s r⟩
  | .own _, _, h => by unfold Frz at h; exact h.elim
  | .lck _, _, h => by unfold Frz at h; exact h.elim
theorem FrzL.mono {K : PySem.W.Frag} {F G : Hp} (s : Sub F G) : ∀ {ds : List D} {xs : List V}, FrzL K F ds xs → FrzL K G ds xs
  | [], _, h => by unfold FrzL at h ⊢; exact h
  | _ :: _, _, h => by
    unfold FrzL at h ⊢
    obtain ⟨x, r, e, q, t⟩ := h
    exact ⟨x, r, e, Frz.mono s q, FrzL.mono s t⟩
end
section
variable {K : PySem.W.Frag} {F : Hp}
theorem FrzL.nil : FrzL K F [] [] := by unfold FrzL; rfl
theorem FrzL.cons {d : D} {v : V} {ds : List D} {vs : List V} (h : Frz K F d v) (t : FrzL K F ds vs) : FrzL K F (d :: ds) (v :: vs) := by unfold FrzL; exact ⟨v, vs, rfl, h, t⟩
theorem FrzL.length : ∀ {ds : List D} {xs : List V}, FrzL K F ds xs → xs.length = ds.length
  | [], _, h => by unfold FrzL at h; subst h; rfl
  | _ :: _, _, h => by
    unfold FrzL at h
    obtain ⟨x, r, rfl, _, t⟩ := h
    rw [List.length_cons, List.length_cons, t.length]
theorem FrzL.get : ∀ {ds : List D} {xs : List V} {i : Nat} {d : D}, FrzL K F ds xs → ds[i]? = some d → ∃ v, xs[i]? = some v ∧ Frz K F d v
  | [], _, i, d, _, e => by simp at e
  | _ :: _, _, 0, d, h, e => by
    unfold FrzL at h
    obtain ⟨x, r, rfl, q, _⟩ := h
    simp at e
    subst e
    exact ⟨x, rfl, q⟩
  | _ :: _, _, i + 1, d, h, e => by
    unfold FrzL at h
    obtain ⟨x, r, rfl, _, t⟩ := h
    obtain ⟨v, e2, q⟩ := t.get (i := i) (d := d) (by simpa using e)
    exact ⟨v, by simpa using e2, q⟩
theorem FrzL.get' : ∀ {ds : List D} {xs : List V} {i : Nat} {v : V}, FrzL K F ds xs → xs[i]? = some v → ∃ d, ds[i]? = some d ∧ Frz K F d v := fun {ds xs i v} h e => by
  have hl := h.length
  have hi : i < ds.length := by rw [← hl]; exact (List.getElem?_eq_some_iff.mp e).1
  obtain ⟨v', e', q⟩ := h.get (List.getElem?_eq_getElem hi)
  rw [e] at e'; cases e'
  exact ⟨_, List.getElem?_eq_getElem hi, q⟩
theorem FrzL.append : ∀ {ds es : List D} {xs ys : List V}, FrzL K F ds xs → FrzL K F es ys → FrzL K F (ds ++ es) (xs ++ ys)
  | [], _, _, _, h, g => by unfold FrzL at h; subst h; exact g
  | _ :: _, _, _, _, h, g => by
    unfold FrzL at h
    obtain ⟨x, r, rfl, q, t⟩ := h
    exact .cons q (t.append g)
theorem FrzL.take : ∀ {ds : List D} {xs : List V} (n : Nat), FrzL K F ds xs → FrzL K F (ds.take n) (xs.take n)
  | _, _, 0, _ => .nil
  | [], _, n + 1, h => by unfold FrzL at h; subst h; exact .nil
  | _ :: _, _, n + 1, h => by
    unfold FrzL at h
    obtain ⟨x, r, rfl, q, t⟩ := h
    exact .cons q (t.take n)
theorem FrzL.drop : ∀ {ds : List D} {xs : List V} (n : Nat), FrzL K F ds xs → FrzL K F (ds.drop n) (xs.drop n)
  | _, _, 0, h => h
  | [], _, n + 1, h => by unfold FrzL at h; subst h; exact .nil
  | _ :: _, _, n + 1, h => by
    unfold FrzL at h
    obtain ⟨x, r, rfl, q, t⟩ := h
    exact t.drop n
theorem FrzL.reverse : ∀ {ds : List D} {xs : List V}, FrzL K F ds xs → FrzL K F ds.reverse xs.reverse
  | [], _, h => by unfold FrzL at h; subst h; exact .nil
  | _ :: _, _, h => by
    unfold FrzL at h
    obtain ⟨x, r, rfl, q, t⟩ := h
    rw [List.reverse_cons, List.reverse_cons]
    exact t.reverse.append (.cons q .nil)
theorem FrzL.set {d : D} {v : V} (q : Frz K F d v) : ∀ {ds : List D} {xs : List V} (n : Nat), FrzL K F ds xs → FrzL K F (ds.set n d) (xs.set n v)
  | [], _, _, h => by unfold FrzL at h; subst h; exact .nil
  | _ :: _, _, 0, h => by
    unfold FrzL at h
    obtain ⟨x, r, rfl, _, t⟩ := h
    exact .cons q t
  | _ :: _, _, n + 1, h => by
    unfold FrzL at h
    obtain ⟨x, r, rfl, q', t⟩ := h
    exact .cons q' (t.set q n)
theorem FrzL.eraseIdx : ∀ {ds : List D} {xs : List V} (n : Nat), FrzL K F ds xs → FrzL K F (ds.eraseIdx n) (xs.eraseIdx n)
  | [], _, _, h => by unfold FrzL at h; subst h; exact .nil
  | _ :: _, _, 0, h => by
    unfold FrzL at h
    obtain ⟨x, r, rfl, _, t⟩ := h
    exact t
  | _ :: _, _, n + 1, h => by
    unfold FrzL at h
    obtain ⟨x, r, rfl, q', t⟩ := h
    exact .cons q' (t.eraseIdx n)
theorem frzL_ints (ns : List Int) : FrzL K F (ns.map D.int) (ns.map V.int) := by
  induction ns with
  | nil => exact .nil
  | cons n ns ih => exact .cons (by unfold Frz; rfl) ih
theorem frzL_strs (ns : List Str) : FrzL K F (ns.map D.str) (ns.map V.str) := by
  induction ns with
  | nil => exact .nil
  | cons n ns ih => exact .cons (by unfold Frz; rfl) ih
end

/-- d is held at v; fp: the list's address, if d is owned -/
def Own (K : PySem.W.Frag) (F H : Hp) (d : D) (v : V) (fp : Option Addr) : Prop := match d with
  | .own ds => ∃ a xs, v = .ref a ∧ fp = some a ∧ H a = some (.lst xs) ∧ FrzL K F ds xs
  | .lck ds => ∃ a xs, v = .ref a ∧ fp = some a ∧ H a = some (.lst xs) ∧ FrzL K F ds xs
  | d => fp = none ∧ Frz K F d v
theorem Own.of {K : PySem.W.Frag} {F H : Hp} {d : D} {v : V} (h : Frz K F d v) : Own K F H d v none := by
  cases d with
  | own ds => unfold Frz at h; exact h.elim
  | lck ds => unfold Frz at h; exact h.elim
  | _ => exact ⟨rfl, h⟩
theorem Own.frame {K : PySem.W.Frag} {F F' H H' : Hp} {d : D} {v : V} {fp : Option Addr} (s : Sub F F') (k : ∀ a, fp = some a → H' a = H a) (h : Own K F H d v fp) : Own K F' H' d v fp := by
  cases d with
  | own ds =>
    obtain ⟨a, xs, e, e2, q, r⟩ := h
    exact ⟨a, xs, e, e2, by rw [k a e2]; exact q, r.mono s⟩
  | lck ds =>
    obtain ⟨a, xs, e, e2, q, r⟩ := h
    exact ⟨a, xs, e, e2, by rw [k a e2]; exact q, r.mono s⟩
  | _ => exact ⟨h.1, Frz.mono s h.2⟩
/-- read at the heap -/
theorem Own.read {K : PySem.W.Frag} {F H : Hp} {d : D} {v : V} {fp : Option Addr} (s : Sub F H) (h : Own K F H d v fp) : Frz K H (frz d) v := by
  cases d with
  | own ds =>
    obtain ⟨a, xs, e, _, q, r⟩ := h
    show Frz K H (.lst ds) v
    unfold Frz
    exact ⟨a, xs, e, q, r.mono s⟩
  | lck ds =>
    obtain ⟨a, xs, e, _, q, r⟩ := h
    show Frz K H (.lst ds) v
    unfold Frz
    exact ⟨a, xs, e, q, r.mono s⟩
  | _ => exact Frz.mono s h.2
theorem Own.flat {K : PySem.W.Frag} {F H : Hp} {d : D} {v : V} {fp : Option Addr} (hd : frz d = d) (h : Own K F H d v fp) : fp = none ∧ Frz K F d v := by
  cases d with
  | own ds => cases hd
  | lck ds => cases hd
  | _ => exact h

/-- what is known where one stands: K the text, tabs the defs' tables, anc the slots that stay, fr what others own; ρ the slots' data, F what is read only, fp what the slots own -/
structure At (K : PySem.W.Frag) (tabs : List Addr) (anc : List (Nat × V)) (fr : Addr → Prop) (ρ : Env) (F : Hp) (fp : Nat → Option Addr) (σ : L2.St) (H : Hp) : Prop where
  sub : Sub F H
  len : σ.length = ρ.length
  slot : ∀ i d, ρ[i]? = some (some d) → ∃ v, σ[i]? = some (some v) ∧ Own K F H d v (fp i)
  fF : ∀ i a, fp i = some a → F a = none ∧ ¬ fr a ∧ ∃ xs, H a = some (.lst xs)
  dj : ∀ i j a, fp i = some a → fp j = some a → i = j
  frF : ∀ a, fr a → F a = none ∧ H a ≠ none
  anc : ∀ p ∈ anc, σ[p.1]? = some (some p.2)
  tab : ∀ P ∈ tabs, TabG H P ∧ F P = none ∧ ¬ fr P
/-- one state behind another: what others own stands, what was read only is still -/
structure Fwd (fr : Addr → Prop) (F H F' H' : Hp) : Prop where
  sub : Sub F F'
  fr : ∀ a, fr a → H' a = H a
theorem Fwd.refl {fr : Addr → Prop} {F H : Hp} : Fwd fr F H F H := ⟨Sub.refl _, fun _ _ => rfl⟩
theorem Fwd.trans {fr : Addr → Prop} {F H F' H' F'' H'' : Hp} (a : Fwd fr F H F' H') (b : Fwd fr F' H' F'' H'') : Fwd fr F H F'' H'' := ⟨a.sub.trans b.sub, fun c h => (b.fr c h).trans (a.fr c h)⟩
/-- a fresh result: what it owns is nobody's -/
def New (fr : Addr → Prop) (F H : Hp) (fp : Nat → Option Addr) (fd : Option Addr) : Prop := ∀ a, fd = some a → F a = none ∧ ¬ fr a ∧ (∃ xs, H a = some (.lst xs)) ∧ ∀ i, fp i ≠ some a
theorem New.none {fr : Addr → Prop} {F H : Hp} {fp : Nat → Option Addr} : New fr F H fp none := fun _ h => nomatch h

section
variable {K : PySem.W.Frag} {tabs : List Addr} {anc : List (Nat × V)} {fr : Addr → Prop} {ρ : Env} {F H : Hp} {fp : Nat → Option Addr} {σ : L2.St}
theorem At.fresh (A : At K tabs anc fr ρ F fp σ H) {p : Addr} (h : H p = none) : F p = none ∧ ¬ fr p ∧ (∀ i, fp i ≠ some p) ∧ p ∉ tabs := by
  refine ⟨?_, fun q => (A.frF p q).2 h, fun i e => ?_, fun q => ?_⟩
  · cases e : F p with
    | none => rfl
    | some o => rw [A.sub p o e] at h; cases h
  · obtain ⟨_, _, xs, e⟩ := A.fF i p e
    rw [h] at e; cases e
  · obtain ⟨⟨ps, e, _⟩, _⟩ := A.tab p q
    rw [h] at e; cases e
/-- a new object that is read only -/
theorem At.alloc (A : At K tabs anc fr ρ F fp σ H) {p : Addr} {o : HO} (h : H p = none) : At K tabs anc fr ρ (upd F p o) fp σ (upd H p o) ∧ Fwd fr F H (upd F p o) (upd H p o) := by
  obtain ⟨h1, h2, h3, h4⟩ := A.fresh h
  have s1 : Sub F (upd F p o) := Sub.upd h1
  have neq : ∀ i a, fp i = some a → a ≠ p := fun i a e z => h3 i (z ▸ e)
  have nfr : ∀ a, fr a → a ≠ p := fun a e z => h2 (z ▸ e)
  have ntb : ∀ a, a ∈ tabs → a ≠ p := fun a e z => h4 (z ▸ e)
  refine ⟨⟨fun a u e => ?_, A.len, fun i d e => ?_, fun i a e => ?_, A.dj, fun a e => ?_, A.anc, fun P hP => ?_⟩, s1, fun a e => upd_ne (nfr a e)⟩
  · by_cases z : a = p
    · subst z; rw [upd_same] at e ⊢; exact e
    · rw [upd_ne z] at e ⊢; exact A.sub a u e
  · obtain ⟨v, e1, q⟩ := A.slot i d e
    exact ⟨v, e1, q.frame s1 fun a ea => upd_ne (neq i a ea)⟩
  · obtain ⟨q1, q2, xs, q3⟩ := A.fF i a e
    exact ⟨by rw [upd_ne (neq i a e)]; exact q1, q2, xs, by rw [upd_ne (neq i a e)]; exact q3⟩
  · obtain ⟨q1, q2⟩ := A.frF a e
    exact ⟨by rw [upd_ne (nfr a e)]; exact q1, by rw [upd_ne (nfr a e)]; exact q2⟩
  · obtain ⟨⟨ps, q1, q2⟩, q3, q4⟩ := A.tab P hP
    exact ⟨⟨ps, by rw [upd_ne (ntb P hP)]; exact q1, q2⟩, by rw [upd_ne (ntb P hP)]; exact q3, q4⟩
/-- a new list that the result owns -/
theorem At.allocO (A : At K tabs anc fr ρ F fp σ H) {p : Addr} {xs : List V} (h : H p = none) : At K tabs anc fr ρ F fp σ (upd H p (.lst xs)) ∧ Fwd fr F H F (upd H p (.lst xs)) ∧ New fr F (upd H p (.lst xs)) fp (some p) := by
  obtain ⟨h1, h2, h3, h4⟩ := A.fresh h
  have neq : ∀ i a, fp i = some a → a ≠ p := fun i a e z => h3 i (z ▸ e)
  have nfr : ∀ a, fr a → a ≠ p := fun a e z => h2 (z ▸ e)
  have ntb : ∀ a, a ∈ tabs → a ≠ p := fun a e z => h4 (z ▸ e)
  refine ⟨⟨fun a u e => ?_, A.len, fun i d e => ?_, fun i a e => ?_, A.dj, fun a e => ?_, A.anc, fun P hP => ?_⟩, ⟨Sub.refl _, fun a e => upd_ne (nfr a e)⟩, fun a e => ?_⟩
  · have z : a ≠ p := fun z => by rw [z, h1] at e; cases e
    rw [upd_ne z]; exact A.sub a u e
  · obtain ⟨v, e1, q⟩ := A.slot i d e
    exact ⟨v, e1, q.frame (Sub.refl _) fun a ea => upd_ne (neq i a ea)⟩
  · obtain ⟨q1, q2, ys, q3⟩ := A.fF i a e
    exact ⟨q1, q2, ys, by rw [upd_ne (neq i a e)]; exact q3⟩
  · obtain ⟨q1, q2⟩ := A.frF a e
    exact ⟨q1, by rw [upd_ne (nfr a e)]; exact q2⟩
  · obtain ⟨⟨ps, q1, q2⟩, q3, q4⟩ := A.tab P hP
    exact ⟨⟨ps, by rw [upd_ne (ntb P hP)]; exact q1, q2⟩, q3, q4⟩
  · cases e
    exact ⟨h1, h2, ⟨xs, upd_same⟩, h3⟩
/-- what a result owns is given up: it is read only from now on -/
theorem At.give (A : At K tabs anc fr ρ F fp σ H) {d : D} {v : V} {fd : Option Addr} (o : Own K F H d v fd) (n : New fr F H fp fd) : ∃ F', At K tabs anc fr ρ F' fp σ H ∧ Fwd fr F H F' H ∧ Frz K F' (frz d) v := by
  cases d with
  | own ds =>
    obtain ⟨a, xs, rfl, rfl, e, r⟩ := o
    obtain ⟨n1, n2, _, n4⟩ := n a rfl
    have s1 : Sub F (upd F a (.lst xs)) := Sub.upd n1
    have neq : ∀ i b, fp i = some b → b ≠ a := fun i b e z => n4 i (z ▸ e)
    have nfr : ∀ b, fr b → b ≠ a := fun b e z => n2 (z ▸ e)
    have ntb : ∀ P, P ∈ tabs → P ≠ a := fun P hP z => by
      obtain ⟨⟨ps, q1, _⟩, _⟩ := A.tab P hP
      rw [z, e] at q1; cases q1
    refine ⟨upd F a (.lst xs), ⟨fun b u q => ?_, A.len, fun i d' q => ?_, fun i b q => ?_, A.dj, fun b q => ?_, A.anc, fun P hP => ?_⟩, ⟨s1, fun _ _ => rfl⟩, ?_⟩
    · by_cases z : b = a
      · subst z; rw [upd_same] at q; cases q; exact e
      · rw [upd_ne z] at q; exact A.sub b u q
    · obtain ⟨v', e1, w⟩ := A.slot i d' q
      exact ⟨v', e1, w.frame s1 fun _ _ => rfl⟩
    · obtain ⟨q1, q2, q3⟩ := A.fF i b q
      exact ⟨by rw [upd_ne (neq i b q)]; exact q1, q2, q3⟩
    · obtain ⟨q1, q2⟩ := A.frF b q
      exact ⟨by rw [upd_ne (nfr b q)]; exact q1, q2⟩
    · obtain ⟨q1, q2, q3⟩ := A.tab P hP
      exact ⟨q1, by rw [upd_ne (ntb P hP)]; exact q2, q3⟩
    · show Frz K _ (.lst ds) _
      unfold Frz
      exact ⟨a, xs, rfl, upd_same, r.mono s1⟩
  | lck ds =>
    obtain ⟨a, xs, rfl, rfl, e, r⟩ := o
    obtain ⟨n1, n2, _, n4⟩ := n a rfl
    have s1 : Sub F (upd F a (.lst xs)) := Sub.upd n1
    have neq : ∀ i b, fp i = some b → b ≠ a := fun i b e z => n4 i (z ▸ e)
    have nfr : ∀ b, fr b → b ≠ a := fun b e z => n2 (z ▸ e)
    have ntb : ∀ P, P ∈ tabs → P ≠ a := fun P hP z => by
      obtain ⟨⟨ps, q1, _⟩, _⟩ := A.tab P hP
      rw [z, e] at q1; cases q1
    refine ⟨upd F a (.lst xs), ⟨fun b u q => ?_, A.len, fun i d' q => ?_, fun i b q => ?_, A.dj, fun b q => ?_, A.anc, fun P hP => ?_⟩, ⟨s1, fun _ _ => rfl⟩, ?_⟩
    · by_cases z : b = a
      · subst z; rw [upd_same] at q; cases q; exact e
      · rw [upd_ne z] at q; exact A.sub b u q
    · obtain ⟨v', e1, w⟩ := A.slot i d' q
      exact ⟨v', e1, w.frame s1 fun _ _ => rfl⟩
    · obtain ⟨q1, q2, q3⟩ := A.fF i b q
      exact ⟨by rw [upd_ne (neq i b q)]; exact q1, q2, q3⟩
    · obtain ⟨q1, q2⟩ := A.frF b q
      exact ⟨by rw [upd_ne (nfr b q)]; exact q1, q2⟩
    · obtain ⟨q1, q2, q3⟩ := A.tab P hP
      exact ⟨q1, by rw [upd_ne (ntb P hP)]; exact q2, q3⟩
    · show Frz K _ (.lst ds) _
      unfold Frz
      exact ⟨a, xs, rfl, upd_same, r.mono s1⟩
  | _ => exact ⟨F, A, Fwd.refl, o.2⟩
theorem set_self {ρ : Env} {i : Nat} {d : D} (hi : ρ[i]? = some (some d)) : ρ.set i (some d) = ρ := by
  have hlt : i < ρ.length := (List.getElem?_eq_some_iff.mp hi).1
  apply List.ext_getElem?
  intro j
  by_cases hj : j = i
  · subst hj; rw [List.getElem?_set_self hlt]; exact hi.symm
  · rw [List.getElem?_set_ne (Ne.symm hj)]
/-- a slot's list is given up -/
theorem At.giveSlot (A : At K tabs anc fr ρ F fp σ H) {i : Nat} {d : D} (hi : ρ[i]? = some (some d)) : ∃ F' fp', At K tabs anc fr (ρ.set i (some (frz d))) F' fp' σ H ∧ Fwd fr F H F' H ∧ ∃ v, σ[i]? = some (some v) ∧ Frz K F' (frz d) v := by
  obtain ⟨v, e1, o⟩ := A.slot i d hi
  have hlt : i < ρ.length := (List.getElem?_eq_some_iff.mp hi).1
  cases d with
  | own ds =>
    obtain ⟨a, xs, rfl, ea, e, r⟩ := o
    obtain ⟨n1, n2, _⟩ := A.fF i a ea
    have s1 : Sub F (upd F a (.lst xs)) := Sub.upd n1
    have neq : ∀ j b, j ≠ i → fp j = some b → b ≠ a := fun j b hj e z => hj (A.dj j i a (z ▸ e) ea)
    have nfr : ∀ b, fr b → b ≠ a := fun b e z => n2 (z ▸ e)
    have ntb : ∀ P, P ∈ tabs → P ≠ a := fun P hP z => by
      obtain ⟨⟨ps, q1, _⟩, _⟩ := A.tab P hP
      rw [z, e] at q1; cases q1
    have fz : Frz K (upd F a (.lst xs)) (.lst ds) (.ref a) := by
      unfold Frz
      exact ⟨a, xs, rfl, upd_same, r.mono s1⟩
    refine ⟨upd F a (.lst xs), fun j => if j = i then none else fp j, ⟨fun b u q => ?_, by rw [List.length_set]; exact A.len, fun j d' q => ?_, fun j b q => ?_, fun j k b q1 q2 => ?_, fun b q => ?_, A.anc, fun P hP => ?_⟩, ⟨s1, fun _ _ => rfl⟩, .ref a, e1, fz⟩
    · by_cases z : b = a
      · subst z; rw [upd_same] at q; cases q; exact e
      · rw [upd_ne z] at q; exact A.sub b u q
    · by_cases hj : j = i
      · subst hj
        rw [List.getElem?_set_self hlt] at q
        cases q
        rw [if_pos rfl]
        exact ⟨.ref a, e1, .of fz⟩
      · rw [List.getElem?_set_ne (Ne.symm hj)] at q
        rw [if_neg hj]
        obtain ⟨v', e2, w⟩ := A.slot j d' q
        exact ⟨v', e2, w.frame s1 fun _ _ => rfl⟩
    · by_cases hj : j = i
      · rw [if_pos hj] at q; cases q
      · rw [if_neg hj] at q
        obtain ⟨q1, q2, q3⟩ := A.fF j b q
        exact ⟨by rw [upd_ne (neq j b hj q)]; exact q1, q2, q3⟩
    · by_cases hj : j = i
      · rw [if_pos hj] at q1; cases q1
      · by_cases hk : k = i
        · rw [if_pos hk] at q2; cases q2
        · rw [if_neg hj] at q1; rw [if_neg hk] at q2; exact A.dj j k b q1 q2
    · obtain ⟨q1, q2⟩ := A.frF b q
      exact ⟨by rw [upd_ne (nfr b q)]; exact q1, q2⟩
    · obtain ⟨q1, q2, q3⟩ := A.tab P hP
      exact ⟨q1, by rw [upd_ne (ntb P hP)]; exact q2, q3⟩
  | lck ds =>
    obtain ⟨a, xs, rfl, ea, e, r⟩ := o
    obtain ⟨n1, n2, _⟩ := A.fF i a ea
    have s1 : Sub F (upd F a (.lst xs)) := Sub.upd n1
    have neq : ∀ j b, j ≠ i → fp j = some b → b ≠ a := fun j b hj e z => hj (A.dj j i a (z ▸ e) ea)
    have nfr : ∀ b, fr b → b ≠ a := fun b e z => n2 (z ▸ e)
    have ntb : ∀ P, P ∈ tabs → P ≠ a := fun P hP z => by
      obtain ⟨⟨ps, q1, _⟩, _⟩ := A.tab P hP
      rw [z, e] at q1; cases q1
    have fz : Frz K (upd F a (.lst xs)) (.lst ds) (.ref a) := by
      unfold Frz
      exact ⟨a, xs, rfl, upd_same, r.mono s1⟩
    refine ⟨upd F a (.lst xs), fun j => if j = i then none else fp j, ⟨fun b u q => ?_, by rw [List.length_set]; exact A.len, fun j d' q => ?_, fun j b q => ?_, fun j k b q1 q2 => ?_, fun b q => ?_, A.anc, fun P hP => ?_⟩, ⟨s1, fun _ _ => rfl⟩, .ref a, e1, fz⟩
    · by_cases z : b = a
      · subst z; rw [upd_same] at q; cases q; exact e
      · rw [upd_ne z] at q; exact A.sub b u q
    · by_cases hj : j = i
      · subst hj
        rw [List.getElem?_set_self hlt] at q
        cases q
        rw [if_pos rfl]
        exact ⟨.ref a, e1, .of fz⟩
      · rw [List.getElem?_set_ne (Ne.symm hj)] at q
        rw [if_neg hj]
        obtain ⟨v', e2, w⟩ := A.slot j d' q
        exact ⟨v', e2, w.frame s1 fun _ _ => rfl⟩
    · by_cases hj : j = i
      · rw [if_pos hj] at q; cases q
      · rw [if_neg hj] at q
        obtain ⟨q1, q2, q3⟩ := A.fF j b q
        exact ⟨by rw [upd_ne (neq j b hj q)]; exact q1, q2, q3⟩
    · by_cases hj : j = i
      · rw [if_pos hj] at q1; cases q1
      · by_cases hk : k = i
        · rw [if_pos hk] at q2; cases q2
        · rw [if_neg hj] at q1; rw [if_neg hk] at q2; exact A.dj j k b q1 q2
    · obtain ⟨q1, q2⟩ := A.frF b q
      exact ⟨by rw [upd_ne (nfr b q)]; exact q1, q2⟩
    · obtain ⟨q1, q2, q3⟩ := A.tab P hP
      exact ⟨q1, by rw [upd_ne (ntb P hP)]; exact q2, q3⟩
  | _ =>
    refine ⟨F, fp, ?_, Fwd.refl, v, e1, o.2⟩
    exact (set_self hi).symm ▸ A
/-- a result is put into a slot -/
theorem At.put (A : At K tabs anc fr ρ F fp σ H) {i : Nat} {d : D} {v : V} {fd : Option Addr} (hi : i < ρ.length) (ha : i ∉ anc.map (·.1)) (o : Own K F H d v fd) (n : New fr F H fp fd) :
    At K tabs anc fr (ρ.set i (some d)) F (fun j => if j = i then fd else fp j) (σ.set i (some v)) H := by
  have hs : i < σ.length := by rw [A.len]; exact hi
  refine ⟨A.sub, by rw [List.length_set, List.length_set]; exact A.len, fun j d' q => ?_, fun j b q => ?_, fun j k b q1 q2 => ?_, A.frF, fun p hp => ?_, A.tab⟩
  · by_cases hj : j = i
    · subst hj
      rw [List.getElem?_set_self hi] at q
      cases q
      rw [if_pos rfl, List.getElem?_set_self hs]
      exact ⟨v, rfl, o⟩
    · rw [List.getElem?_set_ne (Ne.symm hj)] at q
      rw [if_neg hj, List.getElem?_set_ne (Ne.symm hj)]
      exact A.slot j d' q
  · by_cases hj : j = i
    · rw [if_pos hj] at q
      obtain ⟨n1, n2, n3, _⟩ := n b q
      exact ⟨n1, n2, n3⟩
    · rw [if_neg hj] at q
      exact A.fF j b q
  · by_cases hj : j = i
    · by_cases hk : k = i
      · rw [hj, hk]
      · rw [if_pos hj] at q1; rw [if_neg hk] at q2
        exact absurd q2 ((n b q1).2.2.2 k)
    · by_cases hk : k = i
      · rw [if_neg hj] at q1; rw [if_pos hk] at q2
        exact absurd q1 ((n b q2).2.2.2 j)
      · rw [if_neg hj] at q1; rw [if_neg hk] at q2
        exact A.dj j k b q1 q2
  · have hne : i ≠ p.1 := fun z => ha (List.mem_map.mpr ⟨p, hp, z.symm⟩)
    rw [List.getElem?_set_ne hne]
    exact A.anc p hp
/-- a slot's own list is changed -/
theorem At.write (A : At K tabs anc fr ρ F fp σ H) {i : Nat} {ds ds' : List D} {a : Addr} {xs' : List V} (hi : ρ[i]? = some (some (.own ds))) (ha : σ[i]? = some (some (.ref a))) (r : FrzL K F ds' xs') :
    At K tabs anc fr (ρ.set i (some (.own ds'))) F fp σ (upd H a (.lst xs')) ∧ Fwd fr F H F (upd H a (.lst xs')) := by
  have hlt : i < ρ.length := (List.getElem?_eq_some_iff.mp hi).1
  obtain ⟨v, e1, a', xs, ev, ea, e, _⟩ := A.slot i _ hi
  rw [ha] at e1
  cases e1
  cases ev
  obtain ⟨n1, n2, _⟩ := A.fF i a ea
  have neq : ∀ j b, j ≠ i → fp j = some b → b ≠ a := fun j b hj e z => hj (A.dj j i a (z ▸ e) ea)
  have nfr : ∀ b, fr b → b ≠ a := fun b e z => n2 (z ▸ e)
  have ntb : ∀ P, P ∈ tabs → P ≠ a := fun P hP z => by
    obtain ⟨⟨ps, q1, _⟩, _⟩ := A.tab P hP
    rw [z, e] at q1; cases q1
  refine ⟨⟨fun b u q => ?_, by rw [List.length_set]; exact A.len, fun j d' q => ?_, fun j b q => ?_, A.dj, fun b q => ?_, A.anc, fun P hP => ?_⟩, Sub.refl _, fun b q => upd_ne (nfr b q)⟩
  · have z : b ≠ a := fun z => by rw [z, n1] at q; cases q
    rw [upd_ne z]; exact A.sub b u q
  · by_cases hj : j = i
    · subst hj
      rw [List.getElem?_set_self hlt] at q
      cases q
      exact ⟨.ref a, ha, a, xs', rfl, ea, upd_same, r⟩
    · rw [List.getElem?_set_ne (Ne.symm hj)] at q
      obtain ⟨v', e2, w⟩ := A.slot j d' q
      exact ⟨v', e2, w.frame (Sub.refl _) fun b eb => upd_ne (neq j b hj eb)⟩
  · obtain ⟨q1, q2, ys, q3⟩ := A.fF j b q
    refine ⟨q1, q2, ?_⟩
    by_cases z : b = a
    · subst z; exact ⟨xs', upd_same⟩
    · exact ⟨ys, by rw [upd_ne z]; exact q3⟩
  · obtain ⟨q1, q2⟩ := A.frF b q
    exact ⟨q1, by rw [upd_ne (nfr b q)]; exact q2⟩
  · obtain ⟨⟨ps, q1, q1'⟩, q2, q3⟩ := A.tab P hP
    exact ⟨⟨ps, by rw [upd_ne (ntb P hP)]; exact q1, q1'⟩, q2, q3⟩
/-- a table has grown -/
theorem At.tabbed (A : At K tabs anc fr ρ F fp σ H) {P : Addr} {H' : Hp} (hP : P ∈ tabs) (t : Tabbed P H H') : At K tabs anc fr ρ F fp σ H' ∧ Fwd fr F H F H' := by
  obtain ⟨⟨ps, p1, p1'⟩, p2, p3⟩ := A.tab P hP
  obtain ⟨t1, t2⟩ := t
  have nfr : ∀ b, fr b → b ≠ P := fun b e z => p3 (z ▸ e)
  have nfp : ∀ i b, fp i = some b → b ≠ P := fun i b e z => by
    obtain ⟨_, _, xs, q⟩ := A.fF i b e
    rw [z, p1] at q; cases q
  have nF : ∀ b u, F b = some u → b ≠ P := fun b u e z => by rw [z, p2] at e; cases e
  refine ⟨⟨fun b u q => by rw [t2 b (nF b u q)]; exact A.sub b u q, A.len, fun i d q => ?_, fun i b q => ?_, A.dj, fun b q => ?_, A.anc, fun R hR => ?_⟩, Sub.refl _, fun b q => t2 b (nfr b q)⟩
  · obtain ⟨v, e1, o⟩ := A.slot i d q
    exact ⟨v, e1, o.frame (Sub.refl _) fun b eb => t2 b (nfp i b eb)⟩
  · obtain ⟨q1, q2, xs, q3⟩ := A.fF i b q
    exact ⟨q1, q2, xs, by rw [t2 b (nfp i b q)]; exact q3⟩
  · obtain ⟨q1, q2⟩ := A.frF b q
    exact ⟨q1, by rw [t2 b (nfr b q)]; exact q2⟩
  · obtain ⟨⟨ps', q1, q1'⟩, q2, q3⟩ := A.tab R hR
    by_cases z : R = P
    · subst z; exact ⟨t1, q2, q3⟩
    · exact ⟨⟨ps', by rw [t2 R z]; exact q1, q1'⟩, q2, q3⟩
/-- one more that others own -/
theorem At.lend (A : At K tabs anc fr ρ F fp σ H) {fd : Option Addr} (n : New fr F H fp fd) : At K tabs anc (fun a => fr a ∨ fd = some a) ρ F fp σ H := by
  refine ⟨A.sub, A.len, A.slot, fun i a e => ?_, A.dj, fun a e => ?_, A.anc, fun P hP => ?_⟩
  · obtain ⟨q1, q2, q3⟩ := A.fF i a e
    refine ⟨q1, fun z => ?_, q3⟩
    rcases z with z | z
    · exact q2 z
    · exact (n a z).2.2.2 i e
  · rcases e with e | e
    · exact A.frF a e
    · obtain ⟨n1, _, ⟨xs, n3⟩, _⟩ := n a e
      exact ⟨n1, by rw [n3]; exact fun z => nomatch z⟩
  · obtain ⟨⟨ps, q1, q1'⟩, q2, q3⟩ := A.tab P hP
    refine ⟨⟨ps, q1, q1'⟩, q2, fun z => ?_⟩
    rcases z with z | z
    · exact q3 z
    · obtain ⟨_, _, ⟨xs, n3⟩, _⟩ := n P z
      rw [q1] at n3; cases n3
theorem At.unlend {fr' : Addr → Prop} (A : At K tabs anc fr' ρ F fp σ H) (h : ∀ a, fr a → fr' a) : At K tabs anc fr ρ F fp σ H :=
  ⟨A.sub, A.len, A.slot, fun i a e => let ⟨q1, q2, q3⟩ := A.fF i a e; ⟨q1, fun z => q2 (h a z), q3⟩, A.dj, fun a e => A.frF a (h a e), A.anc, fun P hP => let ⟨q1, q2, q3⟩ := A.tab P hP; ⟨q1, q2, fun z => q3 (h P z)⟩⟩
end
end Dv
end
section
set_option Elab.async false
set_option linter.all false
set_option maxRecDepth 100000
set_option maxHeartbeats 2000000
/-! The data layer: judgements, names, constants, operators. -/
namespace Dv
open PySem PySem.Spec PyProof.Rows L2 GxR
def Sat {α : Type} (o : Out α) (P : α → Env → Prop) (E : Str → D → Env → Prop) : Prop := match o with
  | .ok a ρ => P a ρ
  | .exc c d ρ => E c d ρ
  | .bad => False
theorem Sat.bind {α β : Type} {o : Out α} {f : α → Env → Out β} {P : β → Env → Prop} {E : Str → D → Env → Prop} (h : Sat (o.bind f) P E) : Sat o (fun a ρ => Sat (f a ρ) P E) E := by
  cases o with
  | ok a ρ => exact h
  | exc c d ρ => exact h
  | bad => exact h
theorem Sat.mono {α : Type} {o : Out α} {P P' : α → Env → Prop} {E E' : Str → D → Env → Prop} (h : Sat o P E) (hp : ∀ a ρ, P a ρ → P' a ρ) (he : ∀ c d ρ, E c d ρ → E' c d ρ) : Sat o P' E' := by
  cases o with
  | ok a ρ => exact hp _ _ h
  | exc c d ρ => exact he _ _ _ h
  | bad => exact h
theorem Sat.of {α : Type} {o : Option α} {ρ : Env} {P : α → Env → Prop} {E : Str → D → Env → Prop} (h : Sat (Out.of o ρ) P E) : ∃ a, o = some a ∧ P a ρ := by
  cases o with
  | some a => exact ⟨a, rfl, h⟩
  | none => exact h.elim
/-- an operand: data, or a name (read where the operator is carried out) -/
inductive T where
  | val (d : D) | at (i : Nat)
def rd : T → Env → Option D
  | .val d, _ => some d
  | .at i, ρ => match ρ[i]? with
    | some (some d) => some (frz d)
    | _ => none
@[simp] theorem rd_val (d : D) (ρ : Env) : rd (.val d) ρ = some d := rfl
def TRel (K : PySem.W.Frag) (F : Hp) (σ : L2.St) : T → V → Prop
  | .val d, v => Frz K F d v
  | .at i, v => σ[i]? = some (some v)
theorem TRel.mono {K : PySem.W.Frag} {F F' : Hp} {σ : L2.St} {t : T} {v : V} (s : Sub F F') (h : TRel K F σ t v) : TRel K F' σ t v := by
  cases t with
  | val d => exact Frz.mono s h
  | «at» i => exact h
theorem TRel.read {K : PySem.W.Frag} {tabs : List Addr} {anc : List (Nat × V)} {fr : Addr → Prop} {ρ : Env} {F H : Hp} {fp : Nat → Option Addr} {σ : L2.St} {t : T} {v : V} {d : D} (A : At K tabs anc fr ρ F fp σ H) (h : TRel K F σ t v) (e : rd t ρ = some d) : Frz K H d v := by
  cases t with
  | val d' => cases e; exact Frz.mono A.sub h
  | «at» i =>
    unfold rd at e
    dsimp only at e
    split at e
    · rename_i d' hd
      cases e
      obtain ⟨v', e1, o⟩ := A.slot i d' hd
      rw [show σ[i]? = some (some v) from h] at e1
      cases e1
      exact o.read A.sub
    · cases e

/-- an exception of the class named c, its field's data d (None: no field) -/
def XIs (K : PySem.W.Frag) (mg : Str → Option Value) (c : Str) (d : D) (cls : Value) (dd : Option Addr) (F H : Hp) : Prop :=
  (∃ C, mg c = some (.ref C) ∧ cls = .ref C) ∧ (d = .non ∨ ∃ a v, dd = some a ∧ H a = some (.xd [(("line" : Str), v)]) ∧ Frz K F d v)
/-- what a def's code is read with: the tables, the slots that stay, what is wanted of exceptions -/
structure Par where
  tabs : List Addr
  bor : List Nat
  W : WX
section
variable (K : PySem.W.Frag) (mg : Str → Option Value) (p : Par) (anc : List (Nat × V)) (fr : Addr → Prop) (F H : Hp) (σ : L2.St)
def okD (Q : VK) : D → Env → Prop := fun d ρ' => ∀ v F' H' fp' fd, At K p.tabs anc fr ρ' F' fp' σ H' → Fwd fr F H F' H' → Own K F' H' d v fd → New fr F' H' fp' fd → Q v H'
def okV (Q : VK) : D → Env → Prop := fun d ρ' => ∀ v F' H' fp', At K p.tabs anc fr ρ' F' fp' σ H' → Fwd fr F H F' H' → Frz K F' d v → Q v H'
def okT (Q : VK) : T → Env → Prop := fun t ρ' => ∀ v F' H' fp', At K p.tabs anc fr ρ' F' fp' σ H' → Fwd fr F H F' H' → TRel K F' σ t v → Q v H'
def okB (Q : Bool → Hp → Prop) : Bool → Env → Prop := fun b ρ' => ∀ F' H' fp', At K p.tabs anc fr ρ' F' fp' σ H' → Fwd fr F H F' H' → Q b H'
def exD : Str → D → Env → Prop := fun c d ρ' => ∀ cls dd F' H' fp', At K p.tabs anc fr ρ' F' fp' σ H' → Fwd fr F H F' H' → XIs K mg c d cls dd F' H' → p.W cls dd σ H'
end
theorem exD.fwd {K : PySem.W.Frag} {mg : Str → Option Value} {p : Par} {anc : List (Nat × V)} {fr : Addr → Prop} {F H F1 H1 : Hp} {σ : L2.St} {c : Str} {d : D} {ρ : Env} (f : Fwd fr F H F1 H1) (h : exD K mg p anc fr F H σ c d ρ) : exD K mg p anc fr F1 H1 σ c d ρ :=
  fun cls dd F' H' fp' A g x => h cls dd F' H' fp' A (f.trans g) x
/-- the readings -/
def tD (K : PySem.W.Frag) (mg : Str → Option Value) (p : Par) (f : Env → Out D) : TE := fun σ H Q => ∃ ρ F fp fr anc, anc.map (·.1) = p.bor ∧ At K p.tabs anc fr ρ F fp σ H ∧ Sat (f ρ) (okD K p anc fr F H σ Q) (exD K mg p anc fr F H σ)
def tV (K : PySem.W.Frag) (mg : Str → Option Value) (p : Par) (f : Env → Out D) : TE := fun σ H Q => ∃ ρ F fp fr anc, anc.map (·.1) = p.bor ∧ At K p.tabs anc fr ρ F fp σ H ∧ Sat (f ρ) (okV K p anc fr F H σ Q) (exD K mg p anc fr F H σ)
def tO (K : PySem.W.Frag) (mg : Str → Option Value) (p : Par) (f : Env → Out T) : TE := fun σ H Q => ∃ ρ F fp fr anc, anc.map (·.1) = p.bor ∧ At K p.tabs anc fr ρ F fp σ H ∧ Sat (f ρ) (okT K p anc fr F H σ Q) (exD K mg p anc fr F H σ)
def tT (K : PySem.W.Frag) (mg : Str → Option Value) (p : Par) (f : Env → Out Bool) : TT := fun σ H Q => ∃ ρ F fp fr anc, anc.map (·.1) = p.bor ∧ At K p.tabs anc fr ρ F fp σ H ∧ Sat (f ρ) (okB K p anc fr F H σ Q) (exD K mg p anc fr F H σ)
/-- an expression whose result may own a list; one whose result is read only; an operand; a test -/
def DE (X : Cx) (p : Par) (f : Env → Out D) (e : Expr) : Prop := PE X e (tD X.K X.mg p f)
def DV (X : Cx) (p : Par) (f : Env → Out D) (e : Expr) : Prop := PE X e (tV X.K X.mg p f)
def DO (X : Cx) (p : Par) (f : Env → Out T) (e : Expr) : Prop := PE X e (tO X.K X.mg p f)
def DT (X : Cx) (p : Par) (f : Env → Out Bool) (e : Expr) : Prop := PT X e (tT X.K X.mg p f)
theorem PE.weak {X : Cx} {e : Expr} {t t' : TE} (h : PE X e t) (w : ∀ σ H Q, t' σ H Q → t σ H Q) : PE X e t' := ⟨fun pins s σ H Q I q => h.run pins s σ H Q I (w σ H Q q)⟩
theorem PT.weak {X : Cx} {e : Expr} {t t' : TT} (h : PT X e t) (w : ∀ σ H Q, t' σ H Q → t σ H Q) : PT X e t' := ⟨fun pins s σ H Q I q => h.run pins s σ H Q I (w σ H Q q)⟩
theorem PW.weak {X : Cx} {e : Expr} {t t' : TT} (h : PW X e t) (w : ∀ σ H Q, t' σ H Q → t σ H Q) : PW X e t' := ⟨fun wh pins s σ H Q I q => h.run wh pins s σ H Q I (w σ H Q q)⟩

section
variable {X : Cx} {p : Par}
/-! ### giving up, operands -/
def eFrz (f : Env → Out D) : Env → Out D := fun ρ => (f ρ).bind fun d ρ' => .ok (frz d) ρ'
theorem dv_of {f : Env → Out D} {e : Expr} (h : DE X p f e) : DV X p (eFrz f) e := PE.weak h fun σ H Q ⟨ρ, F, fp, fr, anc, b, A, s⟩ => by
  refine ⟨ρ, F, fp, fr, anc, b, A, (Sat.bind s).mono (fun d ρ' q v F' H' fp' fd A' fw o n => ?_) fun c d ρ' q => q⟩
  obtain ⟨F2, A2, fw2, z⟩ := A'.give o n
  exact q v F2 H' fp' A2 (fw.trans fw2) z
theorem de_of {f : Env → Out D} {e : Expr} (h : DV X p f e) : DE X p f e := PE.weak h fun σ H Q ⟨ρ, F, fp, fr, anc, b, A, s⟩ =>
  ⟨ρ, F, fp, fr, anc, b, A, s.mono (fun d ρ' q v F' H' fp' A' fw o => q v F' H' fp' none A' fw (.of o) .none) fun c d ρ' q => q⟩
def oV (f : Env → Out D) : Env → Out T := fun ρ => (f ρ).bind fun d ρ' => .ok (.val d) ρ'
theorem do_of {f : Env → Out D} {e : Expr} (h : DV X p f e) : DO X p (oV f) e := PE.weak h fun σ H Q ⟨ρ, F, fp, fr, anc, b, A, s⟩ =>
  ⟨ρ, F, fp, fr, anc, b, A, (Sat.bind s).mono (fun d ρ' q v F' H' fp' A' fw o => q v F' H' fp' A' fw o) fun c d ρ' q => q⟩

/-! ### names, constants -/
def eC (d : D) : Env → Out D := fun ρ => .ok d ρ
theorem de_c {e : Expr} {d : D} {v : V} (h : PE X e (tC v)) (hd : ∀ F, Frz X.K F d v) : DV X p (eC d) e := PE.weak h fun σ H Q ⟨ρ, F, fp, fr, anc, b, A, s⟩ => s v F H fp A Fwd.refl (hd F)
theorem dv_int {i : Int} {j pos} : DV X p (eC (.int i)) (.Constant (.int i) j pos) := de_c pe_int fun F => by unfold Frz; rfl
theorem dv_bl {i : Bool} {j pos} : DV X p (eC (.bl i)) (.Constant (.bool i) j pos) := de_c pe_bl fun F => by unfold Frz; rfl
theorem dv_str {i : Str} {j pos} : DV X p (eC (.str i)) (.Constant (.str i) j pos) := de_c pe_str fun F => by unfold Frz; rfl
theorem dv_non {j pos} : DV X p (eC .non) (.Constant .none j pos) := de_c pe_non fun F => by unfold Frz; rfl
/-- a name as an operand -/
def oN (i : Nat) : Env → Out T := fun ρ => match ρ[i]? with
  | some (some _) => .ok (.at i) ρ
  | _ => .bad
theorem do_n {i : Nat} {e : Expr} (h : PE X e (tVar i)) : DO X p (oN i) e := PE.weak h fun σ H Q ⟨ρ, F, fp, fr, anc, b, A, s⟩ => by
  unfold oN at s
  split at s
  · rename_i d hd
    obtain ⟨v, e1, o⟩ := A.slot i d hd
    exact ⟨v, e1, s v F H fp A Fwd.refl e1⟩
  · exact s.elim
/-- a name as a value: what it holds is read only from then on -/
def eN (i : Nat) : Env → Out D := fun ρ => match ρ[i]? with
  | some (some d) => .ok (frz d) (ρ.set i (some (frz d)))
  | _ => .bad
theorem dv_n {i : Nat} {e : Expr} (h : PE X e (tVar i)) : DV X p (eN i) e := PE.weak h fun σ H Q ⟨ρ, F, fp, fr, anc, b, A, s⟩ => by
  unfold eN at s
  split at s
  · rename_i d hd
    obtain ⟨F', fp', A', fw, v, e1, z⟩ := A.giveSlot hd
    exact ⟨v, e1, s v F' H fp' A' fw z⟩
  · exact s.elim
/-! ### operators -/
/-- two operands -/
theorem two {fa fb : Env → Out T} {σ : L2.St} {H : Hp} {R : V → V → Hp → Prop} {ρ : Env} {F : Hp} {fp : Nat → Option Addr} {fr : Addr → Prop} {anc : List (Nat × V)} {P : T × T → Env → Prop} (b : anc.map (·.1) = p.bor) (A : At X.K p.tabs anc fr ρ F fp σ H)
    (s : Sat ((fa ρ).bind fun t ρ1 => (fb ρ1).bind fun u ρ2 => .ok (t, u) ρ2) P (exD X.K X.mg p anc fr F H σ))
    (h : ∀ t u ρ' F' H' fp' v w, P (t, u) ρ' → At X.K p.tabs anc fr ρ' F' fp' σ H' → Fwd fr F H F' H' → TRel X.K F' σ t v → TRel X.K F' σ u w → R v w H') :
    tO X.K X.mg p fa σ H fun v H1 => tO X.K X.mg p fb σ H1 fun w H2 => R v w H2 := by
  refine ⟨ρ, F, fp, fr, anc, b, A, (Sat.bind s).mono (fun t ρ1 s1 v F1 H1 fp1 A1 fw1 r1 => ?_) fun c d ρ' q => q⟩
  refine ⟨ρ1, F1, fp1, fr, anc, b, A1, (Sat.bind s1).mono (fun u ρ2 s2 w F2 H2 fp2 A2 fw2 r2 => ?_) fun c d ρ' q => q.fwd fw1⟩
  exact h t u ρ2 F2 H2 fp2 v w s2 A2 (fw1.trans fw2) (r1.mono fw2.sub) r2
/-- a value without a place -/
def flatOf : D → Option V
  | .non => some .non
  | .bl b => some (.bl b)
  | .int i => some (.int i)
  | .str x => some (.str x)
  | _ => none
theorem Frz.flat {K : PySem.W.Frag} {F : Hp} {d : D} {v : V} (h : flatOf d = some v) : Frz K F d v := by
  cases d <;> first | (cases h; unfold Frz; rfl) | cases h
def eOp2 (g : D → D → Option D) (a b : Env → Out T) : Env → Out D := fun ρ => ((a ρ).bind fun t ρ1 => (b ρ1).bind fun u ρ2 => .ok (t, u) ρ2).bind fun tu ρ' => Out.of ((rd tu.1 ρ').bind fun x => (rd tu.2 ρ').bind fun y => g x y) ρ'
/-- an operator whose answer has no place -/
theorem dv_op2 {a b e : Expr} {fa fb : Env → Out T} {r : R2} {g : D → D → Option D} (h : ∀ {ta tb : TE}, PE X a ta → PE X b tb → PE X e (tOp r ta tb)) (ha : DO X p fa a) (hb : DO X p fb b)
    (hg : ∀ (H : Hp) (x y d : D) (v w : V) (Q : VK), Frz X.K H x v → Frz X.K H y w → g x y = some d → (∃ u, flatOf d = some u) ∧ ((∀ u, flatOf d = some u → Q u H) → r v w H Q)) : DV X p (eOp2 g fa fb) e :=
  PE.weak (h ha hb) fun σ H Q ⟨ρ, F, fp, fr, anc, bb, A, s⟩ => two bb A (Sat.bind s) fun t u ρ' F' H' fp' v w q A' fw r1 r2 => by
    obtain ⟨d, e1, q⟩ := Sat.of q
    obtain ⟨x, ex, e1⟩ := Option.bind_eq_some_iff.mp e1
    obtain ⟨y, ey, e1⟩ := Option.bind_eq_some_iff.mp e1
    obtain ⟨⟨u', hu⟩, q2⟩ := hg H' x y d v w Q (r1.read A' ex) (r2.read A' ey) e1
    refine q2 fun u hu => q u F' H' fp' A' fw (.flat hu)
end
end Dv
end
section
set_option Elab.async false
set_option linter.all false
set_option maxRecDepth 100000
set_option maxHeartbeats 2000000
/-! The data layer: operators. -/
namespace Dv
open PySem PySem.Spec PyProof.Rows L2 GxR
section
variable {X : Cx} {p : Par} {a b c e : Expr} {fa fb fc : Env → Out T} {pos : Pos}
/-! ### ints -/
def dSub : D → D → Option D
  | .int i, .int j => some (.int (i - j))
  | _, _ => none
def dFdiv : D → D → Option D
  | .int i, .int j => if j ≠ 0 ∧ j.natAbs.log2 < 9000 then some (.int (i.fdiv j)) else none
  | _, _ => none
def dMod : D → D → Option D
  | .int i, .int j => if j ≠ 0 then some (.int (i.fmod j)) else none
  | _, _ => none
def dPow : D → D → Option D
  | .int i, .int j => if 0 ≤ j ∧ j ≤ 1000000 ∧ i.natAbs < 2 ^ 64 then some (.int (i ^ j.toNat)) else none
  | _, _ => none
theorem op_fdivZ : OpR X (binaryOp .FloorDiv) (rI (fun _ j => j ≠ 0 ∧ j.natAbs.log2 < 9000) fun i j => .int (i.fdiv j)) := opI fun i j _ _ _ _ _ hc q => floordiv_int hc.1 q (.inl (PyProof.noPylong_of_log2 hc.2))
theorem dv_sub (ha : DO X p fa a) (hb : DO X p fb b) : DV X p (eOp2 dSub fa fb) (.BinOp a .Sub b pos) := dv_op2 (fun h1 h2 => pe_op op_sub h1 h2) ha hb fun H x y d v w Q h1 h2 e => by
  unfold dSub at e; split at e
  · cases e; simp only [Frz] at h1 h2; exact ⟨⟨_, rfl⟩, fun q => ⟨_, _, h1, h2, q _ rfl⟩⟩
  · cases e
theorem dv_fdiv (ha : DO X p fa a) (hb : DO X p fb b) : DV X p (eOp2 dFdiv fa fb) (.BinOp a .FloorDiv b pos) := dv_op2 (fun h1 h2 => pe_op op_fdivZ h1 h2) ha hb fun H x y d v w Q h1 h2 e => by
  unfold dFdiv at e; split at e
  · split at e
    · rename_i hc
      cases e; simp only [Frz] at h1 h2; exact ⟨⟨_, rfl⟩, fun q => ⟨_, _, h1, h2, hc, q _ rfl⟩⟩
    · cases e
  · cases e
theorem dv_mod (ha : DO X p fa a) (hb : DO X p fb b) : DV X p (eOp2 dMod fa fb) (.BinOp a .Mod b pos) := dv_op2 (fun h1 h2 => pe_op op_modN h1 h2) ha hb fun H x y d v w Q h1 h2 e => by
  unfold dMod at e; split at e
  · split at e
    · rename_i hc
      cases e; simp only [Frz] at h1 h2; exact ⟨⟨_, rfl⟩, fun q => ⟨_, _, h1, h2, hc, q _ rfl⟩⟩
    · cases e
  · cases e
theorem dv_pow (ha : DO X p fa a) (hb : DO X p fb b) : DV X p (eOp2 dPow fa fb) (.BinOp a .Pow b pos) := dv_op2 (fun h1 h2 => pe_op op_pow h1 h2) ha hb fun H x y d v w Q h1 h2 e => by
  unfold dPow at e; split at e
  · split at e
    · rename_i hc
      cases e; simp only [Frz] at h1 h2; exact ⟨⟨_, rfl⟩, fun q => ⟨_, _, h1, h2, hc, q _ rfl⟩⟩
    · cases e
  · cases e
def eNeg (f : Env → Out T) : Env → Out D := fun ρ => (f ρ).bind fun t ρ' => Out.of ((rd t ρ').bind fun x => match x with | .int i => some (.int (-i)) | _ => none) ρ'
theorem dv_neg (ha : DO X p fa a) : DV X p (eNeg fa) (.UnaryOp .USub a pos) := PE.weak (pe_un un_neg ha) fun σ H Q ⟨ρ, F, fp, fr, anc, bb, A, s⟩ => by
  refine ⟨ρ, F, fp, fr, anc, bb, A, (Sat.bind s).mono (fun t ρ' q v F' H' fp' A' fw r => ?_) fun c d ρ' q => q⟩
  obtain ⟨d, e1, q⟩ := Sat.of q
  obtain ⟨x, ex, e1⟩ := Option.bind_eq_some_iff.mp e1
  have z := r.read A' ex
  split at e1
  · cases e1
    simp only [Frz] at z
    exact ⟨_, z, q _ F' H' fp' A' fw (.flat rfl)⟩
  · cases e1

/-! ### comparisons -/
def dCmp (g : Int → Int → Bool) (h : List Nat → List Nat → Bool) : D → D → Option D
  | .int i, .int j => some (.bl (g i j))
  | .str x, .str y => some (.bl (h x.cps.toList y.cps.toList))
  | _, _ => none
abbrev dLt := dCmp (fun i j => decide (i < j)) fun x y => decide (x < y)
abbrev dLe := dCmp (fun i j => decide (i ≤ j)) fun x y => !decide (y < x)
abbrev dGt := dCmp (fun i j => decide (j < i)) fun x y => decide (y < x)
abbrev dGe := dCmp (fun i j => decide (j ≤ i)) fun x y => !decide (x < y)
/-- what an operator's rule must give for a comparison of data -/
def CmpOk (X : Cx) (r : R2) (g : D → D → Option D) : Prop := ∀ (H : Hp) (x y d : D) (v w : V) (Q : VK), Frz X.K H x v → Frz X.K H y w → g x y = some d → ∃ c, d = .bl c ∧ (Q (.bl c) H → r v w H Q)
theorem cmp_ok {g : Int → Int → Bool} {h : List Nat → List Nat → Bool} {r1 r2 : R2} (h1 : ∀ i j H Q, Q (.bl (g i j)) H → r1 (.int i) (.int j) H Q) (h2 : ∀ i j H Q, Q (.bl (h i.cps.toList j.cps.toList)) H → r2 (.str i) (.str j) H Q) :
    CmpOk X (fun x y H Q => r1 x y H Q ∨ r2 x y H Q) (dCmp g h) := fun H x y d v w Q z1 z2 e => by
  unfold dCmp at e; split at e
  · cases e; simp only [Frz] at z1 z2; subst z1 z2; exact ⟨_, rfl, fun q => .inl (h1 _ _ _ _ q)⟩
  · cases e; simp only [Frz] at z1 z2; subst z1 z2; exact ⟨_, rfl, fun q => .inr (h2 _ _ _ _ q)⟩
  · cases e
/-- a comparison of data -/
def CmpR (X : Cx) (op : CmpOp) (g : D → D → Option D) : Prop := ∃ r, OpR X (compareOp op) r ∧ CmpOk X r g
theorem cr_lt : CmpR X .Lt dLt := ⟨_, op_lt.or op_lt_str, cmp_ok (fun i j H Q q => ⟨i, j, rfl, rfl, q⟩) fun i j H Q q => ⟨i, j, rfl, rfl, q⟩⟩
theorem cr_le : CmpR X .LtE dLe := ⟨_, op_le.or op_le_str, cmp_ok (fun i j H Q q => ⟨i, j, rfl, rfl, q⟩) fun i j H Q q => ⟨i, j, rfl, rfl, q⟩⟩
theorem cr_gt : CmpR X .Gt dGt := ⟨_, op_gt.or op_gt_str, cmp_ok (fun i j H Q q => ⟨i, j, rfl, rfl, q⟩) fun i j H Q q => ⟨i, j, rfl, rfl, q⟩⟩
theorem cr_ge : CmpR X .GtE dGe := ⟨_, op_ge.or op_ge_str, cmp_ok (fun i j H Q q => ⟨i, j, rfl, rfl, q⟩) fun i j H Q q => ⟨i, j, rfl, rfl, q⟩⟩

/-! ### == -/
mutual
def py : D → PyData
  | .non => .none
  | .bl b => .bool b
  | .int i => .int i
  | .str x => .str x
  | .scr ns => .list (ns.map .int)
  | .tup ds => .tuple (pys ds)
  | .lst ds => .list (pys ds)
  | .own ds => .list (pys ds)
  | .lck ds => .list (pys ds)
def pys : List D → List PyData
  | [] => []
  | d :: ds => py d :: pys ds
end
theorem dp_ints {K : PySem.W.Frag} {H : Hp} : ∀ ns : List Int, DpAll K H (ns.map V.int) (ns.map PyData.int)
  | [] => .nil
  | n :: ns => .cons (.int n) (dp_ints ns)
mutual
theorem Frz.dp {K : PySem.W.Frag} {H : Hp} : ∀ {d : D} {v : V}, Frz K H d v → Dp K H v (py d)
  | .non, _, h => by unfold Frz at h; subst h; unfold py; exact .non
  | .bl _, _, h => by unfold Frz at h; subst h; unfold py; exact .bl _
  | .int _, _, h => by unfold Frz at h; subst h; unfold py; exact .int _
  | .str _, _, h => by unfold Frz at h; subst h; unfold py; exact .str _
  | .scr ns, _, h => by
    unfold Frz at h
    obtain ⟨a, rfl, q⟩ := h
    unfold py
    exact .lst q (dp_ints ns)
  | .tup ds, _, h => by
    unfold Frz at h
    obtain ⟨a, xs, rfl, q, r⟩ := h
    unfold py
    exact .tup q (FrzL.dp r)
  | .lst ds, _, h => by
    unfold Frz at h
    obtain ⟨a, xs, rfl, q, r⟩ := h
    unfold py
    exact .lst (.of q) (FrzL.dp r)
  | .own _, _, h => by unfold Frz at h; exact h.elim
  | .lck _, _, h => by unfold Frz at h; exact h.elim
theorem FrzL.dp {K : PySem.W.Frag} {H : Hp} : ∀ {ds : List D} {xs : List V}, FrzL K H ds xs → DpAll K H xs (pys ds)
  | [], _, h => by unfold FrzL at h; subst h; unfold pys; exact .nil
  | _ :: _, _, h => by
    unfold FrzL at h
    obtain ⟨x, r, rfl, q, t⟩ := h
    unfold pys
    exact .cons (Frz.dp q) (FrzL.dp t)
end
/-- == of data: flat data at once, else as data of a bounded depth -/
def eqD (x y : D) : Option Bool := match flatOf x, flatOf y with
  | some v, some w => if scal v w = true then some (decide (v = w)) else none
  | _, _ => if SeqAt.shaped (py x) = true ∧ SeqAt.shaped (py y) = true then some (PyData.eqv (py x) (py y)) else none
def dEq (x y : D) : Option D := (eqD x y).map D.bl
def dNe (x y : D) : Option D := (eqD x y).map fun b => .bl !b
theorem flat_of {K : PySem.W.Frag} {H : Hp} {x : D} {v u : V} (h : Frz K H x v) (e : flatOf x = some u) : v = u := by
  cases x <;> first | (cases e; unfold Frz at h; exact h) | cases e
theorem eqD_some {x y : D} {b : Bool} {K : PySem.W.Frag} {H : Hp} {v w : V} (z1 : Frz K H x v) (z2 : Frz K H y w) (e : eqD x y = some b) :
    (scal v w = true ∧ b = decide (v = w)) ∨ (Dp K H v (py x) ∧ Dp K H w (py y) ∧ SeqAt.shaped (py x) = true ∧ SeqAt.shaped (py y) = true ∧ b = PyData.eqv (py x) (py y)) := by
  unfold eqD at e
  split at e
  · rename_i v' w' e1 e2
    split at e
    · cases e
      rw [flat_of z1 e1, flat_of z2 e2]
      exact .inl ⟨by assumption, rfl⟩
    · cases e
  · split at e
    · rename_i hc
      cases e
      exact .inr ⟨z1.dp, z2.dp, hc.1, hc.2, rfl⟩
    · cases e
theorem ok_eq : CmpOk X (fun x y H Q => rEq x y H Q ∨ rEqD X.K x y H Q) dEq := fun H x y d v w Q z1 z2 e => by
  unfold dEq at e
  obtain ⟨b, e1, rfl⟩ := Option.map_eq_some_iff.mp e
  refine ⟨b, rfl, fun q => ?_⟩
  rcases eqD_some z1 z2 e1 with ⟨h, rfl⟩ | ⟨h1, h2, h3, h4, rfl⟩
  · exact .inl ⟨h, q⟩
  · exact .inr ⟨_, _, h1, h2, h3, h4, q⟩
theorem ok_ne : CmpOk X (fun x y H Q => rNe x y H Q ∨ rNeD X.K x y H Q) dNe := fun H x y d v w Q z1 z2 e => by
  unfold dNe at e
  obtain ⟨b, e1, rfl⟩ := Option.map_eq_some_iff.mp e
  refine ⟨!b, rfl, fun q => ?_⟩
  rcases eqD_some z1 z2 e1 with ⟨h, rfl⟩ | ⟨h1, h2, h3, h4, rfl⟩
  · exact .inl ⟨h, q⟩
  · exact .inr ⟨_, _, h1, h2, h3, h4, q⟩
theorem cr_eq (hu : X.A.units + 64 < cLine) : CmpR X .Eq dEq := ⟨_, op_eq.or (op_eqD hu), ok_eq⟩
theorem cr_ne (hu : X.A.units + 64 < cLine) : CmpR X .NotEq dNe := ⟨_, op_ne.or (op_neD hu), ok_ne⟩

/-! ### in -/
def flats : List D → Option (List V)
  | [] => some []
  | d :: ds => match flatOf d, flats ds with
    | some v, some vs => some (v :: vs)
    | _, _ => none
theorem flats_frz {K : PySem.W.Frag} {H : Hp} : ∀ {ds : List D} {xs vs : List V}, FrzL K H ds xs → flats ds = some vs → xs = vs
  | [], _, _, h, e => by unfold FrzL at h; subst h; unfold flats at e; cases e; rfl
  | d :: ds, _, _, h, e => by
    unfold FrzL at h
    obtain ⟨x, r, rfl, q, t⟩ := h
    unfold flats at e
    split at e
    · rename_i v vs e1 e2
      cases e
      rw [flat_of q e1, flats_frz t e2]
    · cases e
theorem flatOf_flat {d : D} {v : V} (e : flatOf d = some v) : flatV v = true := by
  cases d <;> first | (cases e; rfl) | cases e
theorem flats_flat : ∀ {ds : List D} {vs : List V}, flats ds = some vs → vs.all flatV = true
  | [], _, e => by unfold flats at e; cases e; rfl
  | d :: ds, _, e => by
    unfold flats at e
    split at e
    · rename_i v vs e1 e2
      cases e
      rw [List.all_cons, flatOf_flat e1, flats_flat e2]; rfl
    · cases e
def inD (x y : D) : Option Bool := match y with
  | .str b => match x with
    | .str a => some (!(Builtin.Str.occurrences b a 0 b.length 1).isEmpty)
    | _ => none
  | .tup ds => match flatOf x, flats ds with
    | some v, some vs => some (inV v vs)
    | _, _ => none
  | .lst ds => match flatOf x, flats ds with
    | some v, some vs => some (inV v vs)
    | _, _ => if SeqAt.shaped (py x) = true ∧ SeqAt.shaped (py y) = true then some ((pys ds).any fun z => PyData.eqv z (py x)) else none
  | _ => none
def dIn (x y : D) : Option D := (inD x y).map D.bl
def dNotIn (x y : D) : Option D := (inD x y).map fun b => .bl !b
theorem inD_some {x y : D} {b : Bool} {K : PySem.W.Frag} {H : Hp} {v w : V} (z1 : Frz K H x v) (z2 : Frz K H y w) (e : inD x y = some b) :
    (∃ i j, v = .str i ∧ w = .str j ∧ b = !(Builtin.Str.occurrences j i 0 j.length 1).isEmpty) ∨ (∃ q xs, w = .ref q ∧ (SqL K H q xs ∨ SqT K H q xs) ∧ flatV v = true ∧ xs.all flatV = true ∧ b = inV v xs) ∨
      (∃ d ds, Dp K H v d ∧ Dp K H w (.list ds) ∧ SeqAt.shaped d = true ∧ SeqAt.shaped (.list ds) = true ∧ b = ds.any fun z => PyData.eqv z d) := by
  unfold inD at e
  split at e
  · split at e
    · cases e
      simp only [Frz] at z1 z2
      exact .inl ⟨_, _, z1, z2, rfl⟩
    · cases e
  · split at e
    · rename_i ds v' vs e1 e2
      cases e
      unfold Frz at z2
      obtain ⟨a, xs, rfl, q, r⟩ := z2
      refine .inr (.inl ⟨a, xs, rfl, .inr q, ?_, ?_, ?_⟩)
      · rw [flat_of z1 e1]; exact flatOf_flat e1
      · rw [flats_frz r e2]; exact flats_flat e2
      · rw [flat_of z1 e1, flats_frz r e2]
    · cases e
  · split at e
    · rename_i ds v' vs e1 e2
      cases e
      unfold Frz at z2
      obtain ⟨a, xs, rfl, q, r⟩ := z2
      refine .inr (.inl ⟨a, xs, rfl, .inl (.of q), ?_, ?_, ?_⟩)
      · rw [flat_of z1 e1]; exact flatOf_flat e1
      · rw [flats_frz r e2]; exact flats_flat e2
      · rw [flat_of z1 e1, flats_frz r e2]
    · split at e
      · rename_i hc
        cases e
        have z3 := z2.dp
        have hy := hc.2
        unfold py at z3 hy
        exact .inr (.inr ⟨_, _, z1.dp, z3, hc.1, hy, rfl⟩)
      · cases e
  · cases e
theorem cr_in (hu : X.A.units + 65 < cLine) : CmpR X .In dIn := ⟨_, op_in_str.or (op_in_seq.or (op_inD hu)), fun H x y d v w Q z1 z2 e => by
  unfold dIn at e
  obtain ⟨b, e1, rfl⟩ := Option.map_eq_some_iff.mp e
  refine ⟨b, rfl, fun q => ?_⟩
  rcases inD_some z1 z2 e1 with ⟨i, j, h1, h2, rfl⟩ | ⟨a, xs, h1, h2, h3, h4, rfl⟩ | ⟨d, ds, h1, h2, h3, h4, rfl⟩
  · exact .inl ⟨i, j, h1, h2, q⟩
  · exact .inr (.inl ⟨a, xs, h1, h2, h3, h4, q⟩)
  · exact .inr (.inr ⟨d, ds, h1, h2, h3, h4, q⟩)⟩
theorem cr_notIn (hu : X.A.units + 65 < cLine) : CmpR X .NotIn dNotIn := ⟨_, L2.op_notIn_str.or (op_notIn_seq.or (op_notInD hu)), fun H x y d v w Q z1 z2 e => by
  unfold dNotIn at e
  obtain ⟨b, e1, rfl⟩ := Option.map_eq_some_iff.mp e
  refine ⟨!b, rfl, fun q => ?_⟩
  rcases inD_some z1 z2 e1 with ⟨i, j, h1, h2, rfl⟩ | ⟨a, xs, h1, h2, h3, h4, rfl⟩ | ⟨d, ds, h1, h2, h3, h4, rfl⟩
  · exact .inl ⟨i, j, h1, h2, q⟩
  · exact .inr (.inl ⟨a, xs, h1, h2, h3, h4, q⟩)
  · exact .inr (.inr ⟨d, ds, h1, h2, h3, h4, q⟩)⟩
/-! ### is None -/
def isN : D → Bool
  | .non => true
  | _ => false
def dIsN (x y : D) : Option D := match y with
  | .non => some (.bl (isN x))
  | _ => none
def dNotN (x y : D) : Option D := match y with
  | .non => some (.bl (!isN x))
  | _ => none
theorem isN_frz {K : PySem.W.Frag} {H : Hp} {x : D} {v : V} (h : Frz K H x v) : isN x = decide (v = .non) := by
  cases x <;> unfold Frz at h
  · subst h; rfl
  · subst h; rfl
  · subst h; rfl
  · subst h; rfl
  · obtain ⟨a, rfl, _⟩ := h; rfl
  · obtain ⟨a, xs, rfl, _⟩ := h; rfl
  · obtain ⟨a, xs, rfl, _⟩ := h; rfl
  · exact h.elim
  · exact h.elim
theorem cr_isN : CmpR X .Is dIsN := ⟨_, op_isN, fun H x y d v w Q z1 z2 e => by
  unfold dIsN at e; split at e
  · cases e
    unfold Frz at z2
    exact ⟨_, rfl, fun q => ⟨z2, by rw [← isN_frz z1]; exact q⟩⟩
  · cases e⟩
theorem cr_notN : CmpR X .IsNot dNotN := ⟨_, op_notN, fun H x y d v w Q z1 z2 e => by
  unfold dNotN at e; split at e
  · cases e
    unfold Frz at z2
    exact ⟨_, rfl, fun q => ⟨z2, by rw [← isN_frz z1]; exact q⟩⟩
  · cases e⟩
/-! ### comparisons as values and as tests -/
variable {op op' : CmpOp} {g g' : D → D → Option D}
theorem dv_cmp (h : CmpR X op g) (ha : DO X p fa a) (hb : DO X p fb b) (hm : behindInMarks op b = false := by first | exact nomark _ | rfl) : DV X p (eOp2 g fa fb) (.Compare a [op] [b] pos) := by
  obtain ⟨r, ho, hg⟩ := h
  exact dv_op2 (fun h1 h2 => pe_cmpR ho h1 h2 hm) ha hb fun H x y d v w Q z1 z2 e => by
    obtain ⟨c, rfl, q⟩ := hg H x y d v w Q z1 z2 e
    exact ⟨⟨_, rfl⟩, fun k => q (k _ rfl)⟩
def isB : D → Option Bool
  | .bl b => some b
  | _ => none
def bOp2 (g : D → D → Option D) (a b : Env → Out T) : Env → Out Bool := fun ρ => ((a ρ).bind fun t ρ1 => (b ρ1).bind fun u ρ2 => .ok (t, u) ρ2).bind fun tu ρ' => Out.of ((rd tu.1 ρ').bind fun x => (rd tu.2 ρ').bind fun y => (g x y).bind isB) ρ'
theorem dt_cmp (h : CmpR X op g) (ha : DO X p fa a) (hb : DO X p fb b) (hm : behindInMarks op b = false := by first | exact nomark _ | rfl) : DT X p (bOp2 g fa fb) (.Compare a [op] [b] pos) := by
  obtain ⟨r, ho, hg⟩ := h
  exact PT.weak (pt_cmpR ho ha hb hm) fun σ H Q ⟨ρ, F, fp, fr, anc, bb, A, s⟩ => two bb A (Sat.bind s) fun t u ρ' F' H' fp' v w q A' fw r1 r2 => by
    obtain ⟨d, e1, q⟩ := Sat.of q
    obtain ⟨x, ex, e1⟩ := Option.bind_eq_some_iff.mp e1
    obtain ⟨y, ey, e1⟩ := Option.bind_eq_some_iff.mp e1
    obtain ⟨z, ez, e1⟩ := Option.bind_eq_some_iff.mp e1
    obtain ⟨c, rfl, q2⟩ := hg H' x y z v w _ (r1.read A' ex) (r2.read A' ey) ez
    cases e1
    exact q2 ⟨_, rfl, q F' H' fp' A' fw⟩
/-- a op b op' c -/
def eChain (g g' : D → D → Option D) (a b c : Env → Out T) : Env → Out D := fun ρ => ((a ρ).bind fun t ρ1 => (b ρ1).bind fun u ρ2 => .ok (t, u) ρ2).bind fun tu ρ' =>
  (Out.of ((rd tu.1 ρ').bind fun x => (rd tu.2 ρ').bind fun y => (g x y).bind isB) ρ').bind fun k ρ' => if k = true then (c ρ').bind fun w ρ3 => Out.of ((rd tu.2 ρ3).bind fun y => (rd w ρ3).bind fun z => g' y z) ρ3 else .ok (.bl false) ρ'
theorem chain_core (h : CmpR X op g) (h' : CmpR X op' g') {σ : L2.St} {H : Hp} {Q : VK} {ρ : Env} {F : Hp} {fp : Nat → Option Addr} {fr : Addr → Prop} {anc : List (Nat × V)} (bb : anc.map (·.1) = p.bor) (A : At X.K p.tabs anc fr ρ F fp σ H)
    (s : Sat (eChain g g' fa fb fc ρ) (okV X.K p anc fr F H σ Q) (exD X.K X.mg p anc fr F H σ)) {r r' : R2} (hg : CmpOk X r g) (hg' : CmpOk X r' g') : tChain r r' (tO X.K X.mg p fa) (tO X.K X.mg p fb) (tO X.K X.mg p fc) σ H Q :=
  two bb A (Sat.bind s) fun t u ρ' F' H' fp' v w q A' fw r1 r2 => by
    obtain ⟨k, e1, q⟩ := Sat.of (Sat.bind q)
    obtain ⟨x, ex, e1⟩ := Option.bind_eq_some_iff.mp e1
    obtain ⟨y, ey, e1⟩ := Option.bind_eq_some_iff.mp e1
    obtain ⟨z, ez, e1⟩ := Option.bind_eq_some_iff.mp e1
    obtain ⟨c, rfl, q2⟩ := hg H' x y z v w _ (r1.read A' ex) (r2.read A' ey) ez
    cases e1
    refine q2 ⟨_, rfl, ?_⟩
    cases k with
    | false =>
      simp only [Bool.false_eq_true, if_false] at q ⊢
      exact q _ F' H' fp' A' fw (.flat rfl)
    | true =>
      simp only [if_true] at q ⊢
      refine ⟨ρ', F', fp', fr, anc, bb, A', (Sat.bind q).mono (fun w3 ρ3 q v3 F3 H3 fp3 A3 fw3 r3 => ?_) fun c d ρ' q => q.fwd fw⟩
      obtain ⟨d, e1, q⟩ := Sat.of q
      obtain ⟨y, ey, e1⟩ := Option.bind_eq_some_iff.mp e1
      obtain ⟨z, ez, e1⟩ := Option.bind_eq_some_iff.mp e1
      obtain ⟨c, rfl, q2⟩ := hg' H3 y z d w v3 _ ((r2.mono fw3.sub).read A3 ey) (r3.read A3 ez) e1
      exact q2 (q _ F3 H3 fp3 A3 (fw.trans fw3) (.flat rfl))
theorem dv_chain (h : CmpR X op g) (h' : CmpR X op' g') (ha : DO X p fa a) (hb : DO X p fb b) (hc : DO X p fc c) (hm : lastMarks [op, op'] [b, c] = false := by with_unfolding_all rfl) : DV X p (eChain g g' fa fb fc) (.Compare a [op, op'] [b, c] pos) := by
  obtain ⟨r, ho, hg⟩ := id h
  obtain ⟨r', ho', hg'⟩ := id h'
  exact PE.weak (pe_chain ho ho' ha hb hc hm) fun σ H Q ⟨ρ, F, fp, fr, anc, bb, A, s⟩ => chain_core h h' bb A s hg hg'
/-- a bool's value as a test -/
def bE (f : Env → Out D) : Env → Out Bool := fun ρ => (f ρ).bind fun d ρ' => Out.of (isB d) ρ'
theorem bE_q {σ : L2.St} {H : Hp} {Q : Bool → Hp → Prop} {ρ : Env} {F : Hp} {fr : Addr → Prop} {anc : List (Nat × V)} {f : Env → Out D} (s : Sat (bE f ρ) (okB X.K p anc fr F H σ Q) (exD X.K X.mg p anc fr F H σ)) :
    Sat (f ρ) (okV X.K p anc fr F H σ fun v H' => ∃ k, v = .bl k ∧ Q k H') (exD X.K X.mg p anc fr F H σ) :=
  (Sat.bind s).mono (fun d ρ' q v F' H' fp' A' fw z => by
    obtain ⟨k, e, q⟩ := Sat.of q
    cases d <;> first | cases e | skip
    unfold Frz at z
    exact ⟨_, z, q F' H' fp' A' fw⟩) fun c d ρ' q => q
theorem dt_chain (h : CmpR X op g) (h' : CmpR X op' g') (ha : DO X p fa a) (hb : DO X p fb b) (hc : DO X p fc c) (hm : lastMarks [op, op'] [b, c] = false := by with_unfolding_all rfl) : DT X p (bE (eChain g g' fa fb fc)) (.Compare a [op, op'] [b, c] pos) := by
  obtain ⟨r, ho, hg⟩ := id h
  obtain ⟨r', ho', hg'⟩ := id h'
  exact PT.weak (pt_chain ho ho' ha hb hc hm) fun σ H Q ⟨ρ, F, fp, fr, anc, bb, A, s⟩ => chain_core h h' bb A (bE_q s) hg hg'
theorem dt_val {f : Env → Out D} (h : DV X p f e) (he : ∀ whole, isTrue e X.env whole = (do let v ← whole; standAt e.pos; holding [v] (truthy v)) := by intro _; rfl) : DT X p (bE f) e :=
  PT.weak (pt_val h he) fun σ H Q ⟨ρ, F, fp, fr, anc, bb, A, s⟩ => ⟨ρ, F, fp, fr, anc, bb, A, bE_q s⟩
end
end Dv
end
section
set_option Elab.async false
set_option linter.all false
set_option maxRecDepth 100000
set_option maxHeartbeats 2000000
/-! The data layer: operators whose answer has a place, arguments, displays, places in a sequence, built-in functions. -/
namespace Dv
open PySem PySem.Spec PyProof.Rows L2 GxR
/-- data as it is read: a list's items are read only, the list itself stands now -/
def RdF (K : PySem.W.Frag) (F H : Hp) (d : D) (v : V) : Prop := match d with
  | .lst ds => ∃ a xs, v = .ref a ∧ H a = some (.lst xs) ∧ FrzL K F ds xs
  | d => Frz K F d v
theorem RdF.of {K : PySem.W.Frag} {F H : Hp} {d : D} {v : V} (s : Sub F H) (h : Frz K F d v) : RdF K F H d v := by
  cases d with
  | lst ds =>
    unfold Frz at h
    obtain ⟨a, xs, e, q, r⟩ := h
    exact ⟨a, xs, e, s _ _ q, r⟩
  | _ => exact h
theorem RdF.frz {K : PySem.W.Frag} {F H : Hp} {d : D} {v : V} (s : Sub F H) (h : RdF K F H d v) : Frz K H d v := by
  cases d with
  | lst ds =>
    obtain ⟨a, xs, e, q, r⟩ := h
    unfold Frz
    exact ⟨a, xs, e, q, r.mono s⟩
  | _ => exact Frz.mono s h
theorem Own.rdF {K : PySem.W.Frag} {F H : Hp} {d : D} {v : V} {fp : Option Addr} (s : Sub F H) (h : Own K F H d v fp) : RdF K F H (frz d) v := by
  cases d with
  | own ds =>
    obtain ⟨a, xs, e, _, q, r⟩ := h
    exact ⟨a, xs, e, q, r⟩
  | lck ds =>
    obtain ⟨a, xs, e, _, q, r⟩ := h
    exact ⟨a, xs, e, q, r⟩
  | _ => exact RdF.of s h.2
theorem TRel.rdF {K : PySem.W.Frag} {tabs : List Addr} {anc : List (Nat × V)} {fr : Addr → Prop} {ρ : Env} {F H : Hp} {fp : Nat → Option Addr} {σ : L2.St} {t : T} {v : V} {d : D} (A : At K tabs anc fr ρ F fp σ H) (h : TRel K F σ t v) (e : rd t ρ = some d) : RdF K F H d v := by
  cases t with
  | val d' => cases e; exact RdF.of A.sub h
  | «at» i =>
    unfold rd at e
    dsimp only at e
    split at e
    · rename_i d' hd
      cases e
      obtain ⟨v', e1, o⟩ := A.slot i d' hd
      rw [show σ[i]? = some (some v) from h] at e1
      cases e1
      exact o.rdF A.sub
    · cases e
/-- the items of a list, of a tuple -/
def lstOf : D → Option (List D)
  | .lst ds => some ds
  | .scr ns => some (ns.map D.int)
  | _ => none
def tupOf : D → Option (List D)
  | .tup ds => some ds
  | _ => none
theorem RdF.lst {K : PySem.W.Frag} {F H : Hp} {d : D} {v : V} {ds : List D} (s : Sub F H) (h : RdF K F H d v) (e : lstOf d = some ds) : ∃ a xs, v = .ref a ∧ SqL K H a xs ∧ FrzL K F ds xs := by
  cases d with
  | lst es =>
    cases e
    obtain ⟨a, xs, e, q, r⟩ := h
    exact ⟨a, xs, e, .of q, r⟩
  | scr ns =>
    cases e
    obtain ⟨a, e, q⟩ := (show Frz K F (.scr ns) v from h)
    exact ⟨a, _, e, s.sqL q, frzL_ints ns⟩
  | _ => cases e
theorem RdF.tup {K : PySem.W.Frag} {F H : Hp} {d : D} {v : V} {ds : List D} (s : Sub F H) (h : RdF K F H d v) (e : tupOf d = some ds) : ∃ a xs, v = .ref a ∧ SqT K H a xs ∧ FrzL K F ds xs ∧ SqT K F a xs := by
  cases d with
  | tup es =>
    cases e
    obtain ⟨a, xs, e, q, r⟩ := (show Frz K F (.tup _) v from h)
    exact ⟨a, xs, e, s.sqT q, r, q⟩
  | _ => cases e

section
variable {X : Cx} {p : Par} {a b c e : Expr} {fa fb fc : Env → Out T} {pos : Pos}
/-- an operator of two data -/
def OpOk (X : Cx) (p : Par) (r : R2) (g : D → D → Option D) : Prop := ∀ (anc : List (Nat × V)) (fr : Addr → Prop) (ρ : Env) (F : Hp) (fp : Nat → Option Addr) (σ : L2.St) (H : Hp) (x y d : D) (v w : V) (Q : VK),
  At X.K p.tabs anc fr ρ F fp σ H → RdF X.K F H x v → RdF X.K F H y w → g x y = some d → okD X.K p anc fr F H σ Q d ρ → r v w H Q
theorem de_op2 {r : R2} {g : D → D → Option D} (h : ∀ {ta tb : TE}, PE X a ta → PE X b tb → PE X e (tOp r ta tb)) (ha : DO X p fa a) (hb : DO X p fb b) (hg : OpOk X p r g) : DE X p (eOp2 g fa fb) e :=
  PE.weak (h ha hb) fun σ H Q ⟨ρ, F, fp, fr, anc, bb, A, s⟩ => two bb A (Sat.bind s) fun t u ρ' F' H' fp' v w q A' fw r1 r2 => by
    obtain ⟨d, e1, q⟩ := Sat.of q
    obtain ⟨x, ex, e1⟩ := Option.bind_eq_some_iff.mp e1
    obtain ⟨y, ey, e1⟩ := Option.bind_eq_some_iff.mp e1
    exact hg anc fr ρ' F' fp' σ H' x y d v w Q A' (r1.rdF A' ex) (r2.rdF A' ey) e1 fun v2 F2 H2 fp2 fd A2 fw2 o n => q v2 F2 H2 fp2 fd A2 (fw.trans fw2) o n
/-- answers: a value without a place; one that stands; a new tuple; a new list -/
theorem fin_flat {anc : List (Nat × V)} {fr : Addr → Prop} {ρ : Env} {F : Hp} {fp : Nat → Option Addr} {σ : L2.St} {H : Hp} {d : D} {v : V} {Q : VK} (A : At X.K p.tabs anc fr ρ F fp σ H) (k : okD X.K p anc fr F H σ Q d ρ) (h : flatOf d = some v) : Q v H :=
  k v F H fp none A Fwd.refl (.of (.flat h)) .none
theorem fin_frz {anc : List (Nat × V)} {fr : Addr → Prop} {ρ : Env} {F : Hp} {fp : Nat → Option Addr} {σ : L2.St} {H : Hp} {d : D} {v : V} {Q : VK} (A : At X.K p.tabs anc fr ρ F fp σ H) (k : okD X.K p anc fr F H σ Q d ρ) (h : Frz X.K F d v) : Q v H :=
  k v F H fp none A Fwd.refl (.of h) .none
theorem fin_tup {anc : List (Nat × V)} {fr : Addr → Prop} {ρ : Env} {F : Hp} {fp : Nat → Option Addr} {σ : L2.St} {H : Hp} {ds : List D} {xs : List V} {Q : VK} {q : Addr} (A : At X.K p.tabs anc fr ρ F fp σ H) (k : okD X.K p anc fr F H σ Q (.tup ds) ρ) (h : FrzL X.K F ds xs) (hq : H q = none) : Q (.ref q) (upd H q (.tup xs)) := by
  obtain ⟨A', fw⟩ := A.alloc (o := .tup xs) hq
  refine k _ _ _ fp none A' fw (.of ?_) .none
  unfold Frz
  exact ⟨q, xs, rfl, .of upd_same, h.mono fw.sub⟩
theorem fin_own {anc : List (Nat × V)} {fr : Addr → Prop} {ρ : Env} {F : Hp} {fp : Nat → Option Addr} {σ : L2.St} {H : Hp} {ds : List D} {xs : List V} {Q : VK} {q : Addr} (A : At X.K p.tabs anc fr ρ F fp σ H) (k : okD X.K p anc fr F H σ Q (.own ds) ρ) (h : FrzL X.K F ds xs) (hq : H q = none) : Q (.ref q) (upd H q (.lst xs)) := by
  obtain ⟨A', fw, n⟩ := A.allocO (xs := xs) hq
  exact k _ _ _ fp (some q) A' fw ⟨q, xs, rfl, rfl, upd_same, h⟩ n

/-! ### + and * -/
def dAdd : D → D → Option D
  | .int i, .int j => some (.int (i + j))
  | .str x, .str y => if x.length + y.length ≤ sizeLine then some (.str (x ++ y)) else none
  | .tup xs, .tup ys => if xs.length + ys.length ≤ sizeLine then some (.tup (xs ++ ys)) else none
  | .lst xs, .lst ys => if xs.length + ys.length ≤ sizeLine then some (.own (xs ++ ys)) else none
  | _, _ => none
theorem op_addD : OpOk X p (fun x y H Q => rI0 (fun i j => .int (i + j)) x y H Q ∨ (∃ i j, x = .str i ∧ y = .str j ∧ i.length + j.length ≤ sizeLine ∧ Q (.str (i ++ j)) H) ∨ rCatA X.K x y H Q ∨ rCat x y H Q) dAdd := by
  intro anc fr ρ F fp σ H x y d v w Q A h1 h2 e k
  unfold dAdd at e
  split at e
  · cases e
    simp only [RdF, Frz] at h1 h2
    exact .inl ⟨_, _, h1, h2, fin_flat A k rfl⟩
  · split at e
    · cases e
      simp only [RdF, Frz] at h1 h2
      exact .inr (.inl ⟨_, _, h1, h2, by assumption, fin_flat A k rfl⟩)
    · cases e
  · split at e
    · rename_i xs ys hz
      cases e
      obtain ⟨l, us, rfl, q1, r1, f1⟩ := RdF.tup A.sub h1 rfl
      obtain ⟨m, ws, rfl, q2, r2, f2⟩ := RdF.tup A.sub h2 rfl
      refine .inr (.inr (.inl ⟨l, m, us, ws, rfl, rfl, q1, q2, by rw [r1.length, r2.length]; exact hz, fun z => ?_, fun _ z => ?_, fun _ _ q hq => fin_tup A k (r1.append r2) hq⟩))
      · refine fin_frz A k ?_
        unfold Frz
        exact ⟨m, us ++ ws, rfl, by rw [z]; exact f2, r1.append r2⟩
      · refine fin_frz A k ?_
        unfold Frz
        exact ⟨l, us ++ ws, rfl, by rw [z, List.append_nil]; exact f1, r1.append r2⟩
    · cases e
  · split at e
    · rename_i xs ys hz
      cases e
      obtain ⟨l, us, rfl, q1, r1⟩ := h1
      obtain ⟨m, ws, rfl, q2, r2⟩ := h2
      exact .inr (.inr (.inr ⟨l, m, us, ws, rfl, rfl, q1, q2, by rw [r1.length, r2.length]; exact hz, fun q hq => fin_own A k (r1.append r2) hq⟩))
    · cases e
  · cases e
theorem de_add (ha : DO X p fa a) (hb : DO X p fb b) : DE X p (eOp2 dAdd fa fb) (.BinOp a .Add b pos) :=
  de_op2 (fun h1 h2 => pe_op (op_add.or (op_add_str.or (op_catA.or op_cat))) h1 h2) ha hb op_addD
theorem FrzL.rep {K : PySem.W.Frag} {F : Hp} {ds : List D} {xs : List V} (h : FrzL K F ds xs) : ∀ n : Nat, FrzL K F (List.replicate n ds).flatten (List.replicate n xs).flatten
  | 0 => .nil
  | n + 1 => by
    rw [List.replicate_succ, List.replicate_succ, List.flatten_cons, List.flatten_cons]
    exact h.append (h.rep n)
def dMul : D → D → Option D
  | .int i, .int j => if i.natAbs.log2 + j.natAbs.log2 < 1000000 then some (.int (i * j)) else none
  | .lst xs, .int k => if k < 2 ^ 63 ∧ -(2 ^ 63) ≤ k ∧ xs.length * k.toNat ≤ sizeLine then some (.own (List.replicate k.toNat xs).flatten) else none
  | .tup xs, .int k => if xs ≠ [] ∧ 2 ≤ k ∧ k ≤ 1000 ∧ xs.length ≤ 1000 then some (.tup (List.replicate k.toNat xs).flatten) else none
  | _, _ => none
theorem op_mulD : OpOk X p (fun x y H Q => rI CMulW (fun i j => .int (i * j)) x y H Q ∨ rRep x y H Q ∨ rRepT X.K x y H Q) dMul := by
  intro anc fr ρ F fp σ H x y d v w Q A h1 h2 e k
  unfold dMul at e
  split at e
  · split at e
    · cases e
      simp only [RdF, Frz] at h1 h2
      exact .inl ⟨_, _, h1, h2, by assumption, fin_flat A k rfl⟩
    · cases e
  · split at e
    · rename_i xs j hz
      cases e
      obtain ⟨l, us, rfl, q1, r1⟩ := h1
      simp only [RdF, Frz] at h2
      exact .inr (.inl ⟨l, j, us, rfl, h2, q1, hz.2.1, hz.1, by rw [r1.length]; exact hz.2.2, fun q hq => fin_own A k (r1.rep _) hq⟩)
    · cases e
  · split at e
    · rename_i xs j hz
      cases e
      obtain ⟨l, us, rfl, q1, r1, f1⟩ := RdF.tup A.sub h1 rfl
      simp only [RdF, Frz] at h2
      have hl := r1.length
      exact .inr (.inr ⟨l, j, us, rfl, h2, q1, fun z => hz.1 (by rw [z] at hl; exact List.eq_nil_of_length_eq_zero hl.symm), hz.2.1, hz.2.2.1, by rw [hl]; exact hz.2.2.2, fun q hq => fin_tup A k (r1.rep _) hq⟩)
    · cases e
  · cases e
theorem de_mul (ha : DO X p fa a) (hb : DO X p fb b) : DE X p (eOp2 dMul fa fb) (.BinOp a .Mult b pos) :=
  de_op2 (fun h1 h2 => pe_op (op_mulW.or (op_rep.or op_repT)) h1 h2) ha hb op_mulD

/-! ### a place in a sequence -/
def dIx : D → D → Option D
  | .str z, .int i => if z.length ≤ sizeLine then (atI z.cps.toList i).map fun c => .str ⟨#[c]⟩ else none
  | x, .int i => match tupOf x with
    | some ds => atI ds i
    | none => (lstOf x).bind fun ds => atI ds i
  | _, _ => none
theorem FrzL.atI {K : PySem.W.Frag} {F : Hp} {ds : List D} {xs : List V} {i : Int} {d : D} (h : FrzL K F ds xs) (e : L2.atI ds i = some d) : ∃ v, L2.atI xs i = some v ∧ Frz K F d v := by
  unfold L2.atI at e ⊢
  rw [h.length]
  cases hj : ixN ds.length i with
  | none => rw [hj] at e; cases e
  | some j =>
    rw [hj] at e
    obtain ⟨v, e1, q⟩ := h.get (show ds[j]? = some d from e)
    exact ⟨v, e1, q⟩
theorem op_ixD : OpOk X p (rIx X.K) dIx := by
  intro anc fr ρ F fp σ H x y d v w Q A h1 h2 e k
  unfold dIx at e
  split at e
  · split at e
    · rename_i z i hz
      obtain ⟨c, ec, e⟩ := Option.map_eq_some_iff.mp e
      subst e
      simp only [RdF, Frz] at h1 h2
      exact .inr (.inr ⟨z, i, c, h1, h2, hz, ec, fin_flat A k rfl⟩)
    · cases e
  · rename_i i _
    simp only [RdF, Frz] at h2
    subst h2
    split at e
    · rename_i ds hd
      obtain ⟨l, us, rfl, q1, r1, f1⟩ := RdF.tup A.sub h1 hd
      obtain ⟨u, e1, q⟩ := r1.atI e
      exact .inr (.inl ⟨l, us, i, u, rfl, rfl, q1, e1, fin_frz A k q⟩)
    · obtain ⟨ds, hd, e⟩ := Option.bind_eq_some_iff.mp e
      obtain ⟨l, us, rfl, q1, r1⟩ := RdF.lst A.sub h1 hd
      obtain ⟨u, e1, q⟩ := r1.atI e
      exact .inl ⟨l, us, i, u, rfl, rfl, q1, e1, fin_frz A k q⟩
  · cases e
/-- items are read only -/
theorem dv_fr {f : Env → Out D} {e : Expr} (h : DE X p f e) (hf : ∀ ρ d ρ', f ρ = .ok d ρ' → frz d = d) : DV X p f e := PE.weak (dv_of h) fun σ H Q ⟨ρ, F, fp, fr, anc, bb, A, s⟩ => by
  refine ⟨ρ, F, fp, fr, anc, bb, A, ?_⟩
  unfold eFrz
  cases e1 : f ρ with
  | ok d ρ' =>
    rw [e1] at s
    rw [Out.bind_ok, hf _ _ _ e1]
    exact s
  | exc c d ρ' => rw [e1] at s; exact s
  | bad => rw [e1] at s; exact s.elim
theorem de_ix (ha : DO X p fa a) (hb : DO X p fb b) (hs : PlainIx b := by intro _ _; rfl) : DE X p (eOp2 dIx fa fb) (.Subscript a b pos) :=
  de_op2 (fun h1 h2 => pe_ix ix_seq h1 h2 hs) ha hb op_ixD
end
end Dv
end
section
set_option Elab.async false
set_option linter.all false
set_option maxRecDepth 100000
set_option maxHeartbeats 2000000
/-! The data layer: arguments, displays, slices, built-in functions, and/or/not, tests. -/
namespace Dv
open PySem PySem.Spec PyProof.Rows L2 GxR
/-! ### arguments -/
def argsO : List (Env → Out T) → Env → Out (List T)
  | [], ρ => .ok [] ρ
  | f :: fs, ρ => (f ρ).bind fun t ρ1 => (argsO fs ρ1).bind fun ts ρ2 => .ok (t :: ts) ρ2
def rdAll : List T → Env → Option (List D)
  | [], _ => some []
  | t :: ts, ρ => (rd t ρ).bind fun d => (rdAll ts ρ).map fun ds => d :: ds
def tAr (K : PySem.W.Frag) (mg : Str → Option Value) (p : Par) (fs : List (Env → Out T)) : TA := fun σ H Q => ∃ ρ F fp fr anc, anc.map (·.1) = p.bor ∧ At K p.tabs anc fr ρ F fp σ H ∧
  Sat (argsO fs ρ) (fun ts ρ' => ∀ vs F' H' fp', At K p.tabs anc fr ρ' F' fp' σ H' → Fwd fr F H F' H' → Paired (TRel K F' σ) ts vs → Q vs H') (exD K mg p anc fr F H σ)
def DA (X : Cx) (p : Par) (fs : List (Env → Out T)) (es : List Expr) : Prop := PA X es (tAr X.K X.mg p fs)
theorem PA.weak {X : Cx} {es : List Expr} {t t' : TA} (h : PA X es t) (w : ∀ σ H Q, t' σ H Q → t σ H Q) : PA X es t' := ⟨fun pos pins s σ H Q I q => h.run pos pins s σ H Q I (w σ H Q q)⟩
theorem Paired.rel {α β : Type} {F G : α → β → Prop} : ∀ {l₁ : List α} {l₂ : List β}, Paired F l₁ l₂ → (∀ a b, F a b → G a b) → Paired G l₁ l₂
  | _, _, .nil, _ => .nil
  | _, _, .cons h t, k => .cons (k _ _ h) (Paired.rel t k)
section
variable {X : Cx} {p : Par} {a b c e : Expr} {es : List Expr} {fs : List (Env → Out T)} {f fa fb fc : Env → Out T} {pos : Pos}
theorem da_nil : DA X p [] [] := PA.weak pa_nil fun σ H Q ⟨ρ, F, fp, fr, anc, bb, A, s⟩ => s [] F H fp A Fwd.refl .nil
theorem da_cons (he : DO X p f e) (hr : DA X p fs es) (hs : starEach (e :: es) X.env = (false, eval e X.env) :: starEach es X.env := by rfl) : DA X p (f :: fs) (e :: es) :=
  PA.weak (pa_cons he hr hs) fun σ H Q ⟨ρ, F, fp, fr, anc, bb, A, s⟩ => by
    refine ⟨ρ, F, fp, fr, anc, bb, A, (Sat.bind s).mono (fun t ρ1 s1 v F1 H1 fp1 A1 fw1 r1 => ?_) fun c d ρ' q => q⟩
    refine ⟨ρ1, F1, fp1, fr, anc, bb, A1, (Sat.bind s1).mono (fun ts ρ2 s2 vs F2 H2 fp2 A2 fw2 r2 => ?_) fun c d ρ' q => q.fwd fw1⟩
    exact s2 (v :: vs) F2 H2 fp2 A2 (fw1.trans fw2) (.cons (r1.mono fw2.sub) r2)
theorem rdAll_rel {K : PySem.W.Frag} {tabs : List Addr} {anc : List (Nat × V)} {fr : Addr → Prop} {ρ : Env} {F H : Hp} {fp : Nat → Option Addr} {σ : L2.St} (A : At K tabs anc fr ρ F fp σ H) : ∀ {ts : List T} {vs : List V} {ds : List D}, Paired (TRel K F σ) ts vs → rdAll ts ρ = some ds → Paired (RdF K F H) ds vs
  | [], _, ds, .nil, e => by cases e; exact .nil
  | t :: ts, _, ds, .cons h r, e => by
    unfold rdAll at e
    obtain ⟨d, e1, e⟩ := Option.bind_eq_some_iff.mp e
    obtain ⟨ds', e2, e⟩ := Option.map_eq_some_iff.mp e
    subst e
    exact .cons (h.rdF A e1) (rdAll_rel A r e2)
/-- a built-in function of data -/
def CallOk (X : Cx) (p : Par) (r : List V → Hp → VK → Prop) (g : List D → Option D) : Prop := ∀ (anc : List (Nat × V)) (fr : Addr → Prop) (ρ : Env) (F : Hp) (fp : Nat → Option Addr) (σ : L2.St) (H : Hp) (ds : List D) (d : D) (vs : List V) (Q : VK),
  At X.K p.tabs anc fr ρ F fp σ H → Paired (RdF X.K F H) ds vs → g ds = some d → okD X.K p anc fr F H σ Q d ρ → r vs H Q
def eCall (g : List D → Option D) (fs : List (Env → Out T)) : Env → Out D := fun ρ => (argsO fs ρ).bind fun ts ρ' => Out.of ((rdAll ts ρ').bind g) ρ'
theorem de_callX {r : List V → Hp → VK → Prop} {g : List D → Option D} (h : ∀ {t : TA}, PA X es t → PE X e (tCB r t)) (hk : CallOk X p r g) (ha : DA X p fs es) : DE X p (eCall g fs) e :=
  PE.weak (h ha) fun σ H Q ⟨ρ, F, fp, fr, anc, bb, A, s⟩ => by
    refine ⟨ρ, F, fp, fr, anc, bb, A, (Sat.bind s).mono (fun ts ρ1 s1 vs F1 H1 fp1 A1 fw1 r1 => ?_) fun c d ρ' q => q⟩
    obtain ⟨d, e1, q⟩ := Sat.of s1
    obtain ⟨ds, e2, e1⟩ := Option.bind_eq_some_iff.mp e1
    exact hk anc fr ρ1 F1 fp1 σ H1 ds d vs Q A1 (rdAll_rel A1 r1 e2) e1 fun v2 F2 H2 fp2 fd A2 fw2 o n => q v2 F2 H2 fp2 fd A2 (fw1.trans fw2) o n
theorem de_callB {id : String} {x : Str} {pp : Pos} {r : List V → Hp → VK → Prop} {g : List D → Option D} (hc : CallR X (.builtin id) r) (hk : CallOk X p r g) (hg : Gl X x) (hm : X.mg x = none) (hv : bootBuiltins x = some (.builtin id)) (ha : DA X p fs (e :: es)) (hn : x ≠ "__name__" := by decide) (hdb : (x == ("__debug__" : Str)) = false := by decide)
    (he : starEach (e :: es) X.env = (false, eval e X.env) :: starEach es X.env := by rfl) (hpl : (backTo pos (starEach es X.env)).any (·.1) = false := by rfl) : DE X p (eCall g fs) (.Call (.Name x pp) (e :: es) [] pos) := de_callX (fun h => pe_callB hc hg hm hv h hn hdb he hpl) hk ha
theorem de_callTy {T : String} {x : Str} {pp : Pos} {r : List V → Hp → VK → Prop} {g : List D → Option D} (hc : CallR X (.type T) r) (hk : CallOk X p r g) (hg : Gl X x) (hm : X.mg x = none) (hv : bootBuiltins x = some (.type T)) (ha : DA X p fs (e :: es)) (hn : x ≠ "__name__" := by decide) (hdb : (x == ("__debug__" : Str)) = false := by decide)
    (he : starEach (e :: es) X.env = (false, eval e X.env) :: starEach es X.env := by rfl) (hpl : (backTo pos (starEach es X.env)).any (·.1) = false := by rfl) : DE X p (eCall g fs) (.Call (.Name x pp) (e :: es) [] pos) := de_callX (fun h => pe_callTy hc hg hm hv h hn hdb he hpl) hk ha
theorem paired1 {R : D → V → Prop} {d : D} {vs : List V} (h : Paired R [d] vs) : ∃ v, vs = [v] ∧ R d v := by
  cases h with
  | cons h t => cases t; exact ⟨_, rfl, h⟩
theorem paired2 {R : D → V → Prop} {d e : D} {vs : List V} (h : Paired R [d, e] vs) : ∃ v w, vs = [v, w] ∧ R d v ∧ R e w := by
  cases h with
  | cons h t =>
    obtain ⟨w, rfl, q⟩ := paired1 t
    exact ⟨_, w, rfl, h, q⟩
/-- len -/
def dLen : List D → Option D
  | [.str z] => if z.length ≤ sizeLine then some (.int (z.length : Nat)) else none
  | [x] => match tupOf x with
    | some ds => some (.int (ds.length : Nat))
    | none => (lstOf x).map fun ds => .int (ds.length : Nat)
  | _ => none
theorem ok_len : CallOk X p (fun xs H Q => ∃ x n, xs = [x] ∧ LenV X.K x H n ∧ Q (.int n) H) dLen := by
  intro anc fr ρ F fp σ H ds d vs Q A h e k
  unfold dLen at e
  split at e
  · split at e
    · rename_i z hz
      cases e
      obtain ⟨v, rfl, h1⟩ := paired1 h
      simp only [RdF, Frz] at h1
      exact ⟨v, z.length, rfl, by rw [h1]; exact ⟨hz, rfl⟩, fin_flat A k rfl⟩
    · cases e
  · obtain ⟨v, rfl, h1⟩ := paired1 h
    split at e
    · rename_i es hd
      cases e
      obtain ⟨l, us, rfl, q1, r1, f1⟩ := RdF.tup A.sub h1 hd
      exact ⟨_, es.length, rfl, .inr ⟨us, q1, r1.length.symm⟩, fin_flat A k rfl⟩
    · obtain ⟨es, hd, e⟩ := Option.map_eq_some_iff.mp e
      subst e
      obtain ⟨l, us, rfl, q1, r1⟩ := RdF.lst A.sub h1 hd
      exact ⟨_, es.length, rfl, .inl ⟨us, q1, r1.length.symm⟩, fin_flat A k rfl⟩
  · cases e
/-- list(x), tuple(x) of a list or a tuple -/
def sqOf (x : D) : Option (List D) := match tupOf x with
  | some ds => some ds
  | none => lstOf x
def dList : List D → Option D
  | [x] => (sqOf x).map .own
  | _ => none
def dTuple : List D → Option D
  | [x] => (sqOf x).map .tup
  | _ => none
theorem ok_list : CallOk X p (fun xs H Q => ∃ p ys, xs = [.ref p] ∧ (SqL X.K H p ys ∨ SqT X.K H p ys) ∧ ∀ l, H l = none → Q (.ref l) (upd H l (.lst ys))) dList := by
  intro anc fr ρ F fp σ H ds d vs Q A h e k
  unfold dList at e
  split at e
  · obtain ⟨v, rfl, h1⟩ := paired1 h
    obtain ⟨es, hd, e⟩ := Option.map_eq_some_iff.mp e
    subst e
    unfold sqOf at hd
    split at hd
    · rename_i es' hd'
      cases hd
      obtain ⟨l, us, rfl, q1, r1, f1⟩ := RdF.tup A.sub h1 hd'
      exact ⟨l, us, rfl, .inr q1, fun q hq => fin_own A k r1 hq⟩
    · obtain ⟨l, us, rfl, q1, r1⟩ := RdF.lst A.sub h1 hd
      exact ⟨l, us, rfl, .inl q1, fun q hq => fin_own A k r1 hq⟩
  · cases e
theorem ok_tuple : CallOk X p (fun xs H Q => ∃ p ys, xs = [.ref p] ∧ ((SqL X.K H p ys ∧ ∀ l, H l = none → Q (.ref l) (upd H l (.tup ys))) ∨ (SqT X.K H p ys ∧ Q (.ref p) H))) dTuple := by
  intro anc fr ρ F fp σ H ds d vs Q A h e k
  unfold dTuple at e
  split at e
  · obtain ⟨v, rfl, h1⟩ := paired1 h
    obtain ⟨es, hd, e⟩ := Option.map_eq_some_iff.mp e
    subst e
    unfold sqOf at hd
    split at hd
    · rename_i es' hd'
      cases hd
      obtain ⟨l, us, rfl, q1, r1, f1⟩ := RdF.tup A.sub h1 hd'
      refine ⟨l, us, rfl, .inr ⟨q1, fin_frz A k ?_⟩⟩
      unfold Frz
      exact ⟨l, us, rfl, f1, r1⟩
    · obtain ⟨l, us, rfl, q1, r1⟩ := RdF.lst A.sub h1 hd
      exact ⟨l, us, rfl, .inl ⟨q1, fun q hq => fin_tup A k r1 hq⟩⟩
  · cases e
/-- int(x), str(x) -/
def dInt : List D → Option D
  | [.int i] => some (.int i)
  | [.bl b] => some (.int (if b then 1 else 0))
  | [.str a] => if a.length ≤ 640 then (PySem.intText? a).map .int else none
  | _ => none
theorem ok_int : CallOk X p (fun xs H Q => ((∃ i, xs = [.int i] ∧ Q (.int i) H) ∨ ∃ k, xs = [.bl k] ∧ Q (.int (if k then 1 else 0)) H) ∨ ∃ a n, xs = [.str a] ∧ PySem.intText? a = some n ∧ a.length ≤ 640 ∧ Q (.int n) H) dInt := by
  intro anc fr ρ F fp σ H ds d vs Q A h e k
  unfold dInt at e
  split at e
  · cases e
    obtain ⟨v, rfl, h1⟩ := paired1 h
    simp only [RdF, Frz] at h1
    subst h1
    exact .inl (.inl ⟨_, rfl, fin_flat A k rfl⟩)
  · cases e
    obtain ⟨v, rfl, h1⟩ := paired1 h
    simp only [RdF, Frz] at h1
    subst h1
    exact .inl (.inr ⟨_, rfl, fin_flat A k rfl⟩)
  · split at e
    · obtain ⟨n, hn, e⟩ := Option.map_eq_some_iff.mp e
      subst e
      obtain ⟨v, rfl, h1⟩ := paired1 h
      simp only [RdF, Frz] at h1
      subst h1
      exact .inr ⟨_, n, rfl, hn, by assumption, fin_flat A k rfl⟩
    · cases e
  · cases e
def dStr : List D → Option D
  | [.int i] => if i.natAbs.log2 < 1920 then some (.str (toString i)) else none
  | _ => none
theorem ok_str : CallOk X p (fun xs H Q => ∃ i, xs = [.int i] ∧ i.natAbs.log2 < 1920 ∧ Q (.str (toString i)) H) dStr := by
  intro anc fr ρ F fp σ H ds d vs Q A h e k
  unfold dStr at e
  split at e
  · split at e
    · cases e
      obtain ⟨v, rfl, h1⟩ := paired1 h
      simp only [RdF, Frz] at h1
      subst h1
      exact ⟨_, rfl, by assumption, fin_flat A k rfl⟩
    · cases e
  · cases e
/-- ints of a sequence -/
def intsOf : List D → Option (List Int)
  | [] => some []
  | .int i :: ds => (intsOf ds).map fun ns => i :: ns
  | _ => none
theorem FrzL.ints {K : PySem.W.Frag} {F : Hp} : ∀ {ds : List D} {xs : List V} {ns : List Int}, FrzL K F ds xs → intsOf ds = some ns → xs = ns.map V.int
  | [], _, ns, h, e => by cases e; unfold FrzL at h; exact h
  | d :: ds, _, ns, h, e => by
    unfold FrzL at h
    obtain ⟨x, r, rfl, q, t⟩ := h
    cases d <;> unfold intsOf at e <;> first | cases e | skip
    obtain ⟨ms, e1, e⟩ := Option.map_eq_some_iff.mp e
    subst e
    unfold Frz at q
    rw [q, t.ints e1]; rfl
def dSum : List D → Option D
  | [x] => (lstOf x).bind fun ds => (intsOf ds).map fun ns => .int ns.sum
  | _ => none
theorem ok_sum : CallOk X p (rSum X.K) dSum := by
  intro anc fr ρ F fp σ H ds d vs Q A h e k
  unfold dSum at e
  split at e
  · obtain ⟨v, rfl, h1⟩ := paired1 h
    obtain ⟨es, hd, e⟩ := Option.bind_eq_some_iff.mp e
    obtain ⟨ns, hn, e⟩ := Option.map_eq_some_iff.mp e
    subst e
    obtain ⟨l, us, rfl, q1, r1⟩ := RdF.lst A.sub h1 hd
    exact ⟨l, ns, rfl, by rw [← r1.ints hn]; exact q1, fin_flat A k rfl⟩
  · cases e
/-- isinstance with a built-in type -/
def tyN : D → String
  | .non => "NoneType"
  | .bl _ => "bool"
  | .int _ => "int"
  | .str _ => "str"
  | .scr _ => "list"
  | .tup _ => "tuple"
  | .lst _ => "list"
  | .own _ => "list"
  | .lck _ => "list"
inductive Ty5 where
  | tup | lst | int | bl | str
def Ty5.n : Ty5 → String
  | .tup => "tuple"
  | .lst => "list"
  | .int => "int"
  | .bl => "bool"
  | .str => "str"
def isI : Ty5 → D → Bool
  | .tup, .tup _ => true
  | .lst, .lst _ => true
  | .lst, .scr _ => true
  | .lst, .own _ => true
  | .lst, .lck _ => true
  | .int, .int _ => true
  | .int, .bl _ => true
  | .bl, .bl _ => true
  | .str, .str _ => true
  | _, _ => false
theorem kit_isI (t : Ty5) (d : D) : kitB (tyN d) t.n = some (isI t d) := by
  cases t <;> cases d <;> simp only [tyN, Ty5.n, isI] <;> decide +kernel
theorem ty_seqL {K : PySem.W.Frag} {H : Hp} {a : Addr} {xs : List V} (h : SqL K H a xs) : TyX K H (.ref a) (.type "list") := by
  rcases h with (h | ⟨o, h⟩) | h
  · exact .base (.lst h)
  · exact .base (.frz h)
  · obtain ⟨o, _, _, h1, h2, _⟩ := h
    exact .kList h1 h2
theorem ty_seqT {K : PySem.W.Frag} {H : Hp} {a : Addr} {xs : List V} (h : SqT K H a xs) : TyX K H (.ref a) (.type "tuple") := by
  rcases h with (h | ⟨o, h⟩) | h
  · exact .base (.tup h)
  · exact .fTuple h
  · obtain ⟨o, _, _, h1, h2, _⟩ := h
    exact .kTuple h1 h2
theorem RdF.ty {K : PySem.W.Frag} {F H : Hp} {d : D} {v : V} (s : Sub F H) (h : RdF K F H d v) : TyX K H v (.type (tyN d)) := by
  cases d with
  | non => simp only [RdF, Frz] at h; subst h; exact .base .non
  | bl b => simp only [RdF, Frz] at h; subst h; exact .base (.bl b)
  | int b => simp only [RdF, Frz] at h; subst h; exact .base (.int b)
  | str b => simp only [RdF, Frz] at h; subst h; exact .base (.str b)
  | scr ns =>
    obtain ⟨a, xs, rfl, q, _⟩ := RdF.lst s h rfl
    exact ty_seqL q
  | tup ns =>
    obtain ⟨a, xs, rfl, q, _⟩ := RdF.tup s h rfl
    exact ty_seqT q
  | lst ns =>
    obtain ⟨a, xs, rfl, q, _⟩ := RdF.lst s h rfl
    exact ty_seqL q
  | own ns => simp only [RdF, Frz] at h
  | lck ns => simp only [RdF, Frz] at h
def eIsi (t : Ty5) (f : Env → Out T) : Env → Out D := fun ρ => (f ρ).bind fun o ρ' => Out.of ((rd o ρ').map fun d => .bl (isI t d)) ρ'
theorem dv_isi {t : Ty5} {x : Str} {p1 p2 : Pos} (hg : Gl X "isinstance") (hm : X.mg "isinstance" = none) (hx : Gl X x) (hmx : X.mg x = none) (hv : bootBuiltins x = some (.type t.n)) (ha : DO X p f e) (hn : x ≠ "__name__" := by decide) (hd : (x == ("__debug__" : Str)) = false := by decide)
    (hs : starEach [e, .Name x p2] X.env = (false, eval e X.env) :: starEach [.Name x p2] X.env := by rfl) : DV X p (eIsi t f) (.Call (.Name "isinstance" p1) [e, .Name x p2] [] pos) := by
  have c : PE X (.Name x p2) (tC (.ty t.n)) := pe_bltn hx hmx hv rfl hn hd
  refine PE.weak (pe_callB call_isi hg hm rfl (pa_cons ha (pa_cons c pa_nil) hs) (he := hs)) fun σ H Q ⟨ρ, F, fp, fr, anc, bb, A, s⟩ => ?_
  refine ⟨ρ, F, fp, fr, anc, bb, A, (Sat.bind s).mono (fun o ρ1 s1 v F1 H1 fp1 A1 fw1 r1 => ?_) fun c d ρ' q => q⟩
  obtain ⟨d, e1, q⟩ := Sat.of s1
  obtain ⟨y, e2, e1⟩ := Option.map_eq_some_iff.mp e1
  subst e1
  exact ⟨v, .ty t.n, _, _, _, rfl, .ty _, RdF.ty A1.sub (r1.rdF A1 e2), kit_ty (kit_isI t y), q _ F1 H1 fp1 A1 fw1 (.flat rfl)⟩

/-! ### displays -/
def vals : List T → Option (List D)
  | [] => some []
  | .val d :: ts => (vals ts).map fun ds => d :: ds
  | _ => none
theorem vals_rel {K : PySem.W.Frag} {F : Hp} {σ : L2.St} : ∀ {ts : List T} {vs : List V} {ds : List D}, Paired (TRel K F σ) ts vs → vals ts = some ds → FrzL K F ds vs
  | [], _, ds, .nil, e => by cases e; exact .nil
  | t :: ts, _, ds, .cons h r, e => by
    cases t with
    | val d =>
      unfold vals at e
      obtain ⟨ds', e2, e⟩ := Option.map_eq_some_iff.mp e
      subst e
      exact .cons h (vals_rel r e2)
    | «at» i => cases e
def eTup (fs : List (Env → Out T)) : Env → Out D := fun ρ => (argsO fs ρ).bind fun ts ρ' => Out.of ((vals ts).bind fun ds => if ds.length ≤ sizeLine then some (.tup ds) else none) ρ'
def eLst (fs : List (Env → Out T)) : Env → Out D := fun ρ => (argsO fs ρ).bind fun ts ρ' => Out.of ((vals ts).bind fun ds => if ds.length ≤ sizeLine then some (.own ds) else none) ρ'
theorem dv_tup {x1} (ha : DA X p fs es) : DV X p (eTup fs) (.Tuple es x1 pos) := PE.weak (pe_tup ha) fun σ H Q ⟨ρ, F, fp, fr, anc, bb, A, s⟩ => by
  refine ⟨ρ, F, fp, fr, anc, bb, A, (Sat.bind s).mono (fun ts ρ1 s1 vs F1 H1 fp1 A1 fw1 r1 => ?_) fun c d ρ' q => q⟩
  obtain ⟨d, e1, q⟩ := Sat.of s1
  obtain ⟨ds, e2, e1⟩ := Option.bind_eq_some_iff.mp e1
  split at e1
  · cases e1
    have h := vals_rel r1 e2
    refine ⟨by rw [h.length]; assumption, fun a ha => ?_⟩
    obtain ⟨A2, fw2⟩ := A1.alloc (o := .tup vs) ha
    refine q _ _ _ fp1 A2 (fw1.trans fw2) ?_
    unfold Frz
    exact ⟨a, vs, rfl, .of upd_same, h.mono fw2.sub⟩
  · cases e1
theorem de_lst (ha : DA X p fs es) : DE X p (eLst fs) (.List es pos) := PE.weak (pe_lst ha) fun σ H Q ⟨ρ, F, fp, fr, anc, bb, A, s⟩ => by
  refine ⟨ρ, F, fp, fr, anc, bb, A, (Sat.bind s).mono (fun ts ρ1 s1 vs F1 H1 fp1 A1 fw1 r1 => ?_) fun c d ρ' q => q⟩
  obtain ⟨d, e1, q⟩ := Sat.of s1
  obtain ⟨ds, e2, e1⟩ := Option.bind_eq_some_iff.mp e1
  split at e1
  · cases e1
    have h := vals_rel r1 e2
    refine ⟨by rw [h.length]; assumption, fun a ha => ?_⟩
    obtain ⟨A2, fw2, n⟩ := A1.allocO (xs := vs) ha
    exact q _ _ _ fp1 (some a) A2 (fw1.trans fw2) ⟨a, vs, rfl, rfl, upd_same, h⟩ n
  · cases e1

/-! ### slices -/
def dPart : D → Option (Option Int)
  | .int i => some (some i)
  | _ => none
def ePart (f : Option (Env → Out T)) : Env → Out (Option Int) := fun ρ => match f with
  | none => .ok none ρ
  | some f => (f ρ).bind fun t ρ' => Out.of ((rd t ρ').bind dPart) ρ'
def cutD {α : Type} (xs : List α) (lo hi : Option Int) : List α := (xs.drop (HT.sIx xs.length 0 lo)).take (HT.sIx xs.length xs.length hi - HT.sIx xs.length 0 lo)
theorem FrzL.cut {K : PySem.W.Frag} {F : Hp} {ds : List D} {xs : List V} (h : FrzL K F ds xs) (lo hi : Option Int) : FrzL K F (cutD ds lo hi) (cutV xs lo hi) := by
  unfold cutD cutV
  rw [h.length]
  exact (h.drop _).take _
def dSl (x : D) (lo hi : Option Int) : Option D := match x with
  | .str z => if z.length ≤ sizeLine then some (.str (cutS z lo hi)) else none
  | x => match tupOf x with
    | some ds => some (.tup (cutD ds lo hi))
    | none => (lstOf x).map fun ds => .own (cutD ds lo hi)
def eSl (f : Env → Out T) (l h : Option (Env → Out T)) : Env → Out D := fun ρ => (f ρ).bind fun t ρ1 => (ePart l ρ1).bind fun lo ρ2 => (ePart h ρ2).bind fun hi ρ3 => Out.of ((rd t ρ3).bind fun x => dSl x lo hi) ρ3
def tPo (K : PySem.W.Frag) (mg : Str → Option Value) (p : Par) (f : Option (Env → Out T)) : TO := fun σ H Q => ∃ ρ F fp fr anc, anc.map (·.1) = p.bor ∧ At K p.tabs anc fr ρ F fp σ H ∧
  Sat (ePart f ρ) (fun i ρ' => ∀ F' H' fp', At K p.tabs anc fr ρ' F' fp' σ H' → Fwd fr F H F' H' → Q i H') (exD K mg p anc fr F H σ)
def DP (X : Cx) (p : Par) (f : Option (Env → Out T)) (e : Option Expr) : Prop := PO X e (tPo X.K X.mg p f)
theorem PO.weak {X : Cx} {e : Option Expr} {t t' : TO} (h : PO X e t) (w : ∀ σ H Q, t' σ H Q → t σ H Q) : PO X e t' := ⟨fun pins s σ H Q I q => h.run pins s σ H Q I (w σ H Q q)⟩
theorem dp_none : DP X p none none := PO.weak po_none fun σ H Q ⟨ρ, F, fp, fr, anc, bb, A, s⟩ => s F H fp A Fwd.refl
theorem dp_some (h : DO X p f e) : DP X p (some f) (some e) := PO.weak (po_some h) fun σ H Q ⟨ρ, F, fp, fr, anc, bb, A, s⟩ => by
  refine ⟨ρ, F, fp, fr, anc, bb, A, (Sat.bind s).mono (fun t ρ1 s1 v F1 H1 fp1 A1 fw1 r1 => ?_) fun c d ρ' q => q⟩
  obtain ⟨o, e1, q⟩ := Sat.of s1
  obtain ⟨d, e2, e1⟩ := Option.bind_eq_some_iff.mp e1
  have z := r1.rdF A1 e2
  unfold dPart at e1
  split at e1
  · cases e1
    simp only [RdF, Frz] at z
    exact ⟨_, z, q F1 H1 fp1 A1 fw1⟩
  · cases e1
theorem de_sl {lo hi : Option Expr} {l h : Option (Env → Out T)} {p2 : Pos} (hf : DO X p f e) (hl : DP X p l lo) (hh : DP X p h hi) : DE X p (eSl f l h) (.Subscript e (.Slice lo hi none p2) pos) :=
  PE.weak (pe_slice (sl_list.or (sl_tupA.or sl_str)) hf hl hh) fun σ H Q ⟨ρ, F, fp, fr, anc, bb, A, s⟩ => by
    refine ⟨ρ, F, fp, fr, anc, bb, A, (Sat.bind s).mono (fun t ρ1 s1 v F1 H1 fp1 A1 fw1 r1 => ?_) fun c d ρ' q => q⟩
    refine ⟨ρ1, F1, fp1, fr, anc, bb, A1, (Sat.bind s1).mono (fun i ρ2 s2 F2 H2 fp2 A2 fw2 => ?_) fun c d ρ' q => q.fwd fw1⟩
    refine ⟨ρ2, F2, fp2, fr, anc, bb, A2, (Sat.bind s2).mono (fun j ρ3 s3 F3 H3 fp3 A3 fw3 => ?_) fun c d ρ' q => q.fwd (fw1.trans fw2)⟩
    obtain ⟨d, e1, q⟩ := Sat.of s3
    obtain ⟨x, e2, e1⟩ := Option.bind_eq_some_iff.mp e1
    have z := (r1.mono (fw2.sub.trans fw3.sub)).rdF A3 e2
    have k : okD X.K p anc fr F3 H3 σ Q d ρ3 := fun v4 F4 H4 fp4 fd A4 fw4 o n => q v4 F4 H4 fp4 fd A4 (((fw1.trans fw2).trans fw3).trans fw4) o n
    unfold dSl at e1
    split at e1
    · split at e1
      · cases e1
        simp only [RdF, Frz] at z
        exact .inr (.inr ⟨_, z, by assumption, fin_flat A3 k rfl⟩)
      · cases e1
    · split at e1
      · rename_i ds hd
        cases e1
        obtain ⟨a, us, rfl, q1, r1, f1⟩ := RdF.tup A3.sub z hd
        refine .inr (.inl ⟨a, us, rfl, q1, fun hw => fin_frz A3 k ?_, fun hw a ha => fin_tup A3 k (r1.cut i j) ha⟩)
        unfold Frz
        refine ⟨a, us, rfl, f1, ?_⟩
        have := r1.cut i j
        have e : cutV us i j = us := by
          unfold cutV
          rw [hw.1, hw.2, List.drop_zero, Nat.sub_zero, List.take_length]
        rw [e] at this
        exact this
      · obtain ⟨ds, hd, e1⟩ := Option.map_eq_some_iff.mp e1
        subst e1
        obtain ⟨a, us, rfl, q1, r1⟩ := RdF.lst A3.sub z hd
        exact .inl ⟨a, us, rfl, q1, fun a ha => fin_own A3 k (r1.cut i j) ha⟩

/-! ### and, or, not, if -/
def eAnd (f g : Env → Out D) : Env → Out D := fun ρ => (f ρ).bind fun d ρ1 => match d with
  | .bl true => g ρ1
  | .bl false => .ok (.bl false) ρ1
  | _ => .bad
def eOr (f g : Env → Out D) : Env → Out D := fun ρ => (f ρ).bind fun d ρ1 => match d with
  | .bl true => .ok (.bl true) ρ1
  | .bl false => g ρ1
  | _ => .bad
def eNot (f : Env → Out D) : Env → Out D := fun ρ => (f ρ).bind fun d ρ1 => match d with
  | .bl b => .ok (.bl (!b)) ρ1
  | _ => .bad
def eIf (c : Env → Out Bool) (f g : Env → Out D) : Env → Out D := fun ρ => (c ρ).bind fun b ρ1 => if b = true then f ρ1 else g ρ1
variable {ga gb gc : Env → Out D} {ba bb' bc : Env → Out Bool} {rest : List Expr}
theorem Sat.okV_fwd {o : Out D} {anc : List (Nat × V)} {fr : Addr → Prop} {F H F1 H1 : Hp} {σ : L2.St} {Q : VK} (fw : Fwd fr F H F1 H1) (s : Sat o (okV X.K p anc fr F H σ Q) (exD X.K X.mg p anc fr F H σ)) : Sat o (okV X.K p anc fr F1 H1 σ Q) (exD X.K X.mg p anc fr F1 H1 σ) :=
  s.mono (fun d ρ' q v F' H' fp' A' fw' z => q v F' H' fp' A' (fw.trans fw') z) fun c d ρ' q => q.fwd fw
theorem Sat.okD_fwd {o : Out D} {anc : List (Nat × V)} {fr : Addr → Prop} {F H F1 H1 : Hp} {σ : L2.St} {Q : VK} (fw : Fwd fr F H F1 H1) (s : Sat o (okD X.K p anc fr F H σ Q) (exD X.K X.mg p anc fr F H σ)) : Sat o (okD X.K p anc fr F1 H1 σ Q) (exD X.K X.mg p anc fr F1 H1 σ) :=
  s.mono (fun d ρ' q v F' H' fp' fd A' fw' o n => q v F' H' fp' fd A' (fw.trans fw') o n) fun c d ρ' q => q.fwd fw
theorem Sat.okB_fwd {o : Out Bool} {anc : List (Nat × V)} {fr : Addr → Prop} {F H F1 H1 : Hp} {σ : L2.St} {Q : Bool → Hp → Prop} (fw : Fwd fr F H F1 H1) (s : Sat o (okB X.K p anc fr F H σ Q) (exD X.K X.mg p anc fr F H σ)) : Sat o (okB X.K p anc fr F1 H1 σ Q) (exD X.K X.mg p anc fr F1 H1 σ) :=
  s.mono (fun d ρ' q F' H' fp' A' fw' => q F' H' fp' A' (fw.trans fw')) fun c d ρ' q => q.fwd fw
theorem dv_one {op} (h : DV X p ga a) : DV X p ga (.BoolOp op [a] pos) := pe_one h
theorem dv_and (ha : DV X p ga a) (hb : DV X p gb (.BoolOp .And (b :: rest) pos)) : DV X p (eAnd ga gb) (.BoolOp .And (a :: b :: rest) pos) := PE.weak (pe_and ha hb) fun σ H Q ⟨ρ, F, fp, fr, anc, bb, A, s⟩ => by
  refine ⟨ρ, F, fp, fr, anc, bb, A, (Sat.bind s).mono (fun d ρ1 s1 v F1 H1 fp1 A1 fw1 r1 => ?_) fun c d ρ' q => q⟩
  split at s1
  · unfold Frz at r1
    exact ⟨true, r1, by rw [if_pos rfl]; exact ⟨ρ1, F1, fp1, fr, anc, bb, A1, s1.okV_fwd fw1⟩⟩
  · unfold Frz at r1
    exact ⟨false, r1, by rw [if_neg Bool.false_ne_true]; exact s1 _ F1 H1 fp1 A1 fw1 (.flat rfl)⟩
  · exact s1.elim
theorem dv_or (ha : DV X p ga a) (hb : DV X p gb (.BoolOp .Or (b :: rest) pos)) : DV X p (eOr ga gb) (.BoolOp .Or (a :: b :: rest) pos) := PE.weak (pe_or ha hb) fun σ H Q ⟨ρ, F, fp, fr, anc, bb, A, s⟩ => by
  refine ⟨ρ, F, fp, fr, anc, bb, A, (Sat.bind s).mono (fun d ρ1 s1 v F1 H1 fp1 A1 fw1 r1 => ?_) fun c d ρ' q => q⟩
  split at s1
  · unfold Frz at r1
    exact ⟨true, r1, by rw [if_pos rfl]; exact s1 _ F1 H1 fp1 A1 fw1 (.flat rfl)⟩
  · unfold Frz at r1
    exact ⟨false, r1, by rw [if_neg Bool.false_ne_true]; exact ⟨ρ1, F1, fp1, fr, anc, bb, A1, s1.okV_fwd fw1⟩⟩
  · exact s1.elim
theorem dv_not (ha : DV X p ga a) : DV X p (eNot ga) (.UnaryOp .Not a pos) := PE.weak (pe_not ha) fun σ H Q ⟨ρ, F, fp, fr, anc, bb, A, s⟩ => by
  refine ⟨ρ, F, fp, fr, anc, bb, A, (Sat.bind s).mono (fun d ρ1 s1 v F1 H1 fp1 A1 fw1 r1 => ?_) fun c d ρ' q => q⟩
  split at s1
  · unfold Frz at r1
    exact ⟨_, r1, s1 _ F1 H1 fp1 A1 fw1 (.flat rfl)⟩
  · exact s1.elim
theorem dv_if (hc : DT X p bc c) (ha : DV X p ga a) (hb : DV X p gb b) : DV X p (eIf bc ga gb) (.IfExp c a b pos) := PE.weak (pe_ifExp hc ha hb) fun σ H Q ⟨ρ, F, fp, fr, anc, bb, A, s⟩ => by
  refine ⟨ρ, F, fp, fr, anc, bb, A, (Sat.bind s).mono (fun k ρ1 s1 F1 H1 fp1 A1 fw1 => ?_) fun c d ρ' q => q⟩
  cases k with
  | true => exact ⟨ρ1, F1, fp1, fr, anc, bb, A1, Sat.okV_fwd fw1 s1⟩
  | false => exact ⟨ρ1, F1, fp1, fr, anc, bb, A1, Sat.okV_fwd fw1 s1⟩
theorem de_if (hc : DT X p bc c) (ha : DE X p ga a) (hb : DE X p gb b) : DE X p (eIf bc ga gb) (.IfExp c a b pos) := PE.weak (pe_ifExp hc ha hb) fun σ H Q ⟨ρ, F, fp, fr, anc, bb, A, s⟩ => by
  refine ⟨ρ, F, fp, fr, anc, bb, A, (Sat.bind s).mono (fun k ρ1 s1 F1 H1 fp1 A1 fw1 => ?_) fun c d ρ' q => q⟩
  cases k with
  | true => exact ⟨ρ1, F1, fp1, fr, anc, bb, A1, Sat.okD_fwd fw1 s1⟩
  | false => exact ⟨ρ1, F1, fp1, fr, anc, bb, A1, Sat.okD_fwd fw1 s1⟩
/-! tests -/
def bAnd (f g : Env → Out Bool) : Env → Out Bool := fun ρ => (f ρ).bind fun b ρ1 => if b = true then g ρ1 else .ok false ρ1
def bOr (f g : Env → Out Bool) : Env → Out Bool := fun ρ => (f ρ).bind fun b ρ1 => if b = true then .ok true ρ1 else g ρ1
def bNot (f : Env → Out Bool) : Env → Out Bool := fun ρ => (f ρ).bind fun b ρ1 => .ok (!b) ρ1
def DW (X : Cx) (p : Par) (f : Env → Out Bool) (e : Expr) : Prop := PW X e (tT X.K X.mg p f)
theorem dt_w (h : DW X p ba e) : DT X p ba e := PW.pt h
theorem dw_and1 (h : DT X p ba a) : DW X p ba (.BoolOp .And [a] pos) := pw_and1 h
theorem dw_or1 (h : DT X p ba a) : DW X p ba (.BoolOp .Or [a] pos) := pw_or1 h
theorem dw_and (ha : DT X p ba a) (hb : DW X p bb' (.BoolOp .And (b :: rest) pos)) : DW X p (bAnd ba bb') (.BoolOp .And (a :: b :: rest) pos) := PW.weak (pw_and ha hb) fun σ H Q ⟨ρ, F, fp, fr, anc, bb, A, s⟩ => by
  refine ⟨ρ, F, fp, fr, anc, bb, A, (Sat.bind s).mono (fun k ρ1 s1 F1 H1 fp1 A1 fw1 => ?_) fun c d ρ' q => q⟩
  cases k with
  | true => exact ⟨ρ1, F1, fp1, fr, anc, bb, A1, Sat.okB_fwd fw1 s1⟩
  | false => exact s1 F1 H1 fp1 A1 fw1
theorem dw_or (ha : DT X p ba a) (hb : DW X p bb' (.BoolOp .Or (b :: rest) pos)) : DW X p (bOr ba bb') (.BoolOp .Or (a :: b :: rest) pos) := PW.weak (pw_or ha hb) fun σ H Q ⟨ρ, F, fp, fr, anc, bb, A, s⟩ => by
  refine ⟨ρ, F, fp, fr, anc, bb, A, (Sat.bind s).mono (fun k ρ1 s1 F1 H1 fp1 A1 fw1 => ?_) fun c d ρ' q => q⟩
  cases k with
  | true => exact s1 F1 H1 fp1 A1 fw1
  | false => exact ⟨ρ1, F1, fp1, fr, anc, bb, A1, Sat.okB_fwd fw1 s1⟩
theorem dt_not (ha : DT X p ba a) : DT X p (bNot ba) (.UnaryOp .Not a pos) := PT.weak (pt_not ha) fun σ H Q ⟨ρ, F, fp, fr, anc, bb, A, s⟩ =>
  ⟨ρ, F, fp, fr, anc, bb, A, (Sat.bind s).mono (fun k ρ1 s1 F1 H1 fp1 A1 fw1 => s1 F1 H1 fp1 A1 fw1) fun c d ρ' q => q⟩
/-- an index's value is read only -/
theorem dv_ix (ha : DO X p fa a) (hb : DO X p fb b) (hs : PlainIx b := by intro _ _; rfl) : DV X p (eOp2 dIx fa fb) (.Subscript a b pos) :=
  PE.weak (pe_ix ix_seq ha hb hs) fun σ H Q ⟨ρ, F, fp, fr, anc, bb, A, s⟩ => two bb A (Sat.bind s) fun t u ρ' F' H' fp' v w q A' fw r1 r2 => by
    obtain ⟨d, e1, q⟩ := Sat.of q
    obtain ⟨x, ex, e1⟩ := Option.bind_eq_some_iff.mp e1
    obtain ⟨y, ey, e1⟩ := Option.bind_eq_some_iff.mp e1
    have h1 := r1.rdF A' ex
    have h2 := r2.rdF A' ey
    unfold dIx at e1
    split at e1
    · split at e1
      · obtain ⟨c, ec, e⟩ := Option.map_eq_some_iff.mp e1
        subst e
        simp only [RdF, Frz] at h1 h2
        exact .inr (.inr ⟨_, _, c, h1, h2, by assumption, ec, q _ F' H' fp' A' fw (.flat rfl)⟩)
      · cases e1
    · rename_i i _
      simp only [RdF, Frz] at h2
      subst h2
      split at e1
      · rename_i ds hd
        obtain ⟨l, us, rfl, q1, r1, f1⟩ := RdF.tup A'.sub h1 hd
        obtain ⟨u, e2, z⟩ := r1.atI e1
        exact .inr (.inl ⟨l, us, i, u, rfl, rfl, q1, e2, q _ F' H' fp' A' fw z⟩)
      · obtain ⟨ds, hd, e⟩ := Option.bind_eq_some_iff.mp e1
        obtain ⟨l, us, rfl, q1, r1⟩ := RdF.lst A'.sub h1 hd
        obtain ⟨u, e2, z⟩ := r1.atI e
        exact .inl ⟨l, us, i, u, rfl, rfl, q1, e2, q _ F' H' fp' A' fw z⟩
    · cases e1
end
end Dv
end
section
set_option Elab.async false
set_option linter.all false
set_option maxRecDepth 100000
set_option maxHeartbeats 2000000
/-! The data layer: statements. -/
namespace Dv
open PySem PySem.Spec PyProof.Rows L2 GxR
def Out.fl {α : Type} (o : Out α) (k : α → Env → Flow) : Flow := match o with
  | .ok a ρ => k a ρ
  | .exc c d ρ => .exc c d ρ
  | .bad => .bad
@[simp] theorem Out.fl_ok {α : Type} (a : α) (ρ : Env) (f : α → Env → Flow) : (Out.ok a ρ).fl f = f a ρ := rfl
@[simp] theorem Out.fl_exc {α : Type} (c : Str) (d : D) (ρ : Env) (f : α → Env → Flow) : (Out.exc c d ρ : Out α).fl f = .exc c d ρ := rfl
@[simp] theorem Out.fl_bad {α : Type} (f : α → Env → Flow) : (Out.bad : Out α).fl f = .bad := rfl
section
variable (K : PySem.W.Frag) (mg : Str → Option Value) (p : Par) (anc : List (Nat × V)) (fr : Addr → Prop) (F H : Hp)
def okS (N : L2.St → Hp → Prop) (ρ' : Env) : Prop := ∀ σ' F' H' fp', At K p.tabs anc fr ρ' F' fp' σ' H' → Fwd fr F H F' H' → N σ' H'
def FSat (D : Ends) (fl : Flow) : Prop := match fl with
  | .next ρ' => okS K p anc fr F H D.nx ρ'
  | .brk ρ' => okS K p anc fr F H D.bk ρ'
  | .cnt ρ' => okS K p anc fr F H D.ct ρ'
  | .ret d ρ' => ∀ v σ' F' H' fp' fd, At K p.tabs anc fr ρ' F' fp' σ' H' → Fwd fr F H F' H' → Own K F' H' d v fd → New fr F' H' fp' fd → D.rt v H'
  | .exc c d ρ' => ∀ cls dd σ' F' H' fp', At K p.tabs anc fr ρ' F' fp' σ' H' → Fwd fr F H F' H' → XIs K mg c d cls dd F' H' → p.W cls dd σ' H'
  | .bad => False
end
def tS (K : PySem.W.Frag) (mg : Str → Option Value) (p : Par) (f : Env → Flow) : TS := fun D σ H => ∃ ρ F fp fr anc, anc.map (·.1) = p.bor ∧ At K p.tabs anc fr ρ F fp σ H ∧ FSat K mg p anc fr F H D (f ρ)
def DS (X : Cx) (p : Par) (f : Env → Flow) (st : Stmt) : Prop := PS X st (tS X.K X.mg p f)
def DSs (X : Cx) (p : Par) (f : Env → Flow) (st : List Stmt) : Prop := PSs X st (tS X.K X.mg p f)
theorem PS.weak {X : Cx} {st : Stmt} {t t' : TS} (h : PS X st t) (w : ∀ σ H D, t' D σ H → t D σ H) : PS X st t' := ⟨fun pins s σ H D I q => h.run pins s σ H D I (w σ H D q)⟩
theorem PSs.weak {X : Cx} {st : List Stmt} {t t' : TS} (h : PSs X st t) (w : ∀ σ H D, t' D σ H → t D σ H) : PSs X st t' := ⟨fun pins s σ H D I q => h.run pins s σ H D I (w σ H D q)⟩
section
variable {K : PySem.W.Frag} {mg : Str → Option Value} {p : Par} {anc : List (Nat × V)} {fr : Addr → Prop} {F H F1 H1 : Hp} {D D' : Ends} {fl : Flow}
theorem okS.fwd {N : L2.St → Hp → Prop} {ρ : Env} (w : Fwd fr F H F1 H1) (h : okS K p anc fr F H N ρ) : okS K p anc fr F1 H1 N ρ := fun σ' F' H' fp' A g => h σ' F' H' fp' A (w.trans g)
theorem FSat.fwd (w : Fwd fr F H F1 H1) (h : FSat K mg p anc fr F H D fl) : FSat K mg p anc fr F1 H1 D fl := by
  cases fl with
  | next ρ' => exact okS.fwd w h
  | brk ρ' => exact okS.fwd w h
  | cnt ρ' => exact okS.fwd w h
  | ret d ρ' => exact fun v σ' F' H' fp' fd A g o n => h v σ' F' H' fp' fd A (w.trans g) o n
  | exc c d ρ' => exact fun cls dd σ' F' H' fp' A g x => h cls dd σ' F' H' fp' A (w.trans g) x
  | bad => exact h
theorem FSat.exd {c : Str} {d : Dv.D} {ρ : Env} {σ : L2.St} (h : FSat K mg p anc fr F H D (.exc c d ρ)) : exD K mg p anc fr F H σ c d ρ := fun cls dd F' H' fp' A g x => h cls dd σ F' H' fp' A g x
theorem FSat.un {α : Type} {o : Out α} {k : α → Env → Flow} {σ : L2.St} (h : FSat K mg p anc fr F H D (o.fl k)) : Sat o (fun a ρ' => FSat K mg p anc fr F H D (k a ρ')) (exD K mg p anc fr F H σ) := by
  cases o with
  | ok a ρ => exact h
  | exc c d ρ => exact FSat.exd h
  | bad => exact h
end
section
variable {X : Cx} {p : Par} {e a b c : Expr} {st : Stmt} {sts : List Stmt} {pos pos' : Pos}
/-! ### one after the other -/
def sNext : Env → Flow := fun ρ => .next ρ
def sSeq (f g : Env → Flow) : Env → Flow := fun ρ => match f ρ with
  | .next ρ' => g ρ'
  | x => x
theorem ds_nil : DSs X p sNext [] := PSs.weak pss_nil fun σ H D ⟨ρ, F, fp, fr, anc, bb, A, s⟩ => s σ F H fp A Fwd.refl
theorem ds_pass : DS X p sNext (.Pass pos) := PS.weak ps_pass fun σ H D ⟨ρ, F, fp, fr, anc, bb, A, s⟩ => s σ F H fp A Fwd.refl
theorem ds_cons {f g : Env → Flow} (h : DS X p f st) (k : DSs X p g sts) : DSs X p (sSeq f g) (st :: sts) := PSs.weak (pss_cons h k) fun σ H D ⟨ρ, F, fp, fr, anc, bb, A, s⟩ => by
  refine ⟨ρ, F, fp, fr, anc, bb, A, ?_⟩
  unfold sSeq at s
  cases e : f ρ with
  | next ρ' =>
    rw [e] at s
    exact fun σ' F' H' fp' A' fw => ⟨ρ', F', fp', fr, anc, bb, A', s.fwd fw⟩
  | _ => rw [e] at s; exact s
theorem ds_one {f : Env → Flow} (h : DS X p f st) : DSs X p f [st] := PSs.weak (pss_one h) fun σ H D q => q
def sBrk : Env → Flow := fun ρ => .brk ρ
def sCnt : Env → Flow := fun ρ => .cnt ρ
theorem ds_brk : DS X p sBrk (.Break pos) := PS.weak ps_break fun σ H D ⟨ρ, F, fp, fr, anc, bb, A, s⟩ => s σ F H fp A Fwd.refl
theorem ds_cnt : DS X p sCnt (.Continue pos) := PS.weak ps_continue fun σ H D ⟨ρ, F, fp, fr, anc, bb, A, s⟩ => s σ F H fp A Fwd.refl
def sIf (c : Env → Out Bool) (f g : Env → Flow) : Env → Flow := fun ρ => (c ρ).fl fun b ρ' => if b = true then f ρ' else g ρ'
theorem ds_if {bc : Env → Out Bool} {f g : Env → Flow} {as bs : List Stmt} (hc : DT X p bc c) (ha : DSs X p f as) (hb : DSs X p g bs) : DS X p (sIf bc f g) (.If c as bs pos) := PS.weak (ps_if hc ha hb) fun σ H D ⟨ρ, F, fp, fr, anc, bb, A, s⟩ => by
  refine ⟨ρ, F, fp, fr, anc, bb, A, (FSat.un s).mono (fun k ρ1 s1 F1 H1 fp1 A1 fw1 => ?_) fun c d ρ' q => q⟩
  cases k with
  | true => exact ⟨ρ1, F1, fp1, fr, anc, bb, A1, FSat.fwd fw1 s1⟩
  | false => exact ⟨ρ1, F1, fp1, fr, anc, bb, A1, FSat.fwd fw1 s1⟩
def sRet (f : Env → Out D) : Env → Flow := fun ρ => (f ρ).fl .ret
theorem ds_ret {f : Env → Out D} (h : DE X p f e) : DS X p (sRet f) (.Return (some e) pos) := PS.weak (ps_ret h) fun σ H D ⟨ρ, F, fp, fr, anc, bb, A, s⟩ =>
  ⟨ρ, F, fp, fr, anc, bb, A, (FSat.un s).mono (fun d ρ1 s1 v F1 H1 fp1 fd A1 fw1 o n => s1 v σ F1 H1 fp1 fd A1 fw1 o n) fun c d ρ' q => q⟩
def sRetN : Env → Flow := fun ρ => .ret .non ρ
theorem ds_retN : DS X p sRetN (.Return none pos) := PS.weak ps_retN fun σ H D ⟨ρ, F, fp, fr, anc, bb, A, s⟩ => s .non σ F H fp none A Fwd.refl (.of (by unfold Frz; rfl)) .none
def sDrop (f : Env → Out D) : Env → Flow := fun ρ => (f ρ).fl fun _ ρ' => .next ρ'
theorem ds_drop {f : Env → Out D} (h : DE X p f e) (hs : swapsWith e none pos.line X.env = pure false := by rfl) : DS X p (sDrop f) (.Expr e pos) := PS.weak (ps_expr h hs) fun σ H D ⟨ρ, F, fp, fr, anc, bb, A, s⟩ =>
  ⟨ρ, F, fp, fr, anc, bb, A, (FSat.un s).mono (fun d ρ1 s1 v F1 H1 fp1 fd A1 fw1 o n => s1 σ F1 H1 fp1 A1 fw1) fun c d ρ' q => q⟩

/-! ### names are set -/
def setE (i : Nat) (d : D) (ρ : Env) : Option Env := if i < ρ.length then some (ρ.set i (some d)) else none
def sPut (i : Nat) (d : D) : Env → Flow := fun ρ => match setE i d ρ with
  | some ρ' => .next ρ'
  | none => .bad
def sSet (i : Nat) (f : Env → Out D) : Env → Flow := fun ρ => (f ρ).fl fun d ρ' => sPut i d ρ'
theorem ds_set {i : Nat} {x : Str} {f : Env → Out D} (hN : X.N.Nodup) (hi : X.N[i]? = some x) (hx : Loc X.env.scope x) (h : DE X p f e) (hb : i ∉ p.bor := by first | decide | (dsimp only; decide)) (hs : swapsWith e (some (.Name x pos')) pos.line X.env = pure false := by rfl)
    (hf : X.fn x = true ∨ X.env.scope.names.lookup x = some .local := by first | exact .inl rfl | exact .inr rfl | assumption) : DS X p (sSet i f) (.Assign [.Name x pos'] e pos) := PS.weak (ps_set hN hi hx h hs hf) fun σ H D ⟨ρ, F, fp, fr, anc, bb, A, s⟩ => by
  refine ⟨ρ, F, fp, fr, anc, bb, A, (FSat.un s).mono (fun d ρ1 s1 v F1 H1 fp1 fd A1 fw1 o n => ?_) fun c d ρ' q => q⟩
  unfold sPut setE at s1
  by_cases hl : i < ρ1.length
  · rw [if_pos hl] at s1
    exact s1 _ F1 H1 _ (A1.put hl (by rw [bb]; exact hb) o n) fw1
  · rw [if_neg hl] at s1; exact s1.elim
/-- a name's content is moved out: the name is not read again before it is set -/
def eMv (i : Nat) : Env → Out D := fun ρ => match ρ[i]? with
  | some (some d) => .ok d (ρ.set i none)
  | _ => .bad
theorem At.take {K : PySem.W.Frag} {tabs : List Addr} {anc : List (Nat × V)} {fr : Addr → Prop} {ρ : Env} {F H : Hp} {fp : Nat → Option Addr} {σ : L2.St} (A : At K tabs anc fr ρ F fp σ H) {i : Nat} {d : D} (hi : ρ[i]? = some (some d)) :
    ∃ v, σ[i]? = some (some v) ∧ At K tabs anc fr (ρ.set i none) F (fun j => if j = i then none else fp j) σ H ∧ Own K F H d v (fp i) ∧ New fr F H (fun j => if j = i then none else fp j) (fp i) := by
  obtain ⟨v, e1, o⟩ := A.slot i d hi
  refine ⟨v, e1, ⟨A.sub, by rw [List.length_set]; exact A.len, fun j d' q => ?_, fun j b q => ?_, fun j k b q1 q2 => ?_, A.frF, A.anc, A.tab⟩, o, fun b q => ?_⟩
  · by_cases hj : j = i
    · subst hj
      rw [List.getElem?_set_self (List.getElem?_eq_some_iff.mp hi).1] at q
      cases q
    · rw [List.getElem?_set_ne (Ne.symm hj)] at q
      rw [if_neg hj]
      exact A.slot j d' q
  · by_cases hj : j = i
    · rw [if_pos hj] at q; cases q
    · rw [if_neg hj] at q; exact A.fF j b q
  · by_cases hj : j = i
    · rw [if_pos hj] at q1; cases q1
    · by_cases hk : k = i
      · rw [if_pos hk] at q2; cases q2
      · rw [if_neg hj] at q1; rw [if_neg hk] at q2; exact A.dj j k b q1 q2
  · obtain ⟨n1, n2, n3⟩ := A.fF i b q
    refine ⟨n1, n2, n3, fun j z => ?_⟩
    dsimp only at z
    by_cases hj : j = i
    · rw [if_pos hj] at z; cases z
    · rw [if_neg hj] at z; exact hj (A.dj j i b z q)
theorem de_mv {i : Nat} (h : PE X e (tVar i)) : DE X p (eMv i) e := PE.weak h fun σ H Q ⟨ρ, F, fp, fr, anc, bb, A, s⟩ => by
  unfold eMv at s
  split at s
  · rename_i d hd
    obtain ⟨v, e1, A', o, n⟩ := A.take hd
    exact ⟨v, e1, s v F H _ _ A' Fwd.refl o n⟩
  · exact s.elim
/-! ### targets -/
inductive Tg where
  | name (i : Nat) | tup (l : List Nat)
def setAll : List Nat → List D → Env → Option Env
  | [], [], ρ => some ρ
  | i :: is, d :: ds, ρ => (setE i d ρ).bind fun ρ' => setAll is ds ρ'
  | _, _, _ => none
def tgSet : Tg → D → Env → Option Env
  | .name i, d, ρ => setE i d ρ
  | .tup l, .tup ds, ρ => setAll l ds ρ
  | _, _, _ => none
def tgIx : Tg → List Nat
  | .name i => [i]
  | .tup l => l
/-- nothing but these slots is set -/
def But (l : List Nat) (σ σ' : L2.St) : Prop := σ'.length = σ.length ∧ ∀ i, i ∉ l → σ'[i]? = σ[i]?
theorem But.one {i : Nat} {v : Option V} {σ : L2.St} : But [i] σ (σ.set i v) := ⟨List.length_set, fun j hj => List.getElem?_set_ne fun z => hj (List.mem_singleton.mpr z.symm)⟩
/-- a target's promise -/
def TgR (K : PySem.W.Frag) (p : Par) (t : Tg) (g : TG) : Prop := ∀ (anc : List (Nat × V)) (fr : Addr → Prop) (ρ ρ' : Env) (F : Hp) (fp : Nat → Option Addr) (σ : L2.St) (H : Hp) (d : D) (v : V) (Q : L2.St → Hp → Prop),
  anc.map (·.1) = p.bor → At K p.tabs anc fr ρ F fp σ H → Frz K F d v → tgSet t d ρ = some ρ' → (∀ σ' fp', At K p.tabs anc fr ρ' F fp' σ' H → But (tgIx t) σ σ' → Q σ' H) → g v σ H Q
def DG (X : Cx) (p : Par) (t : Tg) (e : Expr) : Prop := ∃ g, PG X e g ∧ TgR X.K p t g
theorem put_frz {K : PySem.W.Frag} {tabs : List Addr} {anc : List (Nat × V)} {fr : Addr → Prop} {ρ ρ' : Env} {F H : Hp} {fp : Nat → Option Addr} {σ : L2.St} {i : Nat} {d : D} {v : V} (A : At K tabs anc fr ρ F fp σ H) (ha : i ∉ anc.map (·.1)) (z : Frz K F d v) (e : setE i d ρ = some ρ') :
    At K tabs anc fr ρ' F (fun j => if j = i then none else fp j) (σ.set i (some v)) H := by
  unfold setE at e
  split at e
  · rename_i hl
    cases e
    exact A.put hl ha (.of z) .none
  · cases e
theorem dg_name {i : Nat} {x : Str} (hN : X.N.Nodup) (hi : X.N[i]? = some x) (hx : Loc X.env.scope x) (hb : i ∉ p.bor := by first | decide | (dsimp only; decide)) (hf : X.fn x = true ∨ X.env.scope.names.lookup x = some .local := by first | exact .inl rfl | exact .inr rfl | assumption) : DG X p (.name i) (.Name x pos) :=
  ⟨_, pg_name hN hi hx hf, fun anc fr ρ ρ' F fp σ H d v Q bb A z e k => k _ _ (put_frz A (by rw [bb]; exact hb) z e) But.one⟩
/-- names one by one -/
def TgsR (K : PySem.W.Frag) (p : Par) (l : List Nat) (g : TGs) : Prop := ∀ (anc : List (Nat × V)) (fr : Addr → Prop) (ρ ρ' : Env) (F : Hp) (fp : Nat → Option Addr) (σ : L2.St) (H : Hp) (ds : List D) (vs : List V) (Q : L2.St → Hp → Prop),
  anc.map (·.1) = p.bor → At K p.tabs anc fr ρ F fp σ H → FrzL K F ds vs → setAll l ds ρ = some ρ' → (∀ σ' fp', At K p.tabs anc fr ρ' F fp' σ' H → But l σ σ' → Q σ' H) → g vs σ H Q
def DGs (X : Cx) (p : Par) (l : List Nat) (es : List Expr) : Prop := ∃ g, PGs X es g ∧ TgsR X.K p l g
theorem dgs_nil : DGs X p [] [] := ⟨_, pgs_nil, fun anc fr ρ ρ' F fp σ H ds vs Q bb A z e k => by
  cases ds with
  | nil =>
    unfold FrzL at z
    cases e
    exact ⟨z, k σ fp A ⟨rfl, fun _ _ => rfl⟩⟩
  | cons d ds => cases e⟩
theorem dgs_cons {i : Nat} {l : List Nat} {x : Str} {es : List Expr} (hN : X.N.Nodup) (hi : X.N[i]? = some x) (hx : Loc X.env.scope x) (h : DGs X p l es) (hb : i ∉ p.bor := by first | decide | (dsimp only; decide)) (hf : X.fn x = true ∨ X.env.scope.names.lookup x = some .local := by first | exact .inl rfl | exact .inr rfl | assumption)
    (ha : (assignEach (.Name x pos :: es) X.env).map (·.2) = assign (.Name x pos) X.env :: (assignEach es X.env).map (·.2) := by rfl) : DGs X p (i :: l) (.Name x pos :: es) := by
  obtain ⟨g, h1, h2⟩ := h
  refine ⟨_, pgs_cons (pg_name hN hi hx hf) h1 ha, fun anc fr ρ ρ' F fp σ H ds vs Q bb A z e k => ?_⟩
  cases ds with
  | nil => cases e
  | cons d ds =>
    unfold setAll at e
    obtain ⟨ρ1, e1, e⟩ := Option.bind_eq_some_iff.mp e
    unfold FrzL at z
    obtain ⟨v, r, rfl, z1, z2⟩ := z
    exact ⟨v, r, rfl, h2 anc fr ρ1 ρ' F _ _ H ds r Q bb (put_frz A (by rw [bb]; exact hb) z1 e1) z2 e fun σ' fp' A' b => k σ' fp' A' ⟨b.1.trans List.length_set, fun j hj => (b.2 j fun z => hj (List.mem_cons_of_mem _ z)).trans (But.one.2 j fun z => hj (List.mem_cons.mpr (.inl (List.mem_singleton.mp z))))⟩⟩
theorem dg_tup {l : List Nat} {es : List Expr} {k : Nat} (hc : X.calm = true) (h : DGs X p l es) (hn : (assignEach es X.env).length = l.length := by rfl) (hst : (assignEach es X.env).findIdx? (·.1) = none := by rfl) : DG X p (.tup l) (.Tuple es k pos) := by
  obtain ⟨g, h1, h2⟩ := h
  refine ⟨_, pg_tup hc h1 hn hst, fun anc fr ρ ρ' F fp σ H d v Q bb A z e k => ?_⟩
  cases d with
  | tup ds =>
    unfold Frz at z
    obtain ⟨a, xs, rfl, q, r⟩ := z
    have hl : ∀ (l : List Nat) (ds : List D) (ρ : Env), setAll l ds ρ = some ρ' → ds.length = l.length := by
      intro l
      induction l with
      | nil => intro ds ρ e; cases ds with
        | nil => rfl
        | cons _ _ => cases e
      | cons i l ih => intro ds ρ e; cases ds with
        | nil => cases e
        | cons d ds =>
          unfold setAll at e
          obtain ⟨ρ1, e1, e⟩ := Option.bind_eq_some_iff.mp e
          rw [List.length_cons, List.length_cons, ih ds ρ1 e]
    exact ⟨a, xs, rfl, A.sub.sqT q, by rw [r.length]; exact hl _ _ _ e, h2 anc fr ρ ρ' F fp σ H ds xs Q bb A r e k⟩
  | _ => cases e
def sAsg (t : Tg) (f : Env → Out D) : Env → Flow := fun ρ => (f ρ).fl fun d ρ' => match tgSet t d ρ' with
  | some ρ2 => .next ρ2
  | none => .bad
theorem ds_asg {t : Tg} {f : Env → Out D} (hg : DG X p t a) (h : DV X p f e) (hs : swapsWithSole [a] e pos.line X.env = pure false := by rfl) (hw : swappedStores [a] e X.env = pure none := by rfl)
    (h1 : (assignEach [a] X.env).map (·.2) = [assign a X.env] := by rfl) : DS X p (sAsg t f) (.Assign [a] e pos) := by
  obtain ⟨g, hg, hr⟩ := hg
  exact PS.weak (ps_asg h hg hs hw h1) fun σ H D ⟨ρ, F, fp, fr, anc, bb, A, s⟩ => by
    refine ⟨ρ, F, fp, fr, anc, bb, A, (FSat.un s).mono (fun d ρ1 s1 v F1 H1 fp1 A1 fw1 z => ?_) fun c d ρ' q => q⟩
    cases e1 : tgSet t d ρ1 with
    | none => rw [e1] at s1; exact s1.elim
    | some ρ2 =>
      rw [e1] at s1
      exact hr anc fr ρ1 ρ2 F1 fp1 σ H1 d v _ bb A1 z e1 fun σ' fp' A' _ => s1 σ' F1 H1 fp' A' fw1
/-! ### a place in a name's own list is set -/
def ownAt (ρ : Env) (j : Nat) : Option (List D) := match ρ[j]? with
  | some (some (.own ds)) => some ds
  | _ => none
theorem ownAt_eq {ρ : Env} {j : Nat} {ds : List D} (h : ownAt ρ j = some ds) : ρ[j]? = some (some (.own ds)) := by
  unfold ownAt at h
  split at h
  · rename_i es he
    cases h
    exact he
  · cases h
def intOf : D → Option Int
  | .int i => some i
  | _ => none
theorem intOf_eq {d : D} {i : Int} (h : intOf d = some i) : d = .int i := by
  cases d <;> first | (cases h; rfl) | cases h
def sSub (j : Nat) (fi : Env → Out T) (fv : Env → Out D) : Env → Flow := fun ρ => (fv ρ).fl fun d ρ1 => (oN j ρ1).fl fun _ ρ2 => (fi ρ2).fl fun t ρ3 =>
  (Out.of ((ownAt ρ3 j).bind fun ds => ((rd t ρ3).bind intOf).bind fun i => (ixN ds.length i).map fun k => ds.set k d) ρ3).fl fun ds ρ3 => .next (ρ3.set j (some (.own ds)))
theorem ds_sub {j : Nat} {fi : Env → Out T} {fv : Env → Out D} {o i : Expr} {pp : Pos} (ho : PE X o (tVar j)) (hi : DO X p fi i) (hv : DV X p fv e)
    (ha : ∀ v, assign (.Subscript o i pp) X.env v = (do
      let ov ← holding [v] (eval o X.env)
      let iv ← holding [v, ov] (eval i X.env)
      standAt pp
      holding [v, ov, iv] (setItem ov iv v)
      release [v, ov, iv] []) := by intro _; rfl)
    (hs : swapsWithSole [.Subscript o i pp] e pos.line X.env = pure false := by rfl) (hw : swappedStores [.Subscript o i pp] e X.env = pure none := by rfl)
    (h1 : (assignEach [.Subscript o i pp] X.env).map (·.2) = [assign (.Subscript o i pp) X.env] := by rfl) : DS X p (sSub j fi fv) (.Assign [.Subscript o i pp] e pos) :=
  PS.weak (ps_asg hv (pg_sub ho hi set_list ha) hs hw h1) fun σ H D ⟨ρ, F, fp, fr, anc, bb, A, s⟩ => by
    refine ⟨ρ, F, fp, fr, anc, bb, A, (FSat.un s).mono (fun d ρ1 s1 v F1 H1 fp1 A1 fw1 z => ?_) fun c d ρ' q => q⟩
    unfold oN at s1
    split at s1
    · rename_i d1 hd1
      rw [Out.fl_ok] at s1
      obtain ⟨v1, e1, _⟩ := A1.slot j d1 hd1
      refine ⟨v1, e1, ρ1, F1, fp1, fr, anc, bb, A1, (FSat.un s1).mono (fun u ρ3 s3 v3 F3 H3 fp3 A3 fw3 z3 => ?_) fun c d ρ' q => q.fwd fw1⟩
      obtain ⟨ds', e3, s4⟩ := Sat.of (FSat.un (σ := σ) s3)
      obtain ⟨ds, ho, e3⟩ := Option.bind_eq_some_iff.mp e3
      obtain ⟨i, hi, e3⟩ := Option.bind_eq_some_iff.mp e3
      obtain ⟨k, hk, e3⟩ := Option.map_eq_some_iff.mp e3
      subst e3
      obtain ⟨d4, hi, e4⟩ := Option.bind_eq_some_iff.mp hi
      have y := z3.rdF A3 hi
      rw [intOf_eq e4] at y
      simp only [RdF, Frz] at y
      have hs := ownAt_eq ho
      obtain ⟨v5, e5, a, xs, ev, ea, eH, r⟩ := A3.slot j _ hs
      rw [e1] at e5
      cases e5
      subst ev
      obtain ⟨A6, fw6⟩ := A3.write hs e1 (r.set (z.mono (fw3.sub)) k)
      exact ⟨a, xs, i, k, rfl, y, eH, by rw [r.length]; exact hk, s4 σ F3 _ fp3 A6 ((fw1.trans fw3).trans fw6)⟩
    · exact s1.elim
/-! ### list methods of a name's own list -/
def eApp (j : Nat) (f : Env → Out D) : Env → Out D := fun ρ => (Out.of (ownAt ρ j) ρ).bind fun _ ρ1 => (f ρ1).bind fun d ρ2 =>
  (Out.of ((ownAt ρ2 j).bind fun ds => if ds.length < sizeLine then some (ds ++ [d]) else none) ρ2).bind fun ds ρ2 => .ok .non (ρ2.set j (some (.own ds)))
theorem dv_app {j : Nat} {f : Env → Out D} {o : Expr} {apos : Pos} (ho : PE X o (tVar j)) (he : DV X p f e) (hbase : attributeBase o "append" X.env (eval o X.env) = eval o X.env := by rfl)
    (hfew : ((backTo pos (starEach [e] X.env)).all (fun x => !x.1) && (backToKw pos (keywordEach [] X.env)).all (fun x => x.1.isSome)
      && decide (([e] : List Expr).length + ([] : List Keyword).length + (if ([] : List Keyword).isEmpty then 0 else 1) < 30)) = true := by rfl)
    (hline : (apos.endLine == pos.line) = true := by rfl) (hs : starEach [e] X.env = (false, eval e X.env) :: starEach [] X.env := by rfl) :
    DV X p (eApp j f) (.Call (.Attribute o "append" apos) [e] [] pos) :=
  PE.weak (pe_bm PySem.F.plainAttrs_list PySem.F.slot_list_append PySem.F.type_list_append mt_append ho (pa_cons he pa_nil hs) hbase hfew hline hs) fun σ H Q ⟨ρ, F, fp, fr, anc, bb, A, s⟩ => by
    obtain ⟨ds0, h0, s⟩ := Sat.of (Sat.bind s)
    obtain ⟨v1, e1, a, xs, rfl, _, eH0, _⟩ := A.slot j _ (ownAt_eq h0)
    refine ⟨_, e1, .inl ⟨rfl, xs, .of eH0⟩, ρ, F, fp, fr, anc, bb, A, (Sat.bind s).mono (fun d ρ2 s2 v F2 H2 fp2 A2 fw2 z => ?_) fun c d ρ' q => q⟩
    obtain ⟨ds', e2, q⟩ := Sat.of (Sat.bind s2)
    obtain ⟨ds, ho, e2⟩ := Option.bind_eq_some_iff.mp e2
    split at e2
    · cases e2
      have hs := ownAt_eq ho
      obtain ⟨v5, e5, a', xs', ev, ea, eH, r⟩ := A2.slot j _ hs
      rw [e1] at e5
      cases e5
      cases ev
      obtain ⟨A6, fw6⟩ := A2.write hs e1 (r.append (.cons z .nil))
      exact ⟨a, xs', v, rfl, rfl, eH, by rw [r.length]; assumption, q _ F2 _ fp2 A6 (fw2.trans fw6) (.flat rfl)⟩
    · cases e2
end
end Dv
end
section
set_option Elab.async false
set_option linter.all false
set_option maxRecDepth 100000
set_option maxHeartbeats 2000000
/-! The data layer: loops. -/
namespace Dv
open PySem PySem.Spec PyProof.Rows L2 GxR
/-- an iterator that gives ds, whatever is done meanwhile -/
structure Gv (K : PySem.W.Frag) (J : It) (ds : List D) (F0 : Hp) : Prop where
  go : ∀ i F H, i < ds.length → Sub F0 F → Sub F H → J.go i H
  stop : ∀ F H, Sub F0 F → Sub F H → J.stop ds.length H
  yld : ∀ i F H x H', i < ds.length → Sub F0 F → Sub F H → J.yld i H x H' → ∃ d, ds[i]? = some d ∧ ((H' = H ∧ Frz K F d x) ∨ ∃ T ys es, H T = none ∧ H' = upd H T (.tup ys) ∧ d = .tup es ∧ FrzL K F es ys ∧ x = .ref T)
theorem Gv.lst {K : PySem.W.Frag} {F0 : Hp} {a : Addr} {xs : List V} {ds : List D} (q : SqL K F0 a xs) (r : FrzL K F0 ds xs) : Gv K (Itl K a) ds F0 := by
  have w := walk_list (K := K) (a := a) (xs := xs)
  have hl := r.length
  refine ⟨fun i F H hi s1 s2 => w.goes i H (by omega) ((s1.trans s2).sqL q), fun F H s1 s2 => by rw [← hl]; exact w.stops H ((s1.trans s2).sqL q), fun i F H x H' hi s1 s2 y => ?_⟩
  obtain ⟨e, e2⟩ := w.yields i H x H' (by omega) ((s1.trans s2).sqL q) y
  obtain ⟨d, e3, z⟩ := r.get' e2
  exact ⟨d, e3, .inl ⟨e, z.mono s1⟩⟩
theorem Gv.tup {K : PySem.W.Frag} {F0 : Hp} {a : Addr} {xs : List V} {ds : List D} (q : SqT K F0 a xs) (r : FrzL K F0 ds xs) : Gv K (Itt K a) ds F0 := by
  have w := walk_tup (K := K) (a := a) (xs := xs)
  have hl := r.length
  refine ⟨fun i F H hi s1 s2 => w.goes i H (by omega) ((s1.trans s2).sqT q), fun F H s1 s2 => by rw [← hl]; exact w.stops H ((s1.trans s2).sqT q), fun i F H x H' hi s1 s2 y => ?_⟩
  obtain ⟨e, e2⟩ := w.yields i H x H' (by omega) ((s1.trans s2).sqT q) y
  obtain ⟨d, e3, z⟩ := r.get' e2
  exact ⟨d, e3, .inl ⟨e, z.mono s1⟩⟩
def chars (z : Str) : List D := z.cps.toList.map fun c => .str ⟨#[c]⟩
theorem Gv.str {K : PySem.W.Frag} {F0 : Hp} {z : Str} : Gv K (Its z) (chars z) F0 := by
  have w := walk_str (z := z)
  have hl : (chars z).length = z.cps.size := by unfold chars; rw [List.length_map, Array.length_toList]
  refine ⟨fun i F H hi s1 s2 => w.goes i H (by omega) trivial, fun F H s1 s2 => by rw [hl]; exact w.stops H trivial, fun i F H x H' hi s1 s2 y => ?_⟩
  obtain ⟨e, c, e2, e3⟩ := w.yields i H x H' (by omega) trivial y
  refine ⟨.str ⟨#[c]⟩, ?_, .inl ⟨e, by subst e3; unfold Frz; rfl⟩⟩
  unfold chars
  rw [List.getElem?_map, Array.getElem?_toList, e2]; rfl
def rangeD (lo : Int) (n : Nat) : List D := (List.range n).map fun i => .int (lo + (i : Nat))
theorem Gv.rng {K : PySem.W.Frag} {F0 : Hp} {lo : Int} {n : Nat} : Gv K (Itr lo n) (rangeD lo n) F0 := by
  have w := walk_range (lo := lo) (n := n)
  have hl : (rangeD lo n).length = n := by unfold rangeD; rw [List.length_map, List.length_range]
  refine ⟨fun i F H hi s1 s2 => w.goes i H (by omega) trivial, fun F H s1 s2 => by rw [hl]; exact w.stops H trivial, fun i F H x H' hi s1 s2 y => ?_⟩
  obtain ⟨e, e3⟩ := w.yields i H x H' (by omega) trivial y
  refine ⟨.int (lo + (i : Nat)), ?_, .inl ⟨e, by subst e3; unfold Frz; rfl⟩⟩
  unfold rangeD
  rw [List.getElem?_map, List.getElem?_range (by omega)]; rfl
def stepD (lo c : Int) (n : Nat) : List D := (List.range n).map fun i => .int (lo + (i : Nat) * c)
theorem Gv.rngC {K : PySem.W.Frag} {F0 : Hp} {lo c : Int} {n : Nat} : Gv K (Itc lo c n) (stepD lo c n) F0 := by
  have w := walk_rangeC (lo := lo) (n := n) (c := c)
  have hl : (stepD lo c n).length = n := by unfold stepD; rw [List.length_map, List.length_range]
  refine ⟨fun i F H hi s1 s2 => w.goes i H (by omega) trivial, fun F H s1 s2 => by rw [hl]; exact w.stops H trivial, fun i F H x H' hi s1 s2 y => ?_⟩
  obtain ⟨e, e3⟩ := w.yields i H x H' (by omega) trivial y
  refine ⟨.int (lo + (i : Nat) * c), ?_, .inl ⟨e, by subst e3; unfold Frz; rfl⟩⟩
  unfold stepD
  rw [List.getElem?_map, List.getElem?_range (by omega)]; rfl
def enumD (k : Int) : List D → List D
  | [] => []
  | d :: ds => .tup [.int k, d] :: enumD (k + 1) ds
theorem enumD_get : ∀ {ds : List D} {k : Int} {i : Nat} {d : D}, ds[i]? = some d → (enumD k ds)[i]? = some (.tup [.int (k + (i : Nat)), d])
  | [], _, _, _, e => by simp at e
  | x :: xs, k, 0, d, e => by
    simp at e
    subst e
    simp [enumD]
  | x :: xs, k, i + 1, d, e => by
    have := enumD_get (k := k + 1) (show xs[i]? = some d by simpa using e)
    simp only [enumD, List.getElem?_cons_succ, this]
    congr 3
    push_cast
    congr 1
    omega
theorem enumD_length : ∀ {ds : List D} {k : Int}, (enumD k ds).length = ds.length
  | [], _ => rfl
  | _ :: xs, k => by simp only [enumD, List.length_cons, enumD_length (ds := xs)]
theorem Gv.enum {K : PySem.W.Frag} {F0 : Hp} {a : Addr} {xs : List V} {ds : List D} (q : SqL K F0 a xs) (r : FrzL K F0 ds xs) : Gv K (Ite K a) (enumD 0 ds) F0 := by
  have w := walk_enum (K := K) (a := a) (xs := xs)
  have hl := r.length
  have hl2 := enumD_length (ds := ds) (k := 0)
  refine ⟨fun i F H hi s1 s2 => w.goes i H (by omega) ((s1.trans s2).sqL q), fun F H s1 s2 => by rw [hl2, ← hl]; exact w.stops H ((s1.trans s2).sqL q), fun i F H x H' hi s1 s2 y => ?_⟩
  obtain ⟨T, x1, y1, rfl, hT, e, e1, e2⟩ := w.yields i H x H' (by omega) ((s1.trans s2).sqL q) y
  cases e1
  obtain ⟨d, e3, z⟩ := r.get' e2
  refine ⟨_, enumD_get e3, .inr ⟨T, _, _, hT, e, rfl, .cons ?_ (.cons (z.mono s1) .nil), rfl⟩⟩
  unfold Frz
  rw [Int.zero_add]
def zipD : List D → List D → List D
  | x :: xs, y :: ys => .tup [x, y] :: zipD xs ys
  | _, _ => []
theorem zipD_get : ∀ {ds es : List D} {i : Nat} {d e : D}, ds[i]? = some d → es[i]? = some e → (zipD ds es)[i]? = some (.tup [d, e])
  | [], _, _, _, _, h, _ => by simp at h
  | _ :: _, [], _, _, _, _, h => by simp at h
  | x :: xs, y :: ys, 0, d, e, h, g => by simp at h g; subst h g; simp [zipD]
  | x :: xs, y :: ys, i + 1, d, e, h, g => by simpa [zipD] using zipD_get (show xs[i]? = some d by simpa using h) (show ys[i]? = some e by simpa using g)
theorem zipD_length : ∀ {ds es : List D}, (zipD ds es).length = min ds.length es.length
  | [], _ => by simp [zipD]
  | _ :: _, [] => by simp [zipD]
  | x :: xs, y :: ys => by simp only [zipD, List.length_cons, zipD_length (ds := xs) (es := ys)]; omega
theorem Gv.zipL {K : PySem.W.Frag} {F0 : Hp} {a b : Addr} {xs ys : List V} {ds es : List D} (q : SqL K F0 a xs) (r : FrzL K F0 ds xs) (q2 : SqL K F0 b ys) (r2 : FrzL K F0 es ys) : Gv K (Itz K a b) (zipD ds es) F0 := by
  have w := walk_zip (K := K) (a := a) (b := b) (xs := xs) (ys := ys) rfl
  have hl := r.length
  have hl' := r2.length
  have hl2 := zipD_length (ds := ds) (es := es)
  refine ⟨fun i F H hi s1 s2 => w.goes i H (by omega) ⟨(s1.trans s2).sqL q, (s1.trans s2).sqL q2⟩, fun F H s1 s2 => by rw [hl2, ← hl, ← hl']; exact w.stops H ⟨(s1.trans s2).sqL q, (s1.trans s2).sqL q2⟩, fun i F H x H' hi s1 s2 y => ?_⟩
  obtain ⟨T, x1, y1, rfl, hT, e, e1, e2⟩ := w.yields i H x H' (by omega) ⟨(s1.trans s2).sqL q, (s1.trans s2).sqL q2⟩ y
  obtain ⟨d, e3, z⟩ := r.get' e1
  obtain ⟨d', e4, z'⟩ := r2.get' e2
  exact ⟨_, zipD_get e3 e4, .inr ⟨T, _, _, hT, e, rfl, .cons (z.mono s1) (.cons (z'.mono s1) .nil), rfl⟩⟩

/-! ### what is gone through -/
def tI (K : PySem.W.Frag) (mg : Str → Option Value) (p : Par) (f : Env → Out (List D)) : TI := fun σ H R => ∃ ρ F fp fr anc, anc.map (·.1) = p.bor ∧ At K p.tabs anc fr ρ F fp σ H ∧
  Sat (f ρ) (fun ds ρ' => ∀ J F' H' fp', At K p.tabs anc fr ρ' F' fp' σ H' → Fwd fr F H F' H' → Gv K J ds F' → R J H') (exD K mg p anc fr F H σ)
def DI (X : Cx) (p : Par) (f : Env → Out (List D)) (tg iter : Expr) : Prop := PI X tg iter (tI X.K X.mg p f)
theorem PI.weak {X : Cx} {tg iter : Expr} {t t' : TI} (h : PI X tg iter t) (w : ∀ σ H R, t' σ H R → t σ H R) : PI X tg iter t' := ⟨fun pins s σ H R I q => h.run pins s σ H R I (w σ H R q)⟩
theorem PI.or {X : Cx} {tg iter : Expr} {t t' : TI} (h : PI X tg iter t) (h' : PI X tg iter t') : PI X tg iter (fun σ H R => t σ H R ∨ t' σ H R) := ⟨fun pins s σ H R I q => q.elim (h.run pins s σ H R I) (h'.run pins s σ H R I)⟩
def itemsOf : D → Option (List D)
  | .str z => some (chars z)
  | x => sqOf x
def iV (f : Env → Out D) : Env → Out (List D) := fun ρ => (f ρ).bind fun d ρ' => Out.of (itemsOf d) ρ'
section
variable {X : Cx} {p : Par} {a b c e tg : Expr} {pos : Pos} {es : List Expr}
theorem Gv.of {K : PySem.W.Frag} {F0 : Hp} {d : D} {ds : List D} {v : V} (z : Frz K F0 d v) (h : itemsOf d = some ds) :
    (∃ a, v = .ref a ∧ (∃ xs, SqL K F0 a xs) ∧ Gv K (Itl K a) ds F0) ∨ (∃ a, v = .ref a ∧ (∃ xs, SqT K F0 a xs) ∧ Gv K (Itt K a) ds F0) ∨ ∃ x, v = .str x ∧ Gv K (Its x) ds F0 := by
  cases d with
  | str x =>
    cases h
    unfold Frz at z
    exact .inr (.inr ⟨x, z, .str⟩)
  | tup es =>
    cases h
    obtain ⟨a, xs, rfl, q, r, _⟩ := RdF.tup (Sub.refl F0) (RdF.of (Sub.refl F0) z) rfl
    exact .inr (.inl ⟨a, rfl, ⟨xs, q⟩, .tup q r⟩)
  | lst es =>
    cases h
    obtain ⟨a, xs, rfl, q, r⟩ := RdF.lst (Sub.refl F0) (RdF.of (Sub.refl F0) z) rfl
    exact .inl ⟨a, rfl, ⟨xs, q⟩, .lst q r⟩
  | scr es =>
    cases h
    obtain ⟨a, xs, rfl, q, r⟩ := RdF.lst (Sub.refl F0) (RdF.of (Sub.refl F0) z) rfl
    exact .inl ⟨a, rfl, ⟨xs, q⟩, .lst q r⟩
  | _ => cases h
theorem pi_any {te : TE} (h : PE X e te) : PI X tg e (fun σ H R => iList X.K te σ H R ∨ iTup X.K te σ H R ∨ iStr te σ H R) := PI.or (pi_list h) (PI.or (pi_tup h) (pi_str h))
theorem di_seq {f : Env → Out D} (h : DV X p f e) : DI X p (iV f) tg e := PI.weak (pi_any h) fun σ H R ⟨ρ, F, fp, fr, anc, bb, A, s⟩ => by
  have s := Sat.bind s
  cases e1 : f ρ with
  | bad => rw [e1] at s; exact s.elim
  | exc c d ρ' =>
    refine .inl ⟨ρ, F, fp, fr, anc, bb, A, ?_⟩
    rw [e1] at s ⊢
    exact s
  | ok d ρ' =>
    rw [e1] at s
    obtain ⟨ds, hd, q⟩ := Sat.of s
    cases d with
    | str x =>
      refine .inr (.inr ⟨ρ, F, fp, fr, anc, bb, A, ?_⟩)
      rw [e1]
      intro v F' H' fp' A' fw z
      obtain ⟨a, rfl, ⟨xs, q1⟩, g⟩ | ⟨a, rfl, ⟨xs, q1⟩, g⟩ | ⟨x, rfl, g⟩ := Gv.of z hd
      · unfold Frz at z; cases z
      · unfold Frz at z; cases z
      · exact ⟨x, rfl, q _ F' H' fp' A' fw g⟩
    | tup es =>
      refine .inr (.inl ⟨ρ, F, fp, fr, anc, bb, A, ?_⟩)
      rw [e1]
      intro v F' H' fp' A' fw z
      obtain ⟨a, xs, rfl, q1, r, _⟩ := RdF.tup A'.sub (RdF.of A'.sub z) rfl
      cases hd
      obtain ⟨a', xs', ea, q2, r2, _⟩ := RdF.tup (Sub.refl F') (RdF.of (Sub.refl F') z) rfl
      cases ea
      exact ⟨a, rfl, ⟨xs, q1⟩, q _ F' H' fp' A' fw (.tup q2 r2)⟩
    | lst es =>
      refine .inl ⟨ρ, F, fp, fr, anc, bb, A, ?_⟩
      rw [e1]
      intro v F' H' fp' A' fw z
      obtain ⟨a, xs, rfl, q1, r⟩ := RdF.lst A'.sub (RdF.of A'.sub z) rfl
      cases hd
      obtain ⟨a', xs', ea, q2, r2⟩ := RdF.lst (Sub.refl F') (RdF.of (Sub.refl F') z) rfl
      cases ea
      exact ⟨a, rfl, ⟨xs, q1⟩, q _ F' H' fp' A' fw (.lst q2 r2)⟩
    | scr es =>
      refine .inl ⟨ρ, F, fp, fr, anc, bb, A, ?_⟩
      rw [e1]
      intro v F' H' fp' A' fw z
      obtain ⟨a, xs, rfl, q1, r⟩ := RdF.lst A'.sub (RdF.of A'.sub z) rfl
      cases hd
      obtain ⟨a', xs', ea, q2, r2⟩ := RdF.lst (Sub.refl F') (RdF.of (Sub.refl F') z) rfl
      cases ea
      exact ⟨a, rfl, ⟨xs, q1⟩, q _ F' H' fp' A' fw (.lst q2 r2)⟩
    | _ => cases hd
/-! range -/
def rg1 : List D → Option (List D)
  | [.int j] => if j.natAbs < 2 ^ 62 then some (rangeD 0 j.toNat) else none
  | _ => none
def rg2 : List D → Option (List D)
  | [.int i, .int j] => if i.natAbs < 2 ^ 62 ∧ j.natAbs < 2 ^ 62 then some (rangeD i (j - i).toNat) else none
  | _ => none
def iArgs (g : List D → Option (List D)) (fs : List (Env → Out T)) : Env → Out (List D) := fun ρ => (argsO fs ρ).bind fun ts ρ' => Out.of ((rdAll ts ρ').bind g) ρ'
theorem di_range1 {pp : Pos} {fs : List (Env → Out T)} (hg : Gl X "range") (hm : X.mg "range" = none) (ha : DA X p fs [a]) (hs : starEach [a] X.env = [(false, eval a X.env)] := by rfl) : DI X p (iArgs rg1 fs) tg (.Call (.Name "range" pp) [a] [] pos) :=
  PI.weak (pi_range1 hg hm ha hs) fun σ H R ⟨ρ, F, fp, fr, anc, bb, A, s⟩ => by
    refine ⟨ρ, F, fp, fr, anc, bb, A, (Sat.bind s).mono (fun ts ρ1 s1 vs F1 H1 fp1 A1 fw1 r1 => ?_) fun c d ρ' q => q⟩
    obtain ⟨ds, e1, q⟩ := Sat.of s1
    obtain ⟨xs, e2, e1⟩ := Option.bind_eq_some_iff.mp e1
    have r2 := rdAll_rel A1 r1 e2
    unfold rg1 at e1
    split at e1
    · split at e1
      · rename_i h
        cases e1
        obtain ⟨v, rfl, z⟩ := paired1 r2
        simp only [RdF, Frz] at z
        exact ⟨_, by rw [z], by omega, by omega, q _ F1 H1 fp1 A1 fw1 .rng⟩
      · cases e1
    · cases e1
theorem di_range2 {pp : Pos} {fs : List (Env → Out T)} (hg : Gl X "range") (hm : X.mg "range" = none) (ha : DA X p fs [a, b]) (hs : starEach [a, b] X.env = [(false, eval a X.env), (false, eval b X.env)] := by rfl)
    (hs2 : starEach [b] X.env = [(false, eval b X.env)] := by rfl) : DI X p (iArgs rg2 fs) tg (.Call (.Name "range" pp) [a, b] [] pos) :=
  PI.weak (pi_range2 hg hm ha hs hs2) fun σ H R ⟨ρ, F, fp, fr, anc, bb, A, s⟩ => by
    refine ⟨ρ, F, fp, fr, anc, bb, A, (Sat.bind s).mono (fun ts ρ1 s1 vs F1 H1 fp1 A1 fw1 r1 => ?_) fun c d ρ' q => q⟩
    obtain ⟨ds, e1, q⟩ := Sat.of s1
    obtain ⟨xs, e2, e1⟩ := Option.bind_eq_some_iff.mp e1
    have r2 := rdAll_rel A1 r1 e2
    unfold rg2 at e1
    split at e1
    · split at e1
      · rename_i h
        cases e1
        obtain ⟨v, w, rfl, z, z2⟩ := paired2 r2
        simp only [RdF, Frz] at z z2
        exact ⟨_, _, by rw [z, z2], ⟨by omega, by omega, by omega, by omega⟩, q _ F1 H1 fp1 A1 fw1 .rng⟩
      · cases e1
    · cases e1
/-! ### for -/
def forL (t : Tg) (body : Env → Flow) : List D → Env → Flow
  | [], ρ => .next ρ
  | d :: ds, ρ => match tgSet t d ρ with
    | none => .bad
    | some ρ1 => match body ρ1 with
      | .next ρ2 => forL t body ds ρ2
      | .cnt ρ2 => forL t body ds ρ2
      | .brk ρ2 => .next ρ2
      | x => x
def sFor (it : Env → Out (List D)) (t : Tg) (body : Env → Flow) : Env → Flow := fun ρ => (it ρ).fl fun ds ρ1 => forL t body ds ρ1
theorem At.gave {K : PySem.W.Frag} {tabs : List Addr} {anc : List (Nat × V)} {fr : Addr → Prop} {ρ : Env} {F H H' : Hp} {fp : Nat → Option Addr} {σ : L2.St} {d : D} {x : V} (A : At K tabs anc fr ρ F fp σ H)
    (y : (H' = H ∧ Frz K F d x) ∨ ∃ T ys es, H T = none ∧ H' = upd H T (.tup ys) ∧ d = .tup es ∧ FrzL K F es ys ∧ x = .ref T) : ∃ F', At K tabs anc fr ρ F' fp σ H' ∧ Fwd fr F H F' H' ∧ Frz K F' d x := by
  rcases y with ⟨rfl, z⟩ | ⟨T, ys, es, hT, rfl, rfl, z, rfl⟩
  · exact ⟨F, A, Fwd.refl, z⟩
  · obtain ⟨A2, fw2⟩ := A.alloc (o := .tup ys) hT
    refine ⟨_, A2, fw2, ?_⟩
    unfold Frz
    exact ⟨T, ys, rfl, .of upd_same, z.mono fw2.sub⟩
theorem loop_gv {t : Tg} {g : TG} {body : Env → Flow} {J : It} {ds : List D} {σ : L2.St} {H F : Hp} {D : Ends} {ρ : Env} {fp : Nat → Option Addr} {fr : Addr → Prop} {anc : List (Nat × V)} (bb : anc.map (·.1) = p.bor) (hr : TgR X.K p t g) (G : Gv X.K J ds F)
    (A : At X.K p.tabs anc fr ρ F fp σ H) (s : FSat X.K X.mg p anc fr F H D (forL t body ds ρ)) :
    ∃ W : Nat → Nat → L2.St → Hp → Prop, (∃ m, W 0 m σ H) ∧ ∀ i m σ H, W i m σ H →
      (J.stop i H ∧ D.nx σ H) ∨ (J.go i H ∧ ∃ N : L2.St → Hp → Prop, (∀ σ' H', N σ' H' → ∃ m', m' < m ∧ W (i + 1) m' σ' H') ∧ ∀ x H', J.yld i H x H' → g x σ H' fun σ2 H2 => tS X.K X.mg p body { D with nx := N, ct := N, bk := D.nx } σ2 H2) := by
  let Pv : Nat → L2.St → Hp → Prop := fun i σ' H' => ∃ ρ' F' fp', At X.K p.tabs anc fr ρ' F' fp' σ' H' ∧ Fwd fr F H F' H' ∧ FSat X.K X.mg p anc fr F' H' D (forL t body (ds.drop i) ρ')
  refine ⟨fun i m σ' H' => m = ds.length - i ∧ i ≤ ds.length ∧ Pv i σ' H', ⟨ds.length, by simp, Nat.zero_le _, ρ, F, fp, A, Fwd.refl, s⟩, ?_⟩
  rintro i m σ' H' ⟨rfl, hi, ρ', F', fp', A', fw', s'⟩
  by_cases hlt : i < ds.length
  · refine .inr ⟨G.go i F' H' hlt fw'.sub A'.sub, Pv (i + 1), fun σ2 H2 q => ⟨ds.length - (i + 1), by omega, rfl, hlt, q⟩, fun x H2 y => ?_⟩
    obtain ⟨d, hd, y⟩ := G.yld i F' H' x H2 hlt fw'.sub A'.sub y
    obtain ⟨F2, A2, fw2, z⟩ := A'.gave y
    have e1 : ds.drop i = d :: ds.drop (i + 1) := by
      rw [List.drop_eq_getElem_cons hlt]
      congr 1
      rw [List.getElem?_eq_getElem hlt] at hd
      exact Option.some.inj hd
    rw [e1] at s'
    unfold forL at s'
    split at s'
    · exact s'.elim
    · rename_i ρ1 ht
      refine hr anc fr ρ' ρ1 F2 fp' σ' H2 d x _ bb A2 z ht fun σ3 fp3 A3 _ => ⟨ρ1, F2, fp3, fr, anc, bb, A3, ?_⟩
      have s2 := FSat.fwd fw2 s'
      cases hb : body ρ1 with
      | next ρ2 =>
        rw [hb] at s2
        exact fun σ4 F4 H4 fp4 A4 fw4 => ⟨ρ2, F4, fp4, A4, (fw'.trans fw2).trans fw4, FSat.fwd fw4 s2⟩
      | cnt ρ2 =>
        rw [hb] at s2
        exact fun σ4 F4 H4 fp4 A4 fw4 => ⟨ρ2, F4, fp4, A4, (fw'.trans fw2).trans fw4, FSat.fwd fw4 s2⟩
      | brk ρ2 => rw [hb] at s2; exact s2
      | ret d ρ2 => rw [hb] at s2; exact s2
      | exc c d ρ2 => rw [hb] at s2; exact s2
      | bad => rw [hb] at s2; exact s2
  · have e : i = ds.length := by omega
    subst e
    refine .inl ⟨G.stop F' H' fw'.sub A'.sub, ?_⟩
    rw [List.drop_length] at s'
    exact s' σ' F' H' fp' A' Fwd.refl
theorem ds_for {it : Env → Out (List D)} {t : Tg} {fb : Env → Flow} {body : List Stmt} (hp : PassesOwn (model X.prog X.w) X.A X.env X.xe) (hc : X.calm = true) (hi : DI X p it tg e) (hg : DG X p t tg) (hb : DSs X p fb body)
    (hs : ∀ x, foldedSetIterable e X.env x = pure x := by intro _; rfl) : DS X p (sFor it t fb) (.For tg e body [] pos) := by
  obtain ⟨g, hg, hr⟩ := hg
  exact PS.weak (ps_for hp hc hi hg hb hs) fun σ H D ⟨ρ, F, fp, fr, anc, bb, A, s⟩ =>
    ⟨ρ, F, fp, fr, anc, bb, A, (FSat.un s).mono (fun ds ρ1 s1 J F1 H1 fp1 A1 fw1 G => loop_gv bb hr G A1 (FSat.fwd fw1 s1)) fun c d ρ' q => q⟩
/-! ### while -/
def sWhile (c : Env → Out Bool) (body : Env → Flow) : Nat → Env → Flow
  | 0, _ => .bad
  | n + 1, ρ => (c ρ).fl fun k ρ1 => if k = true then (match body ρ1 with
      | .next ρ2 => sWhile c body n ρ2
      | .cnt ρ2 => sWhile c body n ρ2
      | .brk ρ2 => .next ρ2
      | x => x) else .next ρ1
theorem ds_while {n : Nat} {bc : Env → Out Bool} {fb : Env → Flow} {body : List Stmt} (hp : PassesOwn (model X.prog X.w) X.A X.env X.xe) (hc : DT X p bc c) (hb : DSs X p fb body) : DS X p (sWhile bc fb n) (.While c body [] pos) :=
  PS.weak (ps_while hp hc hb) fun σ H D ⟨ρ, F, fp, fr, anc, bb, A, s⟩ => by
    refine ⟨fun m σ' H' => ∃ ρ' F' fp', At X.K p.tabs anc fr ρ' F' fp' σ' H' ∧ Fwd fr F H F' H' ∧ FSat X.K X.mg p anc fr F' H' D (sWhile bc fb m ρ'), ⟨n, ρ, F, fp, A, Fwd.refl, s⟩, ?_⟩
    rintro m σ' H' ⟨ρ', F', fp', A', fw', s'⟩
    cases m with
    | zero => exact s'.elim
    | succ m =>
      refine ⟨ρ', F', fp', fr, anc, bb, A', (FSat.un s').mono (fun k ρ1 s1 F1 H1 fp1 A1 fw1 => ?_) fun c d ρ' q => q⟩
      cases k with
      | false =>
        rw [if_neg Bool.false_ne_true] at s1 ⊢
        exact s1 σ' F1 H1 fp1 A1 fw1
      | true =>
        rw [if_pos rfl] at s1 ⊢
        refine ⟨fun σ2 H2 => ∃ ρ2 F2 fp2, At X.K p.tabs anc fr ρ2 F2 fp2 σ2 H2 ∧ Fwd fr F H F2 H2 ∧ FSat X.K X.mg p anc fr F2 H2 D (sWhile bc fb m ρ2), fun σ2 H2 q => ⟨m, Nat.lt_succ_self m, q⟩, ρ1, F1, fp1, fr, anc, bb, A1, ?_⟩
        have s2 := FSat.fwd fw1 s1
        cases hb : fb ρ1 with
        | next ρ2 =>
          rw [hb] at s2
          exact fun σ4 F4 H4 fp4 A4 fw4 => ⟨ρ2, F4, fp4, A4, (fw'.trans fw1).trans fw4, FSat.fwd fw4 s2⟩
        | cnt ρ2 =>
          rw [hb] at s2
          exact fun σ4 F4 H4 fp4 A4 fw4 => ⟨ρ2, F4, fp4, A4, (fw'.trans fw1).trans fw4, FSat.fwd fw4 s2⟩
        | brk ρ2 => rw [hb] at s2; exact s2
        | ret d ρ2 => rw [hb] at s2; exact s2
        | exc c d ρ2 => rw [hb] at s2; exact s2
        | bad => rw [hb] at s2; exact s2
end
end Dv
end
section
set_option Elab.async false
set_option linter.all false
set_option maxRecDepth 100000
set_option maxHeartbeats 2000000
/-! The data layer: defs and calls. -/
namespace Dv
open PySem PySem.Spec PyProof.Rows L2 GxR
/-- the anchors of the parameters that are not set anew -/
def ancOf (bor : List Nat) (vs : List V) : List (Nat × V) := bor.map fun j => (j, vs.getD j .non)
theorem ancOf_fst (bor : List Nat) (vs : List V) : (ancOf bor vs).map (·.1) = bor := by
  unfold ancOf
  rw [List.map_map]
  exact List.map_id' bor
/-- behind a def: its parameters that were not set anew -/
def endE (n : Nat) (bor : List Nat) (ρ : Env) : Env := (List.range n).map fun j => if j ∈ bor then (ρ[j]?).join else none
/-- what a def's body comes to -/
def gOf (n k : Nat) (bor : List Nat) (body : Env → Flow) : Env → Out D := fun ρ => match body (ρ ++ List.replicate k none) with
  | .ret d ρ' => .ok d (endE n bor ρ')
  | .next ρ' => .ok .non (endE n bor ρ')
  | .exc c d ρ' => .exc c d (endE n bor ρ')
  | _ => .bad
/-- a def's promise -/
def spD (K : PySem.W.Frag) (mg : Str → Option Value) (tabs : List Addr) (bor : List Nat) (n : Nat) (G : Env → Out D) : Sp := fun vs H Q E => vs.length = n ∧ ∃ (ρ : Env) (F : Hp) (fp : Nat → Option Addr) (fr : Addr → Prop),
  At K tabs (ancOf bor vs) fr ρ F fp (vs.map some) H ∧ Sat (G ρ) (fun d ρ' => ∀ v F' H' fp' fd, At K tabs (ancOf bor vs) fr ρ' F' fp' (vs.map some) H' → Fwd fr F H F' H' → Own K F' H' d v fd → New fr F' H' fp' fd → Q v H')
    (fun c d ρ' => ∀ cls dd F' H' fp', At K tabs (ancOf bor vs) fr ρ' F' fp' (vs.map some) H' → Fwd fr F H F' H' → XIs K mg c d cls dd F' H' → E cls dd H')
section
variable {K : PySem.W.Frag} {mg : Str → Option Value} {tabs : List Addr} {anc : List (Nat × V)} {fr : Addr → Prop} {ρ : Env} {F H : Hp} {fp : Nat → Option Addr} {σ : L2.St}
theorem At.ext (A : At K tabs anc fr ρ F fp σ H) (k : Nat) : At K tabs anc fr (ρ ++ List.replicate k none) F (fun j => if j < ρ.length then fp j else none) (σ ++ List.replicate k none) H := by
  refine ⟨A.sub, by rw [List.length_append, List.length_append, A.len, List.length_replicate, List.length_replicate], fun i d e => ?_, fun i a e => ?_, fun i j a e1 e2 => ?_, A.frF, fun q hq => ?_, A.tab⟩
  · by_cases hi : i < ρ.length
    · rw [List.getElem?_append_left hi] at e
      rw [if_pos hi, List.getElem?_append_left (by rw [A.len]; exact hi)]
      exact A.slot i d e
    · rw [List.getElem?_append_right (by omega), List.getElem?_replicate] at e
      split at e <;> cases e
  · by_cases hi : i < ρ.length
    · rw [if_pos hi] at e; exact A.fF i a e
    · rw [if_neg hi] at e; cases e
  · by_cases hi : i < ρ.length
    · by_cases hj : j < ρ.length
      · rw [if_pos hi] at e1; rw [if_pos hj] at e2; exact A.dj i j a e1 e2
      · rw [if_neg hj] at e2; cases e2
    · rw [if_neg hi] at e1; cases e1
  · have e := A.anc q hq
    rw [List.getElem?_append_left (List.getElem?_eq_some_iff.mp e).1]
    exact e
theorem endE_get {n j : Nat} {bor : List Nat} {d : D} (h : (endE n bor ρ)[j]? = some (some d)) : j < n ∧ j ∈ bor ∧ ρ[j]? = some (some d) := by
  unfold endE at h
  rw [List.getElem?_map] at h
  obtain ⟨a, e1, e2⟩ := Option.map_eq_some_iff.mp h
  obtain ⟨hj, e3⟩ := List.getElem?_eq_some_iff.mp e1
  rw [List.length_range] at hj
  rw [List.getElem_range] at e3
  subst e3
  split at e2
  · refine ⟨hj, by assumption, ?_⟩
    cases e4 : ρ[j]? with
    | none => rw [e4] at e2; cases e2
    | some o => rw [e4] at e2; rw [show o = some d from e2]
  · cases e2
theorem At.cut {bor : List Nat} {vs : List V} (A : At K tabs (ancOf bor vs) fr ρ F fp σ H) (hb : ∀ j ∈ bor, j < vs.length) : At K tabs (ancOf bor vs) fr (endE vs.length bor ρ) F (fun j => if j ∈ bor then fp j else none) (vs.map some) H := by
  have same : ∀ j ∈ bor, σ[j]? = (vs.map some)[j]? := fun j hj => by
    have e := A.anc (j, vs.getD j .non) (List.mem_map.mpr ⟨j, hj, rfl⟩)
    have hl := hb j hj
    rw [show σ[j]? = some (some (vs.getD j .non)) from e, List.getElem?_map, List.getElem?_eq_getElem hl, List.getD_eq_getElem?_getD, List.getElem?_eq_getElem hl]; rfl
  refine ⟨A.sub, by unfold endE; rw [List.length_map, List.length_map, List.length_range], fun i d e => ?_, fun i a e => ?_, fun i j a e1 e2 => ?_, A.frF, fun q hq => ?_, A.tab⟩
  · obtain ⟨h1, h2, h3⟩ := endE_get e
    rw [if_pos h2, ← same i h2]
    exact A.slot i d h3
  · by_cases hi : i ∈ bor
    · rw [if_pos hi] at e; exact A.fF i a e
    · rw [if_neg hi] at e; cases e
  · by_cases hi : i ∈ bor
    · by_cases hj : j ∈ bor
      · rw [if_pos hi] at e1; rw [if_pos hj] at e2; exact A.dj i j a e1 e2
      · rw [if_neg hj] at e2; cases e2
    · rw [if_neg hi] at e1; cases e1
  · obtain ⟨j, hj, rfl⟩ := List.mem_map.mp hq
    rw [← same j hj]
    exact A.anc _ hq
theorem New.sub {fp' : Nat → Option Addr} {fd : Option Addr} (n : New fr F H fp fd) (h : ∀ j a, fp' j = some a → fp j = some a) : New fr F H fp' fd := fun a e => let ⟨n1, n2, n3, n4⟩ := n a e; ⟨n1, n2, n3, fun i z => n4 i (h i a z)⟩
end
/-- THE RULE for a def -/
theorem fn_ok {P : Program} {w : World} {K : PySem.W.Frag} {mg : Str → Option Value} {base : Heap} {x qual : Str} {st : Stmt} {f : Addr} {fd : FuncData} {N ps : List Str} {k : Nat} {tabs : List Addr} {bor : List Nat} {fb : Env → Flow}
    (Fd : Fun K x qual st f fd) (S : FnScope N ps (defScope st)) (hbor : ∀ j ∈ bor, j < ps.length)
    (hb : ∀ (cdv : Value) (A : Around) (outer : List PySem.Env) (s : Shared) (H : Hp) (E : XK), Room k (A.deeper (envOfC qual (defScope st) s.heap.objs.size f cdv)) →
      DSs (cxOf (L2.CX P w) P w K mg base N qual (defScope st) f cdv A outer s H E) { tabs := tabs, bor := bor, W := fun cls d _ H => E cls d H } fb (defBody st)) :
    FnOk P w K mg base (L2.CX P w) (k + 1) f fd ps (spD K mg tabs bor ps.length (gOf ps.length (N.length - ps.length) bor fb)) := by
  refine Fd.okX S (fun vs H Q E h => h.1) fun cdv A outer s H vs Q E hr hsp => ⟨_, hb cdv A outer s H E hr, ?_⟩
  obtain ⟨hl, ρ, F, fp, fr, A0, h⟩ := hsp
  have hlen : vs.length = ρ.length := by rw [← A0.len, List.length_map]
  refine ⟨_, F, _, fr, ancOf bor vs, ancOf_fst _ _, by unfold L2.start; rw [hl]; exact A0.ext (N.length - ps.length), ?_⟩
  have hb' : ∀ j ∈ bor, j < vs.length := fun j hj => by rw [hl]; exact hbor j hj
  have fin : ∀ {d : D} {v : V} {ρ' : Env} {σ' : L2.St} {F' H' : Hp} {fp' : Nat → Option Addr} {fd : Option Addr}, (∀ v F' H' fp' fd, At K tabs (ancOf bor vs) fr (endE ps.length bor ρ') F' fp' (vs.map some) H' → Fwd fr F H F' H' → Own K F' H' d v fd → New fr F' H' fp' fd → Q v H') →
      At K tabs (ancOf bor vs) fr ρ' F' fp' σ' H' → Fwd fr F H F' H' → Own K F' H' d v fd → New fr F' H' fp' fd → Q v H' := fun {d v ρ' σ' F' H' fp' fd} q A' fw o n => by
    have A2 := A'.cut hb'
    rw [hl] at A2
    exact q v F' H' _ fd A2 fw o (n.sub fun j a e => by
      by_cases hj : j ∈ bor
      · rw [if_pos hj] at e; exact e
      · rw [if_neg hj] at e; cases e)
  unfold gOf at h
  cases e : fb (ρ ++ List.replicate (N.length - ps.length) none) with
  | next ρ' =>
    rw [e] at h
    exact fun σ' F' H' fp' A' fw => fin h A' fw (.of (by unfold Frz; rfl)) .none
  | ret d ρ' =>
    rw [e] at h
    exact fun v σ' F' H' fp' fd A' fw o n => fin h A' fw o n
  | exc c d ρ' =>
    rw [e] at h
    intro cls dd σ' F' H' fp' A' fw x
    have A2 := A'.cut hb'
    rw [hl] at A2
    exact h cls dd F' H' _ A2 fw x
  | brk ρ' => rw [e] at h; exact h.elim
  | cnt ρ' => rw [e] at h; exact h.elim
  | bad => rw [e] at h; exact h.elim

/-! ### calls -/
def argD (ρ : Env) : T → Option D
  | .val d => some d
  | .at i => (ρ[i]?).join
def posOf : List T → Nat → Option Nat
  | [], _ => none
  | .at k :: ts, i => if k = i then some 0 else (posOf ts i).map (· + 1)
  | .val _ :: ts, i => (posOf ts i).map (· + 1)
def npl : List T → Bool
  | [] => true
  | .at k :: ts => (posOf ts k).isNone && npl ts
  | .val _ :: ts => npl ts
def backE : List T → Env → Env → Env
  | .at i :: ts, x :: xs, ρ => backE ts xs (ρ.set i x)
  | .val _ :: ts, _ :: xs, ρ => backE ts xs ρ
  | _, _, ρ => ρ
def eFn (G : Env → Out D) (fs : List (Env → Out T)) : Env → Out D := fun ρ => (argsO fs ρ).bind fun ts ρ1 => if npl ts = true then (match G (ts.map (argD ρ1)) with
  | .ok d ρc => .ok d (backE ts ρc ρ1)
  | .exc c d ρc => .exc c d (backE ts ρc ρ1)
  | .bad => .bad) else .bad
theorem posOf_at : ∀ {ts : List T} {i j : Nat}, posOf ts i = some j → ts[j]? = some (.at i)
  | [], _, _, h => by cases h
  | .at k :: ts, i, j, h => by
    unfold posOf at h
    split at h
    · rename_i e
      cases h; subst e; rfl
    · obtain ⟨j', e, h⟩ := Option.map_eq_some_iff.mp h
      subst h
      rw [List.getElem?_cons_succ]
      exact posOf_at e
  | .val _ :: ts, i, j, h => by
    unfold posOf at h
    obtain ⟨j', e, h⟩ := Option.map_eq_some_iff.mp h
    subst h
    rw [List.getElem?_cons_succ]
    exact posOf_at e
theorem posOf_mem : ∀ {ts : List T} {i j : Nat}, ts[j]? = some (.at i) → ∃ k, posOf ts i = some k
  | [], _, _, h => by simp at h
  | .at k :: ts, i, 0, h => by
    simp at h
    subst h
    exact ⟨0, by unfold posOf; rw [if_pos rfl]⟩
  | .at k :: ts, i, j + 1, h => by
    obtain ⟨k', e⟩ := posOf_mem (show ts[j]? = some (.at i) by simpa using h)
    unfold posOf
    by_cases hk : k = i
    · exact ⟨0, by rw [if_pos hk]⟩
    · exact ⟨k' + 1, by rw [if_neg hk, e]; rfl⟩
  | .val _ :: ts, i, 0, h => by simp at h
  | .val _ :: ts, i, j + 1, h => by
    obtain ⟨k', e⟩ := posOf_mem (show ts[j]? = some (.at i) by simpa using h)
    unfold posOf
    exact ⟨k' + 1, by rw [e]; rfl⟩
theorem npl_pos : ∀ {ts : List T} {i j : Nat}, npl ts = true → ts[j]? = some (.at i) → posOf ts i = some j
  | [], _, _, _, h => by simp at h
  | .at k :: ts, i, 0, _, h => by
    simp at h
    subst h
    unfold posOf; rw [if_pos rfl]
  | .at k :: ts, i, j + 1, n, h => by
    unfold npl at n
    rw [Bool.and_eq_true] at n
    have h' : ts[j]? = some (.at i) := by simpa using h
    have e := npl_pos n.2 h'
    unfold posOf
    by_cases hk : k = i
    · subst hk
      rw [e] at n
      cases n.1
    · rw [if_neg hk, e]; rfl
  | .val _ :: ts, i, 0, _, h => by simp at h
  | .val _ :: ts, i, j + 1, n, h => by
    have e := npl_pos (show npl ts = true from n) (show ts[j]? = some (.at i) by simpa using h)
    unfold posOf
    rw [e]; rfl
theorem backE_length : ∀ {ts : List T} {xs ρ : Env}, (backE ts xs ρ).length = ρ.length
  | [], _, _ => rfl
  | .at i :: ts, [], _ => rfl
  | .at i :: ts, x :: xs, ρ => by unfold backE; rw [backE_length, List.length_set]
  | .val _ :: ts, [], _ => rfl
  | .val _ :: ts, _ :: xs, ρ => by unfold backE; exact backE_length
theorem backE_off : ∀ {ts : List T} {xs ρ : Env} {i : Nat}, posOf ts i = none → (backE ts xs ρ)[i]? = ρ[i]?
  | [], _, _, _, _ => rfl
  | .at k :: ts, [], _, _, _ => rfl
  | .at k :: ts, x :: xs, ρ, i, h => by
    unfold posOf at h
    by_cases hk : k = i
    · rw [if_pos hk] at h; cases h
    · rw [if_neg hk] at h
      unfold backE
      rw [backE_off (by cases e : posOf ts i with
        | none => rfl
        | some j => rw [e] at h; cases h), List.getElem?_set_ne hk]
  | .val _ :: ts, [], _, _, _ => rfl
  | .val _ :: ts, _ :: xs, ρ, i, h => by
    unfold posOf at h
    unfold backE
    exact backE_off (by cases e : posOf ts i with
        | none => rfl
        | some j => rw [e] at h; cases h)
theorem backE_on : ∀ {ts : List T} {xs ρ : Env} {i j : Nat} {d : D}, npl ts = true → xs.length = ts.length → posOf ts i = some j → (backE ts xs ρ)[i]? = some (some d) → xs[j]? = some (some d)
  | [], _, _, _, _, _, _, _, h, _ => by cases h
  | .at k :: ts, [], _, _, _, _, _, hl, _, _ => by cases hl
  | .at k :: ts, x :: xs, ρ, i, j, d, n, hl, h, e => by
    unfold npl at n
    rw [Bool.and_eq_true] at n
    unfold posOf at h
    unfold backE at e
    by_cases hk : k = i
    · rw [if_pos hk] at h
      cases h
      subst hk
      have h0 : posOf ts k = none := by
        cases e1 : posOf ts k with
        | none => rfl
        | some j => rw [e1] at n; cases n.1
      rw [backE_off h0] at e
      have hlt : k < ρ.length := by
        have := (List.getElem?_eq_some_iff.mp e).1
        rw [List.length_set] at this; exact this
      rw [List.getElem?_set_self hlt] at e
      cases e
      rfl
    · rw [if_neg hk] at h
      obtain ⟨j', e1, h⟩ := Option.map_eq_some_iff.mp h
      subst h
      rw [List.getElem?_cons_succ]
      exact backE_on n.2 (by simpa using hl) e1 e
  | .val _ :: ts, [], _, _, _, _, _, hl, _, _ => by cases hl
  | .val _ :: ts, y :: xs, ρ, i, j, d, n, hl, h, e => by
    unfold posOf at h
    unfold backE at e
    obtain ⟨j', e1, h⟩ := Option.map_eq_some_iff.mp h
    subst h
    rw [List.getElem?_cons_succ]
    exact backE_on (show npl ts = true from n) (by simpa using hl) e1 e
theorem Paired.at {α β : Type} {R : α → β → Prop} : ∀ {as : List α} {bs : List β} {j : Nat} {a : α}, Paired R as bs → as[j]? = some a → ∃ b, bs[j]? = some b ∧ R a b
  | _, _, j, a, .nil, e => by simp at e
  | _, _, 0, a, .cons h t, e => by
    simp at e
    subst e
    exact ⟨_, rfl, h⟩
  | _, _, j + 1, a, .cons h t, e => by
    obtain ⟨b, e1, r⟩ := Paired.at t (show _ = some a by simpa using e)
    exact ⟨b, by simpa using e1, r⟩
section
variable {K : PySem.W.Frag} {tabs : List Addr} {anc : List (Nat × V)} {fr : Addr → Prop} {ρ : Env} {F H : Hp} {fp : Nat → Option Addr} {σ : L2.St}
/-- what a callee does not see of the caller's -/
def frc (fr : Addr → Prop) (fp : Nat → Option Addr) (ts : List T) : Addr → Prop := fun a => fr a ∨ ∃ i, posOf ts i = none ∧ fp i = some a
def fpc (fp : Nat → Option Addr) (ts : List T) : Nat → Option Addr := fun j => match ts[j]? with
  | some (.at i) => fp i
  | _ => none
theorem At.enter {ts : List T} {vs : List V} {bor : List Nat} (A : At K tabs anc fr ρ F fp σ H) (n : npl ts = true) (r : Paired (TRel K F σ) ts vs) (hb : ∀ j ∈ bor, j < vs.length) :
    At K tabs (ancOf bor vs) (frc fr fp ts) (ts.map (argD ρ)) F (fpc fp ts) (vs.map some) H := by
  have gat : ∀ {j : Nat} {a : Addr}, fpc fp ts j = some a → ∃ i, ts[j]? = some (.at i) ∧ fp i = some a := fun {j a} e => by
    unfold fpc at e
    split at e
    · exact ⟨_, by assumption, e⟩
    · cases e
  refine ⟨A.sub, by rw [List.length_map, List.length_map, Paired.length r], fun j d e => ?_, fun j a e => ?_, fun j k a e1 e2 => ?_, fun a e => ?_, fun q hq => ?_, fun P hP => ?_⟩
  · rw [List.getElem?_map] at e
    obtain ⟨t, e1, e2⟩ := Option.map_eq_some_iff.mp e
    obtain ⟨v, e3, rv⟩ := Paired.at r e1
    refine ⟨v, by rw [List.getElem?_map, e3]; rfl, ?_⟩
    unfold fpc
    rw [e1]
    cases t with
    | val d' =>
      cases e2
      exact .of rv
    | «at» i =>
      have e4 : ρ[i]? = some (some d) := by
        dsimp only [argD] at e2
        cases e5 : ρ[i]? with
        | none => rw [e5] at e2; cases e2
        | some o => rw [e5] at e2; rw [show o = some d from e2]
      obtain ⟨v', e6, o⟩ := A.slot i d e4
      rw [show σ[i]? = some (some v) from rv] at e6
      cases e6
      exact o
  · obtain ⟨i, h1, h2⟩ := gat e
    obtain ⟨q1, q2, q3⟩ := A.fF i a h2
    refine ⟨q1, fun z => ?_, q3⟩
    rcases z with z | ⟨i', z1, z2⟩
    · exact q2 z
    · have := A.dj i i' a h2 z2
      subst this
      rw [npl_pos n h1] at z1
      cases z1
  · obtain ⟨i, h1, h2⟩ := gat e1
    obtain ⟨i', h3, h4⟩ := gat e2
    have := A.dj i i' a h2 h4
    subst this
    have z1 := npl_pos n h1
    rw [npl_pos n h3] at z1
    cases z1
    rfl
  · rcases e with e | ⟨i, _, e⟩
    · exact A.frF a e
    · obtain ⟨q1, q2, xs, q3⟩ := A.fF i a e
      exact ⟨q1, by rw [q3]; exact fun z => nomatch z⟩
  · obtain ⟨j, hj, rfl⟩ := List.mem_map.mp hq
    have hl := hb j hj
    rw [List.getElem?_map, List.getElem?_eq_getElem hl, List.getD_eq_getElem?_getD, List.getElem?_eq_getElem hl]; rfl
  · obtain ⟨q1, q2, q3⟩ := A.tab P hP
    refine ⟨q1, q2, fun z => ?_⟩
    rcases z with z | ⟨i, _, z⟩
    · exact q3 z
    · obtain ⟨_, _, xs, q4⟩ := A.fF i P z
      obtain ⟨ps, q5, _⟩ := q1
      rw [q4] at q5
      cases q5
def fpb (fp fp' : Nat → Option Addr) (ts : List T) : Nat → Option Addr := fun i => match posOf ts i with
  | some j => fp' j
  | none => fp i
theorem At.leave {ts : List T} {vs : List V} {anc' : List (Nat × V)} {ρ' : Env} {F' H' : Hp} {fp' : Nat → Option Addr} (A : At K tabs anc fr ρ F fp σ H) (n : npl ts = true) (r : Paired (TRel K F σ) ts vs)
    (A' : At K tabs anc' (frc fr fp ts) ρ' F' fp' (vs.map some) H') (fw : Fwd (frc fr fp ts) F H F' H') : At K tabs anc fr (backE ts ρ' ρ) F' (fpb fp fp' ts) σ H' ∧ Fwd fr F H F' H' := by
  have hl : ρ'.length = ts.length := by rw [← A'.len, List.length_map, Paired.length r]
  refine ⟨⟨A'.sub, by rw [backE_length]; exact A.len, fun i d e => ?_, fun i a e => ?_, fun i k a e1 e2 => ?_, fun a e => A'.frF a (.inl e), A.anc, fun P hP => ?_⟩, fw.sub, fun a e => fw.fr a (.inl e)⟩
  · unfold fpb
    cases hp : posOf ts i with
    | none =>
      rw [backE_off hp] at e
      obtain ⟨v, e1, o⟩ := A.slot i d e
      exact ⟨v, e1, o.frame fw.sub fun a ea => fw.fr a (.inr ⟨i, hp, ea⟩)⟩
    | some j =>
      have e2 := backE_on n hl hp e
      obtain ⟨v, e3, o⟩ := A'.slot j d e2
      obtain ⟨v', e4, rv⟩ := Paired.at r (posOf_at hp)
      rw [List.getElem?_map, e4] at e3
      cases e3
      exact ⟨v, rv, o⟩
  · unfold fpb at e
    split at e
    · rename_i j hp
      obtain ⟨q1, q2, q3⟩ := A'.fF j a e
      exact ⟨q1, fun z => q2 (.inl z), q3⟩
    · rename_i hp
      obtain ⟨q1, q2, xs, q3⟩ := A.fF i a e
      have z : frc fr fp ts a := .inr ⟨i, hp, e⟩
      exact ⟨(A'.frF a z).1, q2, xs, by rw [fw.fr a z]; exact q3⟩
  · unfold fpb at e1 e2
    split at e1
    · rename_i j hp
      split at e2
      · rename_i j' hp'
        have := A'.dj j j' a e1 e2
        subst this
        have z := posOf_at hp
        rw [posOf_at hp'] at z
        cases z
        rfl
      · rename_i hp'
        exact absurd (Or.inr ⟨k, hp', e2⟩) (A'.fF j a e1).2.1
    · rename_i hp
      split at e2
      · rename_i j' hp'
        exact absurd (Or.inr ⟨i, hp, e1⟩) (A'.fF j' a e2).2.1
      · exact A.dj i k a e1 e2
  · obtain ⟨q1, q2, q3⟩ := A'.tab P hP
    exact ⟨q1, q2, fun z => q3 (.inl z)⟩
theorem New.leave {ts : List T} {F' H' : Hp} {fp' : Nat → Option Addr} {fd : Option Addr} (n : New (frc fr fp ts) F' H' fp' fd) : New fr F' H' (fpb fp fp' ts) fd := fun a e => by
  obtain ⟨n1, n2, n3, n4⟩ := n a e
  refine ⟨n1, fun z => n2 (.inl z), n3, fun i z => ?_⟩
  unfold fpb at z
  split at z
  · exact n4 _ z
  · rename_i hp
    exact n2 (.inr ⟨i, hp, z⟩)
end
section
variable {X : Cx} {p : Par} {e : Expr} {es : List Expr} {fs : List (Env → Out T)} {pos : Pos}
theorem de_call {CX : CXT} {k : Nat} {f : Addr} {fd : FuncData} {ps : List Str} {bor : List Nat} {n : Nat} {G : Env → Out D} {x : Str} {pp : Pos} (Fn : FnOk X.prog X.w X.K X.mg X.base CX k f fd ps (spD X.K X.mg p.tabs bor n G)) (hr : Room k X.A) (hg : Gl X x) (hm : X.mg x = some (.ref f))
    (hk : PySem.W.keepIn X.K (.ref f) = true) (hb : Binds X.K fd ps []) (hx : ∀ σ, PassesAt CX X σ (WE p.W σ)) (ha : DA X p fs (e :: es)) (hn : (e :: es).length = n := by rfl) (hfs : fs.length = n := by rfl) (hbor : ∀ j ∈ bor, j < n := by decide) (hdb : (x == ("__debug__" : Str)) = false := by decide)
    (he : starEach (e :: es) X.env = (false, eval e X.env) :: starEach es X.env := by rfl) (hpl : (backTo pos (starEach es X.env)).any (·.1) = false := by rfl) : DE X p (eFn G fs) (.Call (.Name x pp) (e :: es) [] pos) :=
  PE.weak (pe_callS Fn hr hg hm hk hb hx ha hdb he hpl) fun σ H Q ⟨ρ, F, fp, fr, anc, bb, A, s⟩ => by
    have hlen : ∀ (fs : List (Env → Out T)) (ρ ρ' : Env) (ts : List T), argsO fs ρ = .ok ts ρ' → ts.length = fs.length := fun fs => by
      induction fs with
      | nil => intro ρ ρ' ts h; cases h; rfl
      | cons f fs ih =>
        intro ρ ρ' ts h
        unfold argsO at h
        cases e1 : f ρ with
        | ok t ρ1 =>
          rw [e1, Out.bind_ok] at h
          cases e2 : argsO fs ρ1 with
          | ok ts' ρ2 =>
            rw [e2, Out.bind_ok] at h
            cases h
            rw [List.length_cons, List.length_cons, ih _ _ _ e2]
          | exc c d ρ2 => rw [e2] at h; cases h
          | bad => rw [e2] at h; cases h
        | exc c d ρ1 => rw [e1] at h; cases h
        | bad => rw [e1] at h; cases h
    have s := Sat.bind s
    refine ⟨ρ, F, fp, fr, anc, bb, A, ?_⟩
    cases e1 : argsO fs ρ with
    | bad => rw [e1] at s; exact s.elim
    | exc c d ρ1 => rw [e1] at s; exact s
    | ok ts ρ1 =>
      rw [e1] at s
      intro vs F1 H1 fp1 A1 fw1 r1
      have hvs : vs.length = n := by rw [← Paired.length r1, hlen fs ρ ρ1 ts e1, hfs]
      have hb' : ∀ j ∈ bor, j < vs.length := fun j hj => by rw [hvs]; exact hbor j hj
      have s : Sat (if npl ts = true then (match G (ts.map (argD ρ1)) with
        | .ok d ρc => .ok d (backE ts ρc ρ1)
        | .exc c d ρc => .exc c d (backE ts ρc ρ1)
        | .bad => .bad) else .bad) (okD X.K p anc fr F H σ Q) (exD X.K X.mg p anc fr F H σ) := s
      split at s
      · rename_i hnp
        refine ⟨hvs, ts.map (argD ρ1), F1, fpc fp1 ts, frc fr fp1 ts, A1.enter hnp r1 hb', ?_⟩
        cases e2 : G (ts.map (argD ρ1)) with
        | bad => rw [e2] at s; exact s.elim
        | ok d ρc =>
          rw [e2] at s
          intro v F2 H2 fp2 fd2 A2 fw2 o n2
          obtain ⟨A3, fw3⟩ := A1.leave hnp r1 A2 fw2
          exact s v F2 H2 _ fd2 A3 (fw1.trans fw3) o n2.leave
        | exc c d ρc =>
          rw [e2] at s
          intro cls dd F2 H2 fp2 A2 fw2 x
          obtain ⟨A3, fw3⟩ := A1.leave hnp r1 A2 fw2
          exact s cls dd F2 H2 _ A3 (fw1.trans fw3) x
      · exact s.elim
end
end Dv
end
section
set_option Elab.async false
set_option linter.all false
set_option maxRecDepth 100000
set_option maxHeartbeats 2000000
/-! The data layer: comprehensions, generator expressions. -/
namespace Dv
open PySem PySem.Spec PyProof.Rows L2 GxR GxA
def wipeE (ρ : Env) : List Nat → Env
  | [] => ρ
  | v :: vs => (wipeE ρ vs).set v none
/-- data that stays as it is -/
def stil : Option (Option D) → Option D
  | some (some (.own _)) => none
  | some (some (.lck _)) => none
  | some o => o
  | none => none
/-- the block's own slots as they were, where what they held is read only -/
def restE (ρ0 ρ : Env) : List Nat → Env
  | [] => ρ
  | v :: vs => (restE ρ0 ρ vs).set v (stil ρ0[v]?)
section
variable {K : PySem.W.Frag} {tabs : List Addr} {anc : List (Nat × V)} {fr : Addr → Prop} {ρ : Env} {F H : Hp} {fp : Nat → Option Addr} {σ : L2.St}
theorem wipeE_length (ρ : Env) : ∀ vs : List Nat, (wipeE ρ vs).length = ρ.length
  | [] => rfl
  | v :: vs => by unfold wipeE; rw [List.length_set, wipeE_length ρ vs]
theorem wipeE_some {i : Nat} {d : D} : ∀ {vs : List Nat}, (wipeE ρ vs)[i]? = some (some d) → ρ[i]? = some (some d) ∧ i ∉ vs
  | [], h => ⟨h, by simp⟩
  | v :: vs, h => by
    unfold wipeE at h
    by_cases hv : v = i
    · subst hv
      have hl := (List.getElem?_eq_some_iff.mp h).1
      rw [List.getElem?_set_self (by rw [List.length_set] at hl; exact hl)] at h
      cases h
    · rw [List.getElem?_set_ne hv] at h
      obtain ⟨h1, h2⟩ := wipeE_some h
      exact ⟨h1, fun z => by
        rcases List.mem_cons.mp z with z | z
        · exact hv z.symm
        · exact h2 z⟩
theorem wipe_keep {i : Nat} : ∀ {vs : List Nat}, i ∉ vs → (wipe σ vs)[i]? = σ[i]?
  | [], _ => rfl
  | v :: vs, h => by
    unfold wipe
    rw [List.getElem?_set_ne (fun z => h (List.mem_cons.mpr (.inl z.symm))), wipe_keep fun z => h (List.mem_cons_of_mem _ z)]
theorem restE_length (ρ0 ρ : Env) : ∀ vs : List Nat, (restE ρ0 ρ vs).length = ρ.length
  | [] => rfl
  | v :: vs => by unfold restE; rw [List.length_set, restE_length ρ0 ρ vs]
theorem restE_some {ρ0 : Env} {i : Nat} {d : D} : ∀ {vs : List Nat}, (restE ρ0 ρ vs)[i]? = some (some d) → (i ∉ vs ∧ ρ[i]? = some (some d)) ∨ (i ∈ vs ∧ stil ρ0[i]? = some d)
  | [], h => .inl ⟨by simp, h⟩
  | v :: vs, h => by
    unfold restE at h
    by_cases hv : v = i
    · subst hv
      have hl := (List.getElem?_eq_some_iff.mp h).1
      rw [List.getElem?_set_self (by rw [List.length_set] at hl; exact hl)] at h
      exact .inr ⟨List.mem_cons_self, Option.some.inj h⟩
    · rw [List.getElem?_set_ne hv] at h
      rcases restE_some h with ⟨h1, h2⟩ | ⟨h1, h2⟩
      · exact .inl ⟨fun z => by
          rcases List.mem_cons.mp z with z | z
          · exact hv z.symm
          · exact h1 z, h2⟩
      · exact .inr ⟨List.mem_cons_of_mem _ h1, h2⟩
theorem stil_eq {o : Option (Option D)} {d : D} (h : stil o = some d) : o = some (some d) ∧ frz d = d := by
  unfold stil at h
  split at h
  · cases h
  · cases h
  · rename_i o' h1 h2
    subst h
    refine ⟨rfl, ?_⟩
    cases d with
    | own ds => exact absurd rfl (h1 ds)
    | lck ds => exact absurd rfl (h2 ds)
    | _ => rfl
  · cases h
theorem At.wiped (A : At K tabs anc fr ρ F fp σ H) (vs : List Nat) (hv : ∀ i ∈ vs, i ∉ anc.map (·.1)) : At K tabs anc fr (wipeE ρ vs) F (fun i => if i ∈ vs then none else fp i) (wipe σ vs) H := by
  refine ⟨A.sub, by rw [wipe_length, wipeE_length]; exact A.len, fun i d e => ?_, fun i a e => ?_, fun i j a e1 e2 => ?_, A.frF, fun q hq => ?_, A.tab⟩
  · obtain ⟨h1, h2⟩ := wipeE_some e
    rw [if_neg h2, wipe_keep h2]
    exact A.slot i d h1
  · by_cases hi : i ∈ vs
    · rw [if_pos hi] at e; cases e
    · rw [if_neg hi] at e; exact A.fF i a e
  · by_cases hi : i ∈ vs
    · rw [if_pos hi] at e1; cases e1
    · by_cases hj : j ∈ vs
      · rw [if_pos hj] at e2; cases e2
      · rw [if_neg hi] at e1; rw [if_neg hj] at e2; exact A.dj i j a e1 e2
  · rw [wipe_keep fun z => hv q.1 z (List.mem_map.mpr ⟨q, hq, rfl⟩)]
    exact A.anc q hq
/-- behind the block: σ is as it was, the contents of the others' lists may be new -/
theorem At.unwiped {ρ' : Env} {F' H' : Hp} {fp' : Nat → Option Addr} {σ' : L2.St} {vs : List Nat} (A : At K tabs anc fr ρ F fp σ H) (A' : At K tabs anc fr ρ' F' fp' σ' H') (hσ : ∀ i, i ∉ vs → σ'[i]? = σ[i]?) (hl : σ'.length = σ.length) (s : Sub F F') :
    At K tabs anc fr (restE ρ ρ' vs) F' (fun i => if i ∈ vs then none else fp' i) σ H' := by
  refine ⟨A'.sub, by rw [restE_length, ← A'.len, hl], fun i d e => ?_, fun i a e => ?_, fun i j a e1 e2 => ?_, A'.frF, A.anc, A'.tab⟩
  · rcases restE_some e with ⟨h1, h2⟩ | ⟨h1, h2⟩
    · rw [if_neg h1, ← hσ i h1]
      exact A'.slot i d h2
    · rw [if_pos h1]
      obtain ⟨h3, h4⟩ := stil_eq h2
      obtain ⟨v, e1, o⟩ := A.slot i d h3
      obtain ⟨_, z⟩ := o.flat h4
      exact ⟨v, e1, .of (z.mono s)⟩
  · by_cases hi : i ∈ vs
    · rw [if_pos hi] at e; cases e
    · rw [if_neg hi] at e; exact A'.fF i a e
  · by_cases hi : i ∈ vs
    · rw [if_pos hi] at e1; cases e1
    · by_cases hj : j ∈ vs
      · rw [if_pos hj] at e2; cases e2
      · rw [if_neg hi] at e1; rw [if_neg hj] at e2; exact A'.dj i j a e1 e2
theorem wipe_in {i : Nat} : ∀ {vs : List Nat}, i ∈ vs → i < σ.length → (wipe σ vs)[i]? = some none
  | [], h, _ => by cases h
  | v :: vs, h, hl => by
    unfold wipe
    by_cases hv : v = i
    · subst hv; rw [List.getElem?_set_self (by rw [wipe_length]; exact hl)]
    · rw [List.getElem?_set_ne hv]
      exact wipe_in ((List.mem_cons.mp h).resolve_left fun z => hv z.symm) hl
theorem wipe_but {σ' : L2.St} {l vs : List Nat} (b : But l (wipe σ vs) σ') (h : ∀ i ∈ l, i ∈ vs) : wipe σ' vs = wipe σ vs := by
  have hl : σ'.length = σ.length := b.1.trans (wipe_length σ vs)
  apply List.ext_getElem?
  intro i
  by_cases hi : i ∈ vs
  · by_cases h2 : i < σ.length
    · rw [wipe_in hi h2, wipe_in hi (by rw [hl]; exact h2)]
    · rw [List.getElem?_eq_none (by rw [wipe_length, hl]; omega), List.getElem?_eq_none (by rw [wipe_length]; omega)]
  · rw [wipe_keep hi, b.2 i fun z => hi (h i z)]
/-- others' objects may be written -/
theorem At.wfr (A : At K tabs anc fr ρ F fp σ H) {a : Addr} {o : HO} (ha : fr a) : At K tabs anc fr ρ F fp σ (upd H a o) := by
  obtain ⟨n1, n2⟩ := A.frF a ha
  have nfp : ∀ i b, fp i = some b → b ≠ a := fun i b e z => (A.fF i b e).2.1 (z ▸ ha)
  have ntb : ∀ P, P ∈ tabs → P ≠ a := fun P hP z => (A.tab P hP).2.2 (z ▸ ha)
  refine ⟨fun b u e => ?_, A.len, fun i d e => ?_, fun i b e => ?_, A.dj, fun b e => ?_, A.anc, fun P hP => ?_⟩
  · have z : b ≠ a := fun z => by rw [z, n1] at e; cases e
    rw [upd_ne z]; exact A.sub b u e
  · obtain ⟨v, e1, q⟩ := A.slot i d e
    exact ⟨v, e1, q.frame (Sub.refl _) fun b eb => upd_ne (nfp i b eb)⟩
  · obtain ⟨q1, q2, xs, q3⟩ := A.fF i b e
    exact ⟨q1, q2, xs, by rw [upd_ne (nfp i b e)]; exact q3⟩
  · obtain ⟨q1, q2⟩ := A.frF b e
    refine ⟨q1, ?_⟩
    by_cases z : b = a
    · subst z; rw [upd_same]; exact fun z => nomatch z
    · rw [upd_ne z]; exact q2
  · obtain ⟨⟨ps, q1, q1'⟩, q2, q3⟩ := A.tab P hP
    exact ⟨⟨ps, by rw [upd_ne (ntb P hP)]; exact q1, q1'⟩, q2, q3⟩
end
/-! ### tests -/
def DTs (X : Cx) (p : Par) (f : Env → Out Bool) (ifs : List Expr) : Prop := PTs X ifs (tT X.K X.mg p f)
def bYes : Env → Out Bool := fun ρ => .ok true ρ
theorem PTs.weak {X : Cx} {es : List Expr} {t t' : TT} (h : PTs X es t) (w : ∀ σ H Q, t' σ H Q → t σ H Q) : PTs X es t' := ⟨fun pins s σ H Q I q => h.run pins s σ H Q I (w σ H Q q)⟩
theorem dts_nil {X : Cx} {p : Par} : DTs X p bYes [] := PTs.weak pts_nil fun σ H Q ⟨ρ, F, fp, fr, anc, bb, A, s⟩ => s F H fp A Fwd.refl
theorem dts_one {X : Cx} {p : Par} {f : Env → Out Bool} {c : Expr} (h : DT X p f c) : DTs X p f [c] := pts_one h
/-! ### [elt for tg in iter if ..] -/
def lcL (t : Tg) (tst : Env → Out Bool) (elt : Env → Out D) (vs : List Nat) : List D → List D → Env → Out (List D)
  | [], acc, ρ => .ok acc ρ
  | d :: ds, acc, ρ => match tgSet t d (wipeE ρ vs) with
    | none => .bad
    | some ρ1 => (tst ρ1).bind fun b ρ2 => if b = true then (elt ρ2).bind fun v ρ3 => if acc.length < sizeLine then lcL t tst elt vs ds (acc ++ [v]) ρ3 else .bad else lcL t tst elt vs ds acc ρ2
def eLc (it : Env → Out (List D)) (t : Tg) (tst : Env → Out Bool) (elt : Env → Out D) (vs : List Nat) : Env → Out D := fun ρ => (it ρ).bind fun ds ρ1 => match lcL t tst elt vs ds [] ρ1 with
  | .ok acc ρ2 => .ok (.own acc) (restE ρ1 (wipeE ρ2 vs) vs)
  | _ => .bad
/-- what a block's frame is asked: no exception -/
abbrev Par.blk (p : Par) : Par := { p with W := fun _ _ _ _ => False }
theorem Sat.noex {α : Type} {o : Out α} {P : α → Env → Prop} {E E' : Str → D → Env → Prop} (h : Sat o P E) (n : ∀ c d ρ, o ≠ .exc c d ρ) : Sat o P E' := by
  cases o with
  | ok a ρ => exact h
  | exc c d ρ => exact absurd rfl (n c d ρ)
  | bad => exact h
section
variable {X : Cx} {p : Par} {elt tg iter e : Expr} {ifs : List Expr} {scope : Scope} {own : List (Str × Nat)} {pos : Pos} {t : Tg} {g : TG} {it : Env → Out (List D)} {ft : Env → Out Bool} {fe : Env → Out D}
theorem bind_ok_of {α β : Type} {o : Out α} {f : α → Env → Out β} {b : β} {ρ : Env} (h : o.bind f = .ok b ρ) : ∃ a ρ', o = .ok a ρ' ∧ f a ρ' = .ok b ρ := by
  cases o with
  | ok a ρ' => exact ⟨a, ρ', rfl, h⟩
  | exc c d ρ' => cases h
  | bad => cases h
theorem lc_sat {K : PySem.W.Frag} {mg : Str → Option Value} {J : It} {ds : List D} {vs : List Nat} {σ : L2.St} {H F : Hp} {ρ ρe : Env} {acc : List D} {fp : Nat → Option Addr} {fr : Addr → Prop} {anc : List (Nat × V)} {Q : VK} (bb : anc.map (·.1) = p.bor) (hv : ∀ i ∈ vs, i ∉ p.bor) (ht : ∀ i ∈ tgIx t, i ∈ vs) (hr : TgR K p.blk t g) (G : Gv K J ds F)
    (A : At K p.tabs anc fr ρ F fp σ H) (hL : lcL t ft fe vs ds [] ρ = .ok acc ρe) (hQ : okD K p anc fr F H σ Q (.own acc) (restE ρ (wipeE ρe vs) vs)) :
    ∀ D, H D = none → ∃ W : Nat → Nat → Hp → Prop, (∃ m, W 0 m (upd H D (.lst []))) ∧ ∀ i m H, W i m H → (J.stop i H ∧ Q (.ref D) H) ∨ (J.go i H ∧ ∃ Nx : Hp → Prop, (∀ H', Nx H' → ∃ m', m' < m ∧ W (i + 1) m' H') ∧
      ∀ x H', J.yld i H x H' → g x (wipe σ vs) H' fun σ2 H2 => wipe σ2 vs = wipe σ vs ∧ tT K mg p.blk ft σ2 H2 fun b H3 => if b = true then tV K mg p.blk fe σ2 H3 fun y H4 => ∃ acc, H4 D = some (.lst acc) ∧ acc.length < sizeLine ∧ Nx (upd H4 D (.lst (acc ++ [y]))) else Nx H3) := by
  intro C hC
  have hva : ∀ i ∈ vs, i ∉ anc.map (·.1) := by rw [bb]; exact hv
  obtain ⟨A0, fw0, n0⟩ := A.allocO (xs := []) hC
  have AL := (A0.lend n0).wiped vs hva
  let fr' : Addr → Prop := fun a => fr a ∨ some C = some a
  have frC : fr' C := .inr rfl
  let Pv : Nat → Hp → Prop := fun i H' => ∃ ρ' F' fp' acc' xs', At K p.tabs anc fr' (wipeE ρ' vs) F' fp' (wipe σ vs) H' ∧ Fwd fr F H F' H' ∧ H' C = some (.lst xs') ∧ FrzL K F' acc' xs' ∧ lcL t ft fe vs (ds.drop i) acc' ρ' = .ok acc ρe
  refine ⟨fun i m H' => m = ds.length - i ∧ i ≤ ds.length ∧ Pv i H', ⟨ds.length, by simp, Nat.zero_le _, ρ, F, _, [], [], AL, fw0, upd_same, .nil, hL⟩, ?_⟩
  rintro i m H' ⟨rfl, hi, ρ', F', fp', acc', xs', A', fw', hC', r', hL'⟩
  by_cases hlt : i < ds.length
  · refine .inr ⟨G.go i F' H' hlt fw'.sub A'.sub, Pv (i + 1), fun H2 q => ⟨ds.length - (i + 1), by omega, rfl, hlt, q⟩, fun x H2 y => ?_⟩
    obtain ⟨d, hd, y⟩ := G.yld i F' H' x H2 hlt fw'.sub A'.sub y
    obtain ⟨F2, A2, fw2, z⟩ := A'.gave y
    have e1 : ds.drop i = d :: ds.drop (i + 1) := by
      rw [List.drop_eq_getElem_cons hlt]
      congr 1
      rw [List.getElem?_eq_getElem hlt] at hd
      exact Option.some.inj hd
    rw [e1] at hL'
    unfold lcL at hL'
    split at hL'
    · cases hL'
    · rename_i ρ1 hts
      refine hr anc fr' (wipeE ρ' vs) ρ1 F2 fp' (wipe σ vs) H2 d x _ bb A2 z hts fun σ3 fp3 A3 hb => ⟨wipe_but hb ht, ρ1, F2, fp3, fr', anc, bb, A3, ?_⟩
      have hw := wipe_but hb ht
      obtain ⟨b, ρ2, e2, hL'⟩ := bind_ok_of hL'
      rw [e2]
      intro F4 H4 fp4 A4 fw4
      have out : ∀ {F5 H5}, Fwd fr' F' H' F5 H5 → Fwd fr F H F5 H5 := fun f => fw'.trans ⟨f.sub, fun a ha => f.fr a (.inl ha)⟩
      cases b with
      | false =>
        rw [if_neg Bool.false_ne_true] at hL' ⊢
        have A5 := A4.wiped vs hva
        rw [hw] at A5
        have f := fw2.trans fw4
        exact ⟨ρ2, F4, _, acc', xs', A5, out f, (f.fr C frC).trans hC', r'.mono f.sub, hL'⟩
      | true =>
        rw [if_pos rfl] at hL' ⊢
        obtain ⟨v, ρ3, e3, hL'⟩ := bind_ok_of hL'
        refine ⟨ρ2, F4, fp4, fr', anc, bb, A4, ?_⟩
        rw [e3]
        intro w F6 H6 fp6 A6 fw6 zv
        have f := (fw2.trans fw4).trans fw6
        split at hL'
        · rename_i hsz
          have A7 := (A6.wfr (o := .lst (xs' ++ [w])) frC).wiped vs hva
          rw [hw] at A7
          have q := out f
          have nC : ∀ a, fr a → a ≠ C := fun a ha z => (n0 C rfl).2.1 (z ▸ ha)
          exact ⟨xs', (f.fr C frC).trans hC', by rw [r'.length]; exact hsz, ρ3, F6, _, acc' ++ [v], xs' ++ [w], A7, ⟨q.sub, fun a ha => (upd_ne (nC a ha)).trans (q.fr a ha)⟩, upd_same, (r'.mono f.sub).append (.cons zv .nil), hL'⟩
        · cases hL'
  · have e : i = ds.length := by omega
    subst e
    refine .inl ⟨G.stop F' H' fw'.sub A'.sub, ?_⟩
    rw [List.drop_length] at hL'
    unfold lcL at hL'
    cases hL'
    have AF := A.unwiped (A'.unlend (fr := fr) fun a h => .inl h) (vs := vs) (fun i h => wipe_keep h) (wipe_length σ vs) fw'.sub
    refine hQ (.ref C) F' H' _ (some C) AF fw' ⟨C, xs', rfl, rfl, hC', r'⟩ fun a e => ?_
    cases e
    refine ⟨(A'.frF C frC).1, (n0 C rfl).2.1, ⟨xs', hC'⟩, fun j z => ?_⟩
    by_cases hj : j ∈ vs
    · rw [if_pos hj] at z; cases z
    · rw [if_neg hj] at z; exact (A'.fF j C z).2.1 frC
/-- what a block's frame gives its parts -/
theorem de_lc (hc : X.calm = true) (hN : X.N.Nodup) (hi : DI X p it tg iter) (ok : BlkOk X.N X.env.scope scope own) (hv : ∀ i ∈ own.map (·.2), i ∉ p.bor) (ht : ∀ i ∈ tgIx t, i ∈ own.map (·.2)) (hr : TgR X.K p.blk t g)
    (hg : ∀ (s : Shared) (H : Hp) (C : Addr) (cl : List (Str × Addr)) (fp : List Addr), PG (X.blk s H scope (compEnvC scope cl C X.env) fp) tg g)
    (hft : ∀ (s : Shared) (H : Hp) (C : Addr) (cl : List (Str × Addr)) (fp : List Addr), DTs (X.blk s H scope (compEnvC scope cl C X.env) fp) p.blk ft ifs)
    (hfe : ∀ (s : Shared) (H : Hp) (C : Addr) (cl : List (Str × Addr)) (fp : List Addr), DV (X.blk s H scope (compEnvC scope cl C X.env) fp) p.blk fe elt)
    (hs : ∀ x, foldedSetIterable iter X.env x = pure x := by intro _; rfl) : DE X p (eLc it t ft fe (own.map (·.2))) (.ListComp elt [⟨tg, iter, ifs, 0⟩] scope pos) :=
  PE.weak (pe_lc (tt := tT X.K X.mg p.blk ft) (te := tV X.K X.mg p.blk fe) hc hN hi ok hg hft hfe hs) fun σ H Q ⟨ρ, F, fp, fr, anc, bb, A, s⟩ => by
    refine ⟨ρ, F, fp, fr, anc, bb, A, (Sat.bind s).mono (fun ds ρ1 s1 J F1 H1 fp1 A1 fw1 G => ?_) fun c d ρ' q => q⟩
    cases e : lcL t ft fe (own.map (·.2)) ds [] ρ1 with
    | ok acc ρ2 =>
      rw [e] at s1
      exact lc_sat bb hv ht hr G A1 e fun v F2 H2 fp2 fd A2 fw2 o n => s1 v F2 H2 fp2 fd A2 (fw1.trans fw2) o n
    | exc c d ρ2 => rw [e] at s1; exact s1.elim
    | bad => rw [e] at s1; exact s1.elim
/-- name = [..] on one line -/
theorem ds_setLc {i : Nat} {y : Str} {py spos : Pos} (hc : X.calm = true) (hN : X.N.Nodup) (hy : X.N[i]? = some y) (hyl : X.env.scope.names.lookup y = some .local) (hsw : swapsWith (.ListComp elt [⟨tg, iter, ifs, 0⟩] scope pos) (some (.Name y py)) spos.line X.env = pure true)
    (hi : DI X p it tg iter) (ok : BlkOk X.N X.env.scope scope own) (hv : ∀ i ∈ own.map (·.2), i ∉ p.bor) (ht : ∀ i ∈ tgIx t, i ∈ own.map (·.2)) (hr : TgR X.K p.blk t g)
    (hg : ∀ (s : Shared) (H : Hp) (C : Addr) (cl : List (Str × Addr)) (fp : List Addr), PG (X.blk s H scope (compEnvC scope cl C X.env) fp) tg g)
    (hft : ∀ (s : Shared) (H : Hp) (C : Addr) (cl : List (Str × Addr)) (fp : List Addr), DTs (X.blk s H scope (compEnvC scope cl C X.env) fp) p.blk ft ifs)
    (hfe : ∀ (s : Shared) (H : Hp) (C : Addr) (cl : List (Str × Addr)) (fp : List Addr), DV (X.blk s H scope (compEnvC scope cl C X.env) fp) p.blk fe elt)
    (hb : i ∉ p.bor := by first | decide | (dsimp only; decide)) (hs : ∀ x, foldedSetIterable iter X.env x = pure x := by intro _; rfl) : DS X p (sSet i (eLc it t ft fe (own.map (·.2)))) (.Assign [.Name y py] (.ListComp elt [⟨tg, iter, ifs, 0⟩] scope pos) spos) :=
  PS.weak (ps_setLc (tt := tT X.K X.mg p.blk ft) (te := tV X.K X.mg p.blk fe) hc hN hy hyl hsw hi ok hg hft hfe hs) fun σ H D ⟨ρ, F, fp, fr, anc, bb, A, s⟩ => by
    refine ⟨ρ, F, fp, fr, anc, bb, A, (Sat.bind (FSat.un (σ := σ) s)).mono (fun ds ρ1 s1 J F1 H1 fp1 A1 fw1 G => ?_) fun c d ρ' q => q⟩
    cases e : lcL t ft fe (own.map (·.2)) ds [] ρ1 with
    | ok acc ρ2 =>
      rw [e] at s1
      refine lc_sat (Q := fun x H1 => gName i x σ H1 D.nx) bb hv ht hr G A1 e fun v F2 H2 fp2 fd A2 fw2 o n => ?_
      have s1 : FSat X.K X.mg p anc fr F H D (sPut i (.own acc) (restE ρ1 (wipeE ρ2 (own.map (·.2))) (own.map (·.2)))) := s1
      unfold sPut setE at s1
      by_cases hl : i < (restE ρ1 (wipeE ρ2 (own.map (·.2))) (own.map (·.2))).length
      · rw [if_pos hl] at s1
        exact s1 _ F2 H2 _ (A2.put hl (by rw [bb]; exact hb) o n) (fw1.trans fw2)
      · rw [if_neg hl] at s1; exact s1.elim
    | exc c d ρ2 => rw [e] at s1; exact s1.elim
    | bad => rw [e] at s1; exact s1.elim
end
end Dv
end
section
set_option Elab.async false
set_option linter.all false
set_option maxRecDepth 100000
set_option maxHeartbeats 2000000
/-! The data layer: all, any, tuple of a generator expression. -/
namespace Dv
open PySem PySem.Spec PyProof.Rows L2 GxR GxA
def genB (z : Bool) (t : Tg) (tst : Env → Out Bool) (elt : Env → Out D) (vs : List Nat) : List D → Env → Out D
  | [], ρ => .ok (.bl (!z)) ρ
  | d :: ds, ρ => match tgSet t d (wipeE ρ vs) with
    | none => .bad
    | some ρ1 => (tst ρ1).bind fun b ρ2 => if b = true then (elt ρ2).bind fun v ρ3 => match v with
      | .bl c => if c = z then .ok (.bl z) ρ3 else genB z t tst elt vs ds ρ3
      | _ => .bad else genB z t tst elt vs ds ρ2
def eGenB (z : Bool) (it : Env → Out (List D)) (t : Tg) (tst : Env → Out Bool) (elt : Env → Out D) (vs : List Nat) : Env → Out D := fun ρ => (it ρ).bind fun ds ρ1 => match genB z t tst elt vs ds ρ1 with
  | .ok d ρ2 => .ok d (restE ρ1 (wipeE ρ2 vs) vs)
  | _ => .bad
def eGenT (it : Env → Out (List D)) (t : Tg) (tst : Env → Out Bool) (elt : Env → Out D) (vs : List Nat) : Env → Out D := fun ρ => (it ρ).bind fun ds ρ1 => match lcL t tst elt vs ds [] ρ1 with
  | .ok acc ρ2 => .ok (.tup acc) (restE ρ1 (wipeE ρ2 vs) vs)
  | _ => .bad
section
variable {X : Cx} {p : Par} {elt tg iter e : Expr} {ifs : List Expr} {scope : Scope} {own : List (Str × Nat)} {gpos pp pos : Pos} {t : Tg} {g : TG} {it : Env → Out (List D)} {ft : Env → Out Bool} {fe : Env → Out D} {c P : Addr} {k : Nat}
theorem genB_sat {K : PySem.W.Frag} {mg : Str → Option Value} {z : Bool} {J : It} {ds : List D} {vs : List Nat} {σ : L2.St} {H F : Hp} {ρ ρe : Env} {dr : D} {fp : Nat → Option Addr} {fr : Addr → Prop} {anc : List (Nat × V)} {Q : VK} (bb : anc.map (·.1) = p.bor) (hv : ∀ i ∈ vs, i ∉ p.bor) (ht : ∀ i ∈ tgIx t, i ∈ vs) (hr : TgR K p.blk t g) (G : Gv K J ds F)
    (A : At K p.tabs anc fr ρ F fp σ H) (hL : genB z t ft fe vs ds ρ = .ok dr ρe) (hQ : okV K p anc fr F H σ Q dr (restE ρ (wipeE ρe vs) vs)) :
    ∃ W : Nat → Nat → List V → Hp → Prop, (∃ m, W 0 m [] H) ∧ Turns J g (tT K mg p.blk ft) (tV K mg p.blk fe) vs (wipe σ vs) (ydB z Q) (fun _ H => Q (.bl (!z)) H) W := by
  have hva : ∀ i ∈ vs, i ∉ anc.map (·.1) := by rw [bb]; exact hv
  let Pv : Nat → Hp → Prop := fun i H' => ∃ ρ' F' fp', At K p.tabs anc fr (wipeE ρ' vs) F' fp' (wipe σ vs) H' ∧ Fwd fr F H F' H' ∧ genB z t ft fe vs (ds.drop i) ρ' = .ok dr ρe
  refine ⟨fun i m _ H' => m = ds.length - i ∧ i ≤ ds.length ∧ Pv i H', ⟨ds.length, by simp, Nat.zero_le _, ρ, F, _, A.wiped vs hva, Fwd.refl, hL⟩, ?_⟩
  rintro i m ys H' ⟨rfl, hi, ρ', F', fp', A', fw', hL'⟩
  by_cases hlt : i < ds.length
  · refine .inr ⟨G.go i F' H' hlt fw'.sub A'.sub, fun _ => Pv (i + 1), fun _ H2 q => ⟨ds.length - (i + 1), by omega, rfl, hlt, q⟩, fun x H2 y => ?_⟩
    obtain ⟨d, hd, y⟩ := G.yld i F' H' x H2 hlt fw'.sub A'.sub y
    obtain ⟨F2, A2, fw2, zd⟩ := A'.gave y
    have e1 : ds.drop i = d :: ds.drop (i + 1) := by
      rw [List.drop_eq_getElem_cons hlt]
      congr 1
      rw [List.getElem?_eq_getElem hlt] at hd
      exact Option.some.inj hd
    rw [e1] at hL'
    unfold genB at hL'
    split at hL'
    · cases hL'
    · rename_i ρ1 hts
      refine hr anc fr (wipeE ρ' vs) ρ1 F2 fp' (wipe σ vs) H2 d x _ bb A2 zd hts fun σ3 fp3 A3 hb => ⟨wipe_but hb ht, ρ1, F2, fp3, fr, anc, bb, A3, ?_⟩
      have hw := wipe_but hb ht
      obtain ⟨b, ρ2, e2, hL'⟩ := bind_ok_of hL'
      rw [e2]
      intro F4 H4 fp4 A4 fw4
      cases b with
      | false =>
        rw [if_neg Bool.false_ne_true] at hL' ⊢
        have A5 := A4.wiped vs hva
        rw [hw] at A5
        exact ⟨ρ2, F4, _, A5, (fw'.trans fw2).trans fw4, hL'⟩
      | true =>
        rw [if_pos rfl] at hL' ⊢
        obtain ⟨v, ρ3, e3, hL'⟩ := bind_ok_of hL'
        refine ⟨ρ2, F4, fp4, fr, anc, bb, A4, ?_⟩
        rw [e3]
        intro w F6 H6 fp6 A6 fw6 zv
        have A7 := A6.wiped vs hva
        rw [hw] at A7
        have f := ((fw'.trans fw2).trans fw4).trans fw6
        split at hL'
        · rename_i c
          unfold Frz at zv
          subst zv
          refine ⟨c, rfl, fun ec => ?_, fun ec => ?_⟩
          · rw [if_pos ec] at hL'
            cases hL'
            have AF := A.unwiped A7 (vs := vs) (fun i h => wipe_keep h) (wipe_length σ vs) f.sub
            exact hQ (.bl z) F6 H6 _ AF f (.flat rfl)
          · rw [if_neg (by rw [ec]; cases z <;> decide)] at hL'
            exact ⟨ρ3, F6, _, A7, f, hL'⟩
        · cases hL'
  · have e : i = ds.length := by omega
    subst e
    refine .inl ⟨G.stop F' H' fw'.sub A'.sub, ?_⟩
    rw [List.drop_length] at hL'
    unfold genB at hL'
    cases hL'
    have AF := A.unwiped A' (vs := vs) (fun i h => wipe_keep h) (wipe_length σ vs) fw'.sub
    exact hQ (.bl (!z)) F' H' _ AF fw' (.flat rfl)
theorem genT_sat {K : PySem.W.Frag} {mg : Str → Option Value} {J : It} {ds : List D} {vs : List Nat} {σ : L2.St} {H F : Hp} {ρ ρe : Env} {acc : List D} {fp : Nat → Option Addr} {fr : Addr → Prop} {anc : List (Nat × V)} {Q : VK} (bb : anc.map (·.1) = p.bor) (hv : ∀ i ∈ vs, i ∉ p.bor) (ht : ∀ i ∈ tgIx t, i ∈ vs) (hr : TgR K p.blk t g) (G : Gv K J ds F)
    (A : At K p.tabs anc fr ρ F fp σ H) (hL : lcL t ft fe vs ds [] ρ = .ok acc ρe) (hQ : okV K p anc fr F H σ Q (.tup acc) (restE ρ (wipeE ρe vs) vs)) :
    ∃ W : Nat → Nat → List V → Hp → Prop, (∃ m, W 0 m [] H) ∧ Turns J g (tT K mg p.blk ft) (tV K mg p.blk fe) vs (wipe σ vs) (fun ys _ _ C => ys.length < sizeLine ∧ C) (fun ys H => ys.length ≤ sizeLine ∧ ∀ p, H p = none → Q (.ref p) (upd H p (.tup ys))) W := by
  have hva : ∀ i ∈ vs, i ∉ anc.map (·.1) := by rw [bb]; exact hv
  let Pv : Nat → List V → Hp → Prop := fun i ys H' => ∃ ρ' F' fp' acc', At K p.tabs anc fr (wipeE ρ' vs) F' fp' (wipe σ vs) H' ∧ Fwd fr F H F' H' ∧ FrzL K F' acc' ys ∧ ys.length ≤ sizeLine ∧ lcL t ft fe vs (ds.drop i) acc' ρ' = .ok acc ρe
  refine ⟨fun i m ys H' => m = ds.length - i ∧ i ≤ ds.length ∧ Pv i ys H', ⟨ds.length, by simp, Nat.zero_le _, ρ, F, _, [], A.wiped vs hva, Fwd.refl, .nil, Nat.zero_le _, hL⟩, ?_⟩
  rintro i m ys H' ⟨rfl, hi, ρ', F', fp', acc', A', fw', r', hz, hL'⟩
  by_cases hlt : i < ds.length
  · refine .inr ⟨G.go i F' H' hlt fw'.sub A'.sub, Pv (i + 1), fun _ H2 q => ⟨ds.length - (i + 1), by omega, rfl, hlt, q⟩, fun x H2 y => ?_⟩
    obtain ⟨d, hd, y⟩ := G.yld i F' H' x H2 hlt fw'.sub A'.sub y
    obtain ⟨F2, A2, fw2, zd⟩ := A'.gave y
    have e1 : ds.drop i = d :: ds.drop (i + 1) := by
      rw [List.drop_eq_getElem_cons hlt]
      congr 1
      rw [List.getElem?_eq_getElem hlt] at hd
      exact Option.some.inj hd
    rw [e1] at hL'
    unfold lcL at hL'
    split at hL'
    · cases hL'
    · rename_i ρ1 hts
      refine hr anc fr (wipeE ρ' vs) ρ1 F2 fp' (wipe σ vs) H2 d x _ bb A2 zd hts fun σ3 fp3 A3 hb => ⟨wipe_but hb ht, ρ1, F2, fp3, fr, anc, bb, A3, ?_⟩
      have hw := wipe_but hb ht
      obtain ⟨b, ρ2, e2, hL'⟩ := bind_ok_of hL'
      rw [e2]
      intro F4 H4 fp4 A4 fw4
      cases b with
      | false =>
        rw [if_neg Bool.false_ne_true] at hL' ⊢
        have A5 := A4.wiped vs hva
        rw [hw] at A5
        exact ⟨ρ2, F4, _, acc', A5, (fw'.trans fw2).trans fw4, r'.mono (fw2.trans fw4).sub, hz, hL'⟩
      | true =>
        rw [if_pos rfl] at hL' ⊢
        obtain ⟨v, ρ3, e3, hL'⟩ := bind_ok_of hL'
        refine ⟨ρ2, F4, fp4, fr, anc, bb, A4, ?_⟩
        rw [e3]
        intro w F6 H6 fp6 A6 fw6 zv
        have A7 := A6.wiped vs hva
        rw [hw] at A7
        have f := (fw2.trans fw4).trans fw6
        split at hL'
        · rename_i hsz
          have hl := r'.length
          exact ⟨by omega, ρ3, F6, _, acc' ++ [v], A7, fw'.trans f, (r'.mono f.sub).append (.cons zv .nil), by rw [List.length_append, List.length_singleton]; omega, hL'⟩
        · cases hL'
  · have e : i = ds.length := by omega
    subst e
    refine .inl ⟨G.stop F' H' fw'.sub A'.sub, hz, fun q hq => ?_⟩
    rw [List.drop_length] at hL'
    unfold lcL at hL'
    cases hL'
    have AF := A.unwiped A' (vs := vs) (fun i h => wipe_keep h) (wipe_length σ vs) fw'.sub
    obtain ⟨A8, fw8⟩ := AF.alloc (o := .tup ys) hq
    refine hQ (.ref q) _ _ _ A8 (fw'.trans fw8) ?_
    unfold Frz
    exact ⟨q, ys, rfl, .of upd_same, r'.mono fw8.sub⟩
theorem dv_all (hr : Room (k + 1) X.A) (hg : Gl X "all") (hm : X.mg "all" = none) (TB : TabB X.base X.mg c P) (hP : P ∈ p.tabs) (hcode : X.env.code = .ref c) (hN : X.N.Nodup) (ok : BlkOk X.N X.env.scope scope own) (hcell : ∀ y ∈ scope.names, y.2 ≠ .cell) (hco : scope.isCoroutine = false)
    (hdot : scope.names.lookup (".0" : Str) = some NameKind.local) (hi : DI X p it tg iter) (hv : ∀ i ∈ own.map (·.2), i ∉ p.bor) (ht : ∀ i ∈ tgIx t, i ∈ own.map (·.2)) (hrg : TgR X.K p.blk t g)
    (hgt : ∀ A s H C code fp pn, Room k A → PG (gx X A s H (genvOf X scope C code) fp pn) tg g) (hft : ∀ A s H C code fp pn, Room k A → DTs (gx X A s H (genvOf X scope C code) fp pn) p.blk ft ifs) (hfe : ∀ A s H C code fp pn, Room k A → DV (gx X A s H (genvOf X scope C code) fp pn) p.blk fe elt)
    (hs : ∀ v, genFold iter X.env v = pure v := by intro _; rfl)
    (hst : starEach [.GeneratorExp elt [⟨tg, iter, ifs, 0⟩] scope gpos] X.env = (false, eval (.GeneratorExp elt [⟨tg, iter, ifs, 0⟩] scope gpos) X.env) :: starEach [] X.env := by rfl) :
    DV X p (eGenB false it t ft fe (own.map (·.2))) (.Call (.Name "all" pp) [.GeneratorExp elt [⟨tg, iter, ifs, 0⟩] scope gpos] [] pos) :=
  PE.weak (pe_allG (tt := tT X.K X.mg p.blk ft) (te := tV X.K X.mg p.blk fe) hr hg hm TB hcode hN ok hcell hco hdot hi hgt hft hfe hs hst) fun σ H Q ⟨ρ, F, fp, fr, anc, bb, A, s⟩ => by
    refine ⟨ρ, F, fp, fr, anc, bb, A, (Sat.bind s).mono (fun ds ρ1 s1 J F1 H1 fp1 A1 fw1 G => ⟨(A1.tab P hP).1, fun H2 hT => ?_⟩) fun c d ρ' q => q⟩
    obtain ⟨A2, fw2⟩ := A1.tabbed hP hT
    cases e : genB false t ft fe (own.map (·.2)) ds ρ1 with
    | ok d ρ2 =>
      rw [e] at s1
      exact genB_sat bb hv ht hrg ⟨fun i F H a b c => G.go i F H a (fw2.sub.trans b) c, fun F H b c => G.stop F H (fw2.sub.trans b) c, fun i F H x H' a b c => G.yld i F H x H' a (fw2.sub.trans b) c⟩ A2 e fun v F3 H3 fp3 A3 fw3 z => s1 v F3 H3 fp3 A3 ((fw1.trans fw2).trans fw3) z
    | exc c d ρ2 => rw [e] at s1; exact s1.elim
    | bad => rw [e] at s1; exact s1.elim
theorem dv_any (hr : Room (k + 1) X.A) (hg : Gl X "any") (hm : X.mg "any" = none) (TB : TabB X.base X.mg c P) (hP : P ∈ p.tabs) (hcode : X.env.code = .ref c) (hN : X.N.Nodup) (ok : BlkOk X.N X.env.scope scope own) (hcell : ∀ y ∈ scope.names, y.2 ≠ .cell) (hco : scope.isCoroutine = false)
    (hdot : scope.names.lookup (".0" : Str) = some NameKind.local) (hi : DI X p it tg iter) (hv : ∀ i ∈ own.map (·.2), i ∉ p.bor) (ht : ∀ i ∈ tgIx t, i ∈ own.map (·.2)) (hrg : TgR X.K p.blk t g)
    (hgt : ∀ A s H C code fp pn, Room k A → PG (gx X A s H (genvOf X scope C code) fp pn) tg g) (hft : ∀ A s H C code fp pn, Room k A → DTs (gx X A s H (genvOf X scope C code) fp pn) p.blk ft ifs) (hfe : ∀ A s H C code fp pn, Room k A → DV (gx X A s H (genvOf X scope C code) fp pn) p.blk fe elt)
    (hs : ∀ v, genFold iter X.env v = pure v := by intro _; rfl)
    (hst : starEach [.GeneratorExp elt [⟨tg, iter, ifs, 0⟩] scope gpos] X.env = (false, eval (.GeneratorExp elt [⟨tg, iter, ifs, 0⟩] scope gpos) X.env) :: starEach [] X.env := by rfl) :
    DV X p (eGenB true it t ft fe (own.map (·.2))) (.Call (.Name "any" pp) [.GeneratorExp elt [⟨tg, iter, ifs, 0⟩] scope gpos] [] pos) :=
  PE.weak (pe_anyG (tt := tT X.K X.mg p.blk ft) (te := tV X.K X.mg p.blk fe) hr hg hm TB hcode hN ok hcell hco hdot hi hgt hft hfe hs hst) fun σ H Q ⟨ρ, F, fp, fr, anc, bb, A, s⟩ => by
    refine ⟨ρ, F, fp, fr, anc, bb, A, (Sat.bind s).mono (fun ds ρ1 s1 J F1 H1 fp1 A1 fw1 G => ⟨(A1.tab P hP).1, fun H2 hT => ?_⟩) fun c d ρ' q => q⟩
    obtain ⟨A2, fw2⟩ := A1.tabbed hP hT
    cases e : genB true t ft fe (own.map (·.2)) ds ρ1 with
    | ok d ρ2 =>
      rw [e] at s1
      exact genB_sat bb hv ht hrg ⟨fun i F H a b c => G.go i F H a (fw2.sub.trans b) c, fun F H b c => G.stop F H (fw2.sub.trans b) c, fun i F H x H' a b c => G.yld i F H x H' a (fw2.sub.trans b) c⟩ A2 e fun v F3 H3 fp3 A3 fw3 z => s1 v F3 H3 fp3 A3 ((fw1.trans fw2).trans fw3) z
    | exc c d ρ2 => rw [e] at s1; exact s1.elim
    | bad => rw [e] at s1; exact s1.elim
theorem dv_tupG (hr : Room (k + 1) X.A) (hg : Gl X "tuple") (hm : X.mg "tuple" = none) (TB : TabB X.base X.mg c P) (hP : P ∈ p.tabs) (hcode : X.env.code = .ref c) (hN : X.N.Nodup) (ok : BlkOk X.N X.env.scope scope own) (hcell : ∀ y ∈ scope.names, y.2 ≠ .cell) (hco : scope.isCoroutine = false)
    (hdot : scope.names.lookup (".0" : Str) = some NameKind.local) (hi : DI X p it tg iter) (hv : ∀ i ∈ own.map (·.2), i ∉ p.bor) (ht : ∀ i ∈ tgIx t, i ∈ own.map (·.2)) (hrg : TgR X.K p.blk t g)
    (hgt : ∀ A s H C code fp pn, Room k A → PG (gx X A s H (genvOf X scope C code) fp pn) tg g) (hft : ∀ A s H C code fp pn, Room k A → DTs (gx X A s H (genvOf X scope C code) fp pn) p.blk ft ifs) (hfe : ∀ A s H C code fp pn, Room k A → DV (gx X A s H (genvOf X scope C code) fp pn) p.blk fe elt)
    (hs : ∀ v, genFold iter X.env v = pure v := by intro _; rfl)
    (hst : starEach [.GeneratorExp elt [⟨tg, iter, ifs, 0⟩] scope gpos] X.env = (false, eval (.GeneratorExp elt [⟨tg, iter, ifs, 0⟩] scope gpos) X.env) :: starEach [] X.env := by rfl) :
    DV X p (eGenT it t ft fe (own.map (·.2))) (.Call (.Name "tuple" pp) [.GeneratorExp elt [⟨tg, iter, ifs, 0⟩] scope gpos] [] pos) :=
  PE.weak (pe_tupG (tt := tT X.K X.mg p.blk ft) (te := tV X.K X.mg p.blk fe) hr hg hm TB hcode hN ok hcell hco hdot hi hgt hft hfe hs hst) fun σ H Q ⟨ρ, F, fp, fr, anc, bb, A, s⟩ => by
    refine ⟨ρ, F, fp, fr, anc, bb, A, (Sat.bind s).mono (fun ds ρ1 s1 J F1 H1 fp1 A1 fw1 G => ⟨(A1.tab P hP).1, fun H2 hT => ?_⟩) fun c d ρ' q => q⟩
    obtain ⟨A2, fw2⟩ := A1.tabbed hP hT
    cases e : lcL t ft fe (own.map (·.2)) ds [] ρ1 with
    | ok acc ρ2 =>
      rw [e] at s1
      exact genT_sat bb hv ht hrg ⟨fun i F H a b c => G.go i F H a (fw2.sub.trans b) c, fun F H b c => G.stop F H (fw2.sub.trans b) c, fun i F H x H' a b c => G.yld i F H x H' a (fw2.sub.trans b) c⟩ A2 e fun v F3 H3 fp3 A3 fw3 z => s1 v F3 H3 fp3 A3 ((fw1.trans fw2).trans fw3) z
    | exc c d ρ2 => rw [e] at s1; exact s1.elim
    | bad => rw [e] at s1; exact s1.elim
end
end Dv
end
section
set_option Elab.async false
set_option linter.all false
set_option maxRecDepth 100000
set_option maxHeartbeats 2000000
/-! The data layer: texts, += and such, pairs set at once, names of the module. -/
namespace Dv
open PySem PySem.Spec PyProof.Rows L2 GxR GxA
section
variable {X : Cx} {p : Par} {a b c e o : Expr} {es : List Expr} {fa fb f : Env → Out T} {fs : List (Env → Out T)} {pos apos : Pos}
/-! ### names of the module -/
theorem dv_gint {x : Str} {i : Int} (hg : Gl X x) (hm : ∃ t, X.mg x = some (.int i t)) (hd : (x == ("__debug__" : Str)) = false := by decide) : DV X p (eC (.int i)) (.Name x pos) := by
  obtain ⟨t, hm⟩ := hm
  exact de_c (pe_glob (v := .int i) hg hm ⟨t, rfl⟩ hd) fun F => by unfold Frz; rfl
theorem dv_gstr {x : Str} {i : Str} (hg : Gl X x) (hm : ∃ t, X.mg x = some (.str i t)) (hd : (x == ("__debug__" : Str)) = false := by decide) : DV X p (eC (.str i)) (.Name x pos) := by
  obtain ⟨t, hm⟩ := hm
  exact de_c (pe_glob (v := .str i) hg hm ⟨t, rfl⟩ hd) fun F => by unfold Frz; rfl
/-! ### text * int -/
def strRep (x : Str) (n : Nat) : Str := ⟨(List.replicate n x.cps).foldl (· ++ ·) #[]⟩
theorem foldl_size (x : Array Nat) : ∀ (n : Nat) (acc : Array Nat), ((List.replicate n x).foldl (· ++ ·) acc).size = acc.size + n * x.size
  | 0, acc => by simp
  | n + 1, acc => by
    rw [List.replicate_succ, List.foldl_cons, foldl_size x n, Array.size_append, Nat.succ_mul]
    omega
theorem op_mulS : OpR X (binaryOp .Mult) (fun x y H Q => ∃ (z : Str) (k : Int), x = .str z ∧ y = .int k ∧ 2 ≤ k ∧ k ≤ 1000 ∧ 1 ≤ z.length ∧ z.length ≤ 1000 ∧ Q (.str (strRep z k.toNat)) H) := by
  intro pins s σ H x y v u Q I rx ry h
  obtain ⟨z, k, rfl, rfl, h1, h2, h3, h4, q⟩ := h
  obtain ⟨t, rfl⟩ := rx
  obtain ⟨t', rfl⟩ := ry
  have hz : z.length * k.toNat ≤ 1000 * 1000 := Nat.mul_le_mul h4 (by omega)
  have n1 : ¬ k < 1 := by omega
  have n2 : (k == 1 || z.length == 0) = false := by
    rw [Bool.or_eq_false_iff]
    exact ⟨by simp; omega, by simp; omega⟩
  have big : ((z.length : Nat) : Int) ≤ (2 ^ 63 - 1) / k := by
    rw [Int.le_ediv_iff_mul_le (by omega)]
    have a1 : ((z.length : Nat) : Int) * k ≤ 1000 * 1000 := Int.mul_le_mul (by omega) h2 (by omega) (by omega)
    omega
  have sz : (strRep z k.toNat).length ≤ sizeLine := by
    show ((List.replicate k.toNat z.cps).foldl (· ++ ·) #[]).size ≤ sizeLine
    rw [foldl_size, sizeLine_eq]
    have : k.toNat * z.cps.size = z.length * k.toNat := Nat.mul_comm _ _
    rw [this]
    simp
    omega
  refine PySem.P.mul_str ?_ (fun _ _ => by omega) (fun _ _ => ?_) ?_
  · have e1 : decide (k < -(2 ^ 63 : Int)) = false := decide_eq_false (by omega)
    have e2 : decide (k ≥ 2 ^ 63) = false := decide_eq_false (by omega)
    rw [e1, e2]; rfl
  · show decide (_ > _) = false
    exact decide_eq_false (by
      have := sizeLine_eq
      first | (rw [this]; omega) | omega)
  · rw [if_neg n1, if_neg (by rw [n2]; decide)]
    exact ⟨sz, .str (strRep z k.toNat), H, I.tok _, ⟨_, rfl⟩, q⟩
/-- all of * -/
def dMulS : D → D → Option D
  | .str z, .int k => if 2 ≤ k ∧ k ≤ 1000 ∧ 1 ≤ z.length ∧ z.length ≤ 1000 then some (.str (strRep z k.toNat)) else none
  | x, y => dMul x y
theorem op_mulDS : OpOk X p (fun x y H Q => (∃ (z : Str) (k : Int), x = .str z ∧ y = .int k ∧ 2 ≤ k ∧ k ≤ 1000 ∧ 1 ≤ z.length ∧ z.length ≤ 1000 ∧ Q (.str (strRep z k.toNat)) H) ∨ rI CMulW (fun i j => .int (i * j)) x y H Q ∨ rRep x y H Q ∨ rRepT X.K x y H Q) dMulS := by
  intro anc fr ρ F fp σ H x y d v w Q A h1 h2 e k
  unfold dMulS at e
  split at e
  · split at e
    · rename_i z j hz
      cases e
      simp only [RdF, Frz] at h1 h2
      exact .inl ⟨z, j, h1, h2, hz.1, hz.2.1, hz.2.2.1, hz.2.2.2, fin_flat A k rfl⟩
    · cases e
  · exact .inr (op_mulD anc fr ρ F fp σ H x y d v w Q A h1 h2 e k)
theorem de_mulS (ha : DO X p fa a) (hb : DO X p fb b) : DE X p (eOp2 dMulS fa fb) (.BinOp a .Mult b pos) :=
  de_op2 (fun h1 h2 => pe_op (op_mulS.or (op_mulW.or (op_rep.or op_repT))) h1 h2) ha hb op_mulDS
/-! ### methods of a text with one argument -/
def strOf : D → Option Str
  | .str x => some x
  | _ => none
theorem strOf_eq {d : D} {x : Str} (h : strOf d = some x) : d = .str x := by
  cases d <;> first | (cases h; rfl) | cases h
def M1Ok (X : Cx) (p : Par) (r : V → List V → Hp → VK → Prop) (g : Str → D → Option D) : Prop := ∀ (anc : List (Nat × V)) (fr : Addr → Prop) (ρ : Env) (F : Hp) (fp : Nat → Option Addr) (σ : L2.St) (H : Hp) (x : Str) (y d : D) (w : V) (Q : VK),
  At X.K p.tabs anc fr ρ F fp σ H → RdF X.K F H y w → g x y = some d → okD X.K p anc fr F H σ Q d ρ → r (.str x) [w] H Q
def eM1 (g : Str → D → Option D) (fo fe : Env → Out T) : Env → Out D := fun ρ => (fo ρ).bind fun t ρ1 => (Out.of ((rd t ρ1).bind strOf) ρ1).bind fun x ρ1 => (fe ρ1).bind fun u ρ2 => Out.of ((rd u ρ2).bind (g x)) ρ2
theorem de_m1 {r : V → List V → Hp → VK → Prop} {g : Str → D → Option D} {fo fe : Env → Out T} (h : ∀ {to te : TE}, PE X o to → PE X e te → PE X b (tM1 r to te)) (hk : M1Ok X p r g) (ho : DO X p fo o) (he : DO X p fe e) : DE X p (eM1 g fo fe) b :=
  PE.weak (h ho he) fun σ H Q ⟨ρ, F, fp, fr, anc, bb, A, s⟩ => by
    refine ⟨ρ, F, fp, fr, anc, bb, A, (Sat.bind s).mono (fun t ρ1 s1 v F1 H1 fp1 A1 fw1 r1 => ?_) fun c d ρ' q => q⟩
    obtain ⟨x, e1, s1⟩ := Sat.of (Sat.bind s1)
    obtain ⟨d1, e2, e1⟩ := Option.bind_eq_some_iff.mp e1
    have z := r1.rdF A1 e2
    rw [strOf_eq e1] at z
    simp only [RdF, Frz] at z
    subst z
    refine ⟨⟨x, rfl⟩, ρ1, F1, fp1, fr, anc, bb, A1, (Sat.bind s1).mono (fun u ρ2 s2 w F2 H2 fp2 A2 fw2 r2 => ?_) fun c d ρ' q => q.fwd fw1⟩
    obtain ⟨d, e3, q⟩ := Sat.of s2
    obtain ⟨y, e4, e3⟩ := Option.bind_eq_some_iff.mp e3
    exact hk anc fr ρ2 F2 fp2 σ H2 x y d w Q A2 (r2.rdF A2 e4) e3 fun v3 F3 H3 fp3 fd A3 fw3 o n => q v3 F3 H3 fp3 fd A3 ((fw1.trans fw2).trans fw3) o n
def dStarts (x : Str) : D → Option D
  | .str y => some (.bl (Txt.startswith x y))
  | _ => none
def dSplit (x : Str) : D → Option D
  | .str y => if (y.length == 0) = false ∧ x.length + 2 ≤ sizeLine then some (.own ((Txt.split x y).map D.str)) else none
  | _ => none
def strsOf : List D → Option (List Str)
  | [] => some []
  | .str i :: ds => (strsOf ds).map fun ns => i :: ns
  | _ => none
theorem FrzL.strs {K : PySem.W.Frag} {F : Hp} : ∀ {ds : List D} {xs : List V} {ns : List Str}, FrzL K F ds xs → strsOf ds = some ns → xs = ns.map V.str
  | [], _, ns, h, e => by cases e; unfold FrzL at h; exact h
  | d :: ds, _, ns, h, e => by
    unfold FrzL at h
    obtain ⟨x, r, rfl, q, t⟩ := h
    cases d <;> unfold strsOf at e <;> first | cases e | skip
    obtain ⟨ms, e1, e⟩ := Option.map_eq_some_iff.mp e
    subst e
    unfold Frz at q
    rw [q, t.strs e1]; rfl
def dJoin (x : Str) (y : D) : Option D := (sqOf y).bind fun ds => (strsOf ds).bind fun ys => if (ys.map (·.length)).sum + ys.length * x.length ≤ 16777216 then some (.str (Txt.join x ys)) else none
theorem ok_starts : M1Ok X p (fun x xs H Q => ∃ a b, x = .str a ∧ xs = [.str b] ∧ Q (.bl (Txt.startswith a b)) H) dStarts := by
  intro anc fr ρ F fp σ H x y d w Q A h e k
  unfold dStarts at e
  split at e
  · cases e
    simp only [RdF, Frz] at h
    subst h
    exact ⟨_, _, rfl, rfl, fin_flat A k rfl⟩
  · cases e
theorem ok_split : M1Ok X p (fun x xs H Q => ∃ a b, x = .str a ∧ xs = [.str b] ∧ (b.length == 0) = false ∧ a.length + 2 ≤ sizeLine ∧ rNewStrs (Txt.split a b) H Q) dSplit := by
  intro anc fr ρ F fp σ H x y d w Q A h e k
  unfold dSplit at e
  split at e
  · split at e
    · rename_i hz
      cases e
      simp only [RdF, Frz] at h
      subst h
      exact ⟨_, _, rfl, rfl, hz.1, hz.2, fun q hq => fin_own A k (frzL_strs _) hq⟩
    · cases e
  · cases e
theorem ok_join : M1Ok X p (fun x xs H Q => ∃ a p, ∃ ys : List Str, x = .str a ∧ xs = [.ref p] ∧ (SqL X.K H p (ys.map V.str) ∨ SqT X.K H p (ys.map V.str)) ∧ (ys.map (·.length)).sum + ys.length * a.length ≤ 16777216 ∧ Q (.str (Txt.join a ys)) H) dJoin := by
  intro anc fr ρ F fp σ H x y d w Q A h e k
  unfold dJoin at e
  obtain ⟨ds, hd, e⟩ := Option.bind_eq_some_iff.mp e
  obtain ⟨ys, hy, e⟩ := Option.bind_eq_some_iff.mp e
  split at e
  · rename_i hz
    cases e
    unfold sqOf at hd
    split at hd
    · rename_i es he
      cases hd
      obtain ⟨l, us, rfl, q1, r1, f1⟩ := RdF.tup A.sub h he
      exact ⟨x, l, ys, rfl, rfl, .inr (by rw [← r1.strs hy]; exact q1), hz, fin_flat A k rfl⟩
    · obtain ⟨l, us, rfl, q1, r1⟩ := RdF.lst A.sub h hd
      exact ⟨x, l, ys, rfl, rfl, .inl (by rw [← r1.strs hy]; exact q1), hz, fin_flat A k rfl⟩
  · cases e
theorem de_starts {fo fe : Env → Out T} (ho : DO X p fo o) (he : DO X p fe e) (hs : starEach [e] X.env = [(false, eval e X.env)] := by rfl) (hbase : attributeBase o "startswith" X.env (eval o X.env) = eval o X.env := by rfl) (hline : (apos.endLine == pos.line) = true := by rfl) :
    DE X p (eM1 dStarts fo fe) (.Call (.Attribute o "startswith" apos) [e] [] pos) := de_m1 (fun h1 h2 => pe_m1 F.slot_str_startswith F.type_str_startswith mt_startswith h1 h2 hs hbase hline) ok_starts ho he
theorem de_split {fo fe : Env → Out T} (ho : DO X p fo o) (he : DO X p fe e) (hs : starEach [e] X.env = [(false, eval e X.env)] := by rfl) (hbase : attributeBase o "split" X.env (eval o X.env) = eval o X.env := by rfl) (hline : (apos.endLine == pos.line) = true := by rfl) :
    DE X p (eM1 dSplit fo fe) (.Call (.Attribute o "split" apos) [e] [] pos) := de_m1 (fun h1 h2 => pe_split h1 h2 hs hbase hline) ok_split ho he
theorem de_join {fo fe : Env → Out T} (ho : DO X p fo o) (he : DO X p fe e) (hs : starEach [e] X.env = [(false, eval e X.env)] := by rfl) (hbase : attributeBase o "join" X.env (eval o X.env) = eval o X.env := by rfl) (hline : (apos.endLine == pos.line) = true := by rfl) :
    DE X p (eM1 dJoin fo fe) (.Call (.Attribute o "join" apos) [e] [] pos) := de_m1 (fun h1 h2 => pe_join h1 h2 hs hbase hline) ok_join ho he
/-! ### f-strings -/
def eFmt (f : Env → Out D) : Env → Out D := fun ρ => (f ρ).bind fun d ρ' => Out.of (match d with
  | .str y => if y.length ≤ sizeLine then some (.str y) else none
  | .int i => if i.natAbs.log2 < 1920 then some (.str (toString i)) else none
  | _ => none) ρ'
theorem dv_fmt {g : Env → Out D} (h : DV X p g e) : DV X p (eFmt g) (.FormattedValue e (-1) none pos) := PE.weak (pe_fmt h) fun σ H Q ⟨ρ, F, fp, fr, anc, bb, A, s⟩ => by
  refine ⟨ρ, F, fp, fr, anc, bb, A, (Sat.bind s).mono (fun d ρ1 s1 v F1 H1 fp1 A1 fw1 z => ?_) fun c d ρ' q => q⟩
  obtain ⟨d2, e1, q⟩ := Sat.of s1
  split at e1
  · split at e1
    · cases e1
      unfold Frz at z
      exact .inl ⟨_, z, by assumption, q _ F1 H1 fp1 A1 fw1 (.flat rfl)⟩
    · cases e1
  · split at e1
    · cases e1
      unfold Frz at z
      exact .inr ⟨_, z, by assumption, q _ F1 H1 fp1 A1 fw1 (.flat rfl)⟩
    · cases e1
  · cases e1
def jsE : List (Env → Out D) → Str → Env → Out Str
  | [], acc, ρ => .ok acc ρ
  | f :: fs, acc, ρ => (f ρ).bind fun d ρ1 => (Out.of ((strOf d).bind fun y => if (acc ++ y).length ≤ sizeLine then some (acc ++ y) else none) ρ1).bind fun acc' ρ1 => jsE fs acc' ρ1
def eJs (fs : List (Env → Out D)) : Env → Out D := fun ρ => (jsE fs Str.empty ρ).bind fun s ρ' => .ok (.str s) ρ'
inductive DJ (X : Cx) (p : Par) : List Expr → List (Env → Out D) → Prop where
  | nil : DJ X p [] []
  | cons {e : Expr} {f : Env → Out D} {es : List Expr} {fs : List (Env → Out D)} (h : DV X p f e) (r : DJ X p es fs) : DJ X p (e :: es) (f :: fs)
theorem dj_pj {es : List Expr} {gs : List (Env → Out D)} (h : DJ X p es gs) : PJ X es (gs.map (tV X.K X.mg p)) := by
  induction h with
  | nil => exact .nil
  | cons h r ih => exact .cons h ih
theorem dj_sat : ∀ (gs : List (Env → Out D)) {acc : Str} {σ : L2.St} {H : Hp} {ρ : Env} {F : Hp} {fp : Nat → Option Addr} {fr : Addr → Prop} {anc : List (Nat × V)} {Q : Str → Hp → Prop}, anc.map (·.1) = p.bor → At X.K p.tabs anc fr ρ F fp σ H →
    Sat (jsE gs acc ρ) (fun s ρ' => ∀ F' H' fp', At X.K p.tabs anc fr ρ' F' fp' σ H' → Fwd fr F H F' H' → Q s H') (exD X.K X.mg p anc fr F H σ) → tJs (gs.map (tV X.K X.mg p)) acc σ H Q
  | [], acc, σ, H, ρ, F, fp, fr, anc, Q, bb, A, s => s F H fp A Fwd.refl
  | g :: gs, acc, σ, H, ρ, F, fp, fr, anc, Q, bb, A, s => by
    refine ⟨ρ, F, fp, fr, anc, bb, A, (Sat.bind s).mono (fun d ρ1 s1 v F1 H1 fp1 A1 fw1 z => ?_) fun c d ρ' q => q⟩
    obtain ⟨acc', e1, s1⟩ := Sat.of (Sat.bind s1)
    obtain ⟨y, e2, e1⟩ := Option.bind_eq_some_iff.mp e1
    rw [strOf_eq e2] at z
    unfold Frz at z
    split at e1
    · cases e1
      exact ⟨y, z, by assumption, dj_sat gs bb A1 (s1.mono (fun s ρ' q F' H' fp' A' fw' => q F' H' fp' A' (fw1.trans fw')) fun c d ρ' q => q.fwd fw1)⟩
    · cases e1
theorem dv_js {v1 v2 : Expr} {rest : List Expr} {gs : List (Env → Out D)} (h : DJ X p (v1 :: v2 :: rest) gs) : DV X p (eJs gs) (.JoinedStr (v1 :: v2 :: rest) pos) := PE.weak (pe_joined (dj_pj h)) fun σ H Q ⟨ρ, F, fp, fr, anc, bb, A, s⟩ =>
  dj_sat gs bb A ((Sat.bind s).mono (fun s ρ' q F' H' fp' A' fw' => q _ F' H' fp' A' fw' (.flat rfl)) fun c d ρ' q => q)
/-! ### gcd -/
def dGcd : List D → Option D
  | [.int a, .int b] => some (.int ((Nat.gcd a.natAbs b.natAbs : Nat) : Int))
  | _ => none
theorem ok_gcd : CallOk X p rGcd dGcd := by
  intro anc fr ρ F fp σ H ds d vs Q A h e k
  unfold dGcd at e
  split at e
  · cases e
    obtain ⟨v, w, rfl, h1, h2⟩ := paired2 h
    simp only [RdF, Frz] at h1 h2
    subst h1 h2
    exact ⟨_, _, rfl, fin_flat A k rfl⟩
  · cases e
theorem de_callM {id : String} {x : Str} {pp : Pos} {r : List V → Hp → VK → Prop} {g : List D → Option D} (hc : CallR X (.builtin id) r) (hk : CallOk X p r g) (hg : Gl X x) (hm : X.mg x = some (.builtin id)) (ha : DA X p fs (e :: es)) (hdb : (x == ("__debug__" : Str)) = false := by decide)
    (he : starEach (e :: es) X.env = (false, eval e X.env) :: starEach es X.env := by rfl) (hpl : (backTo pos (starEach es X.env)).any (·.1) = false := by rfl) : DE X p (eCall g fs) (.Call (.Name x pp) (e :: es) [] pos) := de_callX (fun h => pe_callBfun hc hg hm h hdb he hpl) hk ha
/-! ### two names set at once -/
def sPar (i j : Nat) (fs : List (Env → Out T)) : Env → Flow := fun ρ => (argsO fs ρ).fl fun ts ρ' => match vals ts with
  | some [d, e] => (match (setE i d ρ').bind fun ρ1 => setE j e ρ1 with
    | some ρ2 => .next ρ2
    | none => .bad)
  | _ => .bad
theorem ds_par {i j : Nat} {x y : Str} {px py pt : Pos} {kt k2 pt2} (hc : X.calm = true) (hN : X.N.Nodup) (hi : X.N[i]? = some x) (hj : X.N[j]? = some y) (hij : i ≠ j) (hx : X.env.scope.names.lookup x = some .local) (hy : X.env.scope.names.lookup y = some .local) (ha : DA X p fs [a, b])
    (hw : swappedStores [.Tuple [.Name x px, .Name y py] kt pt] (.Tuple [a, b] k2 pt2) X.env = pure (some [x, y])) (hs : swapsWithSole [.Tuple [.Name x px, .Name y py] kt pt] (.Tuple [a, b] k2 pt2) pos.line X.env = pure false := by rfl)
    (hb1 : i ∉ p.bor := by first | decide | (dsimp only; decide)) (hb2 : j ∉ p.bor := by first | decide | (dsimp only; decide)) : DS X p (sPar i j fs) (.Assign [.Tuple [.Name x px, .Name y py] kt pt] (.Tuple [a, b] k2 pt2) pos) :=
  PS.weak (ps_par hc hN hi hj hij hx hy ha hw hs) fun σ H D ⟨ρ, F, fp, fr, anc, bb, A, s⟩ => by
    refine ⟨ρ, F, fp, fr, anc, bb, A, (FSat.un s).mono (fun ts ρ1 s1 vs F1 H1 fp1 A1 fw1 r1 => ?_) fun c d ρ' q => q⟩
    split at s1
    · rename_i d e hv
      have z := vals_rel r1 hv
      unfold FrzL at z
      obtain ⟨v, r, rfl, z1, z⟩ := z
      unfold FrzL at z
      obtain ⟨w, r, rfl, z2, z⟩ := z
      unfold FrzL at z
      subst z
      split at s1
      · rename_i ρ2 h2
        obtain ⟨ρ', e1, e2⟩ := Option.bind_eq_some_iff.mp h2
        have A2 := put_frz (put_frz A1 (by rw [bb]; exact hb1) z1 e1) (by rw [bb]; exact hb2) z2 e2
        exact ⟨v, w, rfl, s1 _ F1 H1 _ A2 fw1⟩
      · exact s1.elim
    · exact s1.elim
/-! ### name op= e, whole numbers -/
def intAt (ρ : Env) (i : Nat) : Option Int := match ρ[i]? with
  | some (some (.int a)) => some a
  | _ => none
def sAug (i : Nat) (g : Int → D → Option D) (f : Env → Out T) : Env → Flow := fun ρ => (Out.of (intAt ρ i) ρ).fl fun a ρ1 => (f ρ1).fl fun t ρ2 => (Out.of ((rd t ρ2).bind (g a)) ρ2).fl fun d ρ2 => sPut i d ρ2
def dIAdd (a : Int) : D → Option D
  | .int b => some (.int (a + b))
  | _ => none
def dISub (a : Int) : D → Option D
  | .int b => some (.int (a - b))
  | _ => none
def dIMul (a : Int) : D → Option D
  | .int b => if (-(2 ^ 64) < a ∧ a < 2 ^ 64) ∨ (-(2 ^ 64) < b ∧ b < 2 ^ 64) then some (.int (a * b)) else none
  | _ => none
def AugOk (r : R2) (g : Int → D → Option D) : Prop := ∀ (a : Int) (y d : D) (w : V) (K : PySem.W.Frag) (F H : Hp) (Q : VK), RdF K F H y w → g a y = some d → (∀ i, d = .int i → Q (.int i) H) → (∃ i, d = .int i) ∧ r (.int a) w H Q
theorem aug_add : AugOk (rI0 fun i j => .int (i + j)) dIAdd := fun a y d w K F H Q h e k => by
  unfold dIAdd at e
  split at e
  · cases e; simp only [RdF, Frz] at h; exact ⟨⟨_, rfl⟩, _, _, rfl, h, k _ rfl⟩
  · cases e
theorem aug_sub : AugOk (rI0 fun i j => .int (i - j)) dISub := fun a y d w K F H Q h e k => by
  unfold dISub at e
  split at e
  · cases e; simp only [RdF, Frz] at h; exact ⟨⟨_, rfl⟩, _, _, rfl, h, k _ rfl⟩
  · cases e
theorem aug_mul : AugOk (rI CMul fun i j => .int (i * j)) dIMul := fun a y d w K F H Q h e k => by
  unfold dIMul at e
  split at e
  · split at e
    · cases e; simp only [RdF, Frz] at h; exact ⟨⟨_, rfl⟩, _, _, rfl, h, by assumption, k _ rfl⟩
    · cases e
  · cases e
theorem ds_aug {i : Nat} {x : Str} {op : Operator} {r : R2} {g : Int → D → Option D} {pos' : Pos} (hN : X.N.Nodup) (hi : X.N[i]? = some x) (hx : Loc X.env.scope x) (he : DO X p f e) (ho : OpR X (inplaceOp op) r) (hk : AugOk r g) (hb : i ∉ p.bor := by first | decide | (dsimp only; decide))
    (hf : X.fn x = true ∨ X.env.scope.names.lookup x = some .local := by first | exact .inl rfl | exact .inr rfl | assumption) : DS X p (sAug i g f) (.AugAssign (.Name x pos') op e pos) :=
  PS.weak (ps_aug hN hi hx he (ti := r) ho hf) fun σ H D ⟨ρ, F, fp, fr, anc, bb, A, s⟩ => by
    obtain ⟨a, e1, s⟩ := Sat.of (FSat.un (σ := σ) s)
    have hs : ρ[i]? = some (some (.int a)) := by
      unfold intAt at e1
      split at e1
      · rename_i b hb
        cases e1
        exact hb
      · cases e1
    obtain ⟨v, e2, o⟩ := A.slot i _ hs
    obtain ⟨_, z⟩ := o.flat rfl
    unfold Frz at z
    subst z
    refine ⟨_, e2, ρ, F, fp, fr, anc, bb, A, (FSat.un s).mono (fun t ρ1 s1 w F1 H1 fp1 A1 fw1 r1 => ?_) fun c d ρ' q => q⟩
    obtain ⟨d, e3, s2⟩ := Sat.of (FSat.un (σ := σ) s1)
    obtain ⟨y, e4, e3⟩ := Option.bind_eq_some_iff.mp e3
    refine (hk a y d w _ F1 H1 _ (r1.rdF A1 e4) e3 fun k ek => ?_).2
    subst ek
    unfold sPut setE at s2
    by_cases hl : i < ρ1.length
    · rw [if_pos hl] at s2
      exact s2 _ F1 H1 _ (A1.put hl (by rw [bb]; exact hb) (.of (by unfold Frz; rfl)) .none) fw1
    · rw [if_neg hl] at s2; exact s2.elim
end
end Dv
end
section
set_option Elab.async false
set_option linter.all false
set_option maxRecDepth 100000
set_option maxHeartbeats 2000000
/-! The data layer: what a printed proof uses. -/
namespace Dv
open PySem PySem.Spec PyProof.Rows L2 GxR GxA
/-! ### targets within blocks -/
def gNs : List Nat → TGs
  | [] => gNil
  | i :: l => gCons (gName i) (gNs l)
theorem tgr_name {K : PySem.W.Frag} {p : Par} {i : Nat} (hb : i ∉ p.bor) : TgR K p (.name i) (gName i) := fun anc fr ρ ρ' F fp σ H d v Q bb A z e k => k _ _ (put_frz A (by rw [bb]; exact hb) z e) But.one
theorem tgsr {K : PySem.W.Frag} {p : Par} : ∀ {l : List Nat}, (∀ i ∈ l, i ∉ p.bor) → TgsR K p l (gNs l)
  | [], _ => fun anc fr ρ ρ' F fp σ H ds vs Q bb A z e k => by
    cases ds with
    | nil =>
      unfold FrzL at z
      cases e
      exact ⟨z, k σ fp A ⟨rfl, fun _ _ => rfl⟩⟩
    | cons d ds => cases e
  | i :: l, hb => fun anc fr ρ ρ' F fp σ H ds vs Q bb A z e k => by
    cases ds with
    | nil => cases e
    | cons d ds =>
      unfold setAll at e
      obtain ⟨ρ1, e1, e⟩ := Option.bind_eq_some_iff.mp e
      unfold FrzL at z
      obtain ⟨v, r, rfl, z1, z2⟩ := z
      exact ⟨v, r, rfl, tgsr (fun j hj => hb j (List.mem_cons_of_mem _ hj)) anc fr ρ1 ρ' F _ _ H ds r Q bb (put_frz A (by rw [bb]; exact hb i List.mem_cons_self) z1 e1) z2 e
        fun σ' fp' A' b => k σ' fp' A' ⟨b.1.trans List.length_set, fun j hj => (b.2 j fun z => hj (List.mem_cons_of_mem _ z)).trans (But.one.2 j fun z => hj (List.mem_cons.mpr (.inl (List.mem_singleton.mp z))))⟩⟩
theorem setAll_len {ρ' : Env} : ∀ (l : List Nat) (ds : List D) (ρ : Env), setAll l ds ρ = some ρ' → ds.length = l.length
  | [], [], _, _ => rfl
  | [], _ :: _, _, e => by cases e
  | _ :: _, [], _, e => by cases e
  | i :: l, d :: ds, ρ, e => by
    unfold setAll at e
    obtain ⟨ρ1, e1, e⟩ := Option.bind_eq_some_iff.mp e
    rw [List.length_cons, List.length_cons, setAll_len l ds ρ1 e]
theorem tgr_tup {K : PySem.W.Frag} {p : Par} {l : List Nat} (hb : ∀ i ∈ l, i ∉ p.bor) : TgR K p (.tup l) (gTup K l.length (gNs l)) := fun anc fr ρ ρ' F fp σ H d v Q bb A z e k => by
  cases d with
  | tup ds =>
    unfold Frz at z
    obtain ⟨a, xs, rfl, q, r⟩ := z
    exact ⟨a, xs, rfl, A.sub.sqT q, by rw [r.length]; exact setAll_len _ _ _ e, tgsr hb anc fr ρ ρ' F fp σ H ds xs Q bb A r e k⟩
  | _ => cases e
/-! ### a def's frame -/
section
variable {P : Program} {w : World} {K : PySem.W.Frag} {mg : Str → Option Value} {base : Heap} {N : List Str} {qual : Str} {scope : Scope} {f : Addr} {cdv : Value} {A : Around} {outer : List PySem.Env} {s : Shared} {H : Hp} {E : XK}
abbrev Xb (P : Program) (w : World) (K : PySem.W.Frag) (mg : Str → Option Value) (base : Heap) (N : List Str) (qual : Str) (scope : Scope) (f : Addr) (cdv : Value) (A : Around) (outer : List PySem.Env) (s : Shared) (H : Hp) (E : XK) : Cx := cxOf (L2.CX P w) P w K mg base N qual scope f cdv A outer s H E
theorem takesB : Takes (Xb P w K mg base N qual scope f cdv A outer s H E) (fun cls d _ H => E cls d H) := takes_of rfl rfl rfl rfl
theorem ownB : PassesOwn (model P w) (Xb P w K mg base N qual scope f cdv A outer s H E).A (Xb P w K mg base N qual scope f cdv A outer s H E).env (Xb P w K mg base N qual scope f cdv A outer s H E).xe := passes_of rfl
end
theorem passW {X : Cx} {W : WX} (tk : Takes X W) : ∀ σ, PassesAt (L2.CX X.prog X.w) X σ (WE W σ) := fun σ => passAt tk σ
theorem passN {X : Cx} : ∀ σ, PassesAt (L2.CX X.prog X.w) X σ (WE (fun _ _ _ _ => False) σ) := fun σ => passAt takes0 σ
/-- THE RULE for a def -/
theorem fn_okD {P : Program} {w : World} {K : PySem.W.Frag} {mg : Str → Option Value} {base : Heap} {x qual : Str} {params : Arguments} {body : List Stmt} {scope : Scope} {dvs : List V} {kws : List (Str × V)} {f : Addr} {fd : FuncData} {N ps : List Str} {k : Nat} {tabs : List Addr} {bor : List Nat} {fb : Env → Flow}
    (Fd : FunD K x qual params body scope dvs kws f fd) (S : FnScope N ps scope) (hbor : ∀ j ∈ bor, j < ps.length)
    (hb : ∀ (cdv : Value) (A : Around) (outer : List PySem.Env) (s : Shared) (H : Hp) (E : XK), fd.code = cdv → Room k (A.deeper (envOfC qual scope s.heap.objs.size f cdv)) →
      DSs (Xb P w K mg base N qual scope f cdv A outer s H E) { tabs := tabs, bor := bor, W := fun cls d _ H => E cls d H } fb body) :
    FnOk P w K mg base (L2.CX P w) (k + 1) f fd ps (spD K mg tabs bor ps.length (gOf ps.length (N.length - ps.length) bor fb)) := by
  obtain ⟨oc, od, dV, kV, doc, pm, an, cdv, ct, osl, rfl, lk, hcd, _, _⟩ := Fd.ex
  refine fn_of lk hcd S (fun vs H Q E h => h.1) fun A outer s H vs Q E hr hsp => ⟨_, hb cdv A outer s H E rfl hr, ?_⟩
  obtain ⟨hl, ρ, F, fp, fr, A0, h⟩ := hsp
  have hlen : vs.length = ρ.length := by rw [← A0.len, List.length_map]
  refine ⟨_, F, _, fr, ancOf bor vs, ancOf_fst _ _, by unfold L2.start; rw [hl]; exact A0.ext (N.length - ps.length), ?_⟩
  have hb' : ∀ j ∈ bor, j < vs.length := fun j hj => by rw [hl]; exact hbor j hj
  have fin : ∀ {d : D} {v : V} {ρ' : Env} {σ' : L2.St} {F' H' : Hp} {fp' : Nat → Option Addr} {fd : Option Addr}, (∀ v F' H' fp' fd, At K tabs (ancOf bor vs) fr (endE ps.length bor ρ') F' fp' (vs.map some) H' → Fwd fr F H F' H' → Own K F' H' d v fd → New fr F' H' fp' fd → Q v H') →
      At K tabs (ancOf bor vs) fr ρ' F' fp' σ' H' → Fwd fr F H F' H' → Own K F' H' d v fd → New fr F' H' fp' fd → Q v H' := fun {d v ρ' σ' F' H' fp' fd} q A' fw o n => by
    have A2 := A'.cut hb'
    rw [hl] at A2
    exact q v F' H' _ fd A2 fw o (n.sub fun j a e => by
      by_cases hj : j ∈ bor
      · rw [if_pos hj] at e; exact e
      · rw [if_neg hj] at e; cases e)
  unfold gOf at h
  cases e : fb (ρ ++ List.replicate (N.length - ps.length) none) with
  | next ρ' =>
    rw [e] at h
    exact fun σ' F' H' fp' A' fw => fin h A' fw (.of (by unfold Frz; rfl)) .none
  | ret d ρ' =>
    rw [e] at h
    exact fun v σ' F' H' fp' fd A' fw o n => fin h A' fw o n
  | exc c d ρ' =>
    rw [e] at h
    intro cls dd σ' F' H' fp' A' fw x
    have A2 := A'.cut hb'
    rw [hl] at A2
    exact h cls dd F' H' _ A2 fw x
  | brk ρ' => rw [e] at h; exact h.elim
  | cnt ρ' => rw [e] at h; exact h.elim
  | bad => rw [e] at h; exact h.elim
/-! ### what stands behind the top -/
/-- the def x of the text -/
structure Df (K : PySem.W.Frag) (mg : Str → Option Value) (x : Str) (ps : List Str) (st : Stmt) (f : Addr) (fd : FuncData) : Prop where
  F : FunD K x x (defArgs st) (defBody st) (defScope st) [] [] f fd
  m : mg x = some (.ref f)
  b : Binds K fd ps []
/-- its code object's table -/
structure Tb (base : Heap) (mg : Str → Option Value) (tabs : List Addr) (fd : FuncData) (c P : Addr) : Prop where
  code : fd.code = .ref c
  T : TabB base mg c P
  P : P ∈ tabs
abbrev FnD (P : Program) (w : World) (K : PySem.W.Frag) (mg : Str → Option Value) (base : Heap) (tabs : List Addr) (k : Nat) (f : Addr) (fd : FuncData) (ps : List Str) (bor : List Nat) (G : Env → Out D) : Prop := FnOk P w K mg base (L2.CX P w) k f fd ps (spD K mg tabs bor ps.length G)
end Dv
end
section
set_option Elab.async false
set_option linter.all false
set_option maxRecDepth 100000
set_option maxHeartbeats 4000000
/-! An own exception over Exception whose __init__ says super().__init__(f'..{line}..') and self.line = line. -/
namespace XcL
open PySem PySem.Spec PySem.Calls PyProof.Rows PySem.W
/-- the class at C, its __init__ at fI -/
structure LineC (K : Frag) (C fI cda cc : Addr) (params : Arguments) (body : List Stmt) (scope : Scope) (qual : Str) (file : Str) : Prop where
  fn : ∃ (oc : Value) (od : Option Addr) (dV kV doc pm : Value) (an : Option Addr) (ct : Value) (osl : Array (Option Value)), K.lookup fI = some ⟨oc, od, .func (ksFn "__init__" qual params body scope dV kV doc pm an (.ref cda) ct cc), osl⟩
  code : codeIn K (.ref cda) qual = true
  cfile : ∃ (ccl : Value) (cdd : Option Addr) (vs : Array Value) (ccs : Array (Option Value)) (tf : Tok), K.lookup cda = some ⟨ccl, cdd, .fields vs, ccs⟩ ∧ vs[2]? = some (.str file tf)
  cell : ∃ (cl : Value) (cld : Option Addr) (csl : Array (Option Value)), K.lookup cc = some ⟨cl, cld, .cell (some (.ref C)), csl⟩
  init : findIn K (.ref C) "__init__" = some (some (.ref fI))
  isf : typeIn K (.ref fI) = some (.type "function")
  exi : excInitIn K C ESX.exTail "Exception.__new__" = true
  exo : excOver K C ESX.exTail = true
  sup : ks_superIn K C C "__init__" = some (some (.builtin "Exception.__init__"))
  sa : findIn K (.ref C) "__setattr__" = some (some (.builtin "object.__setattr__"))
  no : findIn K (.ref C) "line" = some none
  tk : takerIn K C "line" = some none
  dict : hasDictIn K C = true
  subE : subIn K (.ref C) (.type "Exception") = some true
  subB : subIn K (.ref C) (.type "BaseException") = some true
  subC : mroIn K C (.ref C) = some true
  ty : typeIn K (.ref C) = some (.type "type")
  keep : keepIn K (.ref C) = true
  opq : nsIn K cStatics "thirdparty.any" = some none
section
open Builtin Builtin.ObjectAttr
variable {prog : Program} {w : World} {A : Around} {E : Value → Shared → Prop} {K : Frag} {C fI cda cc : Addr} {params : Arguments} {scope : Scope} {qual file : Str}
theorem osa_line {hp : Heap} {g : Array GenState} {d : Drawn} {t : Nat} {os : OsState} {tk : Tok} {v : Value} {x : Addr} {fv : Array Value} {R : Result → Shared → Prop}
    (X : K.In hp) (hx : hp.get? x = some { cls := .ref C, data := .fields fv }) (hov : excOver K C ESX.exTail = true) (htk : takerIn K C "line" = some none) (hdi : hasDictIn K C = true)
    (hq : ∀ h' tk' dx, (∀ b o, b ≠ x → hp.get? b = some o → h'.get? b = some o) → hp.objs.size ≤ dx → dx ≠ x → h'.get? x = some { cls := .ref C, dict := some dx, data := .fields fv } →
      h'.Ns1 dx (fun y => if y = ("line" : Str) then some v else none) → R (.ok (.ret .none)) ⟨h', g, d, tk', os⟩) :
    codeAny (model prog w) A (.call (.builtin "object.__setattr__") ⟨[.ref x, .str "line" tk, v], []⟩) R ⟨hp, g, d, t, os⟩ := by
  have I : InstAt hp x { cls := .ref C, data := .fields fv } C none := ⟨hx, rfl, rfl, trivial⟩
  have hxs : x ≠ hp.objs.size := Nat.ne_of_lt (Heap.lt_size hx)
  obtain ⟨cd, hcd, hd⟩ := any_some hdi
  refine osa_openX F.store_Exception X I hov htk fun b => ?_
  have hcls : Looks (model prog w) hp (classData C) cd := looks_clsIn X hcd
  obtain ⟨nm, bs, mro, ns, qn, hdc, sn, sb, ab, col, del⟩ := cd
  dsimp only at hd
  subst hd
  show wpAny _ _ (storeInOwnDict (.ref x) (.ref C) (.str "line" tk) "line" v b) _ _ _
  unfold storeInOwnDict ownDictForStores
  repeat (first | with_reducible refine HandSPX.store_in_new ?_ ?_ | with_reducible refine wpAny_loadPart_at hx ?_ | with_reducible refine hcls.at ?_ | wp_step)
  · exact ⟨_, #[], _, (Heap.get?_update_ne _ _ _ _ hxs.symm).trans (Heap.get?_push_at rfl rfl), rfl, fun e he => absurd he (by simp), fun _ => rfl⟩
  · intro h' tk' hn' hs
    have hx₁ : (hp.push { cls := .type "dict", data := .dict #[] }).get? x = some { cls := .ref C, data := .fields fv } := Heap.get?_push_of_some _ hx
    refine hq h' tk' hp.objs.size (fun b o hb ho => ?_) (Nat.le_refl _) hxs.symm ?_ hn'
    · exact (hs.2 b (Nat.ne_of_lt (Heap.lt_size ho))).trans ((Heap.get?_update_ne _ _ _ _ hb).trans (Heap.get?_push_of_some _ ho))
    · exact (hs.2 x hxs).trans (Heap.get?_update_self _ hx₁ rfl)
/-- super().__init__(f'm1{line}m2'); self.line = line -/
abbrev lineBody (m1 m2 : Str) (p0 p1 p2 q1 q2 q3 q4 q5 q6 q7 r0 r1 r2 r3 : Pos) (j1 j2 : Nat) : List Stmt :=
  [.Expr (.Call (.Attribute (.Call (.Name "super" p0) [] [] p1) "__init__" p2) [.JoinedStr [.Constant (.str m1) j1 q1, .FormattedValue (.Name "line" q2) (-1) none q3, .Constant (.str m2) j2 q4] q5] [] q6) q7,
    .Assign [.Attribute (.Name "self" r0) "line" r1] (.Name "line" r2) r3]
theorem init_line {m1 m2 : Str} {p0 p1 p2 q1 q2 q3 q4 q5 q6 q7 r0 r1 r2 r3 : Pos} {j1 j2 : Nat} {s : Shared} {mg mb : Str → Option Value} {a t0 : Addr} {i : Int} {t : Tok} {ar : Arg}
    (T : LineC K C fI cda cc params (lineBody m1 m2 p0 p1 p2 q1 q2 q3 q4 q5 q6 q7 r0 r1 r2 r3 j1 j2) scope qual file) (X : K.In s.heap) (lim : s.heap.NoLimit) (hg : s.heap.Ns mainGlobals mg) (hb : s.heap.Ns builtinsNs mb) (hbs : mb "super" = bootBuiltins "super") (hms : mg "super" = none) (hroom : A.depth < recursionLimit)
    (hbind : ∀ fd : FuncData, fd.params = params → fd.defaults = .none → BindsTo s fd ⟨[.ref a, .int i t], []⟩ [("self", .ref a), ("line", .int i t)]) (hdn : ∀ oc od dV kV doc pm an ct osl, K.lookup fI = some ⟨oc, od, .func (ksFn "__init__" qual params (lineBody m1 m2 p0 p1 p2 q1 q2 q3 q4 q5 q6 q7 r0 r1 r2 r3 j1 j2) scope dV kV doc pm an (.ref cda) ct cc), osl⟩ → dV = .none)
    (hks : scope.names.lookup ("super" : Str) = some .globalImplicit) (hkc : scope.names.lookup ("__class__" : Str) = some .free) (hkse : scope.names.lookup ("self" : Str) = some .local) (hkl : scope.names.lookup ("line" : Str) = some .local) (hk : scope.kind = .function) (hcells : ∀ x ∈ scope.names, x.2 ≠ .cell)
    (hco : scope.isCoroutine = false) (hgen : scope.isGenerator = false) (hp : (params.posonlyargs ++ params.args).head? = some ar) (har : ar.arg = "self") (hfile : ((prog.main.file : Str) == file) = true) (htop : (prog.main.scope.names.lookup ("super" : Str)).isSome = false)
    (pl : Env → Sem Bool) (he : ∀ env : Env, eval (.Call (.Attribute (.Call (.Name "super" p0) [] [] p1) "__init__" p2) [.JoinedStr [.Constant (.str m1) j1 q1, .FormattedValue (.Name "line" q2) (-1) none q3, .Constant (.str m2) j2 q4] q5] [] q6) env = (do
      let ov ← attributeBase (.Call (.Name "super" p0) [] [] p1) "__init__" env (eval (.Call (.Name "super" p0) [] [] p1) env)
      standAt p2.atName
      let (f, first) ← holding [ov] (getMethod ov "__init__" (pl env))
      callWith q6 f first (backTo q6 (starEach [.JoinedStr [.Constant (.str m1) j1 q1, .FormattedValue (.Name "line" q2) (-1) none q3, .Constant (.str m2) j2 q4] q5] env)) []))
    (ha : s.heap.get? a = some (HandSPX.excO C t0)) (hna : K.lookup a = none) (hi : i.natAbs.log2 < 1920) (hz1 : m1.length ≤ 1000) (hz2 : m2.length ≤ 1000) :
    codeAny (model prog w) A (.call (.ref fI) ⟨[.ref a, .int i t], []⟩) (fun r s' => r = .ok (.ret .none) ∧ s'.os = s.os ∧ s'.gens = s.gens ∧ s'.drawn = s.drawn ∧ ∃ t1 dx : Addr, (∀ b o, b ≠ a → s.heap.get? b = some o → s'.heap.get? b = some o) ∧ s.heap.objs.size ≤ dx ∧ dx ≠ a ∧
      s'.heap.get? a = some { cls := .ref C, dict := some dx, data := .fields #[.ref t1, .none, .none, .none, .bool false, .none] } ∧ s'.heap.Ns1 dx (fun y => if y = ("line" : Str) then some (.int i t) else none)) s := by
  obtain ⟨oc, od, dV, kV, doc, pm, an, ct, osl, lk⟩ := T.fn
  have edV := hdn _ _ _ _ _ _ _ _ _ lk
  subst edV
  obtain ⟨ccl, cdd, vs, ccs, tf, lcd, hvs⟩ := T.cfile
  obtain ⟨cl, cld, csl, lcell⟩ := T.cell
  obtain ⟨nm, N', qn, bs, bm, hdct, sn, sub, ab, col, dd, z0, z1, z2, z3, z5, hC, hT⟩ := excInit_of X T.exi
  obtain ⟨hh, g, d, tk, os⟩ := s
  refine ks_codeAny_call_defAt (fd := ksFn "__init__" qual params (lineBody m1 m2 p0 p1 p2 q1 q2 q3 q4 q5 q6 q7 r0 r1 r2 r3 j1 j2) scope .none kV doc pm an (.ref cda) ct cc) hroom (X _ _ lk) rfl lim (codeRec_of X T.code) rfl (hbind _ rfl rfl) hcells (fun x hx => ?_) (fun h₀ hns hk₀ => ?_) hco hgen hk
  · rcases List.mem_cons.mp hx with rfl | hx
    · exact hkse
    · rcases List.mem_cons.mp hx with rfl | hx
      · exact hkl
      · cases hx
  have X0 : K.In h₀ := X.keeps hk₀
  have ha0 := hk₀ _ _ ha
  have hC0 := hk₀ _ _ hC
  have hns0 : h₀.Ns hh.objs.size (fun y => if y = ("line" : Str) then some (.int i t) else if y = ("self" : Str) then some (.ref a) else none) := by
    obtain ⟨o, es, ep, e1, e2, e3, e4⟩ := hns
    refine ⟨o, es, ep, e1, e2, e3, fun y => (e4 y).trans ?_⟩
    show List.lookup y [(("line" : Str), Value.int i t), (("self" : Str), Value.ref a)] = if y = ("line" : Str) then some (.int i t) else if y = ("self" : Str) then some (.ref a) else none
    by_cases h1 : y = ("line" : Str)
    · subst h1; rfl
    · rw [if_neg h1]
      have e5 : (y == ("line" : Str)) = false := by simpa using h1
      simp only [List.lookup, e5]
      by_cases h2 : y = ("self" : Str)
      · subst h2; rfl
      · rw [if_neg h2]
        have e6 : (y == ("self" : Str)) = false := by simpa using h2
        simp only [e6]
  show PySem.wpAt (model prog w) (A.deeper (ksEnv qual scope hh.objs.size fI (.ref cda) cc)) (.func (lineBody m1 m2 p0 p1 p2 q1 q2 q3 q4 q5 q6 q7 r0 r1 r2 r3 j1 j2) (ksEnv qual scope hh.objs.size fI (.ref cda) cc)) (execs (lineBody m1 m2 p0 p1 p2 q1 q2 q3 q4 q5 q6 q7 r0 r1 r2 r3 j1 j2) (ksEnv qual scope hh.objs.size fI (.ref cda) cc)) _ _ _
  have kl : (ksEnv qual scope hh.objs.size fI (.ref cda) cc).kindOf "line" = some .local := hkl
  have kself : (ksEnv qual scope hh.objs.size fI (.ref cda) cc).kindOf "self" = some .local := hkse
  have hcdC := T.dict
  obtain ⟨cd, hcd, _⟩ := any_some hcdC
  obtain ⟨oD, hD1, hD2⟩ : ∃ oD, h₀.get? C = some oD ∧ oD.data = .cls cd := by
    unfold clsIn at hcd
    split at hcd
    · rename_i c d cd' sl ho
      cases hcd
      exact ⟨_, X0 _ _ ho, rfl⟩
    · cases hcd
  have I0 : InstAt h₀ a (HandSPX.excO C t0) C none := ⟨ha0, rfl, rfl, trivial⟩
  refine ks_wpAt_execs_cons (ks_wpAt_Expr_any (ks_wpAt_MethodCall ?_ (he _)) (by simp [interactive, hk]) (by rfl))
  refine ks_wpAt_super_base (env := ksEnv qual scope hh.objs.size fI (.ref cda) cc) hks hkc rfl rfl (X0 _ _ lk) rfl hp rfl (X0 _ _ lcd) rfl hvs hfile htop ?_
  refine ks_loadName_global hk hks (loadGlobal_builtin (env := ksEnv qual scope hh.objs.size fI (.ref cda) cc) (hg.keeps hk₀) hms (hb.keeps hk₀) (hbs.trans rfl) ⟨rfl, ?_⟩)
  refine wpAny_loadName_free hk hkc rfl ⟨_, X0 _ _ lcell, rfl⟩ ?_
  rw [har]
  refine wpAny_loadName_local hk kself hns0 (v := .ref a) rfl ?_
  refine ks_wpAny_isType_cls hD1 hD2 ⟨rfl, ?_⟩
  refine ks_wpAny_call_super hD1 hD2 ha0 rfl (fun c e => nomatch e) (looks_mroIn X0 T.subC) (fun h1 e1 k1 => ?_)
  have X1 : K.In h1 := X0.keeps k1
  have ha1 := k1 _ _ ha0
  have I1 : InstAt h1 a (HandSPX.excO C t0) C none := ⟨ha1, rfl, rfl, trivial⟩
  have hsup := T.sup
  unfold ks_superIn at hsup
  rw [hcd] at hsup
  refine ESX.getMethod_super e1 (looks_opaque X1 T.opq) (l₀ := cd.mro) (fun A Q E s k q => wpAny_bind ((looks_clsIn X1 hcd) A _ E s k (wpAny_pure q))) rfl X1 hsup (ks_ne X1 I1 hcd) rfl (I1.type.andThen (looks_subIn X1 T.subE)) ?_
  have hns1 : (h1.push (ESX.bw a)).Ns hh.objs.size (fun y => if y = ("line" : Str) then some (.int i t) else if y = ("self" : Str) then some (.ref a) else none) := (hns0.keeps k1).keeps fun b o e => Heap.get?_push_of_some _ e
  refine ESX.callWith_bound (x := a) ?_ (by rfl) (by rfl)
  show wpAny _ _ (spliced [(false, eval (.JoinedStr [.Constant (.str m1) j1 q1, .FormattedValue (.Name "line" q2) (-1) none q3, .Constant (.str m2) j2 q4] q5) (ksEnv qual scope hh.objs.size fI (.ref cda) cc))]) _ _ _
  refine spliced_cons (wpAny_JoinedStr ?_)
  show Joins _ _ _ [eval (.Constant (.str m1) j1 q1) (ksEnv qual scope hh.objs.size fI (.ref cda) cc), eval (.FormattedValue (.Name "line" q2) (-1) none q3) (ksEnv qual scope hh.objs.size fI (.ref cda) cc), eval (.Constant (.str m2) j2 q4) (ksEnv qual scope hh.objs.size fI (.ref cda) cc)] _ _ _
  have fit : (Str.ofString (toString i)).length ≤ 1921 := by rw [PySem.ofString_length]; exact int_text_length_le (k := 1920) (by decide) hi
  have sl : (1000 : Nat) + 1921 + 1000 ≤ sizeLine := by decide
  have e0 : (Str.empty : Str).length = 0 := rfl
  refine Constant_str ⟨m1, _, rfl, by rw [PySem.Str.length_append, e0]; omega, ?_⟩
  refine wpAny_FormattedValue_plain (wpAny_Name (wpAny_loadName_local hk kl hns1 (v := .int i t) rfl ?_) (by decide))
  refine wpAny_formatField_int hi ⟨Str.ofString (toString i), _, rfl, by rw [PySem.Str.length_append, PySem.Str.length_append, e0]; omega, ?_⟩
  refine Constant_str ⟨m2, _, rfl, by rw [PySem.Str.length_append, PySem.Str.length_append, PySem.Str.length_append, e0]; omega, ?_⟩
  refine ⟨by rw [PySem.Str.length_append, PySem.Str.length_append, PySem.Str.length_append, e0]; omega, spliced_nil ⟨Heap.get?_push_at rfl rfl, ?_⟩⟩
  have ha2 : (h1.push (ESX.bw a)).get? a = some (HandSPX.excO C t0) := Heap.get?_push_of_some _ ha1
  have hC2 : (h1.push (ESX.bw a)).get? C = some (excClassObj nm qn C N' bs bm hdct sn sub ab col dd z0 z1 z2 z3 z5 "Exception.__new__") := Heap.get?_push_of_some _ (k1 _ _ hC0)
  refine ESX.call_bw hC2 ha2 (Heap.get?_push_at rfl rfl) (by show 1 ≤ sizeLine; decide) fun h3 t3 k3' ha3 => ?_
  have hLa : hh.objs.size ≠ a := Nat.ne_of_gt (Heap.lt_size ha)
  have X3 : K.In h3 := fun b o e => k3' b o (fun z => by rw [z, hna] at e; cases e) (Heap.get?_push_of_some _ (X1 _ _ e))
  have hns3 : h3.Ns hh.objs.size (fun y => if y = ("line" : Str) then some (.int i t) else if y = ("self" : Str) then some (.ref a) else none) := hns1.at fun o e => k3' _ _ hLa e
  show PySem.wpAt (model prog w) (A.deeper (ksEnv qual scope hh.objs.size fI (.ref cda) cc)) (.func (lineBody m1 m2 p0 p1 p2 q1 q2 q3 q4 q5 q6 q7 r0 r1 r2 r3 j1 j2) (ksEnv qual scope hh.objs.size fI (.ref cda) cc)) (execs [.Assign [.Attribute (.Name "self" r0) "line" r1] (.Name "line" r2) r3] (ksEnv qual scope hh.objs.size fI (.ref cda) cc)) _ _ _
  refine ks_wpAt_execs_cons ?_
  refine ks_wpAt_Assign_Attr ?_ (by rfl)
  refine PySem.wpAt_of_wpAny ?_
  refine wpAny_Name ?_ (by decide)
  refine wpAny_loadName_local hk kl hns3 (v := .int i t) rfl ?_
  refine wpAny_Name ?_ (by decide)
  refine wpAny_loadName_local hk kself hns3 (v := .ref a) rfl ?_
  refine set_plain X3 (ox := { cls := .ref C, data := .fields #[.ref t3, .none, .none, .none, .bool false, .none] }) (od := none) ⟨ha3, rfl, rfl, trivial⟩ T.sa (osa_line X3 ha3 T.exo T.tk T.dict fun h4 tk4 dx k4 hdx hne ha4 hns4 => ?_)
  refine PySem.wpAt_of_wpAny (wpAny_execs_nil ⟨rfl, rfl, rfl, rfl, t3, dx, fun b o hb e => ?_, ?_, hne, ha4, hns4⟩)
  · exact k4 b o hb (k3' b o hb (Heap.get?_push_of_some _ (k1 _ _ (hk₀ _ _ e))))
  · exact Nat.le_trans (Nat.le_of_lt hns3.lt) hdx
end
end XcL
end
section
set_option Elab.async false
set_option linter.all false
set_option maxRecDepth 100000
set_option maxHeartbeats 4000000
namespace XcL
open PySem PySem.Spec PyProof.Rows L2
theorem ext_own {p : Heap → Prop} {x : Addr} : HO.ext p ≠ .own x := fun z => by cases z
/-- what is written down of such a class within a text -/
structure LineT (P : Program) (K : PySem.W.Frag) (mg : Str → Option Value) (C fI cda cc : Addr) (params : Arguments) (m1 m2 : Str) (p0 p1 p2 q1 q2 q3 q4 q5 q6 q7 r0 r1 r2 r3 : Pos) (j1 j2 : Nat) (scope : Scope) (qual file : Str) (pl : PySem.Env → Sem Bool) (ar : Arg) : Prop where
  T : LineC K C fI cda cc params (lineBody m1 m2 p0 p1 p2 q1 q2 q3 q4 q5 q6 q7 r0 r1 r2 r3 j1 j2) scope qual file
  dn : ∀ oc od dV kV doc pm an ct osl, K.lookup fI = some ⟨oc, od, .func (PySem.W.ksFn "__init__" qual params (lineBody m1 m2 p0 p1 p2 q1 q2 q3 q4 q5 q6 q7 r0 r1 r2 r3 j1 j2) scope dV kV doc pm an (.ref cda) ct cc), osl⟩ → dV = .none
  bind : ∀ (s : Shared) (u v : Value) (fd : FuncData), fd.params = params → fd.defaults = .none → BindsTo s fd ⟨[u, v], []⟩ [("self", u), ("line", v)]
  ks : scope.names.lookup ("super" : Str) = some .globalImplicit
  kc : scope.names.lookup ("__class__" : Str) = some .free
  kse : scope.names.lookup ("self" : Str) = some .local
  kl : scope.names.lookup ("line" : Str) = some .local
  kind : scope.kind = .function
  cells : ∀ x ∈ scope.names, x.2 ≠ .cell
  co : scope.isCoroutine = false
  gen : scope.isGenerator = false
  hp : (params.posonlyargs ++ params.args).head? = some ar
  ar : ar.arg = "self"
  file : ((P.main.file : Str) == file) = true
  top : (P.main.scope.names.lookup ("super" : Str)).isSome = false
  he : ∀ env : PySem.Env, eval (.Call (.Attribute (.Call (.Name "super" p0) [] [] p1) "__init__" p2) [.JoinedStr [.Constant (.str m1) j1 q1, .FormattedValue (.Name "line" q2) (-1) none q3, .Constant (.str m2) j2 q4] q5] [] q6) env = (do
      let ov ← attributeBase (.Call (.Name "super" p0) [] [] p1) "__init__" env (eval (.Call (.Name "super" p0) [] [] p1) env)
      standAt p2.atName
      let (f, first) ← holding [ov] (getMethod ov "__init__" (pl env))
      callWith q6 f first (backTo q6 (starEach [.JoinedStr [.Constant (.str m1) j1 q1, .FormattedValue (.Name "line" q2) (-1) none q3, .Constant (.str m2) j2 q4] q5] env)) [])
  z1 : m1.length ≤ 1000
  z2 : m2.length ≤ 1000
  msup : mg "super" = none
section
variable {X : Cx} {C fI cda cc : Addr} {params : Arguments} {m1 m2 : Str} {p0 p1 p2 q1 q2 q3 q4 q5 q6 q7 r0 r1 r2 r3 : Pos} {j1 j2 : Nat} {scope : Scope} {qual file : Str} {pl : PySem.Env → Sem Bool} {ar : Arg} {e : Expr} {es : List Expr} {ta : TA} {x : Str} {p pos : Pos} {k : Nat}
theorem pmk_line (T : LineT X.prog X.K X.mg C fI cda cc params m1 m2 p0 p1 p2 q1 q2 q3 q4 q5 q6 q7 r0 r1 r2 r3 j1 j2 scope qual file pl ar) (hr : Room (k + 1) X.A) (hg : Gl X x) (hm : X.mg x = some (.ref C)) (ha : PA X (e :: es) ta)
    (hdb : (x == ("__debug__" : Str)) = false := by decide) (he : starEach (e :: es) X.env = (false, eval e X.env) :: starEach es X.env := by rfl) (hpl : (backTo pos (starEach es X.env)).any (·.1) = false := by rfl) :
    PMk X (.Call (.Name x p) (e :: es) [] pos) (fun σ H Q => ta σ H fun vs H1 => ∃ i : Int, vs = [.int i] ∧ i.natAbs.log2 < 1920 ∧ ∀ d, H1 d = none → Q (.ref C) (some d) (upd H1 d (.xd [("line", .int i)]))) := by
  intro pins s σ H Q I h
  refine wpAny_Call_Name_kw (ld_glob I hg hm ?_ hdb)
  refine PySem.W.callWith_K (h₀ := X.base) I.ok.mod.kin T.T.keep (thn (ha.run pos pins s σ H _ I h) fun us s1 ⟨vs, H1, I1, r1, i, ev, hi, q⟩ => ⟨I1.kIn, ?_⟩) he hpl
  subst ev
  obtain ⟨u, rfl, t, rfl⟩ := vals1 r1
  show wpAny _ _ (call (.ref C) [.int i t]) _ _ _
  obtain ⟨nm, N', qn, bs, bm, hdct, sn, sub, ab, col, dd, z0, z1, z2, z3, z5, hC, hT⟩ := PySem.W.excInit_of I1.kIn T.T.exi
  have nl := I1.nolimit
  obtain ⟨hp, g, dr, tk, os⟩ := s1
  generalize hav : hp.objs.size + 1 = a
  have hsz : hp.objs.size ≤ a := by rw [← hav]; exact Nat.le_succ _
  have hn : H1 a = none := I1.hok.fresh hsz
  have kk : ∀ b o, hp.get? b = some o → ((hp.push (PySem.W.kdv_tup [.int i t])).push (PySem.HandSPX.excO C hp.objs.size)).get? b = some o := fun b o e => Heap.get?_push_of_some _ (Heap.get?_push_of_some _ e)
  have hget : ((hp.push (PySem.W.kdv_tup [.int i t])).push (PySem.HandSPX.excO C hp.objs.size)).get? a = some (PySem.HandSPX.excO C hp.objs.size) := by rw [← hav]; heap_get
  have hs2 : hp.objs.size ≤ ((hp.push (PySem.W.kdv_tup [.int i t])).push (PySem.HandSPX.excO C hp.objs.size)).objs.size := by
    rw [Heap.size_push, Heap.size_push]
    exact Nat.le_trans (Nat.le_succ _) (Nat.le_succ _)
  have hna : X.K.lookup a = none := by
    cases e : X.K.lookup a with
    | none => rfl
    | some o => exact absurd (Nat.lt_of_lt_of_le (Heap.lt_size (I1.kIn a o e)) hsz) (Nat.lt_irrefl _)
  obtain ⟨mb, hmb, hbb⟩ := I1.mod.blt
  have bs' := I1.bk
  subst hav
  refine wpAny_call (PySem.HandSPX.call_own F.excBase_Exception hT hC (PySem.W.looks_findIn I1.kIn T.T.init) (fun self => PySem.W.bind_fn I1.kIn self T.T.isf) (by show 1 ≤ sizeLine; decide)
    (codeAny_mono (init_line (prog := X.prog) (w := X.w) (s := ⟨(hp.push (PySem.W.kdv_tup [.int i t])).push (PySem.HandSPX.excO C hp.objs.size), g, dr, tk, os⟩) (t := t) (a := hp.objs.size + 1) (t0 := hp.objs.size) (mg := X.mg) (mb := mb) T.T (I1.kIn.keeps kk) (nl.keeps kk) ((I1.mod.glob.keeps bs').keeps kk) ((hmb.keeps bs').keeps kk) (hbb "super" (by decide)) T.msup (hr.make C [.int i t] []).depth
      (fun fd h1 h2 => T.bind _ _ _ fd h1 h2) T.dn T.ks T.kc T.kse T.kl T.kind T.cells T.co T.gen T.hp T.ar T.file T.top pl T.he hget hna hi T.z1 T.z2) fun r s' hq => ?_))
  generalize hav : hp.objs.size + 1 = a at *
  obtain ⟨rfl, os', gn, dw, t1, dx, k, hd, hda, ea, hns⟩ := hq
  obtain ⟨h2, g2, d2, t2, os2⟩ := s'
  obtain rfl : os2 = os := os'
  obtain rfl : g2 = g := gn
  have hdn : H1 dx = none := I1.hok.fresh (Nat.le_trans hs2 hd)
  have hna2 : ∀ {b : Addr} {o : Obj}, hp.get? b = some o → b ≠ a := fun {b o} z => Nat.ne_of_lt (Nat.lt_of_lt_of_le (Heap.lt_size z) hsz)
  have hnd2 : ∀ {b : Addr} {o : Obj}, ((hp.push (PySem.W.kdv_tup [.int i t])).push (PySem.HandSPX.excO C hp.objs.size)).get? b = some o → b ≠ dx := fun {b o} z => Nat.ne_of_lt (Nat.lt_of_lt_of_le (Heap.lt_size z) hd)
  have e1 : upd H1 a (exo a C none) a = some (exo a C none) := upd_same
  have hnd3 : upd H1 a (exo a C none) dx = none := by rw [upd_ne hda]; exact hdn
  have nb : ∀ {b : Addr}, upd H1 a (exo a C none) b = none → b ≠ a := fun {b} n z => by rw [z, e1] at n; cases n
  have U : Un (frs X.stack) [] (upd H1 a (exo a C none)) (upd (upd (upd H1 a (exo a C none)) dx (exd dx [("line", .int i)])) a (exo a C (some dx))) ((hp.push (PySem.W.kdv_tup [.int i t])).push (PySem.HandSPX.excO C hp.objs.size)) h2 := {
    keep := fun b o q n _ _ => k b o (nb n) q
    slot := fun b o q n _ _ => ⟨o.slots, k b o (nb n) q⟩
    free := fun b o q n _ => by rw [upd_ne (nb n), upd_ne (hnd2 q)]; exact n
    there := fun b o q _ => by
      by_cases hb : b = a
      · exact ⟨_, by rw [hb]; exact ea⟩
      · exact ⟨o, k b o hb q⟩
    tups := fun b xs q => by rw [upd_ne (at_ne e1 q exo_tup), upd_ne (ne_of_none q hnd3)]; exact q
    frzs := fun b o v q => by rw [upd_ne (at_ne e1 q exo_frz), upd_ne (ne_of_none q hnd3)]; exact q
    tbls := fun b ps q => ⟨#[], by rw [upd_ne (at_ne e1 q exo_tbl), upd_ne (ne_of_none q hnd3), q]; simp⟩ }
  have ok1 : HOk X.prog X.w (upd H1 a (exo a C none)) ((hp.push (PySem.W.kdv_tup [.int i t])).push (PySem.HandSPX.excO C hp.objs.size)) := I1.hok.laid kk hsz (exo_ok hget)
  have hok2 : HOk X.prog X.w (upd (upd (upd H1 a (exo a C none)) dx (exd dx [("line", .int i)])) a (exo a C (some dx))) h2 := fun b o q => by
    by_cases hb : b = a
    · subst hb
      rw [upd_same] at q
      cases q
      exact exo_ok ea
    · rw [upd_ne hb] at q
      by_cases hd' : b = dx
      · subst hd'
        rw [upd_same] at q
        cases q
        exact exd_ok hns (relO_put (fs := []) ⟨t, rfl⟩ fun g => True.intro)
      · rw [upd_ne hd'] at q
        exact (ok1 b o q).stay (fun c v hc z => k c v (by
            rcases hc with hc | hc
            · rw [hc]
              exact hb
            · exact at_ne e1 hc exo_own) z)
          (fun c hc => by rw [upd_ne (at_ne e1 hc exo_own), upd_ne (ne_of_none hc hnd3)]; exact hc) (fun c xs hc => by rw [upd_ne (at_ne e1 hc exo_tup), upd_ne (ne_of_none hc hnd3)]; exact hc)
  refine ⟨rfl, mk_end (d := dx) (fs := [("line", .int i)]) (raises_own T.T.subB T.T.ty) I1 hsz kk U hok2 rfl I1.bare upd_same (by rw [upd_ne hda, upd_same]) hdn ?_⟩
  have ef : upd (del (upd (upd (upd H1 a (exo a C none)) dx (exd dx [("line", .int i)])) a (exo a C (some dx))) a) dx (.xd [("line", .int i)]) = upd H1 dx (.xd [("line", .int i)]) := by
    funext b
    by_cases h1 : b = dx
    · subst h1; rw [upd_same, upd_same]
    · rw [upd_ne h1, upd_ne h1]
      by_cases h2 : b = a
      · subst h2; rw [del_same, hn]
      · rw [del_ne h2, upd_ne h2, upd_ne h1, upd_ne h2]
  rw [ef]
  exact q dx hdn
end
/-- x is such a class of the text -/
def BadT (P : Program) (K : PySem.W.Frag) (mg : Str → Option Value) (x : Str) : Prop := ∃ (C fI cda cc : Addr) (params : Arguments) (m1 m2 : Str) (p0 p1 p2 q1 q2 q3 q4 q5 q6 q7 r0 r1 r2 r3 : Pos) (j1 j2 : Nat) (scope : Scope) (qual file : Str) (pl : PySem.Env → Sem Bool) (ar : Arg), mg x = some (.ref C) ∧
  LineT P K mg C fI cda cc params m1 m2 p0 p1 p2 q1 q2 q3 q4 q5 q6 q7 r0 r1 r2 r3 j1 j2 scope qual file pl ar
end XcL
end
section
set_option Elab.async false
set_option linter.all false
set_option maxRecDepth 100000
set_option maxHeartbeats 4000000
/-! isinstance of a caught error that has its dict. -/
namespace XcL
open PySem PySem.Spec PySem.Calls PyProof.Rows PySem.W
section
variable {prog : Program} {w : World} {A : Around} {E : Value → Shared → Prop} {s : Shared} {K : Frag} {x D : Addr} {ox : Obj} {od : Option Obj}
theorem findObj_dataO {C : Addr} {name : Str} {a g : Value} (hc : (clsIn K C).isSome = true) (ha : findIn K (.ref C) name = some (some a)) (hg : specialIn K a "__get__" = some (some g)) (ht : takesIn K a = some true) : findObj K C od name = some (.bind g a) := by
  obtain ⟨cd, hc⟩ := Option.isSome_iff_exists.mp hc
  unfold findObj
  rw [hc, Option.bind_some, ha, Option.bind_some]
  simp [hg, ht]
theorem kin_classO {Q : Option Value → Shared → Prop} (C : L2.ExcC K D) (X : K.In s.heap) (I : InstAt s.heap x ox D od) (h : Q (some (.ref D)) { s with toks := s.toks + 1 }) : wpAny (model prog w) A (getAttr? (.ref x) "__class__") Q E s := by
  have hf : findObj K D od "__class__" = some (.bind (.builtin "getset_descriptor.__get__") (.builtin "object.__class__")) := findObj_dataO (by obtain ⟨cd, hc, _⟩ := any_some C.hd; rw [hc]; rfl) C.ha C.hn C.ht
  obtain ⟨hp, g, d, t, os⟩ := s
  have L0 := I.type (M := model prog w)
  have L1 := looks_findIn (M := model prog w) X C.hg
  have L2 := looks_findIn (M := model prog w) X C.hk
  have L3 := looks_find (M := model prog w) X I hf
  have sub : Looks (model prog w) hp (isInstance (.ref x) (.type "BaseException")) true := L0.andThen (looks_subIn X C.hs)
  have hx0 : (false && onTheHeap (Value.builtin "BaseException.__getattribute__")) = false := rfl
  have hx2 : (Value.builtin "BaseException.__getattribute__" == Value.builtin "object.__getattribute__") = false := by decide +kernel
  have hx1 : (onTheHeap (Value.ref D) && Value.builtin "BaseException.__getattribute__" == Value.builtin "object.__getattribute__") = false := by rw [hx2]; rfl
  unfold getAttr? getAttrBy? getAttrBy
  refine wpAny_bind (wpAny_mkText (wpAny_bind (wpAny_attempt (wpAny_holding (wpAny_bind (L0.at (wpAny_bind (L1.at ?_))))))))
  show wpAny _ _ (if (onTheHeap (Value.ref D) && Value.builtin "BaseException.__getattribute__" == Value.builtin "object.__getattribute__") = true then _ else _) _ _ _
  rw [hx1, if_neg Bool.false_ne_true]
  unfold getAttrByItsOwn hookBefore
  refine wpAny_bind ?_
  rw [if_pos (show onTheHeap (Value.ref D) = true from rfl)]
  refine L2.at ?_
  refine wpAny_bind (wpAny_attempt (wpAny_holding ?_))
  unfold callGetattribute
  rw [hx0, if_neg Bool.false_ne_true]
  unfold boundAndCalled
  rw [PySem.F.excAttr_ValueError.ga.bind (.ref x)]
  refine wpAny_bind (wpAny_pure ?_)
  show wpAny _ _ (call (.builtin "BaseException.__getattribute__") [.ref x, .str "__class__" t]) _ _ _
  refine wpAny_call (codeAny_call_builtin PySem.F.excAttr_ValueError.ga.plain PySem.F.entry_bexc_ga ?_)
  refine @check_slot (model prog w) _ _ ⟨hp, g, d, t + 1, os⟩ "BaseException.__getattribute__" "BaseException" "__getattribute__" (.ref x) [.str "__class__" t] [] _ (by decide +kernel) (by decide +kernel) sub (PySem.F.args_bexc_ga (.ref x) (.str "__class__" t)) ?_
  unfold Builtin.«object.__getattribute__»
  refine wpAny_bind (wpAny_of_eq (a := ((Value.ref x : Value), [Value.str "__class__" t])) (by first | rfl | (simp only [slotArgs]; rfl)) ?_)
  refine wpAny_bind (wpAny_pure (wpAny_bind (L0.at (wpAny_bind (L3.at ?_)))))
  show wpAny _ _ (holding [Value.builtin "object.__class__"] (call (.builtin "getset_descriptor.__get__") [.builtin "object.__class__", .ref x, .ref D]) >>= ret) _ _ _
  refine wpAny_bind (wpAny_holding (wpAny_call (class_get (s := ⟨hp, g, d, t + 1, os⟩) (ox := ox) (od := od) X I C.hm ?_)))
  refine wpAny_pure ?_
  show wpAny _ _ (handedOut (.ref D)) _ _ _
  rw [handedOut_of (v := .ref D) rfl]
  first
    | exact wpAny_pure (wpAny_pure h)
    | exact wpAny_pure h
    | exact wpAny_pure (wpAny_bind (wpAny_pure (wpAny_pure h)))
theorem kitx_excO (C : L2.ExcC K D) : KitX K (.ref x) (.ref D) (fun h => InstAt h x ox D od) where
  ty := fun _ _ _ I => I.type
  it := fun _ _ X _ => by
    obtain ⟨cdD, hcD, _⟩ := any_some C.hd
    unfold clsIn at hcD
    split at hcD
    · rename_i c' d' cd' sl' ho
      intro A' Q' E' s' k q
      unfold isType loadHead
      exact wpAny_bind (wpAny_loadPart (k _ _ (X _ _ ho)) (wpAny_pure q))
    · cases hcD
  ne := fun h tp dd its n sl X htp => by
    obtain ⟨cdD, hcD, _⟩ := any_some C.hd
    refine Bool.eq_false_iff.mpr fun q => ?_
    have e : D = tp := Value.ref.inj (beq_iff_eq.mp q)
    subst e
    unfold clsIn at hcD
    split at hcD
    · rename_i c' d' cd' sl' ho
      have z := (X _ _ ho).symm.trans htp
      cases z
    · cases hcD
  ca := fun X I k => kin_classO C X I k
end
end XcL
namespace XcL
open PySem PySem.Spec PyProof.Rows L2
def rIsD (K : PySem.W.Frag) (D a dd : Addr) : List V → Hp → VK → Prop := fun xs H Q => ∃ (c : V) (cv : Value) (b : Bool) (fs : List (Str × V)), xs = [.ref a, c] ∧ (∀ u, RelV c u → u = cv) ∧ PySem.W.kitOne K (.ref D) cv = some b ∧ H dd = some (.xd fs) ∧ Q (.bl b) H
theorem call_isD {X : Cx} {a D dd : Addr} {oe : Obj} {pn : List (Addr × Obj)} (C : ExcC X.K D) (hz : Zc (.ref D) (some dd) oe) (hf : ∃ vs, oe.data = .fields vs) : CallR (X.suite a ((a, oe) :: pn)) (.builtin "isinstance") (rIsD X.K D a dd) := by
  intro pins s σ H xs us Q I r h
  obtain ⟨c, cv, b, fs, rfl, hcv, e, hdd, q⟩ := h
  cases r with
  | cons rx rr =>
    cases rr with
    | cons rt rr =>
      cases rr
      cases rx
      have ec := hcv _ rt
      subst ec
      obtain ⟨hget, _⟩ := I.pin (a, oe) (List.mem_append.mpr (.inl List.mem_cons_self))
      obtain ⟨vs, hv⟩ := hf
      have hx : ObjOk X.prog X.w H s.heap dd (.xd fs) := I.hok dd _ hdd
      obtain ⟨mA, hns, hr⟩ := hx
      obtain ⟨od, ho, hl⟩ := lookIn_ns hns
      have J : PySem.W.InstAt s.heap a oe D (some od) := ⟨hget, hz.1, by unfold PySem.W.notCls; rw [hv] <;> rfl, by rw [hz.2]; exact ho⟩
      exact PySem.W.kia_one (kitx_excO C) I.kIn J e (fun z => nomatch z) fun tk => ⟨.bl b, H, I.kept (t' := tk) fun _ _ z => z, rfl, q⟩
end XcL
end
section
set_option Elab.async false
set_option linter.all false
set_option maxRecDepth 100000
set_option maxHeartbeats 2000000
/-! The data layer: raise C(line), and the handler that reads the line. -/
namespace Dv
open PySem PySem.Spec PyProof.Rows L2 GxR GxA XcL
def sRaiseL (c : Str) (fs : List (Env → Out T)) : Env → Flow := fun ρ => (argsO fs ρ).fl fun ts ρ1 => match rdAll ts ρ1 with
  | some [.int i] => if i.natAbs.log2 < 1920 then .exc c (.int i) ρ1 else .bad
  | _ => .bad
section
variable {X : Cx} {p : Par} {e : Expr} {es : List Expr} {fs : List (Env → Out T)} {pos cpos : Pos} {k : Nat}
theorem ds_raiseL {x : Str} {pp : Pos} (T : BadT X.prog X.K X.mg x) (hc : X.calm = true) (tk : Takes X p.W) (hr : Room (k + 1) X.A) (hg : Gl X x) (ha : DA X p fs (e :: es))
    (hdb : (x == ("__debug__" : Str)) = false := by decide) (he : starEach (e :: es) X.env = (false, eval e X.env) :: starEach es X.env := by rfl) (hpl : (backTo cpos (starEach es X.env)).any (·.1) = false := by rfl) :
    DS X p (sRaiseL x fs) (.Raise (some (.Call (.Name x pp) (e :: es) [] cpos)) none pos) := by
  obtain ⟨C, _, _, _, _, _, _, _, _, _, _, _, _, _, _, _, _, _, _, _, _, _, _, _, _, _, _, _, hm, T⟩ := T
  exact PS.weak (ps_raise hc tk (pmk_line T hr hg hm ha hdb he hpl)) fun σ H D ⟨ρ, F, fp, fr, anc, bb, A, s⟩ => by
    refine ⟨ρ, F, fp, fr, anc, bb, A, (FSat.un s).mono (fun ts ρ1 s1 vs F1 H1 fp1 A1 fw1 r1 => ?_) fun c d ρ' q => q⟩
    split at s1
    · rename_i i hi
      split at s1
      · rename_i hz
        obtain ⟨v, rfl, z⟩ := paired1 (rdAll_rel A1 r1 hi)
        simp only [RdF, Frz] at z
        subst z
        refine ⟨i, rfl, hz, fun d hd => ?_⟩
        obtain ⟨A2, fw2⟩ := A1.alloc (o := .xd [("line", .int i)]) hd
        exact s1 (.ref C) (some d) σ _ _ fp1 A2 (fw1.trans fw2) ⟨⟨C, hm, rfl⟩, .inr ⟨d, .int i, rfl, upd_same, by unfold Frz; rfl⟩⟩
      · exact s1.elim
    · exact s1.elim
/-- try: body; except B0 as e: return e.line if isinstance(e, B) and not isinstance(e, C) else '..' -/
def toldR : D → Env → Flow
  | .int i, ρ => .ret (.int i) ρ
  | _, _ => .bad
def sTold (c : Str) (i : Nat) (body : Env → Flow) : Env → Flow := fun ρ => match body ρ with
  | .exc c' d ρ' => if c' = c ∧ i < ρ'.length then toldR d ρ' else .bad
  | x => x
/-- the suite's reading -/
def tsTold (i : Nat) (B : Addr) (a : Addr) (cls : Value) (d : Option Addr) : TS := fun D σ H => cls = .ref B ∧ ∃ (dd : Addr) (fs : List (Str × V)) (v : V), d = some dd ∧ H dd = some (.xd fs) ∧ fs.lookup ("line" : Str) = some v ∧ σ[i]? = some (some (.ref a)) ∧ D.rt v H
variable {np hp' b1 b2 b3 b4 b5 b6 b7 b8 b9 b10 b11 b12 : Pos} {jo : Nat} {en S Bn Cn : Str} {oth : Str}
abbrev toldE (en Bn Cn oth : Str) (b1 b2 b3 b4 b5 b6 b7 b8 b9 b10 b11 b12 : Pos) (b13 : Pos) (jo : Nat) : Expr :=
  .IfExp (.BoolOp .And [.Call (.Name "isinstance" b1) [.Name en b2, .Name Bn b3] [] b4, .UnaryOp .Not (.Call (.Name "isinstance" b5) [.Name en b6, .Name Cn b7] [] b8) b9] b10) (.Attribute (.Name en b11) "line" b12) (.Constant (.str oth) jo b13) b4
theorem told_suite {i : Nat} {B NC : Addr} {b13 b14 b15 : Pos} {a : Addr} {oe : Obj} {cls : Value} {d : Option Addr} {pn : List (Addr × Obj)} {jo : Nat} (hz : Zc cls d oe) (hf : ∃ vs, oe.data = .fields vs) (EB : ExcC X.K B) (XB : XfC X.K B) (hno : PySem.W.findIn X.K (.ref B) "line" = some none)
    (k1 : PySem.W.kitOne X.K (.ref B) (.ref B) = some true) (k2 : PySem.W.kitOne X.K (.ref B) (.ref NC) = some false) (gi : Gl X "isinstance") (mi : X.mg "isinstance" = none) (gB : Gl X Bn) (mB : X.mg Bn = some (.ref B)) (gC : Gl X Cn) (mC : X.mg Cn = some (.ref NC))
    (hN : X.N[i]? = some en) (hv : Vis X.env.scope en) (d1 : (en == ("__debug__" : Str)) = false := by decide) (d2 : (en == ("__classdict__" : Str)) = false := by decide) (d3 : (Bn == ("__debug__" : Str)) = false := by decide) (d4 : (Cn == ("__debug__" : Str)) = false := by decide) :
    PSs (X.suite a ((a, oe) :: pn)) [.Return (some (.IfExp (.BoolOp .And [.Call (.Name "isinstance" b1) [.Name en b2, .Name Bn b3] [] b4, .UnaryOp .Not (.Call (.Name "isinstance" b5) [.Name en b6, .Name Cn b7] [] b8) b9] b10) (.Attribute (.Name en b11) "line" b12) (.Constant (.str oth) jo b13) b14)) b15] (tsTold i B a cls d) := by
  by_cases h : cls = .ref B ∧ ∃ dd, d = some dd
  · obtain ⟨rfl, dd, rfl⟩ := h
    have pe : ∀ b : Pos, PE (X.suite a ((a, oe) :: pn)) (.Name en b) (tVar i) := fun b => pe_var hN hv d1 d2
    have i1 := pe_callB (X := X.suite a ((a, oe) :: pn)) (p := b1) (pos := b4) (call_isD EB hz hf) gi mi rfl (pa_cons (pe b2) (pa_cons (pe_glob (v := .ref B) (pos := b3) gB mB rfl d3) pa_nil))
    have i2 := pe_callB (X := X.suite a ((a, oe) :: pn)) (p := b5) (pos := b8) (call_isD EB hz hf) gi mi rfl (pa_cons (pe b6) (pa_cons (pe_glob (v := .ref NC) (pos := b7) gC mC rfl d4) pa_nil))
    refine PSs.weak (pss_one (ps_ret (pe_ifExp (PW.pt (pw_and (pt_val i1) (pw_and1 (pt_not (pt_val i2))))) (pe_xf XB hno hz hf (pe b11)) pe_str))) fun σ H D ⟨_, dd', fs, v, e1, e2, e3, e4, q⟩ => ?_
    cases e1
    refine ⟨_, e4, .ref B, .ref B, true, fs, rfl, fun u h => h, k1, e2, true, rfl, ?_⟩
    dsimp only
    rw [if_pos rfl]
    refine ⟨_, e4, .ref NC, .ref NC, false, fs, rfl, fun u h => h, k2, e2, false, rfl, ?_⟩
    dsimp only
    rw [if_pos (by rfl)]
    exact ⟨_, e4, rfl, rfl, dd, fs, v, rfl, e2, e3, q⟩
  · exact PSs.weak pss_never fun σ H D ⟨z1, dd, fs, v, e1, _⟩ => h ⟨z1, dd, e1⟩
theorem ds_told {i : Nat} {B SE : Addr} {body suite : List Stmt} {b₀ : Stmt} {fb : Env → Flow} {pos' : Pos} (hs : X.stack = X.env :: X.outer) (hfr : X.env.frame = some X.env.locals) (hN : X.N.Nodup) (hi : X.N[i]? = some en) (hln : X.env.kindOf en = some .local) (hc : Names X S (.ref SE)) (tk : Takes X p.W)
    (hb : ∀ (W : WX) (pn : List (Addr × Obj)) (xe : Value → Shared → Prop), Takes (X.tr pn xe) W → PassesOwn (model X.prog X.w) X.A X.env xe → DSs (X.tr pn xe) { p with W := W } fb body)
    (hsu : ∀ (a : Addr) (oe : Obj) (cls : Value) (d : Option Addr) (pn : List (Addr × Obj)), Zc cls d oe → (∃ vs, oe.data = .fields vs) → PSs (X.suite a ((a, oe) :: pn)) (b₀ :: suite) (tsTold i B a cls d))
    (mB : X.mg Bn = some (.ref B)) (hex : PySem.W.exmOne X.K (.ref B) (.ref SE) = some true) :
    DS X p (sTold Bn i fb) (.Try body [.ExceptHandler (some (.Name S np)) (some en) (b₀ :: suite) pos'] [] [] pos) :=
  PS.weak (ps_try_as (tb := fun W => tS X.K X.mg { p with W := W } fb) (ts := tsTold i B) hs hfr hN hi hln hc tk hb hsu) fun σ H D ⟨ρ, F, fp, fr, anc, bb, A, s⟩ => by
    refine ⟨ρ, F, fp, fr, anc, bb, A, ?_⟩
    unfold sTold at s
    cases e : fb ρ with
    | exc c d ρ' =>
      rw [e] at s
      intro cls dd σ' F' H' fp' A' fw' x
      by_cases hcc : c = Bn ∧ i < ρ'.length
      · dsimp only at s
        rw [if_pos hcc] at s
        obtain ⟨rfl, hl⟩ := hcc
        obtain ⟨⟨C, hC, rfl⟩, hx⟩ := x
        rw [mB] at hC
        cases hC
        refine ⟨true, hex, fun _ a ha => ⟨rfl, ?_⟩, fun z => nomatch z⟩
        cases d with
        | int n =>
          rcases hx with hx | ⟨d1, v, rfl, hv, z⟩
          · cases hx
          · exact ⟨d1, _, v, rfl, hv, by simp [List.lookup], List.getElem?_set_self (by rw [A'.len]; exact hl), s v σ' F' H' fp' none A' fw' (.of z) .none⟩
        | _ => exact s.elim
      · dsimp only at s
        rw [if_neg hcc] at s
        exact s.elim
    | next ρ' => rw [e] at s; exact s
    | brk ρ' => rw [e] at s; exact s
    | cnt ρ' => rw [e] at s; exact s
    | ret d ρ' => rw [e] at s; exact s
    | bad => rw [e] at s; exact s
/-- what the handler leans on -/
def ToldT (K : PySem.W.Frag) (mg : Str → Option Value) (S Bn Cn : Str) : Prop := ∃ B SE NC : Addr, mg Bn = some (.ref B) ∧ mg S = some (.ref SE) ∧ mg Cn = some (.ref NC) ∧ ExcC K B ∧ XfC K B ∧ PySem.W.findIn K (.ref B) "line" = some none ∧
  PySem.W.kitOne K (.ref B) (.ref B) = some true ∧ PySem.W.kitOne K (.ref B) (.ref NC) = some false ∧ PySem.W.exmOne K (.ref B) (.ref SE) = some true
theorem ds_toldE {i : Nat} {body : List Stmt} {fb : Env → Flow} {pos' b1 b2 b3 b4 b5 b6 b7 b8 b9 b10 b11 b12 b13 b14 b15 : Pos} {jo : Nat} (T : ToldT X.K X.mg S Bn Cn) (hs : X.stack = X.env :: X.outer) (hfr : X.env.frame = some X.env.locals) (hN : X.N.Nodup) (hi : X.N[i]? = some en) (hln : X.env.kindOf en = some .local) (hln2 : X.env.scope.names.lookup en = some .local) (tk : Takes X p.W)
    (gi : Gl X "isinstance") (mi : X.mg "isinstance" = none) (gS : Gl X S) (gB : Gl X Bn) (gC : Gl X Cn)
    (hb : ∀ (W : WX) (pn : List (Addr × Obj)) (xe : Value → Shared → Prop), Takes (X.tr pn xe) W → PassesOwn (model X.prog X.w) X.A X.env xe → DSs (X.tr pn xe) { p with W := W } fb body)
    (d0 : (S == ("__debug__" : Str)) = false := by decide) (d1 : (en == ("__debug__" : Str)) = false := by decide) (d2 : (en == ("__classdict__" : Str)) = false := by decide) (d3 : (Bn == ("__debug__" : Str)) = false := by decide) (d4 : (Cn == ("__debug__" : Str)) = false := by decide) :
    DS X p (sTold Bn i fb) (.Try body [.ExceptHandler (some (.Name S np)) (some en) [.Return (some (.IfExp (.BoolOp .And [.Call (.Name "isinstance" b1) [.Name en b2, .Name Bn b3] [] b4, .UnaryOp .Not (.Call (.Name "isinstance" b5) [.Name en b6, .Name Cn b7] [] b8) b9] b10) (.Attribute (.Name en b11) "line" b12) (.Constant (.str oth) jo b13) b14)) b15] pos'] [] [] pos) := by
  obtain ⟨B, SE, NC, mB, mS, mC, EB, XB, hno, k1, k2, hex⟩ := T
  exact ds_told hs hfr hN hi hln ⟨gS, d0, .inl mS⟩ tk hb (fun a oe cls d pn hz hf => told_suite hz hf EB XB hno k1 k2 gi mi gB mB gC mC hi (.inl hln2) d1 d2 d3 d4) mB hex
end
end Dv
end
section
set_option Elab.async false
set_option linter.all false
set_option maxRecDepth 100000
set_option maxHeartbeats 2000000
/-! enumerate over a list with a first count: for k, x in enumerate(l, k0). -/
namespace Dv
open PySem PySem.Spec PyProof.Rows L2 GxR
/-- the list at a as it stands at each turn, each item in a new pair with its count from k0 on -/
def ItF (K : PySem.W.Frag) (k0 : Int) (a : Addr) : It :=
  ⟨fun i H => ∃ (zs : List V) (z : V), SqL K H a zs ∧ zs[i]? = some z,
   fun i H v H' => ∃ T z, v = .ref T ∧ H T = none ∧ H' = upd H T (.tup [.int (k0 + (i : Nat)), z]) ∧ ∀ zs, SqL K H a zs → zs[i]? = some z,
   fun i H => ∃ zs : List V, SqL K H a zs ∧ zs.length = i⟩
theorem turn_enumF {P : Program} {w : World} {K : PySem.W.Frag} {elts : List Expr} {kk : Nat} {tpos : Pos} (k0 : Int) (a e it : Addr) :
    Turn P w K (.Tuple elts kk tpos) (ItF K k0 a) [e, it] e (fun i h => (∃ was, IsEnum h e it (k0 + ((i : Nat) : Int)) was) ∧ h.IsListIter it a i ∧ e ≠ it) where
  mem := by simp
  obj := fun i h st b hb => by
    obtain ⟨⟨was, he⟩, ⟨o, ho, hc, hd⟩, _⟩ := st
    rcases (show b = e ∨ b = it by simpa using hb) with z | z
    · exact z ▸ ⟨_, he, fun v q => nomatch q⟩
    · exact z ▸ ⟨o, ho, fun v q => by rw [hd] at q; cases q⟩
  keep := fun i h h' st k => by
    obtain ⟨⟨was, he⟩, hi, hne⟩ := st
    exact ⟨⟨was, k e (by simp) _ he⟩, hi.at fun o q => k it (by simp) o q, hne⟩
  item := by
    intro X hP hw hK hc i pins s σ H E I hf st hg
    subst hP hw hK
    obtain ⟨⟨was, he⟩, hit, hne⟩ := st
    obtain ⟨zs, z, hq, hx⟩ := hg
    obtain ⟨its, rv, p, hz⟩ := I.list hq
    obtain ⟨u, hu, ru⟩ := rv.get hx
    have hel : e < s.heap.objs.size := Heap.lt_size he
    have hil : it < s.heap.objs.size := by obtain ⟨_, q, _⟩ := hit; exact Heap.lt_size q
    have hai : a ≠ it := fun q => by
      obtain ⟨o, ho, hc1, _⟩ := hit
      obtain ⟨o2, ho2, hc2, _⟩ := p.isList
      rw [q, ho] at ho2
      cases ho2
      rw [hc1] at hc2
      exact absurd hc2 (by decide)
    have hae : a ≠ e := fun q => by
      obtain ⟨o2, ho2, hc2, _⟩ := p.isList
      rw [q] at ho2
      rw [show s.heap.get? e = some _ from he] at ho2
      cases ho2
      exact absurd (show (Value.type "enumerate" : Value) = .type "list" from hc2) (by decide)
    have hlt : i < its.toArray.size := by
      have := (List.getElem?_eq_some_iff.mp hu).1
      simpa using this
    refine wpAny_pyNext_enum_itemC (Draws.list (A := X.A.in1) (show X.A.in1.handled = none from I.ok.hd hc) it a hai its.toArray) he ⟨hit, p.isList⟩ hlt hne (by simp [hne, Ne.symm hae]) fun y h' tk hP ho hst hT hsz hk => ?_
    obtain rfl : y = u := by
      have h1 : its[i]? = some y := by simpa using hP
      rw [hu] at h1
      cases h1
      rfl
    refine ⟨_, rfl, wpAny_letOwnedTupleGo_enum (s := { s with heap := h', toks := tk + 1 }) ho fun h'' he' sb => ?_⟩
    have hT2 : h''.get? s.heap.objs.size = some { cls := .type "tuple", data := .seq #[.int (k0 + (i : Nat)) tk, y] } := (sb.2 _ (Nat.ne_of_gt hel)).trans hT
    have new : ObjOk X.prog X.w (upd H s.heap.objs.size (.tup [.int (k0 + (i : Nat)), z])) h'' s.heap.objs.size (.tup [.int (k0 + (i : Nat)), z]) :=
      ⟨by show 2 ≤ sizeLine; decide, [.int (k0 + (i : Nat)) tk, y], .cons ⟨_, rfl⟩ (.cons ru .nil), ⟨_, hT2, rfl, _, rfl⟩⟩
    have I1 : Inv X pins σ (upd H s.heap.objs.size (.tup [.int (k0 + (i : Nat)), z])) { s with heap := h'', toks := tk + 1 } :=
      I.turnedNew (ch := [e, it]) (fun b ob hb q => (sb.2 b (fun z => hb (by simp [z]))).trans (hk b ob (fun z => hb (by simp [z])) (fun z => hb (by simp [z])) q)) hf (Nat.le_refl _) new
    refine ⟨.ref s.heap.objs.size, _, I1, rfl, ⟨_, z, rfl, I.hok.fresh (Nat.le_refl _), rfl, fun ys hy => by rw [I.list_inj hy hq]; exact hx⟩, ⟨⟨y, ?_⟩, hst.1.at fun o q => (sb.2 it (Ne.symm hne)).trans q, hne⟩, fun b hb => ?_⟩
    · have e1 : k0 + ((i + 1 : Nat) : Int) = k0 + (i : Int) + 1 := by omega
      rw [e1]; exact he'
    · have hb' : b < s.heap.objs.size := by
        rcases (show b = e ∨ b = it by simpa using hb) with z | z
        · exact z ▸ hel
        · exact z ▸ hil
      rw [upd_ne (Nat.ne_of_lt hb')]
      exact (hf b hb).1
  done := by
    intro X hP hw hK hc i pins s σ H E I hf st hg
    subst hP hw hK
    obtain ⟨⟨was, he⟩, hit, hne⟩ := st
    obtain ⟨zs, hq, hx⟩ := hg
    obtain ⟨its, rv, p, hz⟩ := I.list hq
    obtain ⟨f0, f1, f2, f3, f4, f5⟩ := hf it (by simp)
    have hl := rv.length
    have hai : a ≠ it := fun q => by
      obtain ⟨o, ho, hc1, _⟩ := hit
      obtain ⟨o2, ho2, hc2, _⟩ := p.isList
      rw [q, ho] at ho2
      cases ho2
      rw [hc1] at hc2
      exact absurd hc2 (by decide)
    have hi : i = its.toArray.size := by simp; omega
    subst hi
    exact wpAny_pyNext_enum_endD (Draws.list (A := X.A.in1) (show X.A.in1.handled = none from I.ok.hd hc) it a hai its.toArray) he ⟨hit, p.isList⟩ fun h' eb => ⟨rfl, I.turned (t' := s.toks) (fun b o hb q => eb b o hb q) f0 f1 f3 f4 f5⟩
  self := fun A i s Q E st h => by
    obtain ⟨⟨_, he⟩, _⟩ := st
    exact wpAny_pyIter_enum he h
def iEnF (K : PySem.W.Frag) (k0 : Int) (ta : TA) : TI := fun σ H R => ta σ H fun vs H1 => ∃ a zs, vs = [.ref a, .int k0] ∧ SqL K H1 a zs ∧ R (ItF K k0 a) H1
theorem pi_enumF {X : Cx} {e e2 : Expr} {ta : TA} {p pos tpos : Pos} {elts : List Expr} {kk : Nat} {k0 : Int} (hk0 : -(2 ^ 63) ≤ k0) (hk1 : k0 < 2 ^ 63) (hg : Gl X "enumerate") (hm : X.mg "enumerate" = none) (ha : PA X [e, e2] ta)
    (hs : starEach [e, e2] X.env = (false, eval e X.env) :: starEach [e2] X.env := by rfl) (hp : (backTo pos (starEach [e2] X.env)).any (·.1) = false := by rfl) :
    PI X (.Tuple elts kk tpos) (.Call (.Name "enumerate" p) [e, e2] [] pos) (iEnF X.K k0 ta) := by
  refine ⟨fun pins s σ H R I h => ?_⟩
  refine Call_ (ld_blt I hg hm boot_enumerate (PyProof.Rows.callWith_type1 (thn (ha.run pos pins s σ H _ I h) fun us s1 ⟨vs, H1, I1, r1, q1⟩ => ?_) hs hp))
  obtain ⟨a, zs, ex, hq, q⟩ := q1
  subst ex
  cases r1 with
  | cons r rr =>
    cases rr with
    | cons r2 rr =>
      cases rr
      cases r
      obtain ⟨tk, rfl⟩ := r2
      obtain ⟨its, rv, p', hz⟩ := I1.list hq
      refine enum_begins (begins_list a its.toArray) p'.isList hk0 hk1 fun h' he hit hsz hk => wpAny_pyIter_enum he ?_
      have I2 : Inv X pins σ H1 { s1 with heap := h' } := I1.kept (t' := s1.toks) hk
      refine ⟨s1.heap.objs.size + 1, [s1.heap.objs.size + 1, s1.heap.objs.size], _, _, H1, rfl, I2, turn_enumF k0 a (s1.heap.objs.size + 1) s1.heap.objs.size, ⟨⟨.none, by simpa using he⟩, ⟨_, hit, rfl, rfl⟩, Nat.succ_ne_self _⟩, fun b hb => ?_, q⟩
      have e' : b = s1.heap.objs.size + 1 ∨ b = s1.heap.objs.size := by simpa using hb
      have hle : s1.heap.objs.size ≤ b := by
        rcases e' with z | z
        · exact z ▸ Nat.le_add_right _ _
        · exact z ▸ Nat.le_refl _
      exact I1.fpOk hle (I1.hok.fresh hle)
theorem Gv.enumF {K : PySem.W.Frag} {F0 : Hp} {k0 : Int} {a : Addr} {xs : List V} {ds : List D} (q : SqL K F0 a xs) (r : FrzL K F0 ds xs) : Gv K (ItF K k0 a) (enumD k0 ds) F0 := by
  have hl := r.length
  have hl2 := enumD_length (ds := ds) (k := k0)
  refine ⟨fun i F H hi s1 s2 => ?_, fun F H s1 s2 => ⟨xs, (s1.trans s2).sqL q, by omega⟩, fun i F H x H' hi s1 s2 y => ?_⟩
  · have hx : i < xs.length := by omega
    exact ⟨xs, xs[i], (s1.trans s2).sqL q, List.getElem?_eq_getElem hx⟩
  · obtain ⟨T, x1, rfl, hT, e, e2⟩ := y
    obtain ⟨d, e3, z⟩ := r.get' (e2 xs ((s1.trans s2).sqL q))
    refine ⟨_, enumD_get e3, .inr ⟨T, _, _, hT, e, rfl, .cons ?_ (.cons (z.mono s1) .nil), rfl⟩⟩
    unfold Frz
    rfl
end Dv
end
section
set_option Elab.async false
set_option linter.all false
set_option maxRecDepth 100000
set_option maxHeartbeats 2000000
namespace Dv
open PySem PySem.Spec PyProof.Rows L2 GxR
section
variable {X : Cx} {p : Par} {e e2 : Expr} {pos tpos : Pos} {elts : List Expr} {kk : Nat}
def enD (k0 : Int) : List D → Option (List D)
  | [x, .int k] => if k = k0 then (lstOf x).map (enumD k0) else none
  | _ => none
def enD1 : List D → Option (List D)
  | [x] => (lstOf x).map (enumD 0)
  | _ => none
def iVals (g : List D → Option (List D)) (fs : List (Env → Out T)) : Env → Out (List D) := fun ρ => (argsO fs ρ).bind fun ts ρ' => Out.of ((vals ts).bind g) ρ'
theorem Frz.lstOf {K : PySem.W.Frag} {F : Hp} {d : D} {v : V} {ds : List D} (h : Frz K F d v) (e : Dv.lstOf d = some ds) : ∃ a xs, v = .ref a ∧ SqL K F a xs ∧ FrzL K F ds xs := by
  cases d with
  | lst es =>
    cases e
    unfold Frz at h
    obtain ⟨a, xs, e1, q, r⟩ := h
    exact ⟨a, xs, e1, .of q, r⟩
  | scr ns =>
    cases e
    unfold Frz at h
    obtain ⟨a, e1, q⟩ := h
    exact ⟨a, _, e1, q, frzL_ints ns⟩
  | _ => cases e
theorem di_enumF {pp : Pos} {fs : List (Env → Out T)} {k0 : Int} (hk0 : -(2 ^ 63) ≤ k0) (hk1 : k0 < 2 ^ 63) (hg : Gl X "enumerate") (hm : X.mg "enumerate" = none) (ha : DA X p fs [e, e2])
    (hs : starEach [e, e2] X.env = (false, eval e X.env) :: starEach [e2] X.env := by rfl) (hp : (backTo pos (starEach [e2] X.env)).any (·.1) = false := by rfl) :
    DI X p (iVals (enD k0) fs) (.Tuple elts kk tpos) (.Call (.Name "enumerate" pp) [e, e2] [] pos) :=
  PI.weak (pi_enumF hk0 hk1 hg hm ha hs hp) fun σ H R ⟨ρ, F, fp, fr, anc, bb, A, s⟩ => by
    refine ⟨ρ, F, fp, fr, anc, bb, A, (Sat.bind s).mono (fun ts ρ1 s1 vs F1 H1 fp1 A1 fw1 r1 => ?_) fun c d ρ' q => q⟩
    obtain ⟨ds, e1, q⟩ := Sat.of s1
    obtain ⟨xs, e2, e1⟩ := Option.bind_eq_some_iff.mp e1
    have r2 := vals_rel r1 e2
    unfold enD at e1
    split at e1
    · split at e1
      · rename_i h
        subst h
        obtain ⟨zs, hz, rfl⟩ := Option.map_eq_some_iff.mp e1
        unfold FrzL at r2
        obtain ⟨v, r, rfl, hv, r2⟩ := r2
        unfold FrzL at r2
        obtain ⟨v2, r, rfl, hv2, r2⟩ := r2
        unfold FrzL at r2
        subst r2
        unfold Frz at hv2
        subst hv2
        obtain ⟨a, ys, rfl, hq, hr⟩ := hv.lstOf hz
        exact ⟨a, ys, rfl, A1.sub.sqL hq, q _ F1 H1 fp1 A1 fw1 (Gv.enumF hq hr)⟩
      · cases e1
    · cases e1
end
end Dv
end
section
set_option Elab.async false
set_option linter.all false
set_option maxRecDepth 100000
set_option maxHeartbeats 2000000
namespace Dv
open PySem PySem.Spec PyProof.Rows L2 GxR
/-! a tuple times one is the tuple itself -/
theorem tuple_mul_one (l : Addr) (items : Array Value) (n : Nat) (dd : Option Addr) (sl : Array (Option Value)) (u : Tok) :
    Meets (Builtin.«tuple.__mul__» ⟨[.ref l, .int 1 u], []⟩) (fun _ R s => s.heap.get? l = some { cls := .type "tuple", dict := dd, data := .seq items n, slots := sl } ∧ R (.ok (.ret (Value.ref l))) s) :=
  .of_wp fun prog w A R s h => by
    obtain ⟨hp, g, d, tk, os⟩ := s
    obtain ⟨hl, h⟩ := h
    have f1 := AutoSeq1.idx_int
    have c0 : (decide ((1 : Int) < -(2 ^ 63)) || decide ((1 : Int) ≥ 2 ^ 63)) = false := by decide
    have c1 : (items.isEmpty || (1 : Int) == 1) = true := by simp
    wp_walk using wpAny_loadPart' hl
    repeat (first
      | (refine wpAny_ite_false (decide_eq_false (by rw [c0]; exact Bool.false_ne_true)) ?_; wp_walk using wpAny_loadPart' hl)
      | (refine wpAny_ite_true (decide_eq_true (by rw [c1])) ?_; wp_walk using wpAny_loadPart' hl))
    exact ⟨_, rfl, h⟩
def rOneT (K : PySem.W.Frag) : R2 := fun x y H Q => ∃ l xs, x = .ref l ∧ y = .int 1 ∧ SqT K H l xs ∧ Q (.ref l) H
section
variable {X : Cx} {p : Par} {a b : Expr} {fa fb : Env → Out T} {pos : Pos}
theorem op_oneT : OpR X (binaryOp .Mult) (rOneT X.K) := by
  intro pins s σ H x y v u Q I rx ry h
  obtain ⟨l, xs, rfl, rfl, hT, q⟩ := h
  cases rx
  obtain ⟨t, rfl⟩ := ry
  obtain ⟨its, r, ⟨⟨cls, dd, data, sl⟩, ho, hc, n, hd⟩, hs⟩ := I.tuple hT
  simp only at hc hd
  subst hc hd
  exact wpAny_binaryOp_repeat_ref (T := "tuple") (U := "int") (by decide) ⟨_, ho, rfl⟩ (fun s' => typeIs_int s' 1 t) noFill_tuple_mul F.fills_int_mul F.slot_int_rmul repeat_tuple F.slot_int_index.lookup
    (call_meets F.slot_int_rmul (typeIs_int s 1 t) F.entry_int_rmul (F.args_int_rmul_2 _ _) (int_rmul_tuple 1 t l its.toArray n dd sl)
      ⟨ho, rfl, ⟨_, ho, rfl⟩, call_meets F.slot_tuple_mul ⟨_, ho, rfl⟩ F.entry_tuple_mul (F.args_tuple_mul_2 _ _) (tuple_mul_one l its.toArray n dd sl t) ⟨ho, ⟨.ref l, H, I, rfl, q⟩⟩⟩)
/-- all of *, a tuple times one too -/
def dMulT : D → D → Option D
  | .tup xs, .int k => if k = 1 then some (.tup xs) else dMulS (.tup xs) (.int k)
  | x, y => dMulS x y
theorem op_mulDT {r : R2} (hr : OpOk X p r dMulS) : OpOk X p (fun x y H Q => rOneT X.K x y H Q ∨ r x y H Q) dMulT := by
  intro anc fr ρ F fp σ H x y d v w Q A h1 h2 e k
  unfold dMulT at e
  split at e
  · split at e
    · rename_i xs j hz
      cases e
      subst hz
      have hf : Frz X.K F (.tup xs) v := h1
      obtain ⟨l, us, rfl, q1, r1, f1⟩ := RdF.tup A.sub h1 rfl
      simp only [RdF, Frz] at h2
      exact .inl ⟨l, us, rfl, h2, q1, k _ F H fp none A Fwd.refl ⟨rfl, hf⟩ (fun a q => nomatch q)⟩
    · exact .inr (hr anc fr ρ F fp σ H _ _ d v w Q A h1 h2 e k)
  · exact .inr (hr anc fr ρ F fp σ H x y d v w Q A h1 h2 e k)
theorem de_mulT (ha : DO X p fa a) (hb : DO X p fb b) : DE X p (eOp2 dMulT fa fb) (.BinOp a .Mult b pos) :=
  de_op2 (fun h1 h2 => pe_op (op_oneT.or (op_mulS.or (op_mulW.or (op_rep.or op_repT)))) h1 h2) ha hb (op_mulDT op_mulDS)
end
end Dv
end
section
set_option Elab.async false
set_option linter.all false
set_option maxRecDepth 100000
set_option maxHeartbeats 2000000
namespace Dv
open PySem PySem.Spec PyProof.Rows L2 GxR
def rMaxT (K : PySem.W.Frag) : List V → Hp → VK → Prop := fun vs H Q => ∃ (a : Addr) (n : Int) (ns : List Int), vs = [V.ref a] ∧ SqT K H a ((n :: ns).map V.int) ∧ Q (.int (PySem.W.maxOf n ns)) H
section
variable {X : Cx} {p : Par}
theorem cr_maxT (hc : X.calm = true) (hu : X.A.units + 64 < cLine) : CallR X (.builtin "max") (rMaxT X.K) := by
  intro pins s σ H vs us Q I r h
  obtain ⟨a, n, ns, rfl, hs, q⟩ := h
  obtain ⟨its, rv, hl, _⟩ := I.tuple hs
  rw [Vals.ref1 r]
  have hi := rv.ints
  refine PySem.W.max_tuple_datum (α := Int) (x := n) (xs := ns) (I.ok.hd hc) hl ?_ ?_ fun i v h' tk _ hv hk => ?_
  · exact PySem.W.HoldAll.of_ints hi
  · have e : PySem.W.Datum.depth Int = 0 := rfl
    rw [e]; omega
  · obtain ⟨t, rfl⟩ : ∃ t, v = .int (PySem.W.maxOf n ns) t := PySem.W.int_of_holds hv
    exact ⟨.int _, H, I.kept hk, ⟨_, rfl⟩, q⟩
def dMaxT : List D → Option D
  | [.tup ds] => match intsOf ds with
    | some (n :: ns) => some (.int (PySem.W.maxOf n ns))
    | _ => none
  | _ => none
theorem ok_maxT : CallOk X p (rMaxT X.K) dMaxT := by
  intro anc fr ρ F fp σ H ds d vs Q A r e k
  unfold dMaxT at e
  split at e
  · rename_i es
    split at e
    · rename_i n ns hn
      cases e
      obtain ⟨v, rfl, z⟩ := paired1 r
      obtain ⟨a, xs, rfl, q, f, _⟩ := RdF.tup A.sub z rfl
      exact ⟨a, n, ns, rfl, by rw [← f.ints hn]; exact q, fin_flat A k rfl⟩
    · cases e
  · cases e
end
end Dv
end
section
set_option Elab.async false
set_option linter.all false
set_option maxRecDepth 100000
set_option maxHeartbeats 0
namespace K60
open PySem PySem.Spec PyProof.Rows L2 GxR GxA Dv XcL
def top (i : Nat) : Stmt := PySem.Challenge.pw_sharewright_k60_whole_tastes_texts.main.body.getD i (.Pass ⟨0, 0, 0, 0⟩)
theorem hu64 {k : Nat} {A : Around} (h : Room k A) : A.units + 64 < cLine := h.units
theorem hK {j k : Nat} {A : Around} (h : Room k A) (e : j ≤ k := by omega) : Room j A := h.mono e
theorem hK1 {k : Nat} {A : Around} (h : Room (k + 1) A) : Room (k + 1) A := h
/-! ### _law_pool -/
abbrev s__law_pool : Stmt := top 23
abbrev N__law_pool : List Str := ["script", "salt", "cell"]
theorem sc__law_pool : FnScope N__law_pool ["script"] (defScope s__law_pool) := ⟨rfl, rfl, rfl, by decide +kernel, rfl, by decide +kernel, by decide +kernel⟩
def b__law_pool : Dv.Env → Dv.Flow := (sSeq (sSet 1 (eC (.int 7))) (sSeq (sFor (iV (eFrz (eSl (oN 0) none (some (oV (eC (.int 63))))))) (.name 2) (sSet 1 (eOp2 dMod (oV (eFrz (eCall dInt [(oV (eFrz (eOp2 dAdd (oV (eFrz (eOp2 dMulS (oN 1) (oV (eC (.int 31)))))) (oN 2))))]))) (oV (eC (.int 1000003)))))) (sRet (eLst [(oV (eFrz (eCall dList [(oN 0)]))), (oV (eC (.int 0))), (oV (eC (.int 0))), (oV (eC (.int 0))), (oV (eN 1))]))))
def G__law_pool : Dv.Env → Out D := gOf 1 2 [0] (b__law_pool)
theorem ok__law_pool {P : Program} {w : World} {K : PySem.W.Frag} {mg : Str → Option Value} {base : Heap} {tabs : List Addr} {f__law_pool : Addr} {fd__law_pool : FuncData} (d__law_pool : Df K mg "_law_pool" ["script"] s__law_pool f__law_pool fd__law_pool) (n_int : mg "int" = none) (n_list : mg "list" = none) : FnD P w K mg base tabs 2 f__law_pool fd__law_pool ["script"] [0] (G__law_pool) := by
  refine fn_okD d__law_pool.F sc__law_pool (by decide) fun cdv A outer s H E hcd hr => ?_
  exact (ds_cons (ds_set (i := 1) sc__law_pool.nd rfl (by first | exact Or.inl rfl | exact Or.inr rfl) (de_of dv_int)) (ds_cons (ds_for ownB rfl (di_seq (dv_of (de_sl (do_n (pv 0)) dp_none (dp_some (do_of dv_int))))) (dg_name sc__law_pool.nd rfl (by first | exact Or.inl rfl | exact Or.inr rfl)) (ds_one (ds_set (i := 1) sc__law_pool.nd rfl (by first | exact Or.inl rfl | exact Or.inr rfl) (de_of (dv_mod (do_of (dv_of (de_callTy (call_int1.or call_int_str) ok_int rfl n_int rfl (da_cons (do_of (dv_of (de_add (do_of (dv_of (de_mulS (do_n (pv 1)) (do_of dv_int)))) (do_n (pv 2))))) da_nil)))) (do_of dv_int)))))) (ds_one (ds_ret (de_lst (da_cons (do_of (dv_of (de_callTy call_list_of ok_list rfl n_list rfl (da_cons (do_n (pv 0)) da_nil)))) (da_cons (do_of dv_int) (da_cons (do_of dv_int) (da_cons (do_of dv_int) (da_cons (do_of (dv_n (pv 1))) da_nil))))))))))
/-! ### _law_spread -/
abbrev s__law_spread : Stmt := top 24
abbrev N__law_spread : List Str := ["cell", "blended", "summed", "k"]
theorem sc__law_spread : FnScope N__law_spread ["cell"] (defScope s__law_spread) := ⟨rfl, rfl, rfl, by decide +kernel, rfl, by decide +kernel, by decide +kernel⟩
def b__law_spread : Dv.Env → Dv.Flow := (sSeq (sSet 1 (eOp2 dMod (oV (eFrz (eCall dInt [(oN 0)]))) (oV (eC (.int 2147483647))))) (sSeq (sSet 2 (eC (.int 1))) (sSeq (sFor (iArgs rg1 [(oV (eC (.int 4)))]) (.name 3) (sSeq (sSet 1 (eOp2 dMod (oV (eFrz (eCall dInt [(oV (eFrz (eOp2 dAdd (oV (eFrz (eOp2 dAdd (oV (eFrz (eOp2 dMulS (oN 1) (oV (eC (.int 48271)))))) (oV (eC (.int 12345)))))) (oN 3))))]))) (oV (eC (.int 2147483647))))) (sSet 2 (eOp2 dAdd (oV (eFrz (eOp2 dMulS (oN 2) (oV (eC (.int 2147483647)))))) (oN 1))))) (sRet (eMv 2)))))
def G__law_spread : Dv.Env → Out D := gOf 1 3 [0] (b__law_spread)
theorem ok__law_spread {P : Program} {w : World} {K : PySem.W.Frag} {mg : Str → Option Value} {base : Heap} {tabs : List Addr} {f__law_spread : Addr} {fd__law_spread : FuncData} (d__law_spread : Df K mg "_law_spread" ["cell"] s__law_spread f__law_spread fd__law_spread) (n_int : mg "int" = none) (n_range : mg "range" = none) : FnD P w K mg base tabs 2 f__law_spread fd__law_spread ["cell"] [0] (G__law_spread) := by
  refine fn_okD d__law_spread.F sc__law_spread (by decide) fun cdv A outer s H E hcd hr => ?_
  exact (ds_cons (ds_set (i := 1) sc__law_spread.nd rfl (by first | exact Or.inl rfl | exact Or.inr rfl) (de_of (dv_mod (do_of (dv_of (de_callTy (call_int1.or call_int_str) ok_int rfl n_int rfl (da_cons (do_n (pv 0)) da_nil)))) (do_of dv_int)))) (ds_cons (ds_set (i := 2) sc__law_spread.nd rfl (by first | exact Or.inl rfl | exact Or.inr rfl) (de_of dv_int)) (ds_cons (ds_for ownB rfl (di_range1 rfl n_range (da_cons (do_of dv_int) da_nil)) (dg_name sc__law_spread.nd rfl (by first | exact Or.inl rfl | exact Or.inr rfl)) (ds_cons (ds_set (i := 1) sc__law_spread.nd rfl (by first | exact Or.inl rfl | exact Or.inr rfl) (de_of (dv_mod (do_of (dv_of (de_callTy (call_int1.or call_int_str) ok_int rfl n_int rfl (da_cons (do_of (dv_of (de_add (do_of (dv_of (de_add (do_of (dv_of (de_mulS (do_n (pv 1)) (do_of dv_int)))) (do_of dv_int)))) (do_n (pv 3))))) da_nil)))) (do_of dv_int)))) (ds_one (ds_set (i := 2) sc__law_spread.nd rfl (by first | exact Or.inl rfl | exact Or.inr rfl) (de_add (do_of (dv_of (de_mulS (do_n (pv 2)) (do_of dv_int)))) (do_n (pv 1))))))) (ds_one (ds_ret (de_mv (pv 2)))))))
/-! ### _law_draw -/
abbrev s__law_draw : Stmt := top 25
abbrev N__law_draw : List Str := ["pool", "many", "cell", "blended", "value"]
theorem sc__law_draw : FnScope N__law_draw ["pool", "many"] (defScope s__law_draw) := ⟨rfl, rfl, rfl, by decide +kernel, rfl, by decide +kernel, by decide +kernel⟩
def b__law_draw : Dv.Env → Dv.Flow := (sSeq (sIf (bAnd (bOp2 dLe (oV (eOp2 dIx (oN 0) (oV (eC (.int 2))))) (oV (eC (.int 0)))) (bOp2 dLt (oV (eOp2 dIx (oN 0) (oV (eC (.int 1))))) (oV (eFrz (eCall dLen [(oV (eOp2 dIx (oN 0) (oV (eC (.int 0)))))]))))) (sSeq (sSet 2 (eOp2 dIx (oV (eOp2 dIx (oN 0) (oV (eC (.int 0))))) (oV (eOp2 dIx (oN 0) (oV (eC (.int 1))))))) (sSeq (sSub 0 (oV (eC (.int 1))) (eFrz (eOp2 dAdd (oV (eOp2 dIx (oN 0) (oV (eC (.int 1))))) (oV (eC (.int 1)))))) (sSeq (sSub 0 (oV (eC (.int 2))) (eN 2)) (sIf (bOp2 dLt (oN 2) (oV (eC (.int 1000000000000000000)))) (sSub 0 (oV (eC (.int 2))) (eFrz (eFn (G__law_spread) [(oN 2)]))) sNext)))) sNext) (sSeq (sSub 0 (oV (eC (.int 3))) (eFrz (eOp2 dAdd (oV (eOp2 dIx (oN 0) (oV (eC (.int 3))))) (oV (eC (.int 1)))))) (sSeq (sIf (bOp2 dLe (oV (eOp2 dIx (oN 0) (oV (eC (.int 2))))) (oV (eC (.int 0)))) (sSeq (sSet 3 (eOp2 dMod (oV (eFrz (eCall dInt [(oV (eFrz (eOp2 dAdd (oV (eFrz (eOp2 dAdd (oV (eFrz (eOp2 dMulS (oV (eOp2 dIx (oN 0) (oV (eC (.int 4))))) (oV (eC (.int 48271)))))) (oV (eFrz (eOp2 dMulS (oV (eOp2 dIx (oN 0) (oV (eC (.int 3))))) (oV (eC (.int 69621))))))))) (oV (eC (.int 1))))))]))) (oV (eC (.int 2147483647))))) (sSeq (sSet 3 (eOp2 dMod (oV (eFrz (eCall dInt [(oV (eFrz (eOp2 dAdd (oV (eFrz (eOp2 dMulS (oN 3) (oV (eC (.int 16807)))))) (oV (eOp2 dIx (oN 0) (oV (eC (.int 3))))))))]))) (oV (eC (.int 2147483629))))) (sRet (eOp2 dMod (oV (eOp2 dFdiv (oN 3) (oV (eC (.int 5))))) (oN 1))))) sNext) (sSeq (sSet 4 (eOp2 dMod (oV (eFrz (eCall dInt [(oV (eOp2 dIx (oN 0) (oV (eC (.int 2)))))]))) (oN 1))) (sSeq (sSub 0 (oV (eC (.int 2))) (eOp2 dFdiv (oV (eOp2 dIx (oN 0) (oV (eC (.int 2))))) (oN 1))) (sRet (eMv 4)))))))
def G__law_draw : Dv.Env → Out D := gOf 2 3 [0, 1] (b__law_draw)
theorem ok__law_draw {P : Program} {w : World} {K : PySem.W.Frag} {mg : Str → Option Value} {base : Heap} {tabs : List Addr} {f__law_draw : Addr} {fd__law_draw : FuncData} {f__law_spread : Addr} {fd__law_spread : FuncData} (d__law_draw : Df K mg "_law_draw" ["pool", "many"] s__law_draw f__law_draw fd__law_draw) (n_int : mg "int" = none) (n_len : mg "len" = none) (d__law_spread : Df K mg "_law_spread" ["cell"] s__law_spread f__law_spread fd__law_spread) (o__law_spread : FnD P w K mg base tabs 2 f__law_spread fd__law_spread ["cell"] [0] (G__law_spread)) : FnD P w K mg base tabs 4 f__law_draw fd__law_draw ["pool", "many"] [0, 1] (G__law_draw) := by
  refine fn_okD d__law_draw.F sc__law_draw (by decide) fun cdv A outer s H E hcd hr => ?_
  exact (ds_cons (ds_if (dt_w (dw_and (dt_cmp cr_le (do_of (dv_ix (do_n (pv 0)) (do_of dv_int))) (do_of dv_int)) (dw_and1 (dt_cmp cr_lt (do_of (dv_ix (do_n (pv 0)) (do_of dv_int))) (do_of (dv_of (de_callB call_len ok_len rfl n_len boot_len (da_cons (do_of (dv_ix (do_n (pv 0)) (do_of dv_int))) da_nil)))))))) (ds_cons (ds_set (i := 2) sc__law_draw.nd rfl (by first | exact Or.inl rfl | exact Or.inr rfl) (de_of (dv_ix (do_of (dv_ix (do_n (pv 0)) (do_of dv_int))) (do_of (dv_ix (do_n (pv 0)) (do_of dv_int)))))) (ds_cons (ds_sub (pv 0) (do_of dv_int) (dv_of (de_add (do_of (dv_ix (do_n (pv 0)) (do_of dv_int))) (do_of dv_int)))) (ds_cons (ds_sub (pv 0) (do_of dv_int) (dv_n (pv 2))) (ds_one (ds_if (dt_cmp cr_lt (do_n (pv 2)) (do_of dv_int)) (ds_one (ds_sub (pv 0) (do_of dv_int) (dv_of (de_call o__law_spread (hK hr) rfl d__law_spread.m d__law_spread.F.kp d__law_spread.b (passW takesB) (da_cons (do_n (pv 2)) da_nil))))) ds_nil))))) ds_nil) (ds_cons (ds_sub (pv 0) (do_of dv_int) (dv_of (de_add (do_of (dv_ix (do_n (pv 0)) (do_of dv_int))) (do_of dv_int)))) (ds_cons (ds_if (dt_cmp cr_le (do_of (dv_ix (do_n (pv 0)) (do_of dv_int))) (do_of dv_int)) (ds_cons (ds_set (i := 3) sc__law_draw.nd rfl (by first | exact Or.inl rfl | exact Or.inr rfl) (de_of (dv_mod (do_of (dv_of (de_callTy (call_int1.or call_int_str) ok_int rfl n_int rfl (da_cons (do_of (dv_of (de_add (do_of (dv_of (de_add (do_of (dv_of (de_mulS (do_of (dv_ix (do_n (pv 0)) (do_of dv_int))) (do_of dv_int)))) (do_of (dv_of (de_mulS (do_of (dv_ix (do_n (pv 0)) (do_of dv_int))) (do_of dv_int))))))) (do_of dv_int)))) da_nil)))) (do_of dv_int)))) (ds_cons (ds_set (i := 3) sc__law_draw.nd rfl (by first | exact Or.inl rfl | exact Or.inr rfl) (de_of (dv_mod (do_of (dv_of (de_callTy (call_int1.or call_int_str) ok_int rfl n_int rfl (da_cons (do_of (dv_of (de_add (do_of (dv_of (de_mulS (do_n (pv 3)) (do_of dv_int)))) (do_of (dv_ix (do_n (pv 0)) (do_of dv_int)))))) da_nil)))) (do_of dv_int)))) (ds_one (ds_ret (de_of (dv_mod (do_of (dv_fdiv (do_n (pv 3)) (do_of dv_int))) (do_n (pv 1)))))))) ds_nil) (ds_cons (ds_set (i := 4) sc__law_draw.nd rfl (by first | exact Or.inl rfl | exact Or.inr rfl) (de_of (dv_mod (do_of (dv_of (de_callTy (call_int1.or call_int_str) ok_int rfl n_int rfl (da_cons (do_of (dv_ix (do_n (pv 0)) (do_of dv_int))) da_nil)))) (do_n (pv 1))))) (ds_cons (ds_sub (pv 0) (do_of dv_int) (dv_fdiv (do_of (dv_ix (do_n (pv 0)) (do_of dv_int))) (do_n (pv 1)))) (ds_one (ds_ret (de_mv (pv 4)))))))))
/-! ### _law_tastes -/
abbrev s__law_tastes : Stmt := top 29
abbrev N__law_tastes : List Str := ["pool", "people", "goods", "least", "most", "rows", "i", "row", "g"]
theorem sc__law_tastes : FnScope N__law_tastes ["pool", "people", "goods", "least", "most"] (defScope s__law_tastes) := ⟨rfl, rfl, rfl, by decide +kernel, rfl, by decide +kernel, by decide +kernel⟩
def b__law_tastes : Dv.Env → Dv.Flow := (sSeq (sSet 5 (eLst [])) (sSeq (sFor (iArgs rg1 [(oN 1)]) (.name 6) (sSeq (sSet 7 (eLc (iArgs rg1 [(oN 2)]) (.name 8) bYes (eFrz (eOp2 dAdd (oN 3) (oV (eFrz (eFn (G__law_draw) [(oN 0), (oN 4)]))))) [8])) (sDrop (eApp 5 (eFrz (eIf (bOp2 dGt (oV (eFrz (eCall dSum [(oN 7)]))) (oV (eC (.int 0)))) (eCall dTuple [(oN 7)]) (eOp2 dMulT (oV (eTup [(oV (eC (.int 1)))])) (oN 2)))))))) (sRet (eCall dTuple [(oN 5)]))))
def G__law_tastes : Dv.Env → Out D := gOf 5 4 [0, 1, 2, 3, 4] (b__law_tastes)
theorem ok__law_tastes {P : Program} {w : World} {K : PySem.W.Frag} {mg : Str → Option Value} {base : Heap} {tabs : List Addr} {f__law_tastes : Addr} {fd__law_tastes : FuncData} {f__law_draw : Addr} {fd__law_draw : FuncData} (d__law_tastes : Df K mg "_law_tastes" ["pool", "people", "goods", "least", "most"] s__law_tastes f__law_tastes fd__law_tastes) (n_range : mg "range" = none) (n_sum : mg "sum" = none) (n_tuple : mg "tuple" = none) (d__law_draw : Df K mg "_law_draw" ["pool", "many"] s__law_draw f__law_draw fd__law_draw) (o__law_draw : FnD P w K mg base tabs 4 f__law_draw fd__law_draw ["pool", "many"] [0, 1] (G__law_draw)) : FnD P w K mg base tabs 6 f__law_tastes fd__law_tastes ["pool", "people", "goods", "least", "most"] [0, 1, 2, 3, 4] (G__law_tastes) := by
  refine fn_okD d__law_tastes.F sc__law_tastes (by decide) fun cdv A outer s H E hcd hr => ?_
  exact (ds_cons (ds_set (i := 5) sc__law_tastes.nd rfl (by first | exact Or.inl rfl | exact Or.inr rfl) (de_lst da_nil)) (ds_cons (ds_for ownB rfl (di_range1 rfl n_range (da_cons (do_n (pv 1)) da_nil)) (dg_name sc__law_tastes.nd rfl (by first | exact Or.inl rfl | exact Or.inr rfl)) (ds_cons (ds_setLc (i := 7) (own := [(("g" : Str), 8)]) (t := (.name 8)) (g := (gName 8)) rfl sc__law_tastes.nd rfl rfl (sw_true rfl rfl rfl (by decide +kernel)) (di_range1 rfl n_range (da_cons (do_n (pv 2)) da_nil)) (blkOk_by (N := N__law_tastes) (sc := defScope s__law_tastes) (by decide +kernel)) (show ∀ i ∈ ([8] : List Nat), i ∉ ([0, 1, 2, 3, 4] : List Nat) by decide) (by decide) (tgr_name (show 8 ∉ ([0, 1, 2, 3, 4] : List Nat) by decide)) (fun _ _ _ _ _ => have hg1 := hr; (pg_name sc__law_tastes.nd rfl (by first | exact Or.inl rfl | exact Or.inr rfl))) (fun _ _ _ _ _ => have hg1 := hr; dts_nil) (fun _ _ _ _ _ => have hg1 := hr; (dv_of (de_add (do_n (pv 3)) (do_of (dv_of (de_call o__law_draw (hK hg1) rfl d__law_draw.m d__law_draw.F.kp d__law_draw.b passN (da_cons (do_n (pv 0)) (da_cons (do_n (pv 4)) da_nil))))))))) (ds_one (ds_drop (de_of (dv_app (pv 5) (dv_of (de_if (dt_cmp cr_gt (do_of (dv_of (de_callB (cr_sum rfl) ok_sum rfl n_sum rfl (da_cons (do_n (pv 7)) da_nil)))) (do_of dv_int)) (de_callTy call_tuple_of ok_tuple rfl n_tuple rfl (da_cons (do_n (pv 7)) da_nil)) (de_mulT (do_of (dv_tup (da_cons (do_of dv_int) da_nil))) (do_n (pv 2))))))))))) (ds_one (ds_ret (de_callTy call_tuple_of ok_tuple rfl n_tuple rfl (da_cons (do_n (pv 5)) da_nil))))))
/-! ### _law_tastes_text -/
abbrev s__law_tastes_text : Stmt := top 30
abbrev N__law_tastes_text : List Str := ["tastes", "a", "row"]
theorem sc__law_tastes_text : FnScope N__law_tastes_text ["tastes"] (defScope s__law_tastes_text) := ⟨rfl, rfl, rfl, by decide +kernel, rfl, by decide +kernel, by decide +kernel⟩
def b__law_tastes_text : Dv.Env → Dv.Flow := (sRet (eM1 dJoin (oV (eC (.str ("" : Str)))) (oV (eFrz (eLc (iV (eN 0)) (.name 2) bYes (eFrz (eOp2 dAdd (oV (eFrz (eM1 dJoin (oV (eC (.str (" " : Str)))) (oV (eFrz (eLc (iV (eN 2)) (.name 1) bYes (eFrz (eCall dStr [(oN 1)])) [1])))))) (oV (eC (.str ("\n" : Str)))))) [2])))))
def G__law_tastes_text : Dv.Env → Out D := gOf 1 2 [0] (b__law_tastes_text)
theorem ok__law_tastes_text {P : Program} {w : World} {K : PySem.W.Frag} {mg : Str → Option Value} {base : Heap} {tabs : List Addr} {f__law_tastes_text : Addr} {fd__law_tastes_text : FuncData} (d__law_tastes_text : Df K mg "_law_tastes_text" ["tastes"] s__law_tastes_text f__law_tastes_text fd__law_tastes_text) (n_str : mg "str" = none) : FnD P w K mg base tabs 2 f__law_tastes_text fd__law_tastes_text ["tastes"] [0] (G__law_tastes_text) := by
  refine fn_okD d__law_tastes_text.F sc__law_tastes_text (by decide) fun cdv A outer s H E hcd hr => ?_
  exact (ds_one (ds_ret (de_join (do_of dv_str) (do_of (dv_of (de_lc (own := [(("row" : Str), 2)]) (t := (.name 2)) (g := (gName 2)) rfl sc__law_tastes_text.nd (di_seq (dv_n (pv 0))) (blkOk_by (N := N__law_tastes_text) (sc := defScope s__law_tastes_text) (by decide +kernel)) (show ∀ i ∈ ([2] : List Nat), i ∉ ([0] : List Nat) by decide) (by decide) (tgr_name (show 2 ∉ ([0] : List Nat) by decide)) (fun _ _ _ _ _ => have hg1 := hr; (pg_name sc__law_tastes_text.nd rfl (by first | exact Or.inl rfl | exact Or.inr rfl))) (fun _ _ _ _ _ => have hg1 := hr; dts_nil) (fun _ _ _ _ _ => have hg1 := hr; (dv_of (de_add (do_of (dv_of (de_join (do_of dv_str) (do_of (dv_of (de_lc (own := [(("a" : Str), 1)]) (t := (.name 1)) (g := (gName 1)) rfl sc__law_tastes_text.nd (di_seq (dv_n (pv 2))) (blkOk_by (N := N__law_tastes_text) (sc := { kind := .function, names := [((".0" : Str), .local), (("row" : Str), .local)], isGenerator := false, isCoroutine := false }) (by decide +kernel)) (show ∀ i ∈ ([1] : List Nat), i ∉ ([0] : List Nat) by decide) (by decide) (tgr_name (show 1 ∉ ([0] : List Nat) by decide)) (fun _ _ _ _ _ => have hg2 := hg1; (pg_name sc__law_tastes_text.nd rfl (by first | exact Or.inl rfl | exact Or.inr rfl))) (fun _ _ _ _ _ => have hg2 := hg1; dts_nil) (fun _ _ _ _ _ => have hg2 := hg1; (dv_of (de_callTy call_str_int ok_str rfl n_str rfl (da_cons (do_n (pv 1)) da_nil)))))))))) (do_of dv_str))))))))))
/-! ### _law_same -/
abbrev s__law_same : Stmt := top 22
abbrev N__law_same : List Str := ["actual", "due", "k"]
theorem sc__law_same : FnScope N__law_same ["actual", "due"] (defScope s__law_same) := ⟨rfl, rfl, rfl, by decide +kernel, rfl, by decide +kernel, by decide +kernel⟩
def b__law_same (self : Dv.Env → Out D) : Dv.Env → Dv.Flow := (sSeq (sIf (bOr (bE (eIsi .tup (oN 1))) (bE (eIsi .lst (oN 1)))) (sSeq (sIf (bOr (bOp2 dNe (oV (eIsi .tup (oN 1))) (oV (eIsi .tup (oN 0)))) (bOp2 dNe (oV (eIsi .lst (oN 1))) (oV (eIsi .lst (oN 0))))) (sRet (eC (.bl false))) sNext) (sSeq (sIf (bOp2 dNe (oV (eFrz (eCall dLen [(oN 0)]))) (oV (eFrz (eCall dLen [(oN 1)])))) (sRet (eC (.bl false))) sNext) (sRet (eOp2 dEq (oV (eFrz (eCall dLen [(oV (eFrz (eLc (iArgs rg1 [(oV (eFrz (eCall dLen [(oN 1)])))]) (.name 2) (bNot (bE (eFrz (eFn self [(oV (eOp2 dIx (oN 0) (oN 2))), (oV (eOp2 dIx (oN 1) (oN 2)))])))) (eN 2) [2])))]))) (oV (eC (.int 0))))))) sNext) (sSeq (sIf (bOp2 dIsN (oN 1) (oV (eC .non))) (sRet (eOp2 dIsN (oN 0) (oV (eC .non)))) sNext) (sSeq (sIf (bOr (bE (eIsi .bl (oN 1))) (bE (eIsi .bl (oN 0)))) (sRet (eAnd (eIsi .bl (oN 1)) (eAnd (eIsi .bl (oN 0)) (eOp2 dEq (oN 0) (oN 1))))) sNext) (sSeq (sIf (bE (eIsi .int (oN 1))) (sRet (eAnd (eIsi .int (oN 0)) (eOp2 dEq (oN 0) (oN 1)))) sNext) (sRet (eAnd (eIsi .str (oN 0)) (eOp2 dEq (oN 0) (oN 1))))))))
def G__law_same : Nat → Dv.Env → Out D
  | 0 => fun _ => .bad
  | m + 1 => gOf 2 1 [0, 1] (b__law_same (G__law_same m))
theorem ok__law_same {P : Program} {w : World} {K : PySem.W.Frag} {mg : Str → Option Value} {base : Heap} {tabs : List Addr} {f__law_same : Addr} {fd__law_same : FuncData} (d__law_same : Df K mg "_law_same" ["actual", "due"] s__law_same f__law_same fd__law_same) (n_bool : mg "bool" = none) (n_int : mg "int" = none) (n_isinstance : mg "isinstance" = none) (n_len : mg "len" = none) (n_list : mg "list" = none) (n_range : mg "range" = none) (n_str : mg "str" = none) (n_tuple : mg "tuple" = none) : ∀ m : Nat, FnD P w K mg base tabs (2 + 2 * m) f__law_same fd__law_same ["actual", "due"] [0, 1] (G__law_same m)
  | 0 => ⟨fun _ _ _ _ h => h.1, fun _ _ _ _ _ _ _ _ _ _ _ _ _ h => by obtain ⟨_, _, _, _, _, _, h⟩ := h; exact h.elim⟩
  | m + 1 => by
    have ih := ok__law_same (P := P) (w := w) (K := K) (mg := mg) (base := base) (tabs := tabs)  d__law_same n_bool n_int n_isinstance n_len n_list n_range n_str n_tuple m
    refine (fn_okD (k := 2 + 2 * m + 1) d__law_same.F sc__law_same (by decide) fun cdv A outer s H E hcd hr => ?_).mono (by omega)
    exact (ds_cons (ds_if (dt_w (dw_or (dt_val (dv_isi rfl n_isinstance rfl n_tuple rfl (do_n (pv 1)))) (dw_or1 (dt_val (dv_isi rfl n_isinstance rfl n_list rfl (do_n (pv 1))))))) (ds_cons (ds_if (dt_w (dw_or (dt_cmp (cr_ne (hu64 hr)) (do_of (dv_isi rfl n_isinstance rfl n_tuple rfl (do_n (pv 1)))) (do_of (dv_isi rfl n_isinstance rfl n_tuple rfl (do_n (pv 0))))) (dw_or1 (dt_cmp (cr_ne (hu64 hr)) (do_of (dv_isi rfl n_isinstance rfl n_list rfl (do_n (pv 1)))) (do_of (dv_isi rfl n_isinstance rfl n_list rfl (do_n (pv 0)))))))) (ds_one (ds_ret (de_of dv_bl))) ds_nil) (ds_cons (ds_if (dt_cmp (cr_ne (hu64 hr)) (do_of (dv_of (de_callB call_len ok_len rfl n_len boot_len (da_cons (do_n (pv 0)) da_nil)))) (do_of (dv_of (de_callB call_len ok_len rfl n_len boot_len (da_cons (do_n (pv 1)) da_nil))))) (ds_one (ds_ret (de_of dv_bl))) ds_nil) (ds_one (ds_ret (de_of (dv_cmp (cr_eq (hu64 hr)) (do_of (dv_of (de_callB call_len ok_len rfl n_len boot_len (da_cons (do_of (dv_of (de_lc (own := [(("k" : Str), 2)]) (t := (.name 2)) (g := (gName 2)) rfl sc__law_same.nd (di_range1 rfl n_range (da_cons (do_of (dv_of (de_callB call_len ok_len rfl n_len boot_len (da_cons (do_n (pv 1)) da_nil)))) da_nil)) (blkOk_by (N := N__law_same) (sc := defScope s__law_same) (by decide +kernel)) (show ∀ i ∈ ([2] : List Nat), i ∉ ([0, 1] : List Nat) by decide) (by decide) (tgr_name (show 2 ∉ ([0, 1] : List Nat) by decide)) (fun _ _ _ _ _ => have hg1 := hr; (pg_name sc__law_same.nd rfl (by first | exact Or.inl rfl | exact Or.inr rfl))) (fun _ _ _ _ _ => have hg1 := hr; (dts_one (dt_not (dt_val (dv_of (de_call ih (hK hg1) rfl d__law_same.m d__law_same.F.kp d__law_same.b passN (da_cons (do_of (dv_ix (do_n (pv 0)) (do_n (pv 2)))) (da_cons (do_of (dv_ix (do_n (pv 1)) (do_n (pv 2)))) da_nil)))))))) (fun _ _ _ _ _ => have hg1 := hr; (dv_n (pv 2)))))) da_nil)))) (do_of dv_int))))))) ds_nil) (ds_cons (ds_if (dt_cmp cr_isN (do_n (pv 1)) (do_of dv_non)) (ds_one (ds_ret (de_of (dv_cmp cr_isN (do_n (pv 0)) (do_of dv_non))))) ds_nil) (ds_cons (ds_if (dt_w (dw_or (dt_val (dv_isi rfl n_isinstance rfl n_bool rfl (do_n (pv 1)))) (dw_or1 (dt_val (dv_isi rfl n_isinstance rfl n_bool rfl (do_n (pv 0))))))) (ds_one (ds_ret (de_of (dv_and (dv_isi rfl n_isinstance rfl n_bool rfl (do_n (pv 1))) (dv_and (dv_isi rfl n_isinstance rfl n_bool rfl (do_n (pv 0))) (dv_one (dv_cmp (cr_eq (hu64 hr)) (do_n (pv 0)) (do_n (pv 1))))))))) ds_nil) (ds_cons (ds_if (dt_val (dv_isi rfl n_isinstance rfl n_int rfl (do_n (pv 1)))) (ds_one (ds_ret (de_of (dv_and (dv_isi rfl n_isinstance rfl n_int rfl (do_n (pv 0))) (dv_one (dv_cmp (cr_eq (hu64 hr)) (do_n (pv 0)) (do_n (pv 1)))))))) ds_nil) (ds_one (ds_ret (de_of (dv_and (dv_isi rfl n_isinstance rfl n_str rfl (do_n (pv 0))) (dv_one (dv_cmp (cr_eq (hu64 hr)) (do_n (pv 0)) (do_n (pv 1))))))))))))
/-! ### _law_pick -/
abbrev s__law_pick : Stmt := top 26
abbrev N__law_pick : List Str := ["pool", "items"]
theorem sc__law_pick : FnScope N__law_pick ["pool", "items"] (defScope s__law_pick) := ⟨rfl, rfl, rfl, by decide +kernel, rfl, by decide +kernel, by decide +kernel⟩
def b__law_pick : Dv.Env → Dv.Flow := (sRet (eOp2 dIx (oN 1) (oV (eFrz (eFn (G__law_draw) [(oN 0), (oV (eFrz (eCall dLen [(oN 1)])))])))))
def G__law_pick : Dv.Env → Out D := gOf 2 0 [0, 1] (b__law_pick)
theorem ok__law_pick {P : Program} {w : World} {K : PySem.W.Frag} {mg : Str → Option Value} {base : Heap} {tabs : List Addr} {f__law_pick : Addr} {fd__law_pick : FuncData} {f__law_draw : Addr} {fd__law_draw : FuncData} (d__law_pick : Df K mg "_law_pick" ["pool", "items"] s__law_pick f__law_pick fd__law_pick) (n_len : mg "len" = none) (d__law_draw : Df K mg "_law_draw" ["pool", "many"] s__law_draw f__law_draw fd__law_draw) (o__law_draw : FnD P w K mg base tabs 4 f__law_draw fd__law_draw ["pool", "many"] [0, 1] (G__law_draw)) : FnD P w K mg base tabs 6 f__law_pick fd__law_pick ["pool", "items"] [0, 1] (G__law_pick) := by
  refine fn_okD d__law_pick.F sc__law_pick (by decide) fun cdv A outer s H E hcd hr => ?_
  exact (ds_one (ds_ret (de_of (dv_ix (do_n (pv 1)) (do_of (dv_of (de_call o__law_draw (hK hr) rfl d__law_draw.m d__law_draw.F.kp d__law_draw.b (passW takesB) (da_cons (do_n (pv 0)) (da_cons (do_of (dv_of (de_callB call_len ok_len rfl n_len boot_len (da_cons (do_n (pv 1)) da_nil)))) da_nil)))))))))
/-! ### _law_bent_text -/
abbrev s__law_bent_text : Stmt := top 27
abbrev N__law_bent_text : List Str := ["pool", "text", "signs", "at", "sign", "turn", "lines", "k"]
theorem sc__law_bent_text : FnScope N__law_bent_text ["pool", "text", "signs"] (defScope s__law_bent_text) := ⟨rfl, rfl, rfl, by decide +kernel, rfl, by decide +kernel, by decide +kernel⟩
def b__law_bent_text : Dv.Env → Dv.Flow := (sSeq (sSet 3 (eFn (G__law_draw) [(oN 0), (oV (eFrz (eOp2 dAdd (oV (eFrz (eCall dLen [(oN 1)]))) (oV (eC (.int 1))))))])) (sSeq (sSet 4 (eFn (G__law_pick) [(oN 0), (oN 2)])) (sSeq (sSet 5 (eFn (G__law_draw) [(oN 0), (oV (eC (.int 4)))])) (sSeq (sIf (bOp2 dEq (oN 5) (oV (eC (.int 0)))) (sRet (eOp2 dAdd (oV (eFrz (eOp2 dAdd (oV (eFrz (eSl (oN 1) none (some (oN 3))))) (oN 4)))) (oV (eFrz (eSl (oN 1) (some (oV (eFrz (eOp2 dAdd (oN 3) (oV (eC (.int 1))))))) none))))) sNext) (sSeq (sIf (bOp2 dEq (oN 5) (oV (eC (.int 1)))) (sRet (eOp2 dAdd (oV (eFrz (eSl (oN 1) none (some (oN 3))))) (oV (eFrz (eSl (oN 1) (some (oV (eFrz (eOp2 dAdd (oN 3) (oV (eC (.int 1))))))) none))))) sNext) (sSeq (sIf (bOp2 dEq (oN 5) (oV (eC (.int 2)))) (sRet (eOp2 dAdd (oV (eFrz (eOp2 dAdd (oV (eFrz (eSl (oN 1) none (some (oN 3))))) (oN 4)))) (oV (eFrz (eSl (oN 1) (some (oN 3)) none))))) sNext) (sSeq (sSet 6 (eM1 dSplit (oN 1) (oV (eC (.str ("\n" : Str)))))) (sSeq (sSet 7 (eFn (G__law_draw) [(oN 0), (oV (eFrz (eCall dLen [(oN 6)])))])) (sSeq (sSet 6 (eIf (bOp2 dEq (oV (eFrz (eFn (G__law_draw) [(oN 0), (oV (eC (.int 2)))]))) (oV (eC (.int 0)))) (eOp2 dAdd (oV (eFrz (eSl (oN 6) none (some (oN 7))))) (oV (eFrz (eSl (oN 6) (some (oV (eFrz (eOp2 dAdd (oN 7) (oV (eC (.int 1))))))) none)))) (eOp2 dAdd (oV (eFrz (eOp2 dAdd (oV (eFrz (eSl (oN 6) none (some (oN 7))))) (oV (eFrz (eLst [(oV (eOp2 dIx (oN 6) (oN 7)))])))))) (oV (eFrz (eSl (oN 6) (some (oN 7)) none)))))) (sRet (eM1 dJoin (oV (eC (.str ("\n" : Str)))) (oN 6))))))))))))
def G__law_bent_text : Dv.Env → Out D := gOf 3 5 [0, 1, 2] (b__law_bent_text)
theorem ok__law_bent_text {P : Program} {w : World} {K : PySem.W.Frag} {mg : Str → Option Value} {base : Heap} {tabs : List Addr} {f__law_bent_text : Addr} {fd__law_bent_text : FuncData} {f__law_draw : Addr} {fd__law_draw : FuncData} {f__law_pick : Addr} {fd__law_pick : FuncData} (d__law_bent_text : Df K mg "_law_bent_text" ["pool", "text", "signs"] s__law_bent_text f__law_bent_text fd__law_bent_text) (n_len : mg "len" = none) (d__law_draw : Df K mg "_law_draw" ["pool", "many"] s__law_draw f__law_draw fd__law_draw) (o__law_draw : FnD P w K mg base tabs 4 f__law_draw fd__law_draw ["pool", "many"] [0, 1] (G__law_draw)) (d__law_pick : Df K mg "_law_pick" ["pool", "items"] s__law_pick f__law_pick fd__law_pick) (o__law_pick : FnD P w K mg base tabs 6 f__law_pick fd__law_pick ["pool", "items"] [0, 1] (G__law_pick)) : FnD P w K mg base tabs 8 f__law_bent_text fd__law_bent_text ["pool", "text", "signs"] [0, 1, 2] (G__law_bent_text) := by
  refine fn_okD d__law_bent_text.F sc__law_bent_text (by decide) fun cdv A outer s H E hcd hr => ?_
  exact (ds_cons (ds_set (i := 3) sc__law_bent_text.nd rfl (by first | exact Or.inl rfl | exact Or.inr rfl) (de_call o__law_draw (hK hr) rfl d__law_draw.m d__law_draw.F.kp d__law_draw.b (passW takesB) (da_cons (do_n (pv 0)) (da_cons (do_of (dv_of (de_add (do_of (dv_of (de_callB call_len ok_len rfl n_len boot_len (da_cons (do_n (pv 1)) da_nil)))) (do_of dv_int)))) da_nil)))) (ds_cons (ds_set (i := 4) sc__law_bent_text.nd rfl (by first | exact Or.inl rfl | exact Or.inr rfl) (de_call o__law_pick (hK hr) rfl d__law_pick.m d__law_pick.F.kp d__law_pick.b (passW takesB) (da_cons (do_n (pv 0)) (da_cons (do_n (pv 2)) da_nil)))) (ds_cons (ds_set (i := 5) sc__law_bent_text.nd rfl (by first | exact Or.inl rfl | exact Or.inr rfl) (de_call o__law_draw (hK hr) rfl d__law_draw.m d__law_draw.F.kp d__law_draw.b (passW takesB) (da_cons (do_n (pv 0)) (da_cons (do_of dv_int) da_nil)))) (ds_cons (ds_if (dt_cmp (cr_eq (hu64 hr)) (do_n (pv 5)) (do_of dv_int)) (ds_one (ds_ret (de_add (do_of (dv_of (de_add (do_of (dv_of (de_sl (do_n (pv 1)) dp_none (dp_some (do_n (pv 3)))))) (do_n (pv 4))))) (do_of (dv_of (de_sl (do_n (pv 1)) (dp_some (do_of (dv_of (de_add (do_n (pv 3)) (do_of dv_int))))) dp_none)))))) ds_nil) (ds_cons (ds_if (dt_cmp (cr_eq (hu64 hr)) (do_n (pv 5)) (do_of dv_int)) (ds_one (ds_ret (de_add (do_of (dv_of (de_sl (do_n (pv 1)) dp_none (dp_some (do_n (pv 3)))))) (do_of (dv_of (de_sl (do_n (pv 1)) (dp_some (do_of (dv_of (de_add (do_n (pv 3)) (do_of dv_int))))) dp_none)))))) ds_nil) (ds_cons (ds_if (dt_cmp (cr_eq (hu64 hr)) (do_n (pv 5)) (do_of dv_int)) (ds_one (ds_ret (de_add (do_of (dv_of (de_add (do_of (dv_of (de_sl (do_n (pv 1)) dp_none (dp_some (do_n (pv 3)))))) (do_n (pv 4))))) (do_of (dv_of (de_sl (do_n (pv 1)) (dp_some (do_n (pv 3))) dp_none)))))) ds_nil) (ds_cons (ds_set (i := 6) sc__law_bent_text.nd rfl (by first | exact Or.inl rfl | exact Or.inr rfl) (de_split (do_n (pv 1)) (do_of dv_str))) (ds_cons (ds_set (i := 7) sc__law_bent_text.nd rfl (by first | exact Or.inl rfl | exact Or.inr rfl) (de_call o__law_draw (hK hr) rfl d__law_draw.m d__law_draw.F.kp d__law_draw.b (passW takesB) (da_cons (do_n (pv 0)) (da_cons (do_of (dv_of (de_callB call_len ok_len rfl n_len boot_len (da_cons (do_n (pv 6)) da_nil)))) da_nil)))) (ds_cons (ds_set (i := 6) sc__law_bent_text.nd rfl (by first | exact Or.inl rfl | exact Or.inr rfl) (de_if (dt_cmp (cr_eq (hu64 hr)) (do_of (dv_of (de_call o__law_draw (hK hr) rfl d__law_draw.m d__law_draw.F.kp d__law_draw.b (passW takesB) (da_cons (do_n (pv 0)) (da_cons (do_of dv_int) da_nil))))) (do_of dv_int)) (de_add (do_of (dv_of (de_sl (do_n (pv 6)) dp_none (dp_some (do_n (pv 7)))))) (do_of (dv_of (de_sl (do_n (pv 6)) (dp_some (do_of (dv_of (de_add (do_n (pv 7)) (do_of dv_int))))) dp_none)))) (de_add (do_of (dv_of (de_add (do_of (dv_of (de_sl (do_n (pv 6)) dp_none (dp_some (do_n (pv 7)))))) (do_of (dv_of (de_lst (da_cons (do_of (dv_ix (do_n (pv 6)) (do_n (pv 7)))) da_nil))))))) (do_of (dv_of (de_sl (do_n (pv 6)) (dp_some (do_n (pv 7))) dp_none)))))) (ds_one (ds_ret (de_join (do_of dv_str) (do_n (pv 6))))))))))))))
/-! ### write_tastes -/
abbrev s_write_tastes : Stmt := top 17
abbrev N_write_tastes : List Str := ["tastes", "number", "row"]
theorem sc_write_tastes : FnScope N_write_tastes ["tastes"] (defScope s_write_tastes) := ⟨rfl, rfl, rfl, by decide +kernel, rfl, by decide +kernel, by decide +kernel⟩
def b_write_tastes : Dv.Env → Dv.Flow := (sRet (eM1 dJoin (oV (eC (.str ("" : Str)))) (oV (eFrz (eLc (iV (eN 0)) (.name 2) bYes (eFrz (eOp2 dAdd (oV (eFrz (eM1 dJoin (oV (eC (.str (" " : Str)))) (oV (eFrz (eLc (iV (eN 2)) (.name 1) bYes (eFrz (eCall dStr [(oN 1)])) [1])))))) (oV (eC (.str ("\n" : Str)))))) [2])))))
def G_write_tastes : Dv.Env → Out D := gOf 1 2 [0] (b_write_tastes)
theorem ok_write_tastes {P : Program} {w : World} {K : PySem.W.Frag} {mg : Str → Option Value} {base : Heap} {tabs : List Addr} {f_write_tastes : Addr} {fd_write_tastes : FuncData} (d_write_tastes : Df K mg "write_tastes" ["tastes"] s_write_tastes f_write_tastes fd_write_tastes) (n_str : mg "str" = none) : FnD P w K mg base tabs 2 f_write_tastes fd_write_tastes ["tastes"] [0] (G_write_tastes) := by
  refine fn_okD d_write_tastes.F sc_write_tastes (by decide) fun cdv A outer s H E hcd hr => ?_
  exact (ds_one (ds_ret (de_join (do_of dv_str) (do_of (dv_of (de_lc (own := [(("row" : Str), 2)]) (t := (.name 2)) (g := (gName 2)) rfl sc_write_tastes.nd (di_seq (dv_n (pv 0))) (blkOk_by (N := N_write_tastes) (sc := defScope s_write_tastes) (by decide +kernel)) (show ∀ i ∈ ([2] : List Nat), i ∉ ([0] : List Nat) by decide) (by decide) (tgr_name (show 2 ∉ ([0] : List Nat) by decide)) (fun _ _ _ _ _ => have hg1 := hr; (pg_name sc_write_tastes.nd rfl (by first | exact Or.inl rfl | exact Or.inr rfl))) (fun _ _ _ _ _ => have hg1 := hr; dts_nil) (fun _ _ _ _ _ => have hg1 := hr; (dv_of (de_add (do_of (dv_of (de_join (do_of dv_str) (do_of (dv_of (de_lc (own := [(("number" : Str), 1)]) (t := (.name 1)) (g := (gName 1)) rfl sc_write_tastes.nd (di_seq (dv_n (pv 2))) (blkOk_by (N := N_write_tastes) (sc := { kind := .function, names := [((".0" : Str), .local), (("row" : Str), .local)], isGenerator := false, isCoroutine := false }) (by decide +kernel)) (show ∀ i ∈ ([1] : List Nat), i ∉ ([0] : List Nat) by decide) (by decide) (tgr_name (show 1 ∉ ([0] : List Nat) by decide)) (fun _ _ _ _ _ => have hg2 := hg1; (pg_name sc_write_tastes.nd rfl (by first | exact Or.inl rfl | exact Or.inr rfl))) (fun _ _ _ _ _ => have hg2 := hg1; dts_nil) (fun _ _ _ _ _ => have hg2 := hg1; (dv_of (de_callTy call_str_int ok_str rfl n_str rfl (da_cons (do_n (pv 1)) da_nil)))))))))) (do_of dv_str))))))))))
/-! ### is_numeral -/
abbrev s_is_numeral : Stmt := top 5
abbrev N_is_numeral : List Str := ["text", "digits", "plain", "sign"]
theorem sc_is_numeral : FnScope N_is_numeral ["text", "digits"] (defScope s_is_numeral) := ⟨rfl, rfl, rfl, by decide +kernel, rfl, by decide +kernel, by decide +kernel⟩
def b_is_numeral : Dv.Env → Dv.Flow := (sSeq (sSet 2 (eIf (bE (eFrz (eM1 dStarts (oN 0) (oV (eC (.str ("-" : Str))))))) (eSl (oN 0) (some (oV (eC (.int 1)))) none) (eN 0))) (sSeq (sIf (bOr (bNot (bE (eChain dLe dLe (oV (eC (.int 1))) (oV (eFrz (eCall dLen [(oN 2)]))) (oN 1)))) (bNot (bE (eGenB false (iV (eN 2)) (.name 3) bYes (eChain dLe dLe (oV (eC (.str ("0" : Str)))) (oN 3) (oV (eC (.str ("9" : Str))))) [3])))) (sRet (eC (.bl false))) sNext) (sSeq (sIf (bOp2 dEq (oN 2) (oV (eC (.str ("0" : Str))))) (sRet (eOp2 dEq (oN 0) (oV (eC (.str ("0" : Str)))))) sNext) (sRet (eOp2 dNe (oV (eOp2 dIx (oN 2) (oV (eC (.int 0))))) (oV (eC (.str ("0" : Str)))))))))
def G_is_numeral : Dv.Env → Out D := gOf 2 2 [0, 1] (b_is_numeral)
theorem ok_is_numeral {P : Program} {w : World} {K : PySem.W.Frag} {mg : Str → Option Value} {base : Heap} {tabs : List Addr} {f_is_numeral : Addr} {fd_is_numeral : FuncData} {c_is_numeral P_is_numeral : Addr} (d_is_numeral : Df K mg "is_numeral" ["text", "digits"] s_is_numeral f_is_numeral fd_is_numeral) (t_is_numeral : Tb base mg tabs fd_is_numeral c_is_numeral P_is_numeral) (n_all : mg "all" = none) (n_len : mg "len" = none) : FnD P w K mg base tabs 2 f_is_numeral fd_is_numeral ["text", "digits"] [0, 1] (G_is_numeral) := by
  refine fn_okD d_is_numeral.F sc_is_numeral (by decide) fun cdv A outer s H E hcd hr => ?_
  exact (ds_cons (ds_set (i := 2) sc_is_numeral.nd rfl (by first | exact Or.inl rfl | exact Or.inr rfl) (de_if (dt_val (dv_of (de_starts (do_n (pv 0)) (do_of dv_str)))) (de_sl (do_n (pv 0)) (dp_some (do_of dv_int)) dp_none) (de_of (dv_n (pv 0))))) (ds_cons (ds_if (dt_w (dw_or (dt_not (dt_chain cr_le cr_le (do_of dv_int) (do_of (dv_of (de_callB call_len ok_len rfl n_len boot_len (da_cons (do_n (pv 2)) da_nil)))) (do_n (pv 1)))) (dw_or1 (dt_not (dt_val (dv_all (own := [(("sign" : Str), 3)]) (t := (.name 3)) (g := (gName 3)) (hK1 hr) rfl n_all t_is_numeral.T t_is_numeral.P (hcd.symm.trans t_is_numeral.code) sc_is_numeral.nd (blkOk_by (N := N_is_numeral) (sc := defScope s_is_numeral) (by decide +kernel)) (by decide) rfl rfl (di_seq (dv_n (pv 2))) (show ∀ i ∈ ([3] : List Nat), i ∉ ([0, 1] : List Nat) by decide) (by decide) (tgr_name (show 3 ∉ ([0, 1] : List Nat) by decide)) (fun _ _ _ _ _ _ _ hg1 => (pg_name sc_is_numeral.nd rfl (by first | exact Or.inl rfl | exact Or.inr rfl))) (fun _ _ _ _ _ _ _ hg1 => dts_nil) (fun _ _ _ _ _ _ _ hg1 => (dv_chain cr_le cr_le (do_of dv_str) (do_n (pv 3)) (do_of dv_str))))))))) (ds_one (ds_ret (de_of dv_bl))) ds_nil) (ds_cons (ds_if (dt_cmp (cr_eq (hu64 hr)) (do_n (pv 2)) (do_of dv_str)) (ds_one (ds_ret (de_of (dv_cmp (cr_eq (hu64 hr)) (do_n (pv 0)) (do_of dv_str))))) ds_nil) (ds_one (ds_ret (de_of (dv_cmp (cr_ne (hu64 hr)) (do_of (dv_ix (do_n (pv 2)) (do_of dv_int))) (do_of dv_str))))))))
/-! ### is_number -/
abbrev s_is_number : Stmt := top 18
abbrev N_is_number : List Str := ["word"]
theorem sc_is_number : FnScope N_is_number ["word"] (defScope s_is_number) := ⟨rfl, rfl, rfl, by decide +kernel, rfl, by decide +kernel, by decide +kernel⟩
def b_is_number : Dv.Env → Dv.Flow := (sRet (eAnd (eFrz (eFn (G_is_numeral) [(oN 0), (oV (eC (.int 4)))])) (eNot (eFrz (eM1 dStarts (oN 0) (oV (eC (.str ("-" : Str)))))))))
def G_is_number : Dv.Env → Out D := gOf 1 0 [0] (b_is_number)
theorem ok_is_number {P : Program} {w : World} {K : PySem.W.Frag} {mg : Str → Option Value} {base : Heap} {tabs : List Addr} {f_is_number : Addr} {fd_is_number : FuncData} {f_is_numeral : Addr} {fd_is_numeral : FuncData} (d_is_number : Df K mg "is_number" ["word"] s_is_number f_is_number fd_is_number) (g_DIGITS : ∃ t, mg "DIGITS" = some (.int 4 t)) (d_is_numeral : Df K mg "is_numeral" ["text", "digits"] s_is_numeral f_is_numeral fd_is_numeral) (o_is_numeral : FnD P w K mg base tabs 2 f_is_numeral fd_is_numeral ["text", "digits"] [0, 1] (G_is_numeral)) : FnD P w K mg base tabs 4 f_is_number fd_is_number ["word"] [0] (G_is_number) := by
  refine fn_okD d_is_number.F sc_is_number (by decide) fun cdv A outer s H E hcd hr => ?_
  exact (ds_one (ds_ret (de_of (dv_and (dv_of (de_call o_is_numeral (hK hr) rfl d_is_numeral.m d_is_numeral.F.kp d_is_numeral.b (passW takesB) (da_cons (do_n (pv 0)) (da_cons (do_of (dv_gint rfl g_DIGITS)) da_nil)))) (dv_one (dv_not (dv_of (de_starts (do_n (pv 0)) (do_of dv_str)))))))))
/-! ### row_told -/
abbrev s_row_told : Stmt := top 19
abbrev N_row_told : List Str := ["line", "words", "word"]
theorem sc_row_told : FnScope N_row_told ["line"] (defScope s_row_told) := ⟨rfl, rfl, rfl, by decide +kernel, rfl, by decide +kernel, by decide +kernel⟩
def b_row_told : Dv.Env → Dv.Flow := (sSeq (sSet 1 (eM1 dSplit (oN 0) (oV (eC (.str (" " : Str)))))) (sRet (eIf (bE (eGenB false (iV (eN 1)) (.name 2) bYes (eFrz (eFn (G_is_number) [(oN 2)])) [2])) (eGenT (iV (eN 1)) (.name 2) bYes (eFrz (eCall dInt [(oN 2)])) [2]) (eC .non))))
def G_row_told : Dv.Env → Out D := gOf 1 2 [0] (b_row_told)
theorem ok_row_told {P : Program} {w : World} {K : PySem.W.Frag} {mg : Str → Option Value} {base : Heap} {tabs : List Addr} {f_row_told : Addr} {fd_row_told : FuncData} {f_is_number : Addr} {fd_is_number : FuncData} {c_row_told P_row_told : Addr} (d_row_told : Df K mg "row_told" ["line"] s_row_told f_row_told fd_row_told) (t_row_told : Tb base mg tabs fd_row_told c_row_told P_row_told) (n_all : mg "all" = none) (n_int : mg "int" = none) (n_tuple : mg "tuple" = none) (d_is_number : Df K mg "is_number" ["word"] s_is_number f_is_number fd_is_number) (o_is_number : FnD P w K mg base tabs 4 f_is_number fd_is_number ["word"] [0] (G_is_number)) : FnD P w K mg base tabs 6 f_row_told fd_row_told ["line"] [0] (G_row_told) := by
  refine fn_okD d_row_told.F sc_row_told (by decide) fun cdv A outer s H E hcd hr => ?_
  exact (ds_cons (ds_set (i := 1) sc_row_told.nd rfl (by first | exact Or.inl rfl | exact Or.inr rfl) (de_split (do_n (pv 0)) (do_of dv_str))) (ds_one (ds_ret (de_of (dv_if (dt_val (dv_all (own := [(("word" : Str), 2)]) (t := (.name 2)) (g := (gName 2)) (hK1 hr) rfl n_all t_row_told.T t_row_told.P (hcd.symm.trans t_row_told.code) sc_row_told.nd (blkOk_by (N := N_row_told) (sc := defScope s_row_told) (by decide +kernel)) (by decide) rfl rfl (di_seq (dv_n (pv 1))) (show ∀ i ∈ ([2] : List Nat), i ∉ ([0] : List Nat) by decide) (by decide) (tgr_name (show 2 ∉ ([0] : List Nat) by decide)) (fun _ _ _ _ _ _ _ hg1 => (pg_name sc_row_told.nd rfl (by first | exact Or.inl rfl | exact Or.inr rfl))) (fun _ _ _ _ _ _ _ hg1 => dts_nil) (fun _ _ _ _ _ _ _ hg1 => (dv_of (de_call o_is_number (hK hg1) rfl d_is_number.m d_is_number.F.kp d_is_number.b passN (da_cons (do_n (pv 2)) da_nil)))))) (dv_tupG (own := [(("word" : Str), 2)]) (t := (.name 2)) (g := (gName 2)) (hK1 hr) rfl n_tuple t_row_told.T t_row_told.P (hcd.symm.trans t_row_told.code) sc_row_told.nd (blkOk_by (N := N_row_told) (sc := defScope s_row_told) (by decide +kernel)) (by decide) rfl rfl (di_seq (dv_n (pv 1))) (show ∀ i ∈ ([2] : List Nat), i ∉ ([0] : List Nat) by decide) (by decide) (tgr_name (show 2 ∉ ([0] : List Nat) by decide)) (fun _ _ _ _ _ _ _ hg1 => (pg_name sc_row_told.nd rfl (by first | exact Or.inl rfl | exact Or.inr rfl))) (fun _ _ _ _ _ _ _ hg1 => dts_nil) (fun _ _ _ _ _ _ _ hg1 => (dv_of (de_callTy (call_int1.or call_int_str) ok_int rfl n_int rfl (da_cons (do_n (pv 2)) da_nil))))) dv_non)))))
/-! ### is_integer -/
abbrev s_is_integer : Stmt := top 7
abbrev N_is_integer : List Str := ["value"]
theorem sc_is_integer : FnScope N_is_integer ["value"] (defScope s_is_integer) := ⟨rfl, rfl, rfl, by decide +kernel, rfl, by decide +kernel, by decide +kernel⟩
def b_is_integer : Dv.Env → Dv.Flow := (sRet (eAnd (eIsi .int (oN 0)) (eNot (eIsi .bl (oN 0)))))
def G_is_integer : Dv.Env → Out D := gOf 1 0 [0] (b_is_integer)
theorem ok_is_integer {P : Program} {w : World} {K : PySem.W.Frag} {mg : Str → Option Value} {base : Heap} {tabs : List Addr} {f_is_integer : Addr} {fd_is_integer : FuncData} (d_is_integer : Df K mg "is_integer" ["value"] s_is_integer f_is_integer fd_is_integer) (n_bool : mg "bool" = none) (n_int : mg "int" = none) (n_isinstance : mg "isinstance" = none) : FnD P w K mg base tabs 2 f_is_integer fd_is_integer ["value"] [0] (G_is_integer) := by
  refine fn_okD d_is_integer.F sc_is_integer (by decide) fun cdv A outer s H E hcd hr => ?_
  exact (ds_one (ds_ret (de_of (dv_and (dv_isi rfl n_isinstance rfl n_int rfl (do_n (pv 0))) (dv_one (dv_not (dv_isi rfl n_isinstance rfl n_bool rfl (do_n (pv 0)))))))))
/-! ### is_row -/
abbrev s_is_row : Stmt := top 8
abbrev N_is_row : List Str := ["value", "length", "one"]
theorem sc_is_row : FnScope N_is_row ["value", "length"] (defScope s_is_row) := ⟨rfl, rfl, rfl, by decide +kernel, rfl, by decide +kernel, by decide +kernel⟩
def b_is_row : Dv.Env → Dv.Flow := (sRet (eAnd (eIsi .tup (oN 0)) (eAnd (eOp2 dEq (oV (eFrz (eCall dLen [(oN 0)]))) (oN 1)) (eGenB false (iV (eN 0)) (.name 2) bYes (eFrz (eFn (G_is_integer) [(oN 2)])) [2]))))
def G_is_row : Dv.Env → Out D := gOf 2 1 [0, 1] (b_is_row)
theorem ok_is_row {P : Program} {w : World} {K : PySem.W.Frag} {mg : Str → Option Value} {base : Heap} {tabs : List Addr} {f_is_row : Addr} {fd_is_row : FuncData} {f_is_integer : Addr} {fd_is_integer : FuncData} {c_is_row P_is_row : Addr} (d_is_row : Df K mg "is_row" ["value", "length"] s_is_row f_is_row fd_is_row) (t_is_row : Tb base mg tabs fd_is_row c_is_row P_is_row) (n_all : mg "all" = none) (n_isinstance : mg "isinstance" = none) (n_len : mg "len" = none) (n_tuple : mg "tuple" = none) (d_is_integer : Df K mg "is_integer" ["value"] s_is_integer f_is_integer fd_is_integer) (o_is_integer : FnD P w K mg base tabs 2 f_is_integer fd_is_integer ["value"] [0] (G_is_integer)) : FnD P w K mg base tabs 4 f_is_row fd_is_row ["value", "length"] [0, 1] (G_is_row) := by
  refine fn_okD d_is_row.F sc_is_row (by decide) fun cdv A outer s H E hcd hr => ?_
  exact (ds_one (ds_ret (de_of (dv_and (dv_isi rfl n_isinstance rfl n_tuple rfl (do_n (pv 0))) (dv_and (dv_cmp (cr_eq (hu64 hr)) (do_of (dv_of (de_callB call_len ok_len rfl n_len boot_len (da_cons (do_n (pv 0)) da_nil)))) (do_n (pv 1))) (dv_one (dv_all (own := [(("one" : Str), 2)]) (t := (.name 2)) (g := (gName 2)) (hK1 hr) rfl n_all t_is_row.T t_is_row.P (hcd.symm.trans t_is_row.code) sc_is_row.nd (blkOk_by (N := N_is_row) (sc := defScope s_is_row) (by decide +kernel)) (by decide) rfl rfl (di_seq (dv_n (pv 0))) (show ∀ i ∈ ([2] : List Nat), i ∉ ([0, 1] : List Nat) by decide) (by decide) (tgr_name (show 2 ∉ ([0, 1] : List Nat) by decide)) (fun _ _ _ _ _ _ _ hg1 => (pg_name sc_is_row.nd rfl (by first | exact Or.inl rfl | exact Or.inr rfl))) (fun _ _ _ _ _ _ _ hg1 => dts_nil) (fun _ _ _ _ _ _ _ hg1 => (dv_of (de_call o_is_integer (hK hg1) rfl d_is_integer.m d_is_integer.F.kp d_is_integer.b passN (da_cons (do_n (pv 2)) da_nil)))))))))))
/-! ### is_row_within -/
abbrev s_is_row_within : Stmt := top 9
abbrev N_is_row_within : List Str := ["value", "length", "low", "high", "one"]
theorem sc_is_row_within : FnScope N_is_row_within ["value", "length", "low", "high"] (defScope s_is_row_within) := ⟨rfl, rfl, rfl, by decide +kernel, rfl, by decide +kernel, by decide +kernel⟩
def b_is_row_within : Dv.Env → Dv.Flow := (sRet (eAnd (eFrz (eFn (G_is_row) [(oN 0), (oN 1)])) (eGenB false (iV (eN 0)) (.name 4) bYes (eChain dLe dLe (oN 2) (oN 4) (oN 3)) [4])))
def G_is_row_within : Dv.Env → Out D := gOf 4 1 [0, 1, 2, 3] (b_is_row_within)
theorem ok_is_row_within {P : Program} {w : World} {K : PySem.W.Frag} {mg : Str → Option Value} {base : Heap} {tabs : List Addr} {f_is_row_within : Addr} {fd_is_row_within : FuncData} {f_is_row : Addr} {fd_is_row : FuncData} {c_is_row_within P_is_row_within : Addr} (d_is_row_within : Df K mg "is_row_within" ["value", "length", "low", "high"] s_is_row_within f_is_row_within fd_is_row_within) (t_is_row_within : Tb base mg tabs fd_is_row_within c_is_row_within P_is_row_within) (n_all : mg "all" = none) (d_is_row : Df K mg "is_row" ["value", "length"] s_is_row f_is_row fd_is_row) (o_is_row : FnD P w K mg base tabs 4 f_is_row fd_is_row ["value", "length"] [0, 1] (G_is_row)) : FnD P w K mg base tabs 6 f_is_row_within fd_is_row_within ["value", "length", "low", "high"] [0, 1, 2, 3] (G_is_row_within) := by
  refine fn_okD d_is_row_within.F sc_is_row_within (by decide) fun cdv A outer s H E hcd hr => ?_
  exact (ds_one (ds_ret (de_of (dv_and (dv_of (de_call o_is_row (hK hr) rfl d_is_row.m d_is_row.F.kp d_is_row.b (passW takesB) (da_cons (do_n (pv 0)) (da_cons (do_n (pv 1)) da_nil)))) (dv_one (dv_all (own := [(("one" : Str), 4)]) (t := (.name 4)) (g := (gName 4)) (hK1 hr) rfl n_all t_is_row_within.T t_is_row_within.P (hcd.symm.trans t_is_row_within.code) sc_is_row_within.nd (blkOk_by (N := N_is_row_within) (sc := defScope s_is_row_within) (by decide +kernel)) (by decide) rfl rfl (di_seq (dv_n (pv 0))) (show ∀ i ∈ ([4] : List Nat), i ∉ ([0, 1, 2, 3] : List Nat) by decide) (by decide) (tgr_name (show 4 ∉ ([0, 1, 2, 3] : List Nat) by decide)) (fun _ _ _ _ _ _ _ hg1 => (pg_name sc_is_row_within.nd rfl (by first | exact Or.inl rfl | exact Or.inr rfl))) (fun _ _ _ _ _ _ _ hg1 => dts_nil) (fun _ _ _ _ _ _ _ hg1 => (dv_chain cr_le cr_le (do_n (pv 2)) (do_n (pv 4)) (do_n (pv 3))))))))))
/-! ### is_tastes -/
abbrev s_is_tastes : Stmt := top 14
abbrev N_is_tastes : List Str := ["value", "m", "row"]
theorem sc_is_tastes : FnScope N_is_tastes ["value"] (defScope s_is_tastes) := ⟨rfl, rfl, rfl, by decide +kernel, rfl, by decide +kernel, by decide +kernel⟩
def b_is_tastes : Dv.Env → Dv.Flow := (sSeq (sIf (bOr (bNot (bE (eIsi .tup (oN 0)))) (bOr (bNot (bE (eChain dLe dLe (oV (eC (.int 1))) (oV (eFrz (eCall dLen [(oN 0)]))) (oV (eC (.int 5)))))) (bNot (bE (eIsi .tup (oV (eOp2 dIx (oN 0) (oV (eC (.int 0)))))))))) (sRet (eC (.bl false))) sNext) (sSeq (sSet 1 (eCall dLen [(oV (eOp2 dIx (oN 0) (oV (eC (.int 0)))))])) (sSeq (sIf (bNot (bE (eChain dLe dLe (oV (eC (.int 1))) (oN 1) (oV (eC (.int 8)))))) (sRet (eC (.bl false))) sNext) (sRet (eGenB false (iV (eN 0)) (.name 2) bYes (eAnd (eFrz (eFn (G_is_row_within) [(oN 2), (oN 1), (oV (eC (.int 0))), (oV (eC (.int 1000)))])) (eOp2 dGt (oV (eFrz (eCall dSum [(oV (eFrz (eCall dList [(oN 2)])))]))) (oV (eC (.int 0))))) [2])))))
def G_is_tastes : Dv.Env → Out D := gOf 1 2 [0] (b_is_tastes)
theorem ok_is_tastes {P : Program} {w : World} {K : PySem.W.Frag} {mg : Str → Option Value} {base : Heap} {tabs : List Addr} {f_is_tastes : Addr} {fd_is_tastes : FuncData} {f_is_row_within : Addr} {fd_is_row_within : FuncData} {c_is_tastes P_is_tastes : Addr} (d_is_tastes : Df K mg "is_tastes" ["value"] s_is_tastes f_is_tastes fd_is_tastes) (t_is_tastes : Tb base mg tabs fd_is_tastes c_is_tastes P_is_tastes) (n_all : mg "all" = none) (n_isinstance : mg "isinstance" = none) (n_len : mg "len" = none) (n_list : mg "list" = none) (n_sum : mg "sum" = none) (n_tuple : mg "tuple" = none) (g_GREATEST : ∃ t, mg "GREATEST" = some (.int 1000 t)) (g_MOST_GOODS : ∃ t, mg "MOST_GOODS" = some (.int 8 t)) (g_MOST_PEOPLE : ∃ t, mg "MOST_PEOPLE" = some (.int 5 t)) (d_is_row_within : Df K mg "is_row_within" ["value", "length", "low", "high"] s_is_row_within f_is_row_within fd_is_row_within) (o_is_row_within : FnD P w K mg base tabs 6 f_is_row_within fd_is_row_within ["value", "length", "low", "high"] [0, 1, 2, 3] (G_is_row_within)) : FnD P w K mg base tabs 8 f_is_tastes fd_is_tastes ["value"] [0] (G_is_tastes) := by
  refine fn_okD d_is_tastes.F sc_is_tastes (by decide) fun cdv A outer s H E hcd hr => ?_
  exact (ds_cons (ds_if (dt_w (dw_or (dt_not (dt_val (dv_isi rfl n_isinstance rfl n_tuple rfl (do_n (pv 0))))) (dw_or (dt_not (dt_chain cr_le cr_le (do_of dv_int) (do_of (dv_of (de_callB call_len ok_len rfl n_len boot_len (da_cons (do_n (pv 0)) da_nil)))) (do_of (dv_gint rfl g_MOST_PEOPLE)))) (dw_or1 (dt_not (dt_val (dv_isi rfl n_isinstance rfl n_tuple rfl (do_of (dv_ix (do_n (pv 0)) (do_of dv_int)))))))))) (ds_one (ds_ret (de_of dv_bl))) ds_nil) (ds_cons (ds_set (i := 1) sc_is_tastes.nd rfl (by first | exact Or.inl rfl | exact Or.inr rfl) (de_callB call_len ok_len rfl n_len boot_len (da_cons (do_of (dv_ix (do_n (pv 0)) (do_of dv_int))) da_nil))) (ds_cons (ds_if (dt_not (dt_chain cr_le cr_le (do_of dv_int) (do_n (pv 1)) (do_of (dv_gint rfl g_MOST_GOODS)))) (ds_one (ds_ret (de_of dv_bl))) ds_nil) (ds_one (ds_ret (de_of (dv_all (own := [(("row" : Str), 2)]) (t := (.name 2)) (g := (gName 2)) (hK1 hr) rfl n_all t_is_tastes.T t_is_tastes.P (hcd.symm.trans t_is_tastes.code) sc_is_tastes.nd (blkOk_by (N := N_is_tastes) (sc := defScope s_is_tastes) (by decide +kernel)) (by decide) rfl rfl (di_seq (dv_n (pv 0))) (show ∀ i ∈ ([2] : List Nat), i ∉ ([0] : List Nat) by decide) (by decide) (tgr_name (show 2 ∉ ([0] : List Nat) by decide)) (fun _ _ _ _ _ _ _ hg1 => (pg_name sc_is_tastes.nd rfl (by first | exact Or.inl rfl | exact Or.inr rfl))) (fun _ _ _ _ _ _ _ hg1 => dts_nil) (fun _ _ _ _ _ _ _ hg1 => (dv_and (dv_of (de_call o_is_row_within (hK hg1) rfl d_is_row_within.m d_is_row_within.F.kp d_is_row_within.b passN (da_cons (do_n (pv 2)) (da_cons (do_n (pv 1)) (da_cons (do_of dv_int) (da_cons (do_of (dv_gint rfl g_GREATEST)) da_nil)))))) (dv_one (dv_cmp cr_gt (do_of (dv_of (de_callB (cr_sum rfl) ok_sum rfl n_sum rfl (da_cons (do_of (dv_of (de_callTy call_list_of ok_list rfl n_list rfl (da_cons (do_n (pv 2)) da_nil)))) da_nil)))) (do_of dv_int))))))))))))
/-! ### read_tastes -/
abbrev s_read_tastes : Stmt := top 20
abbrev N_read_tastes : List Str := ["text", "lines", "rows", "number", "line", "row"]
theorem sc_read_tastes : FnScope N_read_tastes ["text"] (defScope s_read_tastes) := ⟨rfl, rfl, rfl, by decide +kernel, rfl, by decide +kernel, by decide +kernel⟩
def b_read_tastes : Dv.Env → Dv.Flow := (sSeq (sSet 1 (eM1 dSplit (oN 0) (oV (eC (.str ("\n" : Str)))))) (sSeq (sSet 2 (eLst [])) (sSeq (sFor (iVals (enD 1) [(oV (eFrz (eSl (oN 1) none (some (oV (eNeg (oV (eC (.int 1))))))))), (oV (eC (.int 1)))]) (.tup [3, 4]) (sSeq (sSet 5 (eFn (G_row_told) [(oN 4)])) (sSeq (sIf (bOr (bOp2 dIsN (oN 5) (oV (eC .non))) (bAnd (bOp2 dGt (oV (eFrz (eCall dLen [(oN 2)]))) (oV (eC (.int 0)))) (bOp2 dNe (oV (eFrz (eCall dLen [(oN 5)]))) (oV (eFrz (eCall dLen [(oV (eOp2 dIx (oN 2) (oV (eC (.int 0)))))])))))) (sRaiseL ("BadText" : Str) [(oN 3)]) sNext) (sDrop (eApp 2 (eN 5)))))) (sSeq (sIf (bOr (bOp2 dNe (oV (eOp2 dIx (oN 1) (oV (eNeg (oV (eC (.int 1))))))) (oV (eC (.str ("" : Str))))) (bOp2 dEq (oV (eFrz (eCall dLen [(oN 2)]))) (oV (eC (.int 0))))) (sRaiseL ("BadText" : Str) [(oV (eFrz (eCall dLen [(oN 1)])))]) sNext) (sSeq (sIf (bNot (bE (eFrz (eFn (G_is_tastes) [(oV (eFrz (eCall dTuple [(oN 2)])))])))) (sRaiseL ("BadText" : Str) [(oV (eC (.int 0)))]) sNext) (sRet (eCall dTuple [(oN 2)])))))))
def G_read_tastes : Dv.Env → Out D := gOf 1 5 [0] (b_read_tastes)
theorem ok_read_tastes {P : Program} {w : World} {K : PySem.W.Frag} {mg : Str → Option Value} {base : Heap} {tabs : List Addr} {f_read_tastes : Addr} {fd_read_tastes : FuncData} {f_row_told : Addr} {fd_row_told : FuncData} {f_is_tastes : Addr} {fd_is_tastes : FuncData} (d_read_tastes : Df K mg "read_tastes" ["text"] s_read_tastes f_read_tastes fd_read_tastes) (n_enumerate : mg "enumerate" = none) (n_len : mg "len" = none) (n_tuple : mg "tuple" = none) (x_BadText : BadT P K mg "BadText") (d_row_told : Df K mg "row_told" ["line"] s_row_told f_row_told fd_row_told) (o_row_told : FnD P w K mg base tabs 6 f_row_told fd_row_told ["line"] [0] (G_row_told)) (d_is_tastes : Df K mg "is_tastes" ["value"] s_is_tastes f_is_tastes fd_is_tastes) (o_is_tastes : FnD P w K mg base tabs 8 f_is_tastes fd_is_tastes ["value"] [0] (G_is_tastes)) : FnD P w K mg base tabs 10 f_read_tastes fd_read_tastes ["text"] [0] (G_read_tastes) := by
  refine fn_okD d_read_tastes.F sc_read_tastes (by decide) fun cdv A outer s H E hcd hr => ?_
  exact (ds_cons (ds_set (i := 1) sc_read_tastes.nd rfl (by first | exact Or.inl rfl | exact Or.inr rfl) (de_split (do_n (pv 0)) (do_of dv_str))) (ds_cons (ds_set (i := 2) sc_read_tastes.nd rfl (by first | exact Or.inl rfl | exact Or.inr rfl) (de_lst da_nil)) (ds_cons (ds_for ownB rfl (di_enumF (k0 := 1) (by decide) (by decide) rfl n_enumerate (da_cons (do_of (dv_of (de_sl (do_n (pv 1)) dp_none (dp_some (do_of (dv_neg (do_of dv_int))))))) (da_cons (do_of dv_int) da_nil))) (dg_tup rfl (dgs_cons sc_read_tastes.nd rfl (by first | exact Or.inl rfl | exact Or.inr rfl) (dgs_cons sc_read_tastes.nd rfl (by first | exact Or.inl rfl | exact Or.inr rfl) dgs_nil))) (ds_cons (ds_set (i := 5) sc_read_tastes.nd rfl (by first | exact Or.inl rfl | exact Or.inr rfl) (de_call o_row_told (hK hr) rfl d_row_told.m d_row_told.F.kp d_row_told.b (passW takesB) (da_cons (do_n (pv 4)) da_nil))) (ds_cons (ds_if (dt_w (dw_or (dt_cmp cr_isN (do_n (pv 5)) (do_of dv_non)) (dw_or1 (dt_w (dw_and (dt_cmp cr_gt (do_of (dv_of (de_callB call_len ok_len rfl n_len boot_len (da_cons (do_n (pv 2)) da_nil)))) (do_of dv_int)) (dw_and1 (dt_cmp (cr_ne (hu64 hr)) (do_of (dv_of (de_callB call_len ok_len rfl n_len boot_len (da_cons (do_n (pv 5)) da_nil)))) (do_of (dv_of (de_callB call_len ok_len rfl n_len boot_len (da_cons (do_of (dv_ix (do_n (pv 2)) (do_of dv_int))) da_nil))))))))))) (ds_one (ds_raiseL x_BadText rfl takesB (hK1 hr) rfl (da_cons (do_n (pv 3)) da_nil))) ds_nil) (ds_one (ds_drop (de_of (dv_app (pv 2) (dv_n (pv 5))))))))) (ds_cons (ds_if (dt_w (dw_or (dt_cmp (cr_ne (hu64 hr)) (do_of (dv_ix (do_n (pv 1)) (do_of (dv_neg (do_of dv_int))))) (do_of dv_str)) (dw_or1 (dt_cmp (cr_eq (hu64 hr)) (do_of (dv_of (de_callB call_len ok_len rfl n_len boot_len (da_cons (do_n (pv 2)) da_nil)))) (do_of dv_int))))) (ds_one (ds_raiseL x_BadText rfl takesB (hK1 hr) rfl (da_cons (do_of (dv_of (de_callB call_len ok_len rfl n_len boot_len (da_cons (do_n (pv 1)) da_nil)))) da_nil))) ds_nil) (ds_cons (ds_if (dt_not (dt_val (dv_of (de_call o_is_tastes (hK hr) rfl d_is_tastes.m d_is_tastes.F.kp d_is_tastes.b (passW takesB) (da_cons (do_of (dv_of (de_callTy call_tuple_of ok_tuple rfl n_tuple rfl (da_cons (do_n (pv 2)) da_nil)))) da_nil))))) (ds_one (ds_raiseL x_BadText rfl takesB (hK1 hr) rfl (da_cons (do_of dv_int) da_nil))) ds_nil) (ds_one (ds_ret (de_callTy call_tuple_of ok_tuple rfl n_tuple rfl (da_cons (do_n (pv 2)) da_nil)))))))))
/-! ### _law_told -/
abbrev s__law_told : Stmt := top 34
abbrev N__law_told : List Str := ["text", "e"]
theorem sc__law_told : FnScope N__law_told ["text"] (defScope s__law_told) := ⟨rfl, rfl, rfl, by decide +kernel, rfl, by decide +kernel, by decide +kernel⟩
def b__law_told : Dv.Env → Dv.Flow := (sTold ("BadText" : Str) 1 (sRet (eFn (G_read_tastes) [(oN 0)])))
def G__law_told : Dv.Env → Out D := gOf 1 1 [0] (b__law_told)
theorem ok__law_told {P : Program} {w : World} {K : PySem.W.Frag} {mg : Str → Option Value} {base : Heap} {tabs : List Addr} {f__law_told : Addr} {fd__law_told : FuncData} {f_read_tastes : Addr} {fd_read_tastes : FuncData} (d__law_told : Df K mg "_law_told" ["text"] s__law_told f__law_told fd__law_told) (n_isinstance : mg "isinstance" = none) (y_BadText : ToldT K mg "ShareError" "BadText" "NoPlace") (d_read_tastes : Df K mg "read_tastes" ["text"] s_read_tastes f_read_tastes fd_read_tastes) (o_read_tastes : FnD P w K mg base tabs 10 f_read_tastes fd_read_tastes ["text"] [0] (G_read_tastes)) : FnD P w K mg base tabs 12 f__law_told fd__law_told ["text"] [0] (G__law_told) := by
  refine fn_okD d__law_told.F sc__law_told (by decide) fun cdv A outer s H E hcd hr => ?_
  exact (ds_one (ds_toldE (i := 1) y_BadText rfl rfl sc__law_told.nd rfl rfl rfl takesB rfl n_isinstance rfl rfl rfl (fun W pn xe tkT owT => (ds_one (ds_ret (de_call o_read_tastes (hK hr) rfl d_read_tastes.m d_read_tastes.F.kp d_read_tastes.b (passW tkT) (da_cons (do_n (pv 0)) da_nil)))))))
/-! ### _law_is_numeral -/
abbrev s__law_is_numeral : Stmt := top 28
abbrev N__law_is_numeral : List Str := ["text", "digits", "plain", "sign"]
theorem sc__law_is_numeral : FnScope N__law_is_numeral ["text", "digits"] (defScope s__law_is_numeral) := ⟨rfl, rfl, rfl, by decide +kernel, rfl, by decide +kernel, by decide +kernel⟩
def b__law_is_numeral : Dv.Env → Dv.Flow := (sSeq (sSet 2 (eIf (bOp2 dEq (oV (eFrz (eSl (oN 0) none (some (oV (eC (.int 1))))))) (oV (eC (.str ("-" : Str))))) (eSl (oN 0) (some (oV (eC (.int 1)))) none) (eN 0))) (sSeq (sIf (bOr (bOp2 dLt (oV (eFrz (eCall dLen [(oN 2)]))) (oV (eC (.int 1)))) (bOr (bOp2 dGt (oV (eFrz (eCall dLen [(oN 2)]))) (oN 1)) (bOp2 dGt (oV (eFrz (eCall dLen [(oV (eFrz (eLc (iV (eN 2)) (.name 3) (bOr (bOp2 dLt (oN 3) (oV (eC (.str ("0" : Str))))) (bOp2 dGt (oN 3) (oV (eC (.str ("9" : Str)))))) (eN 3) [3])))]))) (oV (eC (.int 0)))))) (sRet (eC (.bl false))) sNext) (sRet (eOr (eOp2 dEq (oN 0) (oV (eC (.str ("0" : Str))))) (eOp2 dNe (oV (eOp2 dIx (oN 2) (oV (eC (.int 0))))) (oV (eC (.str ("0" : Str)))))))))
def G__law_is_numeral : Dv.Env → Out D := gOf 2 2 [0, 1] (b__law_is_numeral)
theorem ok__law_is_numeral {P : Program} {w : World} {K : PySem.W.Frag} {mg : Str → Option Value} {base : Heap} {tabs : List Addr} {f__law_is_numeral : Addr} {fd__law_is_numeral : FuncData} (d__law_is_numeral : Df K mg "_law_is_numeral" ["text", "digits"] s__law_is_numeral f__law_is_numeral fd__law_is_numeral) (n_len : mg "len" = none) : FnD P w K mg base tabs 2 f__law_is_numeral fd__law_is_numeral ["text", "digits"] [0, 1] (G__law_is_numeral) := by
  refine fn_okD d__law_is_numeral.F sc__law_is_numeral (by decide) fun cdv A outer s H E hcd hr => ?_
  exact (ds_cons (ds_set (i := 2) sc__law_is_numeral.nd rfl (by first | exact Or.inl rfl | exact Or.inr rfl) (de_if (dt_cmp (cr_eq (hu64 hr)) (do_of (dv_of (de_sl (do_n (pv 0)) dp_none (dp_some (do_of dv_int))))) (do_of dv_str)) (de_sl (do_n (pv 0)) (dp_some (do_of dv_int)) dp_none) (de_of (dv_n (pv 0))))) (ds_cons (ds_if (dt_w (dw_or (dt_cmp cr_lt (do_of (dv_of (de_callB call_len ok_len rfl n_len boot_len (da_cons (do_n (pv 2)) da_nil)))) (do_of dv_int)) (dw_or (dt_cmp cr_gt (do_of (dv_of (de_callB call_len ok_len rfl n_len boot_len (da_cons (do_n (pv 2)) da_nil)))) (do_n (pv 1))) (dw_or1 (dt_cmp cr_gt (do_of (dv_of (de_callB call_len ok_len rfl n_len boot_len (da_cons (do_of (dv_of (de_lc (own := [(("sign" : Str), 3)]) (t := (.name 3)) (g := (gName 3)) rfl sc__law_is_numeral.nd (di_seq (dv_n (pv 2))) (blkOk_by (N := N__law_is_numeral) (sc := defScope s__law_is_numeral) (by decide +kernel)) (show ∀ i ∈ ([3] : List Nat), i ∉ ([0, 1] : List Nat) by decide) (by decide) (tgr_name (show 3 ∉ ([0, 1] : List Nat) by decide)) (fun _ _ _ _ _ => have hg1 := hr; (pg_name sc__law_is_numeral.nd rfl (by first | exact Or.inl rfl | exact Or.inr rfl))) (fun _ _ _ _ _ => have hg1 := hr; (dts_one (dt_w (dw_or (dt_cmp cr_lt (do_n (pv 3)) (do_of dv_str)) (dw_or1 (dt_cmp cr_gt (do_n (pv 3)) (do_of dv_str))))))) (fun _ _ _ _ _ => have hg1 := hr; (dv_n (pv 3)))))) da_nil)))) (do_of dv_int)))))) (ds_one (ds_ret (de_of dv_bl))) ds_nil) (ds_one (ds_ret (de_of (dv_or (dv_cmp (cr_eq (hu64 hr)) (do_n (pv 0)) (do_of dv_str)) (dv_one (dv_cmp (cr_ne (hu64 hr)) (do_of (dv_ix (do_n (pv 2)) (do_of dv_int))) (do_of dv_str)))))))))
/-! ### _law_row_told -/
abbrev s__law_row_told : Stmt := top 31
abbrev N__law_row_told : List Str := ["line", "words", "word"]
theorem sc__law_row_told : FnScope N__law_row_told ["line"] (defScope s__law_row_told) := ⟨rfl, rfl, rfl, by decide +kernel, rfl, by decide +kernel, by decide +kernel⟩
def b__law_row_told : Dv.Env → Dv.Flow := (sSeq (sSet 1 (eM1 dSplit (oN 0) (oV (eC (.str (" " : Str)))))) (sSeq (sIf (bOp2 dGt (oV (eFrz (eCall dLen [(oV (eFrz (eLc (iV (eN 1)) (.name 2) (bOr (bNot (bE (eFrz (eFn (G__law_is_numeral) [(oN 2), (oV (eC (.int 4)))])))) (bOp2 dEq (oV (eFrz (eSl (oN 2) none (some (oV (eC (.int 1))))))) (oV (eC (.str ("-" : Str)))))) (eN 2) [2])))]))) (oV (eC (.int 0)))) (sRet (eC .non)) sNext) (sRet (eCall dTuple [(oV (eFrz (eLc (iV (eN 1)) (.name 2) bYes (eFrz (eCall dInt [(oN 2)])) [2])))]))))
def G__law_row_told : Dv.Env → Out D := gOf 1 2 [0] (b__law_row_told)
theorem ok__law_row_told {P : Program} {w : World} {K : PySem.W.Frag} {mg : Str → Option Value} {base : Heap} {tabs : List Addr} {f__law_row_told : Addr} {fd__law_row_told : FuncData} {f__law_is_numeral : Addr} {fd__law_is_numeral : FuncData} (d__law_row_told : Df K mg "_law_row_told" ["line"] s__law_row_told f__law_row_told fd__law_row_told) (n_int : mg "int" = none) (n_len : mg "len" = none) (n_tuple : mg "tuple" = none) (d__law_is_numeral : Df K mg "_law_is_numeral" ["text", "digits"] s__law_is_numeral f__law_is_numeral fd__law_is_numeral) (o__law_is_numeral : FnD P w K mg base tabs 2 f__law_is_numeral fd__law_is_numeral ["text", "digits"] [0, 1] (G__law_is_numeral)) : FnD P w K mg base tabs 4 f__law_row_told fd__law_row_told ["line"] [0] (G__law_row_told) := by
  refine fn_okD d__law_row_told.F sc__law_row_told (by decide) fun cdv A outer s H E hcd hr => ?_
  exact (ds_cons (ds_set (i := 1) sc__law_row_told.nd rfl (by first | exact Or.inl rfl | exact Or.inr rfl) (de_split (do_n (pv 0)) (do_of dv_str))) (ds_cons (ds_if (dt_cmp cr_gt (do_of (dv_of (de_callB call_len ok_len rfl n_len boot_len (da_cons (do_of (dv_of (de_lc (own := [(("word" : Str), 2)]) (t := (.name 2)) (g := (gName 2)) rfl sc__law_row_told.nd (di_seq (dv_n (pv 1))) (blkOk_by (N := N__law_row_told) (sc := defScope s__law_row_told) (by decide +kernel)) (show ∀ i ∈ ([2] : List Nat), i ∉ ([0] : List Nat) by decide) (by decide) (tgr_name (show 2 ∉ ([0] : List Nat) by decide)) (fun _ _ _ _ _ => have hg1 := hr; (pg_name sc__law_row_told.nd rfl (by first | exact Or.inl rfl | exact Or.inr rfl))) (fun _ _ _ _ _ => have hg1 := hr; (dts_one (dt_w (dw_or (dt_not (dt_val (dv_of (de_call o__law_is_numeral (hK hg1) rfl d__law_is_numeral.m d__law_is_numeral.F.kp d__law_is_numeral.b passN (da_cons (do_n (pv 2)) (da_cons (do_of dv_int) da_nil)))))) (dw_or1 (dt_cmp (cr_eq (hu64 hg1)) (do_of (dv_of (de_sl (do_n (pv 2)) dp_none (dp_some (do_of dv_int))))) (do_of dv_str))))))) (fun _ _ _ _ _ => have hg1 := hr; (dv_n (pv 2)))))) da_nil)))) (do_of dv_int)) (ds_one (ds_ret (de_of dv_non))) ds_nil) (ds_one (ds_ret (de_callTy call_tuple_of ok_tuple rfl n_tuple rfl (da_cons (do_of (dv_of (de_lc (own := [(("word" : Str), 2)]) (t := (.name 2)) (g := (gName 2)) rfl sc__law_row_told.nd (di_seq (dv_n (pv 1))) (blkOk_by (N := N__law_row_told) (sc := defScope s__law_row_told) (by decide +kernel)) (show ∀ i ∈ ([2] : List Nat), i ∉ ([0] : List Nat) by decide) (by decide) (tgr_name (show 2 ∉ ([0] : List Nat) by decide)) (fun _ _ _ _ _ => have hg1 := hr; (pg_name sc__law_row_told.nd rfl (by first | exact Or.inl rfl | exact Or.inr rfl))) (fun _ _ _ _ _ => have hg1 := hr; dts_nil) (fun _ _ _ _ _ => have hg1 := hr; (dv_of (de_callTy (call_int1.or call_int_str) ok_int rfl n_int rfl (da_cons (do_n (pv 2)) da_nil))))))) da_nil))))))
/-! ### _law_are_tastes -/
abbrev s__law_are_tastes : Stmt := top 32
abbrev N__law_are_tastes : List Str := ["value", "row"]
theorem sc__law_are_tastes : FnScope N__law_are_tastes ["value"] (defScope s__law_are_tastes) := ⟨rfl, rfl, rfl, by decide +kernel, rfl, by decide +kernel, by decide +kernel⟩
def b__law_are_tastes : Dv.Env → Dv.Flow := (sSeq (sIf (bOr (bOp2 dGt (oV (eFrz (eCall dLen [(oN 0)]))) (oV (eC (.int 5)))) (bOp2 dGt (oV (eFrz (eCall dLen [(oV (eOp2 dIx (oN 0) (oV (eC (.int 0)))))]))) (oV (eC (.int 8))))) (sRet (eC (.bl false))) sNext) (sRet (eOp2 dEq (oV (eFrz (eCall dLen [(oV (eFrz (eLc (iV (eN 0)) (.name 1) (bOr (bOp2 dGt (oV (eFrz (eCall dMaxT [(oN 1)]))) (oV (eC (.int 1000)))) (bOp2 dEq (oV (eFrz (eCall dSum [(oV (eFrz (eCall dList [(oN 1)])))]))) (oV (eC (.int 0))))) (eN 1) [1])))]))) (oV (eC (.int 0))))))
def G__law_are_tastes : Dv.Env → Out D := gOf 1 1 [0] (b__law_are_tastes)
theorem ok__law_are_tastes {P : Program} {w : World} {K : PySem.W.Frag} {mg : Str → Option Value} {base : Heap} {tabs : List Addr} {f__law_are_tastes : Addr} {fd__law_are_tastes : FuncData} (d__law_are_tastes : Df K mg "_law_are_tastes" ["value"] s__law_are_tastes f__law_are_tastes fd__law_are_tastes) (n_len : mg "len" = none) (n_list : mg "list" = none) (n_max : mg "max" = none) (n_sum : mg "sum" = none) : FnD P w K mg base tabs 2 f__law_are_tastes fd__law_are_tastes ["value"] [0] (G__law_are_tastes) := by
  refine fn_okD d__law_are_tastes.F sc__law_are_tastes (by decide) fun cdv A outer s H E hcd hr => ?_
  exact (ds_cons (ds_if (dt_w (dw_or (dt_cmp cr_gt (do_of (dv_of (de_callB call_len ok_len rfl n_len boot_len (da_cons (do_n (pv 0)) da_nil)))) (do_of dv_int)) (dw_or1 (dt_cmp cr_gt (do_of (dv_of (de_callB call_len ok_len rfl n_len boot_len (da_cons (do_of (dv_ix (do_n (pv 0)) (do_of dv_int))) da_nil)))) (do_of dv_int))))) (ds_one (ds_ret (de_of dv_bl))) ds_nil) (ds_one (ds_ret (de_of (dv_cmp (cr_eq (hu64 hr)) (do_of (dv_of (de_callB call_len ok_len rfl n_len boot_len (da_cons (do_of (dv_of (de_lc (own := [(("row" : Str), 1)]) (t := (.name 1)) (g := (gName 1)) rfl sc__law_are_tastes.nd (di_seq (dv_n (pv 0))) (blkOk_by (N := N__law_are_tastes) (sc := defScope s__law_are_tastes) (by decide +kernel)) (show ∀ i ∈ ([1] : List Nat), i ∉ ([0] : List Nat) by decide) (by decide) (tgr_name (show 1 ∉ ([0] : List Nat) by decide)) (fun _ _ _ _ _ => have hg1 := hr; (pg_name sc__law_are_tastes.nd rfl (by first | exact Or.inl rfl | exact Or.inr rfl))) (fun _ _ _ _ _ => have hg1 := hr; (dts_one (dt_w (dw_or (dt_cmp cr_gt (do_of (dv_of (de_callB (cr_maxT rfl (hu64 hg1)) ok_maxT rfl n_max rfl (da_cons (do_n (pv 1)) da_nil)))) (do_of dv_int)) (dw_or1 (dt_cmp (cr_eq (hu64 hg1)) (do_of (dv_of (de_callB (cr_sum rfl) ok_sum rfl n_sum rfl (da_cons (do_of (dv_of (de_callTy call_list_of ok_list rfl n_list rfl (da_cons (do_n (pv 1)) da_nil)))) da_nil)))) (do_of dv_int))))))) (fun _ _ _ _ _ => have hg1 := hr; (dv_n (pv 1)))))) da_nil)))) (do_of dv_int))))))
/-! ### _law_read_tastes -/
abbrev s__law_read_tastes : Stmt := top 33
abbrev N__law_read_tastes : List Str := ["text", "lines", "rows", "k", "row"]
theorem sc__law_read_tastes : FnScope N__law_read_tastes ["text"] (defScope s__law_read_tastes) := ⟨rfl, rfl, rfl, by decide +kernel, rfl, by decide +kernel, by decide +kernel⟩
def b__law_read_tastes : Dv.Env → Dv.Flow := (sSeq (sSet 1 (eM1 dSplit (oN 0) (oV (eC (.str ("\n" : Str)))))) (sSeq (sSet 2 (eLst [])) (sSeq (sFor (iArgs rg1 [(oV (eOp2 dSub (oV (eFrz (eCall dLen [(oN 1)]))) (oV (eC (.int 1)))))]) (.name 3) (sSeq (sSet 4 (eFn (G__law_row_told) [(oV (eOp2 dIx (oN 1) (oN 3)))])) (sSeq (sIf (bOr (bOp2 dIsN (oN 4) (oV (eC .non))) (bAnd (bOp2 dGt (oV (eFrz (eCall dLen [(oN 2)]))) (oV (eC (.int 0)))) (bOp2 dNe (oV (eFrz (eCall dLen [(oN 4)]))) (oV (eFrz (eCall dLen [(oV (eOp2 dIx (oN 2) (oV (eC (.int 0)))))])))))) (sRet (eOp2 dAdd (oN 3) (oV (eC (.int 1))))) sNext) (sDrop (eApp 2 (eN 4)))))) (sSeq (sIf (bOr (bOp2 dNe (oV (eOp2 dIx (oN 1) (oV (eNeg (oV (eC (.int 1))))))) (oV (eC (.str ("" : Str))))) (bOp2 dEq (oV (eFrz (eCall dLen [(oN 2)]))) (oV (eC (.int 0))))) (sRet (eCall dLen [(oN 1)])) sNext) (sRet (eIf (bE (eFrz (eFn (G__law_are_tastes) [(oV (eFrz (eCall dTuple [(oN 2)])))]))) (eCall dTuple [(oN 2)]) (eC (.int 0))))))))
def G__law_read_tastes : Dv.Env → Out D := gOf 1 4 [0] (b__law_read_tastes)
theorem ok__law_read_tastes {P : Program} {w : World} {K : PySem.W.Frag} {mg : Str → Option Value} {base : Heap} {tabs : List Addr} {f__law_read_tastes : Addr} {fd__law_read_tastes : FuncData} {f__law_row_told : Addr} {fd__law_row_told : FuncData} {f__law_are_tastes : Addr} {fd__law_are_tastes : FuncData} (d__law_read_tastes : Df K mg "_law_read_tastes" ["text"] s__law_read_tastes f__law_read_tastes fd__law_read_tastes) (n_len : mg "len" = none) (n_range : mg "range" = none) (n_tuple : mg "tuple" = none) (d__law_row_told : Df K mg "_law_row_told" ["line"] s__law_row_told f__law_row_told fd__law_row_told) (o__law_row_told : FnD P w K mg base tabs 4 f__law_row_told fd__law_row_told ["line"] [0] (G__law_row_told)) (d__law_are_tastes : Df K mg "_law_are_tastes" ["value"] s__law_are_tastes f__law_are_tastes fd__law_are_tastes) (o__law_are_tastes : FnD P w K mg base tabs 2 f__law_are_tastes fd__law_are_tastes ["value"] [0] (G__law_are_tastes)) : FnD P w K mg base tabs 6 f__law_read_tastes fd__law_read_tastes ["text"] [0] (G__law_read_tastes) := by
  refine fn_okD d__law_read_tastes.F sc__law_read_tastes (by decide) fun cdv A outer s H E hcd hr => ?_
  exact (ds_cons (ds_set (i := 1) sc__law_read_tastes.nd rfl (by first | exact Or.inl rfl | exact Or.inr rfl) (de_split (do_n (pv 0)) (do_of dv_str))) (ds_cons (ds_set (i := 2) sc__law_read_tastes.nd rfl (by first | exact Or.inl rfl | exact Or.inr rfl) (de_lst da_nil)) (ds_cons (ds_for ownB rfl (di_range1 rfl n_range (da_cons (do_of (dv_sub (do_of (dv_of (de_callB call_len ok_len rfl n_len boot_len (da_cons (do_n (pv 1)) da_nil)))) (do_of dv_int))) da_nil)) (dg_name sc__law_read_tastes.nd rfl (by first | exact Or.inl rfl | exact Or.inr rfl)) (ds_cons (ds_set (i := 4) sc__law_read_tastes.nd rfl (by first | exact Or.inl rfl | exact Or.inr rfl) (de_call o__law_row_told (hK hr) rfl d__law_row_told.m d__law_row_told.F.kp d__law_row_told.b (passW takesB) (da_cons (do_of (dv_ix (do_n (pv 1)) (do_n (pv 3)))) da_nil))) (ds_cons (ds_if (dt_w (dw_or (dt_cmp cr_isN (do_n (pv 4)) (do_of dv_non)) (dw_or1 (dt_w (dw_and (dt_cmp cr_gt (do_of (dv_of (de_callB call_len ok_len rfl n_len boot_len (da_cons (do_n (pv 2)) da_nil)))) (do_of dv_int)) (dw_and1 (dt_cmp (cr_ne (hu64 hr)) (do_of (dv_of (de_callB call_len ok_len rfl n_len boot_len (da_cons (do_n (pv 4)) da_nil)))) (do_of (dv_of (de_callB call_len ok_len rfl n_len boot_len (da_cons (do_of (dv_ix (do_n (pv 2)) (do_of dv_int))) da_nil))))))))))) (ds_one (ds_ret (de_add (do_n (pv 3)) (do_of dv_int)))) ds_nil) (ds_one (ds_drop (de_of (dv_app (pv 2) (dv_n (pv 4))))))))) (ds_cons (ds_if (dt_w (dw_or (dt_cmp (cr_ne (hu64 hr)) (do_of (dv_ix (do_n (pv 1)) (do_of (dv_neg (do_of dv_int))))) (do_of dv_str)) (dw_or1 (dt_cmp (cr_eq (hu64 hr)) (do_of (dv_of (de_callB call_len ok_len rfl n_len boot_len (da_cons (do_n (pv 2)) da_nil)))) (do_of dv_int))))) (ds_one (ds_ret (de_callB call_len ok_len rfl n_len boot_len (da_cons (do_n (pv 1)) da_nil)))) ds_nil) (ds_one (ds_ret (de_if (dt_val (dv_of (de_call o__law_are_tastes (hK hr) rfl d__law_are_tastes.m d__law_are_tastes.F.kp d__law_are_tastes.b (passW takesB) (da_cons (do_of (dv_of (de_callTy call_tuple_of ok_tuple rfl n_tuple rfl (da_cons (do_n (pv 2)) da_nil)))) da_nil)))) (de_callTy call_tuple_of ok_tuple rfl n_tuple rfl (da_cons (do_n (pv 2)) da_nil)) (de_of dv_int))))))))
/-! ### law -/
abbrev s_law : Stmt := top 35
abbrev N_law : List Str := ["script", "pool", "tastes", "text", "texts", "k", "value"]
theorem sc_law : FnScope N_law ["script"] (defScope s_law) := ⟨rfl, rfl, rfl, by decide +kernel, rfl, by decide +kernel, by decide +kernel⟩
def b_law : Dv.Env → Dv.Flow := (sSeq (sSet 1 (eFn (G__law_pool) [(oN 0)])) (sSeq (sSet 2 (eFn (G__law_tastes) [(oN 1), (oV (eFrz (eOp2 dAdd (oV (eC (.int 1))) (oV (eFrz (eFn (G__law_draw) [(oN 1), (oV (eC (.int 5)))])))))), (oV (eFrz (eOp2 dAdd (oV (eC (.int 1))) (oV (eFrz (eFn (G__law_draw) [(oN 1), (oV (eC (.int 8)))])))))), (oV (eC (.int 0))), (oV (eOp2 dIx (oV (eTup [(oV (eC (.int 4))), (oV (eC (.int 30))), (oV (eC (.int 1001)))])) (oV (eFrz (eFn (G__law_draw) [(oN 1), (oV (eC (.int 3)))])))))])) (sSeq (sSet 3 (eFn (G__law_tastes_text) [(oN 2)])) (sSeq (sIf (bNot (bE (eFrz (eFn (G__law_same 40) [(oV (eFrz (eLst [(oV (eFrz (eFn (G_write_tastes) [(oN 2)]))), (oV (eFrz (eFn (G__law_told) [(oN 3)])))]))), (oV (eFrz (eLst [(oV (eN 3)), (oV (eN 2))])))])))) (sRet (eC (.bl false))) sNext) (sSeq (sSet 4 (eLst [(oV (eC (.str ("" : Str)))), (oV (eC (.str ("\n" : Str)))), (oV (eC (.str ("0\n" : Str)))), (oV (eC (.str ("1" : Str)))), (oV (eC (.str ("1\n" : Str)))), (oV (eC (.str ("0 0\n1 1\n" : Str)))), (oV (eC (.str ("1 2\n3\n" : Str)))), (oV (eC (.str ("1001\n" : Str)))), (oV (eC (.str ("1000\n" : Str)))), (oV (eC (.str ("10000\n" : Str)))), (oV (eC (.str ("01\n" : Str)))), (oV (eC (.str ("-1\n" : Str)))), (oV (eC (.str ("1  2\n" : Str)))), (oV (eC (.str (" 1\n" : Str)))), (oV (eC (.str ("1 \n" : Str)))), (oV (eC (.str ("1\n\n" : Str)))), (oV (eC (.str ("1 2 3 4 5 6 7 8\n" : Str)))), (oV (eC (.str ("1 2 3 4 5 6 7 8 9\n" : Str)))), (oV (eFrz (eOp2 dMulS (oV (eC (.str ("1\n" : Str)))) (oV (eC (.int 5)))))), (oV (eFrz (eOp2 dMulS (oV (eC (.str ("1\n" : Str)))) (oV (eC (.int 6)))))), (oV (eC (.str ("1\n2\n3" : Str)))), (oV (eFrz (eSl (oN 3) none (some (oV (eNeg (oV (eC (.int 1))))))))), (oV (eFrz (eOp2 dAdd (oN 3) (oV (eC (.str ("\n" : Str))))))), (oV (eFrz (eOp2 dAdd (oN 3) (oV (eFrz (eSl (oN 3) none (some (oV (eC (.int 3))))))))))])) (sSeq (sFor (iArgs rg1 [(oV (eC (.int 10)))]) (.name 5) (sDrop (eApp 4 (eFrz (eFn (G__law_bent_text) [(oN 1), (oN 3), (oV (eC (.str ("0123 \n-x" : Str))))]))))) (sSeq (sFor (iV (eN 4)) (.name 6) (sIf (bNot (bE (eFrz (eFn (G__law_same 40) [(oV (eFrz (eFn (G__law_told) [(oN 6)]))), (oV (eFrz (eFn (G__law_read_tastes) [(oN 6)])))])))) (sRet (eC (.bl false))) sNext)) (sRet (eC (.bl true))))))))))
def G_law : Dv.Env → Out D := gOf 1 6 [0] (b_law)
theorem ok_law {P : Program} {w : World} {K : PySem.W.Frag} {mg : Str → Option Value} {base : Heap} {tabs : List Addr} {f_law : Addr} {fd_law : FuncData} {f__law_pool : Addr} {fd__law_pool : FuncData} {f__law_draw : Addr} {fd__law_draw : FuncData} {f__law_tastes : Addr} {fd__law_tastes : FuncData} {f__law_tastes_text : Addr} {fd__law_tastes_text : FuncData} {f_write_tastes : Addr} {fd_write_tastes : FuncData} {f__law_told : Addr} {fd__law_told : FuncData} {f__law_same : Addr} {fd__law_same : FuncData} {f__law_bent_text : Addr} {fd__law_bent_text : FuncData} {f__law_read_tastes : Addr} {fd__law_read_tastes : FuncData} (d_law : Df K mg "law" ["script"] s_law f_law fd_law) (n_range : mg "range" = none) (d__law_pool : Df K mg "_law_pool" ["script"] s__law_pool f__law_pool fd__law_pool) (o__law_pool : FnD P w K mg base tabs 2 f__law_pool fd__law_pool ["script"] [0] (G__law_pool)) (d__law_draw : Df K mg "_law_draw" ["pool", "many"] s__law_draw f__law_draw fd__law_draw) (o__law_draw : FnD P w K mg base tabs 4 f__law_draw fd__law_draw ["pool", "many"] [0, 1] (G__law_draw)) (d__law_tastes : Df K mg "_law_tastes" ["pool", "people", "goods", "least", "most"] s__law_tastes f__law_tastes fd__law_tastes) (o__law_tastes : FnD P w K mg base tabs 6 f__law_tastes fd__law_tastes ["pool", "people", "goods", "least", "most"] [0, 1, 2, 3, 4] (G__law_tastes)) (d__law_tastes_text : Df K mg "_law_tastes_text" ["tastes"] s__law_tastes_text f__law_tastes_text fd__law_tastes_text) (o__law_tastes_text : FnD P w K mg base tabs 2 f__law_tastes_text fd__law_tastes_text ["tastes"] [0] (G__law_tastes_text)) (d_write_tastes : Df K mg "write_tastes" ["tastes"] s_write_tastes f_write_tastes fd_write_tastes) (o_write_tastes : FnD P w K mg base tabs 2 f_write_tastes fd_write_tastes ["tastes"] [0] (G_write_tastes)) (d__law_told : Df K mg "_law_told" ["text"] s__law_told f__law_told fd__law_told) (o__law_told : FnD P w K mg base tabs 12 f__law_told fd__law_told ["text"] [0] (G__law_told)) (d__law_same : Df K mg "_law_same" ["actual", "due"] s__law_same f__law_same fd__law_same) (o__law_same : FnD P w K mg base tabs 82 f__law_same fd__law_same ["actual", "due"] [0, 1] (G__law_same 40)) (d__law_bent_text : Df K mg "_law_bent_text" ["pool", "text", "signs"] s__law_bent_text f__law_bent_text fd__law_bent_text) (o__law_bent_text : FnD P w K mg base tabs 8 f__law_bent_text fd__law_bent_text ["pool", "text", "signs"] [0, 1, 2] (G__law_bent_text)) (d__law_read_tastes : Df K mg "_law_read_tastes" ["text"] s__law_read_tastes f__law_read_tastes fd__law_read_tastes) (o__law_read_tastes : FnD P w K mg base tabs 6 f__law_read_tastes fd__law_read_tastes ["text"] [0] (G__law_read_tastes)) : FnD P w K mg base tabs 84 f_law fd_law ["script"] [0] (G_law) := by
  refine fn_okD d_law.F sc_law (by decide) fun cdv A outer s H E hcd hr => ?_
  exact (ds_cons (ds_set (i := 1) sc_law.nd rfl (by first | exact Or.inl rfl | exact Or.inr rfl) (de_call o__law_pool (hK hr) rfl d__law_pool.m d__law_pool.F.kp d__law_pool.b (passW takesB) (da_cons (do_n (pv 0)) da_nil))) (ds_cons (ds_set (i := 2) sc_law.nd rfl (by first | exact Or.inl rfl | exact Or.inr rfl) (de_call o__law_tastes (hK hr) rfl d__law_tastes.m d__law_tastes.F.kp d__law_tastes.b (passW takesB) (da_cons (do_n (pv 1)) (da_cons (do_of (dv_of (de_add (do_of dv_int) (do_of (dv_of (de_call o__law_draw (hK hr) rfl d__law_draw.m d__law_draw.F.kp d__law_draw.b (passW takesB) (da_cons (do_n (pv 1)) (da_cons (do_of dv_int) da_nil)))))))) (da_cons (do_of (dv_of (de_add (do_of dv_int) (do_of (dv_of (de_call o__law_draw (hK hr) rfl d__law_draw.m d__law_draw.F.kp d__law_draw.b (passW takesB) (da_cons (do_n (pv 1)) (da_cons (do_of dv_int) da_nil)))))))) (da_cons (do_of dv_int) (da_cons (do_of (dv_ix (do_of (dv_tup (da_cons (do_of dv_int) (da_cons (do_of dv_int) (da_cons (do_of dv_int) da_nil))))) (do_of (dv_of (de_call o__law_draw (hK hr) rfl d__law_draw.m d__law_draw.F.kp d__law_draw.b (passW takesB) (da_cons (do_n (pv 1)) (da_cons (do_of dv_int) da_nil))))))) da_nil))))))) (ds_cons (ds_set (i := 3) sc_law.nd rfl (by first | exact Or.inl rfl | exact Or.inr rfl) (de_call o__law_tastes_text (hK hr) rfl d__law_tastes_text.m d__law_tastes_text.F.kp d__law_tastes_text.b (passW takesB) (da_cons (do_n (pv 2)) da_nil))) (ds_cons (ds_if (dt_not (dt_val (dv_of (de_call o__law_same (hK hr) rfl d__law_same.m d__law_same.F.kp d__law_same.b (passW takesB) (da_cons (do_of (dv_of (de_lst (da_cons (do_of (dv_of (de_call o_write_tastes (hK hr) rfl d_write_tastes.m d_write_tastes.F.kp d_write_tastes.b (passW takesB) (da_cons (do_n (pv 2)) da_nil)))) (da_cons (do_of (dv_of (de_call o__law_told (hK hr) rfl d__law_told.m d__law_told.F.kp d__law_told.b (passW takesB) (da_cons (do_n (pv 3)) da_nil)))) da_nil))))) (da_cons (do_of (dv_of (de_lst (da_cons (do_of (dv_n (pv 3))) (da_cons (do_of (dv_n (pv 2))) da_nil))))) da_nil)))))) (ds_one (ds_ret (de_of dv_bl))) ds_nil) (ds_cons (ds_set (i := 4) sc_law.nd rfl (by first | exact Or.inl rfl | exact Or.inr rfl) (de_lst (da_cons (do_of dv_str) (da_cons (do_of dv_str) (da_cons (do_of dv_str) (da_cons (do_of dv_str) (da_cons (do_of dv_str) (da_cons (do_of dv_str) (da_cons (do_of dv_str) (da_cons (do_of dv_str) (da_cons (do_of dv_str) (da_cons (do_of dv_str) (da_cons (do_of dv_str) (da_cons (do_of dv_str) (da_cons (do_of dv_str) (da_cons (do_of dv_str) (da_cons (do_of dv_str) (da_cons (do_of dv_str) (da_cons (do_of dv_str) (da_cons (do_of dv_str) (da_cons (do_of (dv_of (de_mulS (do_of dv_str) (do_of dv_int)))) (da_cons (do_of (dv_of (de_mulS (do_of dv_str) (do_of dv_int)))) (da_cons (do_of dv_str) (da_cons (do_of (dv_of (de_sl (do_n (pv 3)) dp_none (dp_some (do_of (dv_neg (do_of dv_int))))))) (da_cons (do_of (dv_of (de_add (do_n (pv 3)) (do_of dv_str)))) (da_cons (do_of (dv_of (de_add (do_n (pv 3)) (do_of (dv_of (de_sl (do_n (pv 3)) dp_none (dp_some (do_of dv_int)))))))) da_nil)))))))))))))))))))))))))) (ds_cons (ds_for ownB rfl (di_range1 rfl n_range (da_cons (do_of dv_int) da_nil)) (dg_name sc_law.nd rfl (by first | exact Or.inl rfl | exact Or.inr rfl)) (ds_one (ds_drop (de_of (dv_app (pv 4) (dv_of (de_call o__law_bent_text (hK hr) rfl d__law_bent_text.m d__law_bent_text.F.kp d__law_bent_text.b (passW takesB) (da_cons (do_n (pv 1)) (da_cons (do_n (pv 3)) (da_cons (do_of dv_str) da_nil)))))))))) (ds_cons (ds_for ownB rfl (di_seq (dv_n (pv 4))) (dg_name sc_law.nd rfl (by first | exact Or.inl rfl | exact Or.inr rfl)) (ds_one (ds_if (dt_not (dt_val (dv_of (de_call o__law_same (hK hr) rfl d__law_same.m d__law_same.F.kp d__law_same.b (passW takesB) (da_cons (do_of (dv_of (de_call o__law_told (hK hr) rfl d__law_told.m d__law_told.F.kp d__law_told.b (passW takesB) (da_cons (do_n (pv 6)) da_nil)))) (da_cons (do_of (dv_of (de_call o__law_read_tastes (hK hr) rfl d__law_read_tastes.m d__law_read_tastes.F.kp d__law_read_tastes.b (passW takesB) (da_cons (do_n (pv 6)) da_nil)))) da_nil)))))) (ds_one (ds_ret (de_of dv_bl))) ds_nil))) (ds_one (ds_ret (de_of dv_bl))))))))))
end K60
end
section
set_option Elab.async false
set_option linter.all false
set_option maxRecDepth 100000
set_option maxHeartbeats 2000000
/-! What the head tells: the library's facts of names, the defs' tables, and classes with a line. -/
namespace HeB
open PySem PySem.Spec PyProof.Rows L2 GxR He
/-- an __init__ with a cell for its class -/
structure InD where
  x : Str
  qual : Str
  params : Arguments
  body : List Stmt
  scope : Scope
abbrev FnI : Type := Option (Str × Str × Arguments × FuncBody × Scope × Addr × Addr)
def inW (K : PySem.W.Frag) (x : Str) : FnI := match K.lookup (ma K (ga K x) "__init__") with
  | some ⟨_, _, .func fd, _⟩ => some (fd.name, fd.qualname, fd.params, fd.body, fd.scope, fd.globals, fd.builtins)
  | _ => none
def InD.val (d : InD) : FnI := some ("__init__", d.qual, d.params, .stmts d.body, d.scope, mainGlobals, builtinsNs)
def asB (g : Addr → Option Obj) : Nat → List Addr
  | 0 => [mainGlobals, cStatics]
  | n + 1 => growD g (asB g n)
abbrev AlB : Type := AlX × List FnI
def obsB (n : Nat) (fa : List Fa) (fn : List DefD) (tf : List Defn) (xs : List InD) (ex : PySem.W.Frag → Bool) (g : Addr → Option Obj) : AlB :=
  ((obsT fa fn [] (frT g (asB g n)), ex (frT g (asB g n)) && tabsB g tf (frT g (asB g n))), xs.map fun d => inW (frT g (asB g n)) d.x)
def valB (fn : List DefD) (xs : List InD) (w : World) : AlB := (valX fn [] w, xs.map InD.val)
structure SaysB (fa : List Fa) (fn : List DefD) (tf : List Defn) (xs : List InD) (ex : PySem.W.Frag → Bool) (w : World) (h : Heap) (K : PySem.W.Frag) : Prop where
  s : SaysX fa fn [] tf ex w h K
  i : xs.map (fun d => inW K d.x) = xs.map InD.val
theorem saysB_of {n : Nat} {fa : List Fa} {fn : List DefD} {tf : List Defn} {xs : List InD} {ex : PySem.W.Frag → Bool} {w : World} {h : Heap} (e : obsB n fa fn tf xs ex h.get? = valB fn xs w) : SaysB fa fn tf xs ex w h (frT h.get? (asB h.get? n)) := by
  have e0 : (obsT fa fn [] (frT h.get? (asB h.get? n)), ex (frT h.get? (asB h.get? n)) && tabsB h.get? tf (frT h.get? (asB h.get? n))) = valX fn [] w := congrArg (fun z : AlB => z.1) e
  have e1 : obsT fa fn [] (frT h.get? (asB h.get? n)) = valT fn [] w := congrArg (fun z : AlX => z.1) e0
  have e2 : (ex (frT h.get? (asB h.get? n)) && tabsB h.get? tf (frT h.get? (asB h.get? n))) = true := congrArg (fun z : AlX => z.2) e0
  obtain ⟨h1, h2⟩ := ba e2
  have key : ∀ p ∈ tf, PySem.W.codeHdIn (frT h.get? (asB h.get? n)) (cT (frT h.get? (asB h.get? n)) p).1 (cT (frT h.get? (asB h.get? n)) p).2 = true ∧ ∃ o, h.get? (cT (frT h.get? (asB h.get? n)) p).2 = some o ∧ emptyTab o = true := fun p hp => by
    obtain ⟨h3, h4⟩ := ba (List.all_eq_true.mp h2 p hp)
    refine ⟨h3, ?_⟩
    cases q : h.get? (cT (frT h.get? (asB h.get? n)) p).2 with
    | none =>
      rw [q] at h4
      cases h4
    | some o =>
      rw [q] at h4
      exact ⟨o, rfl, h4⟩
  exact ⟨⟨e1, h1, fun p hp => (key p hp).1, fun p hp => by
    obtain ⟨_, o, q, z⟩ := key p hp
    exact frT_none q z, fun p hp => by
    obtain ⟨_, o, q, z⟩ := key p hp
    rw [q, emptyTab_eq z]⟩, congrArg (fun z : AlB => z.2) e⟩
def hookB (n : Nat) (fa : List Fa) (fn : List DefD) (tf : List Defn) (xs : List InD) (ex : PySem.W.Frag → Bool) : PySem.W.Hook where
  α := AlB
  obs := fun s => obsB n fa fn tf xs ex s.heap.get?
  val := fun w => valB fn xs w
  says := fun w h => ∃ K : PySem.W.Frag, K.In h ∧ SaysB fa fn tf xs ex w h K
  of := fun _ _ e => ⟨_, frT_in, saysB_of e⟩
  keeps := fun _ _ _ ⟨K, hK, c⟩ k => ⟨K, PySem.W.Frag.In.keeps hK k, ⟨⟨c.s.t, c.s.more, c.s.hd, c.s.out, fun p hp => k _ _ (c.s.empty p hp)⟩, c.i⟩⟩
theorem obsB_eq {n : Nat} {fa : List Fa} {fn : List DefD} {tf : List Defn} {xs : List InD} {ex : PySem.W.Frag → Bool} {g : Addr → Option Obj} {s : Shared} (h : ∀ a, g a = s.heap.get? a) : obsB n fa fn tf xs ex g = (hookB n fa fn tf xs ex).obs s := by
  have e : g = s.heap.get? := funext h
  rw [e] <;> rfl
/-! ### a class with a line -/
def badB (file : Str) (x : Str) (K : PySem.W.Frag) : Bool := match K.lookup (ma K (ga K x) "__init__") with
  | some ⟨_, _, .func fd, _⟩ => (match fd.closure, fd.code, fd.defaults with
    | [(n, cc)], .ref cda, .none => decide (n = "__class__") && (PySem.W.codeIn K (.ref cda) fd.qualname && ((match K.lookup cda with
        | some ⟨_, _, .fields vs, _⟩ => (match (vs[2]? : Option Value) with
          | some (Value.str f _) => decide (f = file)
          | _ => false)
        | _ => false) && (match K.lookup cc with
        | some ⟨_, _, .cell (some (.ref D)), _⟩ => decide (D = ga K x)
        | _ => false)))
    | _, _, _ => false)
  | _ => false
def badC (x : Str) (K : PySem.W.Frag) : Bool :=
  decide (PySem.W.findIn K (.ref (ga K x)) "__init__" = some (some (.ref (ma K (ga K x) "__init__")))) && (decide (PySem.W.typeIn K (.ref (ma K (ga K x) "__init__")) = some (.type "function")) && (PySem.W.excInitIn K (ga K x) ESX.exTail "Exception.__new__" && (PySem.W.excOver K (ga K x) ESX.exTail &&
  (decide (PySem.W.ks_superIn K (ga K x) (ga K x) "__init__" = some (some (.builtin "Exception.__init__"))) && (decide (PySem.W.findIn K (.ref (ga K x)) "__setattr__" = some (some (.builtin "object.__setattr__"))) && (decide (PySem.W.findIn K (.ref (ga K x)) "line" = some none) &&
  (decide (PySem.W.takerIn K (ga K x) "line" = some none) && (PySem.W.hasDictIn K (ga K x) && (decide (PySem.W.subIn K (.ref (ga K x)) (.type "Exception") = some true) && (decide (PySem.W.subIn K (.ref (ga K x)) (.type "BaseException") = some true) &&
  (decide (PySem.W.mroIn K (ga K x) (.ref (ga K x)) = some true) && (decide (PySem.W.typeIn K (.ref (ga K x)) = some (.type "type")) && (PySem.W.keepIn K (.ref (ga K x)) && (decide (PySem.W.nsIn K cStatics "thirdparty.any" = some none) && decide (PySem.W.nsIn K mainGlobals x = some (some (.ref (ga K x))))))))))))))))))
/-- the handler's three classes -/
def toldB (S B C : Str) (K : PySem.W.Frag) : Bool :=
  decide (PySem.W.findIn K (.ref (ga K B)) "__getattribute__" = some (some (.builtin "BaseException.__getattribute__"))) && (decide (PySem.W.findIn K (.ref (ga K B)) "__getattr__" = some none) && (decide (PySem.W.subIn K (.ref (ga K B)) (.type "BaseException") = some true) && (PySem.W.hasDictIn K (ga K B) &&
  (decide (PySem.W.findIn K (.ref (ga K B)) "__class__" = some (some (.builtin "object.__class__"))) && (decide (PySem.W.specialIn K (.builtin "object.__class__") "__get__" = some (some (.builtin "getset_descriptor.__get__"))) && (decide (PySem.W.takesIn K (.builtin "object.__class__") = some true) &&
  (decide (PySem.W.mroIn K (ga K B) (.type "object") = some true) && (decide (PySem.W.findIn K (.ref (ga K B)) "line" = some none) && (decide (PySem.W.kitOne K (.ref (ga K B)) (.ref (ga K B)) = some true) && (decide (PySem.W.kitOne K (.ref (ga K B)) (.ref (ga K C)) = some false) &&
  (decide (PySem.W.exmOne K (.ref (ga K B)) (.ref (ga K S)) = some true) && (decide (PySem.W.nsIn K mainGlobals B = some (some (.ref (ga K B)))) && (decide (PySem.W.nsIn K mainGlobals S = some (some (.ref (ga K S)))) && decide (PySem.W.nsIn K mainGlobals C = some (some (.ref (ga K C)))))))))))))))))
theorem told_ok {S B C : Str} {K : PySem.W.Frag} {h : Heap} {mg : Str → Option Value} (X : K.In h) (G : h.Ns mainGlobals mg) (e : toldB S B C K = true) : Dv.ToldT K mg S B C := by
  unfold toldB at e
  simp only [Bool.and_eq_true, decide_eq_true_eq] at e
  obtain ⟨e1, e2, e3, e4, e5, e6, e7, e8, e9, e10, e11, e12, e13, e14, e15⟩ := e
  exact ⟨ga K B, ga K S, ga K C, PySem.W.mg_of X G e13, PySem.W.mg_of X G e14, PySem.W.mg_of X G e15, ⟨e1, e2, e3, e4, e5, e6, e7, e8⟩, ⟨e1, e2, e3, e4⟩, e9, e10, e11, e12⟩
theorem bad_ok {P : Program} {K : PySem.W.Frag} {h : Heap} {mg : Str → Option Value} {x qual file : Str} {params : Arguments} {m1 m2 : Str} {p0 p1 p2 q1 q2 q3 q4 q5 q6 q7 r0 r1 r2 r3 : Pos} {j1 j2 : Nat} {scope : Scope} (pl : PySem.Env → Sem Bool) {ar : Arg} (X : K.In h) (G : h.Ns mainGlobals mg)
    (hi : inW K x = InD.val ⟨x, qual, params, XcL.lineBody m1 m2 p0 p1 p2 q1 q2 q3 q4 q5 q6 q7 r0 r1 r2 r3 j1 j2, scope⟩) (e1 : badB file x K = true) (e2 : badC x K = true)
    (bind : ∀ (s : Shared) (u v : Value) (fd : FuncData), fd.params = params → fd.defaults = .none → BindsTo s fd ⟨[u, v], []⟩ [("self", u), ("line", v)])
    (ks : scope.names.lookup ("super" : Str) = some .globalImplicit) (kc : scope.names.lookup ("__class__" : Str) = some .free) (kse : scope.names.lookup ("self" : Str) = some .local) (kl : scope.names.lookup ("line" : Str) = some .local) (kind : scope.kind = .function) (cells : ∀ x ∈ scope.names, x.2 ≠ .cell)
    (co : scope.isCoroutine = false) (gen : scope.isGenerator = false) (hp : (params.posonlyargs ++ params.args).head? = some ar) (har : ar.arg = "self") (hfile : ((P.main.file : Str) == file) = true) (top : (P.main.scope.names.lookup ("super" : Str)).isSome = false)
    (he : ∀ env : PySem.Env, eval (.Call (.Attribute (.Call (.Name "super" p0) [] [] p1) "__init__" p2) [.JoinedStr [.Constant (.str m1) j1 q1, .FormattedValue (.Name "line" q2) (-1) none q3, .Constant (.str m2) j2 q4] q5] [] q6) env = (do
      let ov ← attributeBase (.Call (.Name "super" p0) [] [] p1) "__init__" env (eval (.Call (.Name "super" p0) [] [] p1) env)
      standAt p2.atName
      let (f, first) ← holding [ov] (getMethod ov "__init__" (pl env))
      callWith q6 f first (backTo q6 (starEach [.JoinedStr [.Constant (.str m1) j1 q1, .FormattedValue (.Name "line" q2) (-1) none q3, .Constant (.str m2) j2 q4] q5] env)) []))
    (z1 : m1.length ≤ 1000) (z2 : m2.length ≤ 1000) (msup : mg "super" = none) : XcL.BadT P K mg x := by
  unfold badC at e2
  simp only [Bool.and_eq_true, decide_eq_true_eq] at e2
  obtain ⟨c1, c2, c3, c4, c5, c6, c7, c8, c9, c10, c11, c12, c13, c14, c15, c16⟩ := e2
  unfold inW InD.val at hi
  unfold badB at e1
  cases lk : K.lookup (ma K (ga K x) "__init__") with
  | none => rw [lk] at e1; cases e1
  | some o =>
    obtain ⟨oc, od, dt, osl⟩ := o
    rw [lk] at e1 hi
    cases dt with
    | func fd =>
      obtain ⟨n1, n2, n3, n4, n5, n6, n7, n8, n9, n10, n11, n12, n13, n14, n15⟩ := fd
      have hi2 : (some (n1, n2, n3, n4, n5, n6, n15) : FnI) = (some (("__init__" : Str), qual, params, FuncBody.stmts (XcL.lineBody m1 m2 p0 p1 p2 q1 q2 q3 q4 q5 q6 q7 r0 r1 r2 r3 j1 j2), scope, mainGlobals, builtinsNs) : FnI) := hi
      simp only [Option.some.injEq, Prod.mk.injEq] at hi2
      obtain ⟨h1, h2, h3, h4, h5, h6, h7⟩ := hi2
      subst h1 h2 h3 h4 h5 h6 h7
      dsimp only at e1
      split at e1
      · rename_i n cc cda
        simp only [Bool.and_eq_true, decide_eq_true_eq] at e1
        obtain ⟨rfl, b1, b2, b3⟩ := e1
        refine ⟨ga K x, ma K (ga K x) "__init__", cda, cc, n3, m1, m2, p0, p1, p2, q1, q2, q3, q4, q5, q6, q7, r0, r1, r2, r3, j1, j2, n5, n2, file, pl, ar, PySem.W.mg_of X G c16, ⟨⟨⟨oc, od, .none, n9, n10, n11, n12, n14, osl, lk⟩, b1, ?_, ?_, c1, c2, c3, c4, c5, c6, c7, c8, c9, c10, c11, c12, c13, c14, c15⟩,
          fun oc' od' dV kV doc pm an ct osl' lk' => ?_, bind, ks, kc, kse, kl, kind, cells, co, gen, hp, har, hfile, top, he, z1, z2, msup⟩⟩
        · split at b2
          · rename_i cls d vs sl hcl
            split at b2
            · rename_i f tf hv
              rw [of_decide_eq_true b2] at hv
              exact ⟨_, _, vs, _, tf, hcl, hv⟩
            · cases b2
          · cases b2
        · split at b3
          · rename_i cls d D sl hcl
            rw [of_decide_eq_true b3] at hcl
            exact ⟨_, _, _, hcl⟩
          · cases b3
        · rw [lk] at lk'
          cases lk'
          rfl
      · cases e1
    | _ => cases e1
end HeB
end
section
set_option Elab.async false
set_option linter.all false
set_option maxRecDepth 100000
set_option maxHeartbeats 2000000
/-! The end: from what the law's def computes to the statement. -/
namespace HeB
open PySem PySem.Spec PyProof.Rows L2 GxR He Dv
/-- a def of the text, found by its place -/
def dd (top : Nat → Stmt) (x : Str) (i : Nat) : DefD := ⟨(x, none), x, x, defArgs (top i), defBody (top i), defScope (top i), [], []⟩
section
variable {fa : List Fa} {fn : List DefD} {tf : List Defn} {xs : List InD} {ex : PySem.W.Frag → Bool} {w : World} {h : Heap} {K : PySem.W.Frag} {mg : Str → Option Value}
theorem df_ok {top : Nat → Stmt} (X : K.In h) (G : h.Ns mainGlobals mg) (c : SaysB fa fn tf xs ex w h K) {x : Str} {i : Nat} {ps : List Str} (hd : dd top x i ∈ fn) (hg : Fa.glo x ∈ fa)
    (hb : ∀ (kV doc pm : Value) (an : Option Addr) (cdv ct : Value) (us : List Value), us.length = ps.length → bindArgs (PySem.W.fnOf x x (defArgs (top i)) (defBody (top i)) (defScope (top i)) .none kV doc pm an cdv ct) ⟨us, []⟩ = pure (ps.zip us)) :
    ∃ fd, Df K mg x ps (top i) (ga K x) fd ∧ (((x, none) : Defn) ∈ tf → fd.code = .ref (cT K (x, none)).1) := by
  obtain ⟨fd, F⟩ := c.s.t.d.defs hd
  refine ⟨fd, ⟨F, He.glo_ok X G (c.s.t.d.facts hg), FunD.bindsN F hb⟩, fun _ => ?_⟩
  obtain ⟨oc, od, dV, kV, doc, pm, an, cdv, ct, osl, e, lk, hcd, _⟩ := F.ex
  obtain ⟨cc, hcc⟩ := codeIn_ref hcd
  have e2 : fd.code = .ref cc := by rw [e, ← hcc] <;> rfl
  rw [e2]
  have e3 := codeOf_eq (p := (x, none)) lk e2
  show Value.ref cc = .ref (codeOf K (x, none))
  rw [e3]
theorem tb_ok {base : Heap} {x : Str} {fd : FuncData} (hx : ((x, none) : Defn) ∈ tf) (hc : ((x, none) : Defn) ∈ tf → fd.code = .ref (cT K (x, none)).1) (TB : ∀ p ∈ tf.map (cT K), TabB base mg p.1 p.2) : Tb base mg ((tf.map (cT K)).map (·.2)) fd (cT K (x, none)).1 (cT K (x, none)).2 :=
  ⟨hc hx, TB _ (List.mem_map.mpr ⟨_, hx, rfl⟩), List.mem_map.mpr ⟨_, List.mem_map.mpr ⟨_, hx, rfl⟩, rfl⟩⟩
theorem law_sp {cs : List (Addr × Addr)} {bor : List Nat} {G : Dv.Env → Out D} (hbor : ∀ j ∈ bor, j < 1) {H : Hp} {a : Addr} {ns : List Int} (hG : ∃ ρ', G [some (.scr ns)] = .ok (.bl true) ρ') (hT : ∀ p ∈ cs, H p.2 = some (.tbl #[])) (hS : SqL K H a (ns.map V.int)) :
    spD K mg (cs.map (·.2)) bor 1 G [.ref a] H (fun v _ => v = .bl true) fun _ _ _ => False := by
  obtain ⟨ρ', hG⟩ := hG
  have hTs : ∀ P ∈ cs.map (·.2), H P = some (.tbl #[]) := fun P hP => by
    obtain ⟨p, hp, rfl⟩ := List.mem_map.mp hP
    exact hT p hp
  let F : Hp := fun b => if b ∈ cs.map (·.2) then none else H b
  have sF : Sub F H := fun b o e => by
    by_cases hb : b ∈ cs.map (·.2)
    · rw [show F b = none from if_pos hb] at e; cases e
    · rw [show F b = H b from if_neg hb] at e; exact e
  have hSF : SqL K F a (ns.map V.int) := by
    rcases hS with (h | ⟨o, h⟩) | h
    · have na : a ∉ cs.map (·.2) := fun z => by rw [hTs a z] at h; cases h
      exact .inl (.inl ((if_neg na).trans h))
    · have na : a ∉ cs.map (·.2) := fun z => by rw [hTs a z] at h; cases h
      exact .inl (.inr ⟨o, (if_neg na).trans h⟩)
    · exact .inr h
  refine ⟨rfl, [some (.scr ns)], F, fun _ => none, fun _ => False, ⟨sF, rfl, fun i d e => ?_, fun i b e => (nomatch e), fun i j b e => (nomatch e), fun b e => e.elim, fun q hq => ?_, fun P hP => ?_⟩, ?_⟩
  · cases i with
    | zero =>
      have e2 : d = .scr ns := by simpa using e.symm
      subst e2
      exact ⟨.ref a, rfl, .of (by unfold Frz; exact ⟨a, rfl, hSF⟩)⟩
    | succ i => simp at e
  · obtain ⟨j, hj, rfl⟩ := List.mem_map.mp hq
    have : j = 0 := by have := hbor j hj; omega
    subst this
    rfl
  · refine ⟨⟨#[], hTs P hP, ?_⟩, if_pos hP, fun z => z⟩
    first | trivial | (intro x hx; cases hx) | simp [TriplesOk]
  · rw [hG]
    intro v F' H' fp' fd A' fw o n
    have z := (o.flat rfl).2
    unfold Frz at z
    exact z
theorem law_at {l : PySem.W.OpenLaw} {k n : Nat} {x : Str} {fA : Addr} {fd : FuncData} {bor : List Nat} {G : Dv.Env → Out D} (X : K.In h) (c : SaysB fa fn tf xs ex w h K) (hbor : ∀ j ∈ bor, j < 1) (hb : ∀ (s : Shared) (u : Value), BindsTo s fd ⟨[u], []⟩ [(x, u)])
    (hG : ∀ ns : List Int, ns.length ≤ n → (∀ z ∈ ns, Builtin.Int.intBits z ≤ 1048576) → ∃ ρ', G [some (.scr ns)] = .ok (.bl true) ρ')
    (F : ∀ base : Heap, K.In base → base.Ns mainGlobals mg → (∀ p ∈ tf.map (cT K), TabB base mg p.1 p.2) → FnOk l.prog w K mg base (L2.CX l.prog w) k fA fd [x] (spD K mg ((tf.map (cT K)).map (·.2)) bor 1 G)) : LamX.LawAtS l w K (L2.CX l.prog w) k n x mg fA h := by
  refine ⟨fd, tf.map (cT K), spD K mg ((tf.map (cT K)).map (·.2)) bor 1 G, fun p hp => ?_, fun p hp => ?_, fun p hp => ?_, hb, fun H a ns hn hz hT hS => law_sp hbor (hG ns hn hz) hT hS, fun base h1 h2 h3 => F base h1 h2 fun p hp => ⟨(h3 p hp).code, (h3 p hp).bm, (h3 p hp).gP⟩⟩
  · obtain ⟨q, hq, rfl⟩ := List.mem_map.mp hp
    exact c.s.empty q hq
  · obtain ⟨q, hq, rfl⟩ := List.mem_map.mp hp
    exact c.s.out q hq
  · obtain ⟨q, hq, rfl⟩ := List.mem_map.mp hp
    exact PySem.W.codeHd_of_K X (c.s.hd q hq)
theorem noexit {P : Program} (w : World) (H : Hp) (s : Shared) (e : Value) (s' : Shared) : L2.CX P w [] H s (fun _ _ _ => False) e s' → False := fun ⟨_, _, _, _, _, _, _, _, _, _, _, _, z⟩ => z
end
end HeB
end
section
set_option Elab.async false
set_option linter.all false
set_option maxRecDepth 100000
set_option maxHeartbeats 0
namespace K60
open PySem PySem.Spec PyProof.Rows L2 GxR GxA Dv XcL
/-! ### the head -/
def fn : List He.DefD := [HeB.dd top "_law_pool" 23, HeB.dd top "_law_spread" 24, HeB.dd top "_law_draw" 25, HeB.dd top "_law_tastes" 29, HeB.dd top "_law_tastes_text" 30, HeB.dd top "_law_same" 22, HeB.dd top "_law_pick" 26, HeB.dd top "_law_bent_text" 27, HeB.dd top "write_tastes" 17, HeB.dd top "is_numeral" 5, HeB.dd top "is_number" 18, HeB.dd top "row_told" 19, HeB.dd top "is_integer" 7, HeB.dd top "is_row" 8, HeB.dd top "is_row_within" 9, HeB.dd top "is_tastes" 14, HeB.dd top "read_tastes" 20, HeB.dd top "_law_told" 34, HeB.dd top "_law_is_numeral" 28, HeB.dd top "_law_row_told" 31, HeB.dd top "_law_are_tastes" 32, HeB.dd top "_law_read_tastes" 33, HeB.dd top "law" 35]
def fa : List He.Fa := [.glo "_law_pool", .glo "_law_spread", .glo "_law_draw", .glo "_law_tastes", .glo "_law_tastes_text", .glo "_law_same", .glo "_law_pick", .glo "_law_bent_text", .glo "write_tastes", .glo "is_numeral", .glo "is_number", .glo "row_told", .glo "is_integer", .glo "is_row", .glo "is_row_within", .glo "is_tastes", .glo "read_tastes", .glo "_law_told", .glo "_law_is_numeral", .glo "_law_row_told", .glo "_law_are_tastes", .glo "_law_read_tastes", .glo "law", .free "all", .free "bool", .free "enumerate", .free "int", .free "isinstance", .free "len", .free "list", .free "max", .free "range", .free "str", .free "sum", .free "super", .free "tuple", .int "DIGITS" 4, .int "GREATEST" 1000, .int "MOST_GOODS" 8, .int "MOST_PEOPLE" 5]
def tf : List He.Defn := [("is_numeral", none), ("row_told", none), ("is_row", none), ("is_row_within", none), ("is_tastes", none)]
def xs : List HeB.InD := [⟨"BadText", "BadText.__init__", defArgs (inClass (top 3) 0), defBody (inClass (top 3) 0), defScope (inClass (top 3) 0)⟩]
def ex (K : PySem.W.Frag) : Bool := (HeB.badB "/claim/cut.py" "BadText" K && (HeB.badC "BadText" K && (HeB.toldB "ShareError" "BadText" "NoPlace" K && true)))
abbrev R : PySem.W.OpenRow := PySem.W.OpenLaw.row PySem.Challenge.rw_sharewright_k60_whole_tastes_texts
abbrev hk : PySem.W.Hook := HeB.hookB 4 fa fn tf xs ex
def ob (s : PySem.W.SharedT) : HeB.AlB := HeB.obsB 4 fa fn tf xs ex (HandSHeadRun.getT s)
theorem ob_eq (s : PySem.W.SharedT) : ob s = hk.obs s.abs := HeB.obsB_eq (HandSHeadRun.getT_eq s)
def lo0 : List Str := ["ShareError", "NoPlace", "BadText", "is_numeral", "is_integer", "is_row", "is_row_within", "MOST_PEOPLE", "MOST_GOODS", "GREATEST", "is_tastes", "DIGITS", "write_tastes", "is_number", "row_told", "read_tastes", "_law_same", "_law_pool", "_law_spread", "_law_draw", "_law_pick", "_law_bent_text", "_law_is_numeral", "_law_tastes", "_law_tastes_text", "_law_row_told", "_law_are_tastes", "_law_read_tastes", "_law_told"]
abbrev loose : List Str := ["ShareError", "NoPlace", "BadText", "is_numeral", "is_integer", "is_row", "is_row_within", "MOST_PEOPLE", "MOST_GOODS", "GREATEST", "is_tastes", "DIGITS", "write_tastes", "is_number", "row_told", "read_tastes", "_law_same", "_law_pool", "_law_spread", "_law_draw", "_law_pick", "_law_bent_text", "_law_is_numeral", "_law_tastes", "_law_tastes_text", "_law_row_told", "_law_are_tastes", "_law_read_tastes", "_law_told"]
theorem run (w : World) : HandSHeadRun.RunEq R (PySem.W.view R.prog [35]) hk ob 4000 loose w := by
  intro os
  kernel_rfl
theorem facts {w : World} {K : PySem.W.Frag} {h : Heap} {mg : Str → Option Value} (X : K.In h) (G : h.Ns mainGlobals mg) (c : HeB.SaysB fa fn tf xs ex w h K) : ∃ fd : FuncData, (∀ (s : Shared) (v : Value), BindsTo s fd ⟨[v], []⟩ [("script", v)]) ∧ mg "law" = some (.ref (He.ga K "law")) ∧
    ∀ base : Heap, K.In base → base.Ns mainGlobals mg → (∀ p ∈ tf.map (He.cT K), TabB base mg p.1 p.2) → FnD R.prog w K mg base ((tf.map (He.cT K)).map (·.2)) 84 (He.ga K "law") fd ["script"] [0] (G_law) := by
  obtain ⟨fd__law_pool, d__law_pool, h__law_pool⟩ := HeB.df_ok (ps := ["script"]) X G c (List.mem_of_getElem? (show fn[0]? = some (HeB.dd top "_law_pool" 23) from rfl)) (List.mem_of_getElem? (show fa[0]? = some _ from rfl)) fun _ _ _ _ _ _ us hl => match us, hl with | [_], _ => rfl
  obtain ⟨fd__law_spread, d__law_spread, h__law_spread⟩ := HeB.df_ok (ps := ["cell"]) X G c (List.mem_of_getElem? (show fn[1]? = some (HeB.dd top "_law_spread" 24) from rfl)) (List.mem_of_getElem? (show fa[1]? = some _ from rfl)) fun _ _ _ _ _ _ us hl => match us, hl with | [_], _ => rfl
  obtain ⟨fd__law_draw, d__law_draw, h__law_draw⟩ := HeB.df_ok (ps := ["pool", "many"]) X G c (List.mem_of_getElem? (show fn[2]? = some (HeB.dd top "_law_draw" 25) from rfl)) (List.mem_of_getElem? (show fa[2]? = some _ from rfl)) fun _ _ _ _ _ _ us hl => match us, hl with | [_, _], _ => rfl
  obtain ⟨fd__law_tastes, d__law_tastes, h__law_tastes⟩ := HeB.df_ok (ps := ["pool", "people", "goods", "least", "most"]) X G c (List.mem_of_getElem? (show fn[3]? = some (HeB.dd top "_law_tastes" 29) from rfl)) (List.mem_of_getElem? (show fa[3]? = some _ from rfl)) fun _ _ _ _ _ _ us hl => match us, hl with | [_, _, _, _, _], _ => rfl
  obtain ⟨fd__law_tastes_text, d__law_tastes_text, h__law_tastes_text⟩ := HeB.df_ok (ps := ["tastes"]) X G c (List.mem_of_getElem? (show fn[4]? = some (HeB.dd top "_law_tastes_text" 30) from rfl)) (List.mem_of_getElem? (show fa[4]? = some _ from rfl)) fun _ _ _ _ _ _ us hl => match us, hl with | [_], _ => rfl
  obtain ⟨fd__law_same, d__law_same, h__law_same⟩ := HeB.df_ok (ps := ["actual", "due"]) X G c (List.mem_of_getElem? (show fn[5]? = some (HeB.dd top "_law_same" 22) from rfl)) (List.mem_of_getElem? (show fa[5]? = some _ from rfl)) fun _ _ _ _ _ _ us hl => match us, hl with | [_, _], _ => rfl
  obtain ⟨fd__law_pick, d__law_pick, h__law_pick⟩ := HeB.df_ok (ps := ["pool", "items"]) X G c (List.mem_of_getElem? (show fn[6]? = some (HeB.dd top "_law_pick" 26) from rfl)) (List.mem_of_getElem? (show fa[6]? = some _ from rfl)) fun _ _ _ _ _ _ us hl => match us, hl with | [_, _], _ => rfl
  obtain ⟨fd__law_bent_text, d__law_bent_text, h__law_bent_text⟩ := HeB.df_ok (ps := ["pool", "text", "signs"]) X G c (List.mem_of_getElem? (show fn[7]? = some (HeB.dd top "_law_bent_text" 27) from rfl)) (List.mem_of_getElem? (show fa[7]? = some _ from rfl)) fun _ _ _ _ _ _ us hl => match us, hl with | [_, _, _], _ => rfl
  obtain ⟨fd_write_tastes, d_write_tastes, h_write_tastes⟩ := HeB.df_ok (ps := ["tastes"]) X G c (List.mem_of_getElem? (show fn[8]? = some (HeB.dd top "write_tastes" 17) from rfl)) (List.mem_of_getElem? (show fa[8]? = some _ from rfl)) fun _ _ _ _ _ _ us hl => match us, hl with | [_], _ => rfl
  obtain ⟨fd_is_numeral, d_is_numeral, h_is_numeral⟩ := HeB.df_ok (ps := ["text", "digits"]) X G c (List.mem_of_getElem? (show fn[9]? = some (HeB.dd top "is_numeral" 5) from rfl)) (List.mem_of_getElem? (show fa[9]? = some _ from rfl)) fun _ _ _ _ _ _ us hl => match us, hl with | [_, _], _ => rfl
  obtain ⟨fd_is_number, d_is_number, h_is_number⟩ := HeB.df_ok (ps := ["word"]) X G c (List.mem_of_getElem? (show fn[10]? = some (HeB.dd top "is_number" 18) from rfl)) (List.mem_of_getElem? (show fa[10]? = some _ from rfl)) fun _ _ _ _ _ _ us hl => match us, hl with | [_], _ => rfl
  obtain ⟨fd_row_told, d_row_told, h_row_told⟩ := HeB.df_ok (ps := ["line"]) X G c (List.mem_of_getElem? (show fn[11]? = some (HeB.dd top "row_told" 19) from rfl)) (List.mem_of_getElem? (show fa[11]? = some _ from rfl)) fun _ _ _ _ _ _ us hl => match us, hl with | [_], _ => rfl
  obtain ⟨fd_is_integer, d_is_integer, h_is_integer⟩ := HeB.df_ok (ps := ["value"]) X G c (List.mem_of_getElem? (show fn[12]? = some (HeB.dd top "is_integer" 7) from rfl)) (List.mem_of_getElem? (show fa[12]? = some _ from rfl)) fun _ _ _ _ _ _ us hl => match us, hl with | [_], _ => rfl
  obtain ⟨fd_is_row, d_is_row, h_is_row⟩ := HeB.df_ok (ps := ["value", "length"]) X G c (List.mem_of_getElem? (show fn[13]? = some (HeB.dd top "is_row" 8) from rfl)) (List.mem_of_getElem? (show fa[13]? = some _ from rfl)) fun _ _ _ _ _ _ us hl => match us, hl with | [_, _], _ => rfl
  obtain ⟨fd_is_row_within, d_is_row_within, h_is_row_within⟩ := HeB.df_ok (ps := ["value", "length", "low", "high"]) X G c (List.mem_of_getElem? (show fn[14]? = some (HeB.dd top "is_row_within" 9) from rfl)) (List.mem_of_getElem? (show fa[14]? = some _ from rfl)) fun _ _ _ _ _ _ us hl => match us, hl with | [_, _, _, _], _ => rfl
  obtain ⟨fd_is_tastes, d_is_tastes, h_is_tastes⟩ := HeB.df_ok (ps := ["value"]) X G c (List.mem_of_getElem? (show fn[15]? = some (HeB.dd top "is_tastes" 14) from rfl)) (List.mem_of_getElem? (show fa[15]? = some _ from rfl)) fun _ _ _ _ _ _ us hl => match us, hl with | [_], _ => rfl
  obtain ⟨fd_read_tastes, d_read_tastes, h_read_tastes⟩ := HeB.df_ok (ps := ["text"]) X G c (List.mem_of_getElem? (show fn[16]? = some (HeB.dd top "read_tastes" 20) from rfl)) (List.mem_of_getElem? (show fa[16]? = some _ from rfl)) fun _ _ _ _ _ _ us hl => match us, hl with | [_], _ => rfl
  obtain ⟨fd__law_told, d__law_told, h__law_told⟩ := HeB.df_ok (ps := ["text"]) X G c (List.mem_of_getElem? (show fn[17]? = some (HeB.dd top "_law_told" 34) from rfl)) (List.mem_of_getElem? (show fa[17]? = some _ from rfl)) fun _ _ _ _ _ _ us hl => match us, hl with | [_], _ => rfl
  obtain ⟨fd__law_is_numeral, d__law_is_numeral, h__law_is_numeral⟩ := HeB.df_ok (ps := ["text", "digits"]) X G c (List.mem_of_getElem? (show fn[18]? = some (HeB.dd top "_law_is_numeral" 28) from rfl)) (List.mem_of_getElem? (show fa[18]? = some _ from rfl)) fun _ _ _ _ _ _ us hl => match us, hl with | [_, _], _ => rfl
  obtain ⟨fd__law_row_told, d__law_row_told, h__law_row_told⟩ := HeB.df_ok (ps := ["line"]) X G c (List.mem_of_getElem? (show fn[19]? = some (HeB.dd top "_law_row_told" 31) from rfl)) (List.mem_of_getElem? (show fa[19]? = some _ from rfl)) fun _ _ _ _ _ _ us hl => match us, hl with | [_], _ => rfl
  obtain ⟨fd__law_are_tastes, d__law_are_tastes, h__law_are_tastes⟩ := HeB.df_ok (ps := ["value"]) X G c (List.mem_of_getElem? (show fn[20]? = some (HeB.dd top "_law_are_tastes" 32) from rfl)) (List.mem_of_getElem? (show fa[20]? = some _ from rfl)) fun _ _ _ _ _ _ us hl => match us, hl with | [_], _ => rfl
  obtain ⟨fd__law_read_tastes, d__law_read_tastes, h__law_read_tastes⟩ := HeB.df_ok (ps := ["text"]) X G c (List.mem_of_getElem? (show fn[21]? = some (HeB.dd top "_law_read_tastes" 33) from rfl)) (List.mem_of_getElem? (show fa[21]? = some _ from rfl)) fun _ _ _ _ _ _ us hl => match us, hl with | [_], _ => rfl
  obtain ⟨fd_law, d_law, h_law⟩ := HeB.df_ok (ps := ["script"]) X G c (List.mem_of_getElem? (show fn[22]? = some (HeB.dd top "law" 35) from rfl)) (List.mem_of_getElem? (show fa[22]? = some _ from rfl)) fun _ _ _ _ _ _ us hl => match us, hl with | [_], _ => rfl
  have n_all := He.free_ok X G (c.s.t.d.facts (f := .free "all") (List.mem_of_getElem? (show fa[23]? = some _ from rfl)))
  have n_bool := He.free_ok X G (c.s.t.d.facts (f := .free "bool") (List.mem_of_getElem? (show fa[24]? = some _ from rfl)))
  have n_enumerate := He.free_ok X G (c.s.t.d.facts (f := .free "enumerate") (List.mem_of_getElem? (show fa[25]? = some _ from rfl)))
  have n_int := He.free_ok X G (c.s.t.d.facts (f := .free "int") (List.mem_of_getElem? (show fa[26]? = some _ from rfl)))
  have n_isinstance := He.free_ok X G (c.s.t.d.facts (f := .free "isinstance") (List.mem_of_getElem? (show fa[27]? = some _ from rfl)))
  have n_len := He.free_ok X G (c.s.t.d.facts (f := .free "len") (List.mem_of_getElem? (show fa[28]? = some _ from rfl)))
  have n_list := He.free_ok X G (c.s.t.d.facts (f := .free "list") (List.mem_of_getElem? (show fa[29]? = some _ from rfl)))
  have n_max := He.free_ok X G (c.s.t.d.facts (f := .free "max") (List.mem_of_getElem? (show fa[30]? = some _ from rfl)))
  have n_range := He.free_ok X G (c.s.t.d.facts (f := .free "range") (List.mem_of_getElem? (show fa[31]? = some _ from rfl)))
  have n_str := He.free_ok X G (c.s.t.d.facts (f := .free "str") (List.mem_of_getElem? (show fa[32]? = some _ from rfl)))
  have n_sum := He.free_ok X G (c.s.t.d.facts (f := .free "sum") (List.mem_of_getElem? (show fa[33]? = some _ from rfl)))
  have n_super := He.free_ok X G (c.s.t.d.facts (f := .free "super") (List.mem_of_getElem? (show fa[34]? = some _ from rfl)))
  have n_tuple := He.free_ok X G (c.s.t.d.facts (f := .free "tuple") (List.mem_of_getElem? (show fa[35]? = some _ from rfl)))
  have g_DIGITS := He.int_ok X G (c.s.t.d.facts (f := .int "DIGITS" 4) (List.mem_of_getElem? (show fa[36]? = some _ from rfl)))
  have g_GREATEST := He.int_ok X G (c.s.t.d.facts (f := .int "GREATEST" 1000) (List.mem_of_getElem? (show fa[37]? = some _ from rfl)))
  have g_MOST_GOODS := He.int_ok X G (c.s.t.d.facts (f := .int "MOST_GOODS" 8) (List.mem_of_getElem? (show fa[38]? = some _ from rfl)))
  have g_MOST_PEOPLE := He.int_ok X G (c.s.t.d.facts (f := .int "MOST_PEOPLE" 5) (List.mem_of_getElem? (show fa[39]? = some _ from rfl)))
  have hex := c.s.more
  unfold ex at hex
  simp only [Bool.and_eq_true, decide_eq_true_eq, and_true] at hex
  obtain ⟨xb_BadText, xc_BadText, yt_BadText⟩ := hex
  have xi_BadText := congrArg (fun l : List HeB.FnI => l[0]?) c.i
  have x_BadText : XcL.BadT R.prog K mg "BadText" := HeB.bad_ok (fun _ => _) X G (Option.some.inj xi_BadText) xb_BadText xc_BadText (fun s u v fd h1 h2 => by obtain ⟨_, _, _, _, _, _, _, _, _, _, _, _, _, _, _⟩ := fd; dsimp only at h1 h2; subst h1 h2; exact .of_eq rfl) rfl rfl rfl rfl rfl (by decide +kernel) rfl rfl rfl rfl rfl rfl (fun _ => rfl) (by decide) (by decide) n_super
  have y_BadText := HeB.told_ok X G yt_BadText
  refine ⟨fd_law, fun s v => FunD.bindsA (ps := ["script"]) d_law.F (fun _ _ _ _ _ _ us hl => match us, hl with | [_], _ => rfl) s [v] rfl, d_law.m, fun base hKb hGb TB => ?_⟩
  have o__law_pool := ok__law_pool (P := R.prog) (w := w) (base := base) (tabs := (tf.map (He.cT K)).map (·.2)) d__law_pool n_int n_list
  have o__law_spread := ok__law_spread (P := R.prog) (w := w) (base := base) (tabs := (tf.map (He.cT K)).map (·.2)) d__law_spread n_int n_range
  have o__law_draw := ok__law_draw (P := R.prog) (w := w) (base := base) (tabs := (tf.map (He.cT K)).map (·.2)) d__law_draw n_int n_len d__law_spread o__law_spread
  have o__law_tastes := ok__law_tastes (P := R.prog) (w := w) (base := base) (tabs := (tf.map (He.cT K)).map (·.2)) d__law_tastes n_range n_sum n_tuple d__law_draw o__law_draw
  have o__law_tastes_text := ok__law_tastes_text (P := R.prog) (w := w) (base := base) (tabs := (tf.map (He.cT K)).map (·.2)) d__law_tastes_text n_str
  have o__law_same := ok__law_same (P := R.prog) (w := w) (base := base) (tabs := (tf.map (He.cT K)).map (·.2)) d__law_same n_bool n_int n_isinstance n_len n_list n_range n_str n_tuple 40
  have o__law_pick := ok__law_pick (P := R.prog) (w := w) (base := base) (tabs := (tf.map (He.cT K)).map (·.2)) d__law_pick n_len d__law_draw o__law_draw
  have o__law_bent_text := ok__law_bent_text (P := R.prog) (w := w) (base := base) (tabs := (tf.map (He.cT K)).map (·.2)) d__law_bent_text n_len d__law_draw o__law_draw d__law_pick o__law_pick
  have o_write_tastes := ok_write_tastes (P := R.prog) (w := w) (base := base) (tabs := (tf.map (He.cT K)).map (·.2)) d_write_tastes n_str
  have t_is_numeral : Tb base mg ((tf.map (He.cT K)).map (·.2)) fd_is_numeral _ _ := HeB.tb_ok (List.mem_of_getElem? (show tf[0]? = some _ from rfl)) h_is_numeral TB
  have o_is_numeral := ok_is_numeral (P := R.prog) (w := w) (base := base) (tabs := (tf.map (He.cT K)).map (·.2)) d_is_numeral t_is_numeral n_all n_len
  have o_is_number := ok_is_number (P := R.prog) (w := w) (base := base) (tabs := (tf.map (He.cT K)).map (·.2)) d_is_number g_DIGITS d_is_numeral o_is_numeral
  have t_row_told : Tb base mg ((tf.map (He.cT K)).map (·.2)) fd_row_told _ _ := HeB.tb_ok (List.mem_of_getElem? (show tf[1]? = some _ from rfl)) h_row_told TB
  have o_row_told := ok_row_told (P := R.prog) (w := w) (base := base) (tabs := (tf.map (He.cT K)).map (·.2)) d_row_told t_row_told n_all n_int n_tuple d_is_number o_is_number
  have o_is_integer := ok_is_integer (P := R.prog) (w := w) (base := base) (tabs := (tf.map (He.cT K)).map (·.2)) d_is_integer n_bool n_int n_isinstance
  have t_is_row : Tb base mg ((tf.map (He.cT K)).map (·.2)) fd_is_row _ _ := HeB.tb_ok (List.mem_of_getElem? (show tf[2]? = some _ from rfl)) h_is_row TB
  have o_is_row := ok_is_row (P := R.prog) (w := w) (base := base) (tabs := (tf.map (He.cT K)).map (·.2)) d_is_row t_is_row n_all n_isinstance n_len n_tuple d_is_integer o_is_integer
  have t_is_row_within : Tb base mg ((tf.map (He.cT K)).map (·.2)) fd_is_row_within _ _ := HeB.tb_ok (List.mem_of_getElem? (show tf[3]? = some _ from rfl)) h_is_row_within TB
  have o_is_row_within := ok_is_row_within (P := R.prog) (w := w) (base := base) (tabs := (tf.map (He.cT K)).map (·.2)) d_is_row_within t_is_row_within n_all d_is_row o_is_row
  have t_is_tastes : Tb base mg ((tf.map (He.cT K)).map (·.2)) fd_is_tastes _ _ := HeB.tb_ok (List.mem_of_getElem? (show tf[4]? = some _ from rfl)) h_is_tastes TB
  have o_is_tastes := ok_is_tastes (P := R.prog) (w := w) (base := base) (tabs := (tf.map (He.cT K)).map (·.2)) d_is_tastes t_is_tastes n_all n_isinstance n_len n_list n_sum n_tuple g_GREATEST g_MOST_GOODS g_MOST_PEOPLE d_is_row_within o_is_row_within
  have o_read_tastes := ok_read_tastes (P := R.prog) (w := w) (base := base) (tabs := (tf.map (He.cT K)).map (·.2)) d_read_tastes n_enumerate n_len n_tuple x_BadText d_row_told o_row_told d_is_tastes o_is_tastes
  have o__law_told := ok__law_told (P := R.prog) (w := w) (base := base) (tabs := (tf.map (He.cT K)).map (·.2)) d__law_told n_isinstance y_BadText d_read_tastes o_read_tastes
  have o__law_is_numeral := ok__law_is_numeral (P := R.prog) (w := w) (base := base) (tabs := (tf.map (He.cT K)).map (·.2)) d__law_is_numeral n_len
  have o__law_row_told := ok__law_row_told (P := R.prog) (w := w) (base := base) (tabs := (tf.map (He.cT K)).map (·.2)) d__law_row_told n_int n_len n_tuple d__law_is_numeral o__law_is_numeral
  have o__law_are_tastes := ok__law_are_tastes (P := R.prog) (w := w) (base := base) (tabs := (tf.map (He.cT K)).map (·.2)) d__law_are_tastes n_len n_list n_max n_sum
  have o__law_read_tastes := ok__law_read_tastes (P := R.prog) (w := w) (base := base) (tabs := (tf.map (He.cT K)).map (·.2)) d__law_read_tastes n_len n_range n_tuple d__law_row_told o__law_row_told d__law_are_tastes o__law_are_tastes
  have o_law := ok_law (P := R.prog) (w := w) (base := base) (tabs := (tf.map (He.cT K)).map (·.2)) d_law n_range d__law_pool o__law_pool d__law_draw o__law_draw d__law_tastes o__law_tastes d__law_tastes_text o__law_tastes_text d_write_tastes o_write_tastes d__law_told o__law_told d__law_same o__law_same d__law_bent_text o__law_bent_text d__law_read_tastes o__law_read_tastes
  exact o_law
end K60
end
section
set_option Elab.async false
set_option linter.all false
set_option maxRecDepth 100000
namespace Dv
open PySem PySem.Spec PyProof.Rows L2 GxR GxA XcL
/-! ### to run the plain meaning -/
def Flow.thn (f : Flow) (g : Env → Flow) : Flow := match f with
  | .next ρ' => g ρ'
  | x => x
@[simp] theorem thn_next (ρ : Env) (g : Env → Flow) : (Flow.next ρ).thn g = g ρ := rfl
@[simp] theorem thn_ret (d : D) (ρ : Env) (g : Env → Flow) : (Flow.ret d ρ).thn g = .ret d ρ := rfl
@[simp] theorem thn_exc (c : Str) (d : D) (ρ : Env) (g : Env → Flow) : (Flow.exc c d ρ).thn g = .exc c d ρ := rfl
theorem thn_nextK (f : Flow) : f.thn (fun ρ => .next ρ) = f := by cases f <;> rfl
def Out.sif (o : Out Bool) (f g : Env → Flow) : Flow := o.fl fun b ρ' => if b = true then f ρ' else g ρ'
def Out.eif (o : Out Bool) (f g : Env → Out D) : Out D := o.bind fun b ρ1 => if b = true then f ρ1 else g ρ1
def Out.band (o : Out Bool) (g : Env → Out Bool) : Out Bool := o.bind fun b ρ1 => if b = true then g ρ1 else .ok false ρ1
def Out.bor (o : Out Bool) (g : Env → Out Bool) : Out Bool := o.bind fun b ρ1 => if b = true then .ok true ρ1 else g ρ1
def Out.eand (o : Out D) (g : Env → Out D) : Out D := o.bind fun d ρ1 => match d with
  | .bl true => g ρ1
  | .bl false => .ok (.bl false) ρ1
  | _ => .bad
def Out.eor (o : Out D) (g : Env → Out D) : Out D := o.bind fun d ρ1 => match d with
  | .bl true => .ok (.bl true) ρ1
  | .bl false => g ρ1
  | _ => .bad
@[simp] theorem sif_ok (b : Bool) (ρ : Env) (f g : Env → Flow) : (Out.ok b ρ).sif f g = if b = true then f ρ else g ρ := rfl
@[simp] theorem eif_ok (b : Bool) (ρ : Env) (f g : Env → Out D) : (Out.ok b ρ).eif f g = if b = true then f ρ else g ρ := rfl
@[simp] theorem band_ok (b : Bool) (ρ : Env) (g : Env → Out Bool) : (Out.ok b ρ).band g = if b = true then g ρ else .ok false ρ := rfl
@[simp] theorem bor_ok (b : Bool) (ρ : Env) (g : Env → Out Bool) : (Out.ok b ρ).bor g = if b = true then .ok true ρ else g ρ := rfl
@[simp] theorem eand_ok (b : Bool) (ρ : Env) (g : Env → Out D) : (Out.ok (.bl b) ρ).eand g = if b = true then g ρ else .ok (.bl false) ρ := by cases b <;> rfl
@[simp] theorem eor_ok (b : Bool) (ρ : Env) (g : Env → Out D) : (Out.ok (.bl b) ρ).eor g = if b = true then .ok (.bl true) ρ else g ρ := by cases b <;> rfl
/-- what a run of statements comes to -/
def FlR (f : Flow) (N : Env → Prop) (R : D → Env → Prop) : Prop := match f with
  | .next ρ => N ρ
  | .ret d ρ => R d ρ
  | _ => False
/-- what a value comes to -/
def OkR (o : Out D) (P : D → Env → Prop) : Prop := match o with
  | .ok d ρ => P d ρ
  | _ => False
section
variable {N : Env → Prop} {R : D → Env → Prop} {P : D → Env → Prop}
@[simp] theorem fl_next (ρ : Env) : FlR (.next ρ) N R = N ρ := rfl
@[simp] theorem fl_ret (d : D) (ρ : Env) : FlR (.ret d ρ) N R = R d ρ := rfl
@[simp] theorem okr_ok (d : D) (ρ : Env) : OkR (.ok d ρ) P = P d ρ := rfl
theorem OkR.get {o : Out D} (h : OkR o P) : ∃ d ρ, o = .ok d ρ ∧ P d ρ := by
  cases o with
  | ok d ρ => exact ⟨d, ρ, rfl, h⟩
  | exc c d ρ => exact h.elim
  | bad => exact h.elim
theorem okr_gOf (n k : Nat) (bor : List Nat) (body : Env → Flow) (ρ : Env) (h : FlR (body (ρ ++ List.replicate k none)) (fun ρ' => P .non (endE n bor ρ')) (fun d ρ' => P d (endE n bor ρ'))) : OkR (gOf n k bor body ρ) P := by
  unfold gOf
  generalize body (ρ ++ List.replicate k none) = f at h ⊢
  cases f with
  | next ρ => exact h
  | ret d ρ => exact h
  | brk ρ => exact h.elim
  | cnt ρ => exact h.elim
  | exc c d ρ => exact h.elim
  | bad => exact h.elim
theorem fl_for {t : Tg} {body g : Env → Flow} (I : Nat → Env → Prop) : ∀ (ds : List D) (k : Nat) (ρ : Env), I k ρ → (∀ i d ρ, ds[i]? = some d → I (k + i) ρ → ∃ ρ1, tgSet t d ρ = some ρ1 ∧ FlR (body ρ1) (I (k + i + 1)) R) → (∀ ρ', I (k + ds.length) ρ' → FlR (g ρ') N R) → FlR ((forL t body ds ρ).thn g) N R
  | [], k, ρ, h, _, hn => hn ρ h
  | d :: ds, k, ρ, h, hs, hn => by
    obtain ⟨ρ1, e1, h1⟩ := hs 0 d ρ rfl h
    have ih : ∀ ρ2, I (k + 1) ρ2 → FlR ((forL t body ds ρ2).thn g) N R := fun ρ2 h2 => fl_for I ds (k + 1) ρ2 h2 (fun i x ρ hx hi => by
      have := hs (i + 1) x ρ (by simpa using hx) (by rw [show k + (i + 1) = k + 1 + i by omega]; exact hi)
      rw [show k + (i + 1) + 1 = k + 1 + i + 1 by omega] at this
      exact this) (fun ρ' h' => hn ρ' (by rw [List.length_cons, show k + (ds.length + 1) = k + 1 + ds.length by omega]; exact h'))
    rw [forL, e1]
    show FlR (Flow.thn (match body ρ1 with
      | .next ρ2 => forL t body ds ρ2
      | .cnt ρ2 => forL t body ds ρ2
      | .brk ρ2 => .next ρ2
      | x => x) g) N R
    generalize body ρ1 = f at h1 ⊢
    cases f with
    | next ρ2 => exact ih ρ2 h1
    | ret d ρ2 => exact h1
    | brk ρ2 => exact h1.elim
    | cnt ρ2 => exact h1.elim
    | exc c d ρ2 => exact h1.elim
    | bad => exact h1.elim
theorem fl_forE {t : Tg} {body : Env → Flow} (I : Nat → Env → Prop) (ds : List D) (k : Nat) (ρ : Env) (h : I k ρ) (hs : ∀ i d ρ, ds[i]? = some d → I (k + i) ρ → ∃ ρ1, tgSet t d ρ = some ρ1 ∧ FlR (body ρ1) (I (k + i + 1)) R) (hn : ∀ ρ', I (k + ds.length) ρ' → N ρ') : FlR (forL t body ds ρ) N R := by
  rw [← thn_nextK (forL t body ds ρ)]
  exact fl_for I ds k ρ h hs hn
end
section
variable {ρ ρ' : Env} {d : D} {i : Nat}
@[simp] theorem v_eC : eC d ρ = .ok d ρ := rfl
@[simp] theorem v_oV (f : Env → Out D) : oV f ρ = (f ρ).bind fun d ρ' => .ok (.val d) ρ' := rfl
@[simp] theorem v_oN : oN i ρ = match ρ[i]? with
  | some (some _) => .ok (.at i) ρ
  | _ => .bad := rfl
@[simp] theorem v_eN : eN i ρ = match ρ[i]? with
  | some (some d) => .ok (frz d) (ρ.set i (some (frz d)))
  | _ => .bad := rfl
@[simp] theorem v_eMv : eMv i ρ = match ρ[i]? with
  | some (some d) => .ok d (ρ.set i none)
  | _ => .bad := rfl
@[simp] theorem v_eFrz (f : Env → Out D) : eFrz f ρ = (f ρ).bind fun d ρ' => .ok (frz d) ρ' := rfl
@[simp] theorem v_eOp2 (g : D → D → Option D) (a b : Env → Out T) : eOp2 g a b ρ = ((a ρ).bind fun t ρ1 => (b ρ1).bind fun u ρ2 => .ok (t, u) ρ2).bind fun tu ρ' => Out.of ((rd tu.1 ρ').bind fun x => (rd tu.2 ρ').bind fun y => g x y) ρ' := rfl
@[simp] theorem v_bOp2 (g : D → D → Option D) (a b : Env → Out T) : bOp2 g a b ρ = ((a ρ).bind fun t ρ1 => (b ρ1).bind fun u ρ2 => .ok (t, u) ρ2).bind fun tu ρ' => Out.of ((rd tu.1 ρ').bind fun x => (rd tu.2 ρ').bind fun y => (g x y).bind isB) ρ' := rfl
@[simp] theorem v_eNeg (f : Env → Out T) : eNeg f ρ = (f ρ).bind fun t ρ' => Out.of ((rd t ρ').bind fun x => match x with | .int i => some (.int (-i)) | _ => none) ρ' := rfl
@[simp] theorem v_bE (f : Env → Out D) : bE f ρ = (f ρ).bind fun d ρ' => Out.of (isB d) ρ' := rfl
@[simp] theorem v_eAnd (f g : Env → Out D) : eAnd f g ρ = (f ρ).eand g := rfl
@[simp] theorem v_eOr (f g : Env → Out D) : eOr f g ρ = (f ρ).eor g := rfl
@[simp] theorem v_eNot (f : Env → Out D) : eNot f ρ = (f ρ).bind fun d ρ1 => match d with
  | .bl b => .ok (.bl (!b)) ρ1
  | _ => .bad := rfl
@[simp] theorem v_eIf (c : Env → Out Bool) (f g : Env → Out D) : eIf c f g ρ = (c ρ).eif f g := rfl
@[simp] theorem v_bAnd (f g : Env → Out Bool) : bAnd f g ρ = (f ρ).band g := rfl
@[simp] theorem v_bOr (f g : Env → Out Bool) : bOr f g ρ = (f ρ).bor g := rfl
@[simp] theorem v_bNot (f : Env → Out Bool) : bNot f ρ = (f ρ).bind fun b ρ1 => .ok (!b) ρ1 := rfl
@[simp] theorem v_bYes : bYes ρ = .ok true ρ := rfl
@[simp] theorem v_eCall (g : List D → Option D) (fs : List (Env → Out T)) : eCall g fs ρ = (argsO fs ρ).bind fun ts ρ' => Out.of ((rdAll ts ρ').bind g) ρ' := rfl
@[simp] theorem v_args0 : argsO [] ρ = .ok [] ρ := rfl
@[simp] theorem v_args1 (f : Env → Out T) (fs : List (Env → Out T)) : argsO (f :: fs) ρ = (f ρ).bind fun t ρ1 => (argsO fs ρ1).bind fun ts ρ2 => .ok (t :: ts) ρ2 := rfl
@[simp] theorem v_of0 {α : Type} : (Out.of (none : Option α) ρ) = .bad := rfl
@[simp] theorem v_of1 {α : Type} (a : α) : (Out.of (some a) ρ) = .ok a ρ := rfl
@[simp] theorem v_rdv : rd (.val d) ρ = some d := rfl
@[simp] theorem v_rda : rd (.at i) ρ = match ρ[i]? with
  | some (some d) => some (frz d)
  | _ => none := rfl
@[simp] theorem v_rdAll0 : rdAll [] ρ = some [] := rfl
@[simp] theorem v_rdAll1 (t : T) (ts : List T) : rdAll (t :: ts) ρ = (rd t ρ).bind fun d => (rdAll ts ρ).map fun ds => d :: ds := rfl
@[simp] theorem v_vals0 : vals [] = some [] := rfl
@[simp] theorem v_vals1 (ts : List T) : vals (.val d :: ts) = (vals ts).map fun ds => d :: ds := rfl
@[simp] theorem v_eTup (fs : List (Env → Out T)) : eTup fs ρ = (argsO fs ρ).bind fun ts ρ' => Out.of ((vals ts).bind fun ds => if ds.length ≤ sizeLine then some (.tup ds) else none) ρ' := rfl
@[simp] theorem v_eLst (fs : List (Env → Out T)) : eLst fs ρ = (argsO fs ρ).bind fun ts ρ' => Out.of ((vals ts).bind fun ds => if ds.length ≤ sizeLine then some (.own ds) else none) ρ' := rfl
@[simp] theorem v_eSl (f : Env → Out T) (l h : Option (Env → Out T)) : eSl f l h ρ = (f ρ).bind fun t ρ1 => (ePart l ρ1).bind fun lo ρ2 => (ePart h ρ2).bind fun hi ρ3 => Out.of ((rd t ρ3).bind fun x => dSl x lo hi) ρ3 := rfl
@[simp] theorem v_ePart0 : ePart none ρ = .ok none ρ := rfl
@[simp] theorem v_ePart1 (f : Env → Out T) : ePart (some f) ρ = (f ρ).bind fun t ρ' => Out.of ((rd t ρ').bind dPart) ρ' := rfl
@[simp] theorem v_dPart (z : Int) : dPart (.int z) = some (some z) := rfl
@[simp] theorem v_eIsi (t : Ty5) (f : Env → Out T) : eIsi t f ρ = (f ρ).bind fun o ρ' => Out.of ((rd o ρ').map fun d => .bl (isI t d)) ρ' := rfl
@[simp] theorem v_eM1 (g : Str → D → Option D) (fo fe : Env → Out T) : eM1 g fo fe ρ = (fo ρ).bind fun t ρ1 => (Out.of ((rd t ρ1).bind strOf) ρ1).bind fun x ρ1 => (fe ρ1).bind fun u ρ2 => Out.of ((rd u ρ2).bind (g x)) ρ2 := rfl
@[simp] theorem v_strOf (x : Str) : strOf (.str x) = some x := rfl
@[simp] theorem v_frz_int (z : Int) : frz (.int z) = .int z := rfl
@[simp] theorem v_frz_bl (z : Bool) : frz (.bl z) = .bl z := rfl
@[simp] theorem v_frz_str (z : Str) : frz (.str z) = .str z := rfl
@[simp] theorem v_frz_tup (z : List D) : frz (.tup z) = .tup z := rfl
@[simp] theorem v_frz_lst (z : List D) : frz (.lst z) = .lst z := rfl
@[simp] theorem v_frz_own (z : List D) : frz (.own z) = .lst z := rfl
@[simp] theorem v_frz_scr (z : List Int) : frz (.scr z) = .scr z := rfl
@[simp] theorem v_isB (b : Bool) : isB (.bl b) = some b := rfl
@[simp] theorem v_eFn (G : Env → Out D) (fs : List (Env → Out T)) : eFn G fs ρ = (argsO fs ρ).bind fun ts ρ1 => if npl ts = true then (match G (ts.map (argD ρ1)) with
  | .ok d ρc => .ok d (backE ts ρc ρ1)
  | .exc c d ρc => .exc c d (backE ts ρc ρ1)
  | .bad => .bad) else .bad := rfl
@[simp] theorem v_argv : argD ρ (.val d) = some d := rfl
@[simp] theorem v_arga : argD ρ (.at i) = (ρ[i]?).join := rfl
@[simp] theorem v_npl0 : npl [] = true := rfl
@[simp] theorem v_nplv (ts : List T) : npl (.val d :: ts) = npl ts := rfl
@[simp] theorem v_npla (ts : List T) : npl (.at i :: ts) = ((posOf ts i).isNone && npl ts) := rfl
@[simp] theorem v_pos0 : posOf [] i = none := rfl
@[simp] theorem v_posv (ts : List T) : posOf (.val d :: ts) i = (posOf ts i).map (· + 1) := rfl
@[simp] theorem v_posa (k : Nat) (ts : List T) : posOf (.at k :: ts) i = if k = i then some 0 else (posOf ts i).map (· + 1) := rfl
@[simp] theorem v_bk0 (l : Env) : backE [] l ρ = ρ := by unfold backE; rfl
@[simp] theorem v_bka (ts : List T) (x : Option D) (xs : Env) : backE (.at i :: ts) (x :: xs) ρ = backE ts xs (ρ.set i x) := rfl
@[simp] theorem v_bkv (ts : List T) (x : Option D) (xs : Env) : backE (.val d :: ts) (x :: xs) ρ = backE ts xs ρ := rfl
@[simp] theorem v_sNext : sNext ρ = .next ρ := rfl
@[simp] theorem v_sSeq (f g : Env → Flow) : sSeq f g ρ = (f ρ).thn g := rfl
@[simp] theorem v_sIf (c : Env → Out Bool) (f g : Env → Flow) : sIf c f g ρ = (c ρ).sif f g := rfl
@[simp] theorem v_sRet (f : Env → Out D) : sRet f ρ = (f ρ).fl .ret := rfl
@[simp] theorem v_sSet (f : Env → Out D) : sSet i f ρ = (f ρ).fl fun d ρ' => sPut i d ρ' := rfl
@[simp] theorem v_sPut : sPut i d ρ = match setE i d ρ with
  | some ρ' => .next ρ'
  | none => .bad := rfl
@[simp] theorem v_setE : setE i d ρ = if i < ρ.length then some (ρ.set i (some d)) else none := rfl
@[simp] theorem v_tgN : tgSet (.name i) d ρ = setE i d ρ := rfl
@[simp] theorem v_sSub (j : Nat) (fi : Env → Out T) (fv : Env → Out D) : sSub j fi fv ρ = (fv ρ).fl fun d ρ1 => (oN j ρ1).fl fun _ ρ2 => (fi ρ2).fl fun t ρ3 =>
  (Out.of ((ownAt ρ3 j).bind fun ds => ((rd t ρ3).bind intOf).bind fun i => (ixN ds.length i).map fun k => ds.set k d) ρ3).fl fun ds ρ3 => .next (ρ3.set j (some (.own ds))) := rfl
@[simp] theorem v_ownAt : ownAt ρ i = match ρ[i]? with
  | some (some (.own ds)) => some ds
  | _ => none := rfl
@[simp] theorem v_intOf (z : Int) : intOf (.int z) = some z := rfl
@[simp] theorem v_sFor (it : Env → Out (List D)) (t : Tg) (body : Env → Flow) : sFor it t body ρ = (it ρ).fl fun ds ρ1 => forL t body ds ρ1 := rfl
@[simp] theorem v_iV (f : Env → Out D) : iV f ρ = (f ρ).bind fun d ρ' => Out.of (itemsOf d) ρ' := rfl
@[simp] theorem v_iArgs (g : List D → Option (List D)) (fs : List (Env → Out T)) : iArgs g fs ρ = (argsO fs ρ).bind fun ts ρ' => Out.of ((rdAll ts ρ').bind g) ρ' := rfl
@[simp] theorem v_gOf (n k : Nat) (bor : List Nat) (body : Env → Flow) : gOf n k bor body ρ = match body (ρ ++ List.replicate k none) with
  | .ret d ρ' => .ok d (endE n bor ρ')
  | .next ρ' => .ok .non (endE n bor ρ')
  | .exc c d ρ' => .exc c d (endE n bor ρ')
  | _ => .bad := rfl
@[simp] theorem v_endE (n : Nat) (bor : List Nat) : endE n bor ρ = (List.range n).map fun j => if j ∈ bor then (ρ[j]?).join else none := rfl
theorem v_eLc (it : Env → Out (List D)) (t : Tg) (tst : Env → Out Bool) (elt : Env → Out D) (vs : List Nat) : eLc it t tst elt vs ρ = (it ρ).bind fun ds ρ1 => match lcL t tst elt vs ds [] ρ1 with
  | .ok acc ρ2 => .ok (.own acc) (restE ρ1 (wipeE ρ2 vs) vs)
  | _ => .bad := rfl
theorem v_eGenB (z : Bool) (it : Env → Out (List D)) (t : Tg) (tst : Env → Out Bool) (elt : Env → Out D) (vs : List Nat) : eGenB z it t tst elt vs ρ = (it ρ).bind fun ds ρ1 => match genB z t tst elt vs ds ρ1 with
  | .ok d ρ2 => .ok d (restE ρ1 (wipeE ρ2 vs) vs)
  | _ => .bad := rfl
@[simp] theorem v_wipe0 : wipeE ρ [] = ρ := rfl
@[simp] theorem v_wipe1 (v : Nat) (vs : List Nat) : wipeE ρ (v :: vs) = (wipeE ρ vs).set v none := rfl
@[simp] theorem v_rest0 (ρ0 : Env) : restE ρ0 ρ [] = ρ := rfl
@[simp] theorem v_rest1 (ρ0 : Env) (v : Nat) (vs : List Nat) : restE ρ0 ρ (v :: vs) = (restE ρ0 ρ vs).set v (stil ρ0[v]?) := rfl
end
@[simp] theorem rgl1 : List.range 1 = [0] := rfl
@[simp] theorem rgl2 : List.range 2 = [0, 1] := rfl
@[simp] theorem rgl3 : List.range 3 = [0, 1, 2] := rfl
@[simp] theorem rgl4 : List.range 4 = [0, 1, 2, 3] := rfl
@[simp] theorem rgl5 : List.range 5 = [0, 1, 2, 3, 4] := rfl
/-! ### small numbers -/
theorem lg_lt {n k : Nat} (hk : 0 < k) (h : n < 2 ^ k) : n.log2 < k := by
  by_cases h0 : n = 0
  · subst h0; exact hk
  · exact (Nat.log2_lt h0).mpr h
theorem lgi_lt {i : Int} {k : Nat} (hk : 0 < k) (h1 : -(2 ^ k : Int) < i) (h2 : i < 2 ^ k) : i.natAbs.log2 < k := by
  refine lg_lt hk ?_
  have : ((i.natAbs : Nat) : Int) < ((2 ^ k : Nat) : Int) := by push_cast; omega
  exact Int.ofNat_lt.mp this
theorem dMul_s {i j : Int} (h1 : -(2 ^ 200) < i) (h2 : i < 2 ^ 200) (h3 : -(2 ^ 200) < j) (h4 : j < 2 ^ 200) : dMulS (.int i) (.int j) = some (.int (i * j)) := by
  have a := lgi_lt (k := 200) (by decide) h1 h2
  have b := lgi_lt (k := 200) (by decide) h3 h4
  show dMul (.int i) (.int j) = _
  unfold dMul
  exact if_pos (by omega)
theorem dMod_s {i j : Int} (h : 0 < j) : dMod (.int i) (.int j) = some (.int (i % j)) := by
  show (if j ≠ 0 then some (D.int (i.fmod j)) else none) = _
  rw [if_pos (by omega), Int.fmod_eq_emod_of_nonneg _ (by omega)]
theorem dFdiv_s {i j : Int} (h : 0 < j) (h2 : j < 2 ^ 200) : dFdiv (.int i) (.int j) = some (.int (i / j)) := by
  have b := lgi_lt (i := j) (k := 200) (by decide) (by omega) h2
  show (if j ≠ 0 ∧ j.natAbs.log2 < 9000 then some (D.int (i.fdiv j)) else none) = _
  rw [if_pos (by omega), Int.fdiv_eq_ediv_of_nonneg _ (by omega)]
@[simp] theorem dInt_i (i : Int) : dInt [.int i] = some (.int i) := rfl
@[simp] theorem dAdd_i (i j : Int) : dAdd (.int i) (.int j) = some (.int (i + j)) := rfl
@[simp] theorem dSub_i (i j : Int) : dSub (.int i) (.int j) = some (.int (i - j)) := rfl
@[simp] theorem dLt_i (i j : Int) : dLt (.int i) (.int j) = some (.bl (decide (i < j))) := rfl
@[simp] theorem dLe_i (i j : Int) : dLe (.int i) (.int j) = some (.bl (decide (i ≤ j))) := rfl
@[simp] theorem dGt_i (i j : Int) : dGt (.int i) (.int j) = some (.bl (decide (j < i))) := rfl
@[simp] theorem dGe_i (i j : Int) : dGe (.int i) (.int j) = some (.bl (decide (j ≤ i))) := rfl
@[simp] theorem dEq_i (i j : Int) : dEq (.int i) (.int j) = some (.bl (decide (i = j))) := by
  unfold dEq eqD flatOf
  by_cases h : i = j <;> simp [scal, h]
@[simp] theorem dNe_i (i j : Int) : dNe (.int i) (.int j) = some (.bl (!decide (i = j))) := by
  unfold dNe eqD flatOf
  by_cases h : i = j <;> simp [scal, h]
@[simp] theorem ixN_lit (n k : Nat) (h : k < n) : ixN n (k : Int) = some k := by
  unfold ixN
  rw [if_pos (by omega), if_pos (by omega)]
  rfl
theorem ixN_pos {n : Nat} {i : Int} (h0 : 0 ≤ i) (h : i < n) : ixN n i = some i.toNat := by
  unfold ixN
  rw [if_pos h0, if_pos h]
theorem dIx_lst {ds : List D} {i : Int} (h0 : 0 ≤ i) (h : i < ds.length) : dIx (.lst ds) (.int i) = ds[i.toNat]? := by
  show atI ds i = _
  unfold atI
  rw [ixN_pos h0 h]
  rfl
theorem dIx_tup {ds : List D} {i : Int} (h0 : 0 ≤ i) (h : i < ds.length) : dIx (.tup ds) (.int i) = ds[i.toNat]? := by
  show atI ds i = _
  unfold atI
  rw [ixN_pos h0 h]
  rfl
end Dv
end
section
set_option Elab.async false
set_option linter.all false
set_option maxRecDepth 100000
namespace Dv
open PySem PySem.Spec PyProof.Rows L2 GxR GxA XcL
section
variable {z : Bool} {it : Env → Out (List D)} {t : Tg} {tst : Env → Out Bool} {elt : Env → Out D} {vs : List Nat} {ρ : Env} {d : D} {ds : List D}
def genK (z : Bool) (t : Tg) (tst : Env → Out Bool) (elt : Env → Out D) (vs : List Nat) (ds : List D) (o : Out D) : Out D := o.bind fun v ρ3 => match v with
      | .bl c => if c = z then .ok (.bl z) ρ3 else genB z t tst elt vs ds ρ3
      | _ => .bad
@[simp] theorem genK_ok (c : Bool) : genK z t tst elt vs ds (.ok (.bl c) ρ) = if c = z then .ok (.bl z) ρ else genB z t tst elt vs ds ρ := rfl
@[simp] theorem genB_nil : genB z t tst elt vs [] ρ = .ok (.bl (!z)) ρ := by rw [genB]
@[simp] theorem genB_yes : genB z t bYes elt vs (d :: ds) ρ = match tgSet t d (wipeE ρ vs) with
    | none => .bad
    | some ρ1 => genK z t bYes elt vs ds (elt ρ1) := by
  rw [genB]; rfl
def lcK (t : Tg) (tst : Env → Out Bool) (elt : Env → Out D) (vs : List Nat) (ds acc : List D) (o : Out Bool) : Out (List D) := o.bind fun b ρ2 => if b = true then (elt ρ2).bind fun v ρ3 => if acc.length < sizeLine then lcL t tst elt vs ds (acc ++ [v]) ρ3 else .bad else lcL t tst elt vs ds acc ρ2
@[simp] theorem lcK_no (acc : List D) : lcK t tst elt vs ds acc (.ok false ρ) = lcL t tst elt vs ds acc ρ := rfl
@[simp] theorem lcK_yes (acc : List D) : lcK t tst elt vs ds acc (.ok true ρ) = (elt ρ).bind fun v ρ3 => if acc.length < sizeLine then lcL t tst elt vs ds (acc ++ [v]) ρ3 else .bad := rfl
@[simp] theorem lcL_nil (acc : List D) : lcL t tst elt vs [] acc ρ = .ok acc ρ := by rw [lcL]
@[simp] theorem lcL_cons (acc : List D) : lcL t tst elt vs (d :: ds) acc ρ = match tgSet t d (wipeE ρ vs) with
    | none => .bad
    | some ρ1 => lcK t tst elt vs ds acc (tst ρ1) := by
  rw [lcL]; rfl
def genE (ρ1 : Env) (vs : List Nat) (o : Out D) : Out D := match o with
  | .ok d ρ2 => .ok d (restE ρ1 (wipeE ρ2 vs) vs)
  | _ => .bad
@[simp] theorem genE_ok (ρ1 : Env) : genE ρ1 vs (.ok d ρ) = .ok d (restE ρ1 (wipeE ρ vs) vs) := rfl
def lcE (ρ1 : Env) (vs : List Nat) (o : Out (List D)) : Out D := match o with
  | .ok acc ρ2 => .ok (.own acc) (restE ρ1 (wipeE ρ2 vs) vs)
  | _ => .bad
@[simp] theorem lcE_ok (ρ1 : Env) (acc : List D) : lcE ρ1 vs (.ok acc ρ) = .ok (.own acc) (restE ρ1 (wipeE ρ vs) vs) := rfl
@[simp] theorem w_eGenB : eGenB z it t tst elt vs ρ = (it ρ).bind fun ds ρ1 => genE ρ1 vs (genB z t tst elt vs ds ρ1) := rfl
@[simp] theorem w_eLc : eLc it t tst elt vs ρ = (it ρ).bind fun ds ρ1 => lcE ρ1 vs (lcL t tst elt vs ds [] ρ1) := rfl
@[simp] theorem stil_n : stil none = none := rfl
@[simp] theorem stil_sn : stil (some none) = none := rfl
@[simp] theorem stil_int (z : Int) : stil (some (some (.int z))) = some (.int z) := rfl
@[simp] theorem stil_str (z : Str) : stil (some (some (.str z))) = some (.str z) := rfl
def Out.chn (o : Out Bool) (g' : D → D → Option D) (u : T) (c : Env → Out T) : Out D := o.bind fun k ρ' => if k = true then (c ρ').bind fun w ρ3 => Out.of ((rd u ρ3).bind fun y => (rd w ρ3).bind fun z => g' y z) ρ3 else .ok (.bl false) ρ'
@[simp] theorem chn_ok (k : Bool) (g' : D → D → Option D) (u : T) (c : Env → Out T) : (Out.ok k ρ).chn g' u c = if k = true then (c ρ).bind fun w ρ3 => Out.of ((rd u ρ3).bind fun y => (rd w ρ3).bind fun z => g' y z) ρ3 else .ok (.bl false) ρ := rfl
@[simp] theorem v_eChain (g g' : D → D → Option D) (a b c : Env → Out T) : eChain g g' a b c ρ = ((a ρ).bind fun t ρ1 => (b ρ1).bind fun u ρ2 => .ok (t, u) ρ2).bind fun tu ρ' => (Out.of ((rd tu.1 ρ').bind fun x => (rd tu.2 ρ').bind fun y => (g x y).bind isB) ρ').chn g' tu.2 c := rfl
/-- all, one after the other -/
theorem genB_all (J : Env → Prop) (p : D → Bool) : ∀ (ds : List D) (ρ : Env), J ρ → (∀ d ∈ ds, ∀ ρ, J ρ → ∃ ρ1 ρ3, tgSet t d (wipeE ρ vs) = some ρ1 ∧ elt ρ1 = .ok (.bl (p d)) ρ3 ∧ J ρ3) → ∃ ρ', genB false t bYes elt vs ds ρ = .ok (.bl (ds.all p)) ρ' ∧ J ρ'
  | [], ρ, h, _ => ⟨ρ, by simp, h⟩
  | d :: ds, ρ, h, hs => by
    obtain ⟨ρ1, ρ3, e1, e2, h3⟩ := hs d (List.mem_cons_self ..) ρ h
    rw [genB_yes, e1]
    simp only [e2, genK_ok, List.all_cons]
    by_cases hp : p d = false
    · rw [hp]; exact ⟨ρ3, rfl, h3⟩
    · rw [if_neg hp]
      obtain ⟨ρ', e, h'⟩ := genB_all J p ds ρ3 h3 fun d hd => hs d (List.mem_cons_of_mem _ hd)
      refine ⟨ρ', ?_, h'⟩
      rw [e, show p d = true by simpa using hp]
      rfl
/-- the places a list comprehension keeps -/
theorem lcL_len (J : Env → Prop) (p : D → Bool) : ∀ (ds acc : List D) (ρ : Env), J ρ → acc.length + ds.length ≤ 10000 → (∀ d ∈ ds, ∀ ρ, J ρ → ∃ ρ1 ρ2, tgSet t d (wipeE ρ vs) = some ρ1 ∧ tst ρ1 = .ok (p d) ρ2 ∧ J ρ2 ∧ (p d = true → ∃ v ρ3, elt ρ2 = .ok v ρ3 ∧ J ρ3)) → ∃ acc' ρ', lcL t tst elt vs ds acc ρ = .ok acc' ρ' ∧ acc'.length = acc.length + (ds.filter p).length ∧ J ρ'
  | [], acc, ρ, h, _, _ => ⟨acc, ρ, by simp, by simp, h⟩
  | d :: ds, acc, ρ, h, hl, hs => by
    obtain ⟨ρ1, ρ2, e1, e2, h2, hy⟩ := hs d (List.mem_cons_self ..) ρ h
    rw [lcL_cons, e1]
    simp only [e2]
    rw [List.length_cons] at hl
    by_cases hp : p d = true
    · obtain ⟨v, ρ3, e3, h3⟩ := hy hp
      rw [hp, lcK_yes, e3, List.filter_cons_of_pos hp]
      obtain ⟨acc', ρ', e, hL, h'⟩ := lcL_len J p ds (acc ++ [v]) ρ3 h3 (by rw [List.length_append, List.length_singleton]; omega) fun d hd => hs d (List.mem_cons_of_mem _ hd)
      refine ⟨acc', ρ', ?_, by rw [hL, List.length_append, List.length_singleton, List.length_cons]; omega, h'⟩
      show (if acc.length < sizeLine then _ else _) = _
      rw [if_pos (Nat.lt_of_lt_of_le (show acc.length < 10000 by omega) (by decide)), e]
    · have hf : p d = false := by simpa using hp
      rw [hf, lcK_no, List.filter_cons_of_neg hp]
      exact lcL_len J p ds acc ρ2 h2 (by omega) fun d hd => hs d (List.mem_cons_of_mem _ hd)
end
/-! ### texts -/
theorem dEq_str (x y : Str) : dEq (.str x) (.str y) = some (.bl (decide (x = y))) := by
  unfold dEq eqD flatOf
  by_cases h : x = y <;> simp [scal, h]
theorem dNe_str (x y : Str) : dNe (.str x) (.str y) = some (.bl (!decide (x = y))) := by
  unfold dNe eqD flatOf
  by_cases h : x = y <;> simp [scal, h]
theorem dLen_str {x : Str} (h : x.length ≤ 10000) : dLen [.str x] = some (.int (x.length : Nat)) := by
  show (if x.length ≤ sizeLine then _ else _) = _
  rw [if_pos (Nat.le_trans h (by decide))]
theorem str_ext {x y : Str} (h : x.cps.toList = y.cps.toList) : x = y := by
  cases x; cases y
  simp at h
  simp [h]
theorem str_eq_iff {x y : Str} : x = y ↔ x.cps.toList = y.cps.toList := ⟨fun h => by rw [h], str_ext⟩
theorem cut_list (x : Str) (lo hi : Option Int) : (cutS x lo hi).cps.toList = (x.cps.toList.drop (HT.sIx x.length 0 lo)).take (HT.sIx x.length x.length hi - HT.sIx x.length 0 lo) := by
  unfold cutS; simp
theorem len_list (x : Str) : x.cps.toList.length = x.length := Array.length_toList
theorem cut_len (x : Str) (lo hi : Option Int) : (cutS x lo hi).length ≤ x.length := by
  rw [← len_list, cut_list, List.length_take, List.length_drop, len_list]
  omega
theorem dSl_str {x : Str} {lo hi : Option Int} (h : x.length ≤ 10000) : dSl (.str x) lo hi = some (.str (cutS x lo hi)) := by
  show (if x.length ≤ sizeLine then _ else _) = _
  rw [if_pos (Nat.le_trans h (by decide))]
theorem cut_tail (x : Str) : (cutS x (some 1) none).cps.toList = x.cps.toList.tail := by
  rw [cut_list]
  have h1 : HT.sIx x.length x.length none = x.length := rfl
  have h2 : HT.sIx x.length 0 (some 1) = min 1 x.length := HT.sIx_nat _ _ 1
  rw [h1, h2, ← len_list x]
  generalize x.cps.toList = l
  cases l with
  | nil => rfl
  | cons c l =>
    rw [List.length_cons, show min 1 (l.length + 1) = 1 by omega]
    simp
theorem cut_head (x : Str) : (cutS x none (some 1)).cps.toList = x.cps.toList.take 1 := by
  rw [cut_list]
  have h1 : HT.sIx x.length 0 none = 0 := rfl
  have h2 : HT.sIx x.length x.length (some 1) = min 1 x.length := HT.sIx_nat _ _ 1
  rw [h1, h2, ← len_list x]
  generalize x.cps.toList = l
  cases l with
  | nil => rfl
  | cons c l =>
    rw [List.length_cons, show min 1 (l.length + 1) = 1 by omega]
    simp
end Dv
end
section
set_option Elab.async false
set_option linter.all false
set_option maxRecDepth 100000
set_option maxHeartbeats 4000000
/-! Running the plain meaning: comprehensions without side effects, longer texts. -/
namespace Dv
open PySem PySem.Spec PyProof.Rows L2 GxR GxA XcL
theorem le_sizeB {n : Nat} (h : n ≤ 1000000) : n ≤ sizeLine := Nat.le_trans h (by decide)
theorem lt_sizeB {n : Nat} (h : n < 1000000) : n < sizeLine := Nat.lt_of_lt_of_le h (by decide)
theorem dLen_strB {x : Str} (h : x.length ≤ 1000000) : dLen [.str x] = some (.int (x.length : Nat)) := by
  show (if x.length ≤ sizeLine then _ else _) = _
  rw [if_pos (le_sizeB h)]
theorem dSl_strB {x : Str} {lo hi : Option Int} (h : x.length ≤ 1000000) : dSl (.str x) lo hi = some (.str (cutS x lo hi)) := by
  show (if x.length ≤ sizeLine then _ else _) = _
  rw [if_pos (le_sizeB h)]
theorem dLen_l (ds : List D) : dLen [.lst ds] = some (.int (ds.length : Nat)) := rfl
theorem dLen_t (ds : List D) : dLen [.tup ds] = some (.int (ds.length : Nat)) := rfl
theorem dAdd_strB {x y : Str} (h : x.length + y.length ≤ 1000000) : dAdd (.str x) (.str y) = some (.str (x ++ y)) := by
  show (if x.length + y.length ≤ sizeLine then _ else _) = _
  rw [if_pos (le_sizeB h)]
theorem dAdd_lstB {x y : List D} (h : x.length + y.length ≤ 1000000) : dAdd (.lst x) (.lst y) = some (.own (x ++ y)) := by
  show (if x.length + y.length ≤ sizeLine then _ else _) = _
  rw [if_pos (le_sizeB h)]
theorem dAdd_tupB {x y : List D} (h : x.length + y.length ≤ 1000000) : dAdd (.tup x) (.tup y) = some (.tup (x ++ y)) := by
  show (if x.length + y.length ≤ sizeLine then _ else _) = _
  rw [if_pos (le_sizeB h)]
section
variable {v : Nat} {it : Env → Out (List D)} {tst : Env → Out Bool} {elt : Env → Out D} {ρ ρ1 : Env} {ds : List D}
/-- a comprehension of one name whose test and element change nothing -/
theorem lcL_pure (p : D → Bool) (f : D → D) (hv : v < ρ.length) : ∀ (ds acc : List D) (kk : Option D), acc.length + ds.length ≤ 1000000 → (∀ d ∈ ds, tst (ρ.set v (some d)) = .ok (p d) (ρ.set v (some d)) ∧ (p d = true → elt (ρ.set v (some d)) = .ok (f d) (ρ.set v (some d)))) → ∃ kk', lcL (.name v) tst elt [v] ds acc (ρ.set v kk) = .ok (acc ++ (ds.filter p).map f) (ρ.set v kk')
  | [], acc, kk, _, _ => ⟨kk, by simp⟩
  | d :: ds, acc, kk, hl, h => by
    obtain ⟨h1, h2⟩ := h d (List.mem_cons_self ..)
    rw [List.length_cons] at hl
    have e0 : ((ρ.set v kk).set v none).set v (some d) = ρ.set v (some d) := by rw [List.set_set, List.set_set]
    have e1 : tgSet (.name v) d (wipeE (ρ.set v kk) [v]) = some (ρ.set v (some d)) := by
      show setE v d ((ρ.set v kk).set v none) = _
      unfold setE
      rw [if_pos (by simpa using hv), e0]
    rw [lcL_cons, e1]
    simp only [h1]
    by_cases hp : p d = true
    · rw [hp, lcK_yes, h2 hp, List.filter_cons_of_pos hp]
      obtain ⟨kk', e⟩ := lcL_pure p f hv ds (acc ++ [f d]) (some d) (by rw [List.length_append, List.length_singleton]; omega) fun d hd => h d (List.mem_cons_of_mem _ hd)
      refine ⟨kk', ?_⟩
      show (if acc.length < sizeLine then _ else _) = _
      rw [if_pos (lt_sizeB (by omega)), e, List.map_cons, List.append_assoc]
      rfl
    · have hf : p d = false := by simpa using hp
      rw [hf, lcK_no, List.filter_cons_of_neg hp]
      exact lcL_pure p f hv ds acc (some d) (by omega) fun d hd => h d (List.mem_cons_of_mem _ hd)
theorem set_self' (hv : v < ρ.length) : ∃ kk, ρ = ρ.set v kk := ⟨ρ[v], by rw [List.set_getElem_self]⟩
theorem lc_pure (p : D → Bool) (f : D → D) (ρs : D → Env) {ρ2 : Env} (hv : v < ρ1.length) (hi : it ρ = .ok ds ρ1) (hl : ds.length ≤ 1000000) (h : ∀ d ∈ ds, tst (ρs d) = .ok (p d) (ρs d) ∧ (p d = true → elt (ρs d) = .ok (f d) (ρs d))) (hs : ∀ d, ρ1.set v (some d) = ρs d := by intro _; rfl) (h2 : ρ1.set v (stil ρ1[v]?) = ρ2 := by rfl) :
    eLc it (.name v) tst elt [v] ρ = .ok (.own ((ds.filter p).map f)) ρ2 := by
  subst h2
  have h : ∀ d ∈ ds, tst (ρ1.set v (some d)) = .ok (p d) (ρ1.set v (some d)) ∧ (p d = true → elt (ρ1.set v (some d)) = .ok (f d) (ρ1.set v (some d))) := fun d hd => by rw [hs]; exact h d hd
  obtain ⟨kk, e⟩ := set_self' hv
  obtain ⟨kk', e'⟩ := lcL_pure p f hv ds [] kk (by simpa using hl) h
  rw [← e] at e'
  simp only [w_eLc, hi, Out.bind_ok, e', lcE_ok, List.nil_append, v_rest1, v_rest0, v_wipe1, v_wipe0, List.set_set]
theorem gt_pure (p : D → Bool) (f : D → D) (ρs : D → Env) {ρ2 : Env} (hv : v < ρ1.length) (hi : it ρ = .ok ds ρ1) (hl : ds.length ≤ 1000000) (h : ∀ d ∈ ds, tst (ρs d) = .ok (p d) (ρs d) ∧ (p d = true → elt (ρs d) = .ok (f d) (ρs d))) (hs : ∀ d, ρ1.set v (some d) = ρs d := by intro _; rfl) (h2 : ρ1.set v (stil ρ1[v]?) = ρ2 := by rfl) :
    eGenT it (.name v) tst elt [v] ρ = .ok (.tup ((ds.filter p).map f)) ρ2 := by
  subst h2
  have h : ∀ d ∈ ds, tst (ρ1.set v (some d)) = .ok (p d) (ρ1.set v (some d)) ∧ (p d = true → elt (ρ1.set v (some d)) = .ok (f d) (ρ1.set v (some d))) := fun d hd => by rw [hs]; exact h d hd
  obtain ⟨kk, e⟩ := set_self' hv
  obtain ⟨kk', e'⟩ := lcL_pure p f hv ds [] kk (by simpa using hl) h
  rw [← e] at e'
  unfold eGenT
  simp only [hi, Out.bind_ok, e', List.nil_append, v_rest1, v_rest0, v_wipe1, v_wipe0, List.set_set]
/-- all and any of such -/
theorem genB_pure (z : Bool) (f : D → Bool) (hv : v < ρ.length) : ∀ (ds : List D) (kk : Option D), (∀ d ∈ ds, elt (ρ.set v (some d)) = .ok (.bl (f d)) (ρ.set v (some d))) → ∃ kk', genB z (.name v) bYes elt [v] ds (ρ.set v kk) = .ok (.bl (if z = true then ds.any f else ds.all f)) (ρ.set v kk')
  | [], kk, _ => ⟨kk, by cases z <;> simp⟩
  | d :: ds, kk, h => by
    have h1 := h d (List.mem_cons_self ..)
    have e0 : ((ρ.set v kk).set v none).set v (some d) = ρ.set v (some d) := by rw [List.set_set, List.set_set]
    have e1 : tgSet (.name v) d (wipeE (ρ.set v kk) [v]) = some (ρ.set v (some d)) := by
      show setE v d ((ρ.set v kk).set v none) = _
      unfold setE
      rw [if_pos (by simpa using hv), e0]
    rw [genB_yes, e1]
    simp only [h1, genK_ok]
    by_cases hz : f d = z
    · refine ⟨some d, ?_⟩
      rw [if_pos hz]
      cases z <;> simp [hz]
    · rw [if_neg hz]
      obtain ⟨kk', e⟩ := genB_pure z f hv ds (some d) fun d hd => h d (List.mem_cons_of_mem _ hd)
      refine ⟨kk', ?_⟩
      rw [e]
      cases z with
      | true => simp [show f d = false by simpa using hz]
      | false => simp [show f d = true by simpa using hz]
theorem gb_pure (z : Bool) (f : D → Bool) (ρs : D → Env) {ρ2 : Env} (hv : v < ρ1.length) (hi : it ρ = .ok ds ρ1) (h : ∀ d ∈ ds, elt (ρs d) = .ok (.bl (f d)) (ρs d)) (hs : ∀ d, ρ1.set v (some d) = ρs d := by intro _; rfl) (h2 : ρ1.set v (stil ρ1[v]?) = ρ2 := by rfl) :
    eGenB z it (.name v) bYes elt [v] ρ = .ok (.bl (if z = true then ds.any f else ds.all f)) ρ2 := by
  subst h2
  have h : ∀ d ∈ ds, elt (ρ1.set v (some d)) = .ok (.bl (f d)) (ρ1.set v (some d)) := fun d hd => by rw [hs]; exact h d hd
  obtain ⟨kk, e⟩ := set_self' hv
  obtain ⟨kk', e'⟩ := genB_pure z f hv ds kk h
  rw [← e] at e'
  simp only [w_eGenB, hi, Out.bind_ok, e', genE_ok, v_rest1, v_rest0, v_wipe1, v_wipe0, List.set_set]
end
section
variable {t : Tg} {tst : Env → Out Bool} {elt : Env → Out D} {vs : List Nat}
/-- the places a list comprehension keeps -/
theorem lcL_lenB (J : Env → Prop) (p : D → Bool) : ∀ (ds acc : List D) (ρ : Env), J ρ → acc.length + ds.length ≤ 1000000 → (∀ d ∈ ds, ∀ ρ, J ρ → ∃ ρ1 ρ2, tgSet t d (wipeE ρ vs) = some ρ1 ∧ tst ρ1 = .ok (p d) ρ2 ∧ J ρ2 ∧ (p d = true → ∃ v ρ3, elt ρ2 = .ok v ρ3 ∧ J ρ3)) → ∃ acc' ρ', lcL t tst elt vs ds acc ρ = .ok acc' ρ' ∧ acc'.length = acc.length + (ds.filter p).length ∧ J ρ'
  | [], acc, ρ, h, _, _ => ⟨acc, ρ, by simp, by simp, h⟩
  | d :: ds, acc, ρ, h, hl, hs => by
    obtain ⟨ρ1, ρ2, e1, e2, h2, hy⟩ := hs d (List.mem_cons_self ..) ρ h
    rw [lcL_cons, e1]
    simp only [e2]
    rw [List.length_cons] at hl
    by_cases hp : p d = true
    · obtain ⟨v, ρ3, e3, h3⟩ := hy hp
      rw [hp, lcK_yes, e3, List.filter_cons_of_pos hp]
      obtain ⟨acc', ρ', e, hL, h'⟩ := lcL_lenB J p ds (acc ++ [v]) ρ3 h3 (by rw [List.length_append, List.length_singleton]; omega) fun d hd => hs d (List.mem_cons_of_mem _ hd)
      refine ⟨acc', ρ', ?_, by rw [hL, List.length_append, List.length_singleton, List.length_cons]; omega, h'⟩
      show (if acc.length < sizeLine then _ else _) = _
      rw [if_pos (lt_sizeB (by omega)), e]
    · have hf : p d = false := by simpa using hp
      rw [hf, lcK_no, List.filter_cons_of_neg hp]
      exact lcL_lenB J p ds acc ρ2 h2 (by omega) fun d hd => hs d (List.mem_cons_of_mem _ hd)
end
/-- a comprehension without a test, whose element may change what is around -/
theorem lcY_inv {t : Tg} {elt : Env → Out D} {vs : List Nat} (Q : Nat → List D → Env → Prop) : ∀ (ds acc : List D) (k : Nat) (ρ : Env), Q k acc ρ → acc.length + ds.length ≤ 1000000 →
    (∀ i d acc ρ, ds[i]? = some d → Q (k + i) acc ρ → ∃ ρ1 x ρ3, tgSet t d (wipeE ρ vs) = some ρ1 ∧ elt ρ1 = .ok x ρ3 ∧ Q (k + i + 1) (acc ++ [x]) ρ3) → ∃ acc' ρ', lcL t bYes elt vs ds acc ρ = .ok acc' ρ' ∧ Q (k + ds.length) acc' ρ'
  | [], acc, k, ρ, h, _, _ => ⟨acc, ρ, by simp, h⟩
  | d :: ds, acc, k, ρ, h, hl, hs => by
    rw [List.length_cons] at hl
    obtain ⟨ρ1, x, ρ3, e1, e2, h3⟩ := hs 0 d acc ρ rfl h
    obtain ⟨acc', ρ', e, h'⟩ := lcY_inv Q ds (acc ++ [x]) (k + 1) ρ3 h3 (by rw [List.length_append, List.length_singleton]; omega) (fun i d acc ρ hd hq => by
      have := hs (i + 1) d acc ρ (by simpa using hd) (by rw [show k + (i + 1) = k + 1 + i by omega]; exact hq)
      rw [show k + (i + 1) + 1 = k + 1 + i + 1 by omega] at this
      exact this)
    refine ⟨acc', ρ', ?_, by rw [List.length_cons, show k + (ds.length + 1) = k + 1 + ds.length by omega]; exact h'⟩
    rw [lcL_cons, e1]
    simp only [v_bYes, lcK_yes, e2, Out.bind_ok]
    rw [if_pos (lt_sizeB (by omega)), e]
section
variable {ρ : Env} {d : D} {i : Nat}
@[simp] theorem v_sDrop (f : Env → Out D) : sDrop f ρ = (f ρ).fl fun _ ρ' => .next ρ' := rfl
@[simp] theorem v_sRetN : sRetN ρ = .ret .non ρ := rfl
@[simp] theorem v_eApp (j : Nat) (f : Env → Out D) : eApp j f ρ = (Out.of (ownAt ρ j) ρ).bind fun _ ρ1 => (f ρ1).bind fun d ρ2 =>
  (Out.of ((ownAt ρ2 j).bind fun ds => if ds.length < sizeLine then some (ds ++ [d]) else none) ρ2).bind fun ds ρ2 => .ok .non (ρ2.set j (some (.own ds))) := rfl
@[simp] theorem v_tgT (l : List Nat) (ds : List D) : tgSet (.tup l) (.tup ds) ρ = setAll l ds ρ := rfl
@[simp] theorem v_setAll0 : setAll [] [] ρ = some ρ := rfl
@[simp] theorem v_setAll1 (j : Nat) (l : List Nat) (ds : List D) : setAll (j :: l) (d :: ds) ρ = (setE j d ρ).bind fun ρ' => setAll l ds ρ' := rfl
def asgK (t : Tg) : D → Env → Flow := fun d ρ' => match tgSet t d ρ' with
  | some ρ2 => .next ρ2
  | none => .bad
@[simp] theorem v_asgK (t : Tg) : asgK t d ρ = match tgSet t d ρ with
  | some ρ2 => .next ρ2
  | none => .bad := rfl
@[simp] theorem v_sAsg (t : Tg) (f : Env → Out D) : sAsg t f ρ = (f ρ).fl (asgK t) := rfl
@[simp] theorem v_sAug (g : Int → D → Option D) (f : Env → Out T) : sAug i g f ρ = (Out.of (intAt ρ i) ρ).fl fun a ρ1 => (f ρ1).fl fun t ρ2 => (Out.of ((rd t ρ2).bind (g a)) ρ2).fl fun d ρ2 => sPut i d ρ2 := rfl
@[simp] theorem v_intAt : intAt ρ i = match ρ[i]? with
  | some (some (.int z)) => some z
  | _ => none := rfl
@[simp] theorem v_sRaiseL (c : Str) (fs : List (Env → Out T)) : sRaiseL c fs ρ = (argsO fs ρ).fl fun ts ρ1 => match rdAll ts ρ1 with
  | some [.int i] => if i.natAbs.log2 < 1920 then .exc c (.int i) ρ1 else .bad
  | _ => .bad := rfl
@[simp] theorem v_iVals (g : List D → Option (List D)) (fs : List (Env → Out T)) : iVals g fs ρ = (argsO fs ρ).bind fun ts ρ' => Out.of ((vals ts).bind g) ρ' := rfl
end
/-- data made of ints by tuples -/
def Ti (l : List Int) : D := .tup (l.map D.int)
def Ti2 (l : List (List Int)) : D := .tup (l.map Ti)
@[simp] theorem frz_Ti (l : List Int) : frz (Ti l) = Ti l := rfl
@[simp] theorem frz_Ti2 (l : List (List Int)) : frz (Ti2 l) = Ti2 l := rfl
theorem dIx_at {ds : List D} {i : Int} {k : Nat} {d : D} (hi : i = (k : Nat)) (h : ds[k]? = some d) : dIx (.lst ds) (.int i) = some d := by
  subst hi
  have hk := (List.getElem?_eq_some_iff.mp h).1
  rw [dIx_lst (by omega) (by omega)]
  simpa using h
theorem dIx_atT {ds : List D} {i : Int} {k : Nat} {d : D} (hi : i = (k : Nat)) (h : ds[k]? = some d) : dIx (.tup ds) (.int i) = some d := by
  subst hi
  have hk := (List.getElem?_eq_some_iff.mp h).1
  rw [dIx_tup (by omega) (by omega)]
  simpa using h
theorem intsOf_map : ∀ l : List Int, intsOf (l.map D.int) = some l
  | [] => rfl
  | i :: l => by
    show (intsOf (l.map D.int)).map _ = _
    rw [intsOf_map l]; rfl
theorem strsOf_mapB : ∀ ys : List Str, strsOf (ys.map D.str) = some ys
  | [] => rfl
  | y :: ys => by
    show (strsOf (ys.map D.str)).map _ = _
    rw [strsOf_mapB ys]
    rfl
theorem rg1_nat (n : Nat) (h : n < 2 ^ 60) : rg1 [D.int n] = some (rangeD 0 n) := by
  unfold rg1
  dsimp only
  rw [if_pos (by omega)]
  simp
theorem rangeD_get {lo : Int} {n i : Nat} (h : i < n) : (rangeD lo n)[i]? = some (.int (lo + (i : Nat))) := by
  unfold rangeD
  rw [List.getElem?_map, List.getElem?_range h]
  rfl
theorem rangeD_len (lo : Int) (n : Nat) : (rangeD lo n).length = n := by
  unfold rangeD
  rw [List.length_map, List.length_range]
theorem rangeD_mem {lo : Int} {n : Nat} {d : D} (h : d ∈ rangeD lo n) : ∃ i, i < n ∧ d = .int (lo + (i : Nat)) := by
  unfold rangeD at h
  obtain ⟨i, hi, rfl⟩ := List.mem_map.mp h
  exact ⟨i, List.mem_range.mp hi, rfl⟩
end Dv
end
section
set_option Elab.async false
set_option linter.all false
set_option maxRecDepth 100000
set_option maxHeartbeats 4000000
/-! What all laws begin with: the pool, draws, sameness. -/
namespace Lb
open PySem PySem.Spec PyProof.Rows L2 GxR GxA Dv XcL
def b__law_pool : Dv.Env → Dv.Flow := (sSeq (sSet 1 (eC (.int 7))) (sSeq (sFor (iV (eFrz (eSl (oN 0) none (some (oV (eC (.int 63))))))) (.name 2) (sSet 1 (eOp2 dMod (oV (eFrz (eCall dInt [(oV (eFrz (eOp2 dAdd (oV (eFrz (eOp2 dMulS (oN 1) (oV (eC (.int 31)))))) (oN 2))))]))) (oV (eC (.int 1000003)))))) (sRet (eLst [(oV (eFrz (eCall dList [(oN 0)]))), (oV (eC (.int 0))), (oV (eC (.int 0))), (oV (eC (.int 0))), (oV (eN 1))]))))
def G__law_pool : Dv.Env → Out D := gOf 1 2 [0] (b__law_pool)
def b__law_spread : Dv.Env → Dv.Flow := (sSeq (sSet 1 (eOp2 dMod (oV (eFrz (eCall dInt [(oN 0)]))) (oV (eC (.int 2147483647))))) (sSeq (sSet 2 (eC (.int 1))) (sSeq (sFor (iArgs rg1 [(oV (eC (.int 4)))]) (.name 3) (sSeq (sSet 1 (eOp2 dMod (oV (eFrz (eCall dInt [(oV (eFrz (eOp2 dAdd (oV (eFrz (eOp2 dAdd (oV (eFrz (eOp2 dMulS (oN 1) (oV (eC (.int 48271)))))) (oV (eC (.int 12345)))))) (oN 3))))]))) (oV (eC (.int 2147483647))))) (sSet 2 (eOp2 dAdd (oV (eFrz (eOp2 dMulS (oN 2) (oV (eC (.int 2147483647)))))) (oN 1))))) (sRet (eMv 2)))))
def G__law_spread : Dv.Env → Out D := gOf 1 3 [0] (b__law_spread)
def b__law_draw : Dv.Env → Dv.Flow := (sSeq (sIf (bAnd (bOp2 dLe (oV (eOp2 dIx (oN 0) (oV (eC (.int 2))))) (oV (eC (.int 0)))) (bOp2 dLt (oV (eOp2 dIx (oN 0) (oV (eC (.int 1))))) (oV (eFrz (eCall dLen [(oV (eOp2 dIx (oN 0) (oV (eC (.int 0)))))]))))) (sSeq (sSet 2 (eOp2 dIx (oV (eOp2 dIx (oN 0) (oV (eC (.int 0))))) (oV (eOp2 dIx (oN 0) (oV (eC (.int 1))))))) (sSeq (sSub 0 (oV (eC (.int 1))) (eFrz (eOp2 dAdd (oV (eOp2 dIx (oN 0) (oV (eC (.int 1))))) (oV (eC (.int 1)))))) (sSeq (sSub 0 (oV (eC (.int 2))) (eN 2)) (sIf (bOp2 dLt (oN 2) (oV (eC (.int 1000000000000000000)))) (sSub 0 (oV (eC (.int 2))) (eFrz (eFn (G__law_spread) [(oN 2)]))) sNext)))) sNext) (sSeq (sSub 0 (oV (eC (.int 3))) (eFrz (eOp2 dAdd (oV (eOp2 dIx (oN 0) (oV (eC (.int 3))))) (oV (eC (.int 1)))))) (sSeq (sIf (bOp2 dLe (oV (eOp2 dIx (oN 0) (oV (eC (.int 2))))) (oV (eC (.int 0)))) (sSeq (sSet 3 (eOp2 dMod (oV (eFrz (eCall dInt [(oV (eFrz (eOp2 dAdd (oV (eFrz (eOp2 dAdd (oV (eFrz (eOp2 dMulS (oV (eOp2 dIx (oN 0) (oV (eC (.int 4))))) (oV (eC (.int 48271)))))) (oV (eFrz (eOp2 dMulS (oV (eOp2 dIx (oN 0) (oV (eC (.int 3))))) (oV (eC (.int 69621))))))))) (oV (eC (.int 1))))))]))) (oV (eC (.int 2147483647))))) (sSeq (sSet 3 (eOp2 dMod (oV (eFrz (eCall dInt [(oV (eFrz (eOp2 dAdd (oV (eFrz (eOp2 dMulS (oN 3) (oV (eC (.int 16807)))))) (oV (eOp2 dIx (oN 0) (oV (eC (.int 3))))))))]))) (oV (eC (.int 2147483629))))) (sRet (eOp2 dMod (oV (eOp2 dFdiv (oN 3) (oV (eC (.int 5))))) (oN 1))))) sNext) (sSeq (sSet 4 (eOp2 dMod (oV (eFrz (eCall dInt [(oV (eOp2 dIx (oN 0) (oV (eC (.int 2)))))]))) (oN 1))) (sSeq (sSub 0 (oV (eC (.int 2))) (eOp2 dFdiv (oV (eOp2 dIx (oN 0) (oV (eC (.int 2))))) (oN 1))) (sRet (eMv 4)))))))
def G__law_draw : Dv.Env → Out D := gOf 2 3 [0, 1] (b__law_draw)
def b__law_pick : Dv.Env → Dv.Flow := (sRet (eOp2 dIx (oN 1) (oV (eFrz (eFn (G__law_draw) [(oN 0), (oV (eFrz (eCall dLen [(oN 1)])))])))))
def G__law_pick : Dv.Env → Out D := gOf 2 0 [0, 1] (b__law_pick)
def b__law_same (self : Dv.Env → Out D) : Dv.Env → Dv.Flow := (sSeq (sIf (bOr (bE (eIsi .tup (oN 1))) (bE (eIsi .lst (oN 1)))) (sSeq (sIf (bOr (bOp2 dNe (oV (eIsi .tup (oN 1))) (oV (eIsi .tup (oN 0)))) (bOp2 dNe (oV (eIsi .lst (oN 1))) (oV (eIsi .lst (oN 0))))) (sRet (eC (.bl false))) sNext) (sSeq (sIf (bOp2 dNe (oV (eFrz (eCall dLen [(oN 0)]))) (oV (eFrz (eCall dLen [(oN 1)])))) (sRet (eC (.bl false))) sNext) (sRet (eOp2 dEq (oV (eFrz (eCall dLen [(oV (eFrz (eLc (iArgs rg1 [(oV (eFrz (eCall dLen [(oN 1)])))]) (.name 2) (bNot (bE (eFrz (eFn self [(oV (eOp2 dIx (oN 0) (oN 2))), (oV (eOp2 dIx (oN 1) (oN 2)))])))) (eN 2) [2])))]))) (oV (eC (.int 0))))))) sNext) (sSeq (sIf (bOp2 dIsN (oN 1) (oV (eC .non))) (sRet (eOp2 dIsN (oN 0) (oV (eC .non)))) sNext) (sSeq (sIf (bOr (bE (eIsi .bl (oN 1))) (bE (eIsi .bl (oN 0)))) (sRet (eAnd (eIsi .bl (oN 1)) (eAnd (eIsi .bl (oN 0)) (eOp2 dEq (oN 0) (oN 1))))) sNext) (sSeq (sIf (bE (eIsi .int (oN 1))) (sRet (eAnd (eIsi .int (oN 0)) (eOp2 dEq (oN 0) (oN 1)))) sNext) (sRet (eAnd (eIsi .str (oN 0)) (eOp2 dEq (oN 0) (oN 1))))))))
def G__law_same : Nat → Dv.Env → Out D
  | 0 => fun _ => .bad
  | m + 1 => gOf 2 1 [0, 1] (b__law_same (G__law_same m))
def b_is_integer : Dv.Env → Dv.Flow := (sRet (eAnd (eIsi .int (oN 0)) (eNot (eIsi .bl (oN 0)))))
def G_is_integer : Dv.Env → Out D := gOf 1 0 [0] (b_is_integer)
def b_is_row : Dv.Env → Dv.Flow := (sRet (eAnd (eIsi .tup (oN 0)) (eAnd (eOp2 dEq (oV (eFrz (eCall dLen [(oN 0)]))) (oN 1)) (eGenB false (iV (eN 0)) (.name 2) bYes (eFrz (eFn (G_is_integer) [(oN 2)])) [2]))))
def G_is_row : Dv.Env → Out D := gOf 2 1 [0, 1] (b_is_row)
def b_is_row_within : Dv.Env → Dv.Flow := (sRet (eAnd (eFrz (eFn (G_is_row) [(oN 0), (oN 1)])) (eGenB false (iV (eN 0)) (.name 4) bYes (eChain dLe dLe (oN 2) (oN 4) (oN 3)) [4])))
def G_is_row_within : Dv.Env → Out D := gOf 4 1 [0, 1, 2, 3] (b_is_row_within)
def poolD (ns : List Int) (a b c e : Int) : D := .own [.lst (ns.map D.int), .int a, .int b, .int c, .int e]
def PoolOK (m : Int) (d : D) : Prop := ∃ (ns : List Int) (a b c e : Int), d = poolD ns a b c e ∧ ns.length ≤ 63 ∧ 0 ≤ a ∧ 0 ≤ c ∧ c ≤ m ∧ 0 ≤ e ∧ e < 1000003
theorem le_size {n : Nat} (h : n ≤ 10000) : n ≤ sizeLine := Nat.le_trans h (by decide)
theorem rg4 : rg1 [D.int 4] = some [D.int 0, D.int 1, D.int 2, D.int 3] := rfl
theorem pw_step {s b X : Int} (hs : s < X) (hb : b < 2147483647) : s * 2147483647 + b < X * 2147483647 := by omega
theorem spread (c : Int) : OkR (G__law_spread [some (.int c)]) (fun d ρ => ∃ v, d = .int v ∧ ρ = [some (.int c)]) := by
  refine okr_gOf _ _ _ _ _ ?_
  unfold b__law_spread
  simp [dMod_s, rg4]
  refine fl_for (fun i ρ => ∃ (b s : Int) (kk : Option D), ρ = [some (.int c), some (.int b), some (.int s), kk] ∧ 0 ≤ b ∧ b < 2147483647 ∧ 0 ≤ s ∧ s < 2147483647 ^ (i + 1)) _ 0 _ ⟨_, _, _, rfl, by omega, by omega, by decide, by decide⟩ ?_ ?_
  · rintro i d ρ hd ⟨b, s, kk, rfl, h1, h2, h3, h4⟩
    obtain ⟨z, rfl⟩ : ∃ z, d = .int z := by
      rcases i with _ | _ | _ | _ | i <;> simp at hd <;> exact ⟨_, hd.symm⟩
    have hi : i < 4 := by
      have := (List.getElem?_eq_some_iff.mp hd).1
      simpa using this
    have hX : (2147483647 : Int) ^ (0 + i + 1) ≤ 2147483647 ^ 4 := by
      rcases i with _ | _ | _ | _ | i
      · decide
      · decide
      · decide
      · decide
      · omega
    have m1 : dMulS (.int b) (.int 48271) = some (.int (b * 48271)) := dMul_s (by omega) (by omega) (by omega) (by omega)
    have m2 : dMulS (.int s) (.int 2147483647) = some (.int (s * 2147483647)) := dMul_s (by omega) (by omega) (by omega) (by omega)
    refine ⟨_, rfl, ?_⟩
    simp [m1, m2, dMod_s]
    refine ⟨_, _, ⟨rfl, rfl⟩, by omega, by omega, by omega, ?_⟩
    rw [Int.pow_succ]
    exact pw_step (by simpa using h4) (by omega)
  · rintro ρ' ⟨b, s, kk, rfl, h⟩
    simp
theorem dLen_lst (ds : List D) : dLen [.lst ds] = some (.int (ds.length : Nat)) := rfl
theorem draw {m : Int} (hm : m < 1000000) {d : D} (h : PoolOK m d) {k : Int} (h1 : 1 ≤ k) (h2 : k < 2 ^ 100) : OkR (G__law_draw [some d, some (.int k)]) (fun x ρ => ∃ d' v, x = .int v ∧ ρ = [some d', some (.int k)] ∧ 0 ≤ v ∧ v < k ∧ PoolOK (m + 1) d') := by
  obtain ⟨ns, a, b, c, e, rfl, hn, ha, hc, hcm, he, he2⟩ := h
  refine okr_gOf _ _ _ _ _ ?_
  unfold b__law_draw poolD
  have fin : ∀ (x y : Int), 0 ≤ y → PoolOK (m + 1) (.own [.lst (ns.map D.int), .int y, .int x, .int (c + 1), .int e]) := fun x y hy => ⟨ns, y, x, c + 1, e, rfl, hn, hy, by omega, by omega, he, he2⟩
  have mk : dMod (.int b) (.int k) = some (.int (b % k)) := dMod_s (by omega)
  have m1 : dMulS (.int e) (.int 48271) = some (.int (e * 48271)) := dMul_s (by omega) (by omega) (by omega) (by omega)
  have m2 : dMulS (.int (c + 1)) (.int 69621) = some (.int ((c + 1) * 69621)) := dMul_s (by omega) (by omega) (by omega) (by omega)
  have m3 : ∀ z : Int, dMulS (.int (z % 2147483647)) (.int 16807) = some (.int (z % 2147483647 * 16807)) := fun z => dMul_s (by omega) (by omega) (by omega) (by omega)
  have m4 : ∀ z : Int, dMod (.int z) (.int k) = some (.int (z % k)) := fun z => dMod_s (by omega)
  have m5 : ∀ z : Int, dFdiv (.int z) (.int k) = some (.int (z / k)) := fun z => dFdiv_s (by omega) (by omega)
  have m6 : ∀ z : Int, 0 ≤ z % k ∧ z % k < k := fun z => ⟨Int.emod_nonneg _ (by omega), Int.emod_lt_of_pos _ (by omega)⟩
  by_cases hb : b ≤ 0
  · by_cases hl : a < ns.length
    · have hcell : dIx (.lst (ns.map D.int)) (.int a) = some (.int (ns[a.toNat]'(by omega))) := by
        rw [dIx_lst ha (by simpa using hl), List.getElem?_map, List.getElem?_eq_getElem (by omega)]
        rfl
      generalize ns[a.toNat]'(by omega) = z at hcell
      by_cases hz : z < 1000000000000000000
      · obtain ⟨x, r, es, v, rfl, rfl⟩ := (spread z).get
        by_cases hv : v ≤ 0
        · simp [dIx_lst, dLen_lst, ixN_pos, hb, hl, hcell, hz, es, hv, dMod_s, m1, m2, m3, m4, dFdiv_s]
          exact ⟨(m6 _).1, (m6 _).2, fin _ _ (by omega)⟩
        · simp [dIx_lst, dLen_lst, ixN_pos, hb, hl, hcell, hz, es, hv, m4, m5]
          exact ⟨(m6 _).1, (m6 _).2, fin _ _ (by omega)⟩
      · simp [dIx_lst, dLen_lst, ixN_pos, hb, hl, hcell, hz, show ¬ z ≤ 0 by omega, m4, m5]
        exact ⟨(m6 _).1, (m6 _).2, fin _ _ (by omega)⟩
    · simp [dIx_lst, dLen_lst, ixN_pos, hb, hl, dMod_s, m1, m2, m3, m4, dFdiv_s]
      exact ⟨(m6 _).1, (m6 _).2, fin _ _ (by omega)⟩
  · simp [dIx_lst, dLen_lst, ixN_pos, hb, m4, m5]
    exact ⟨(m6 _).1, (m6 _).2, fin _ _ (by omega)⟩
theorem cutD_pre {α : Type} (xs : List α) (h : xs.length ≤ 63) : Dv.cutD xs none (some 63) = xs := by
  unfold Dv.cutD
  have e1 : HT.sIx xs.length 0 none = 0 := rfl
  rw [e1]
  have e2 : HT.sIx xs.length xs.length (some 63) = xs.length := by
    unfold HT.sIx
    simp
    omega
  rw [e2]
  simp
theorem pool_ok {ns : List Int} (hn : ns.length ≤ 63) : OkR (G__law_pool [some (.scr ns)]) (fun d ρ => ρ = [some (.scr ns)] ∧ PoolOK 0 d) := by
  refine okr_gOf _ _ _ _ _ ?_
  unfold b__law_pool
  simp [dSl, tupOf, lstOf, itemsOf, sqOf, cutD_pre, hn]
  refine fl_for (fun i ρ => ∃ (e : Int) (kk : Option D), ρ = [some (.scr ns), some (.int e), kk] ∧ 0 ≤ e ∧ e < 1000003) _ 0 _ ⟨7, none, rfl, by decide, by decide⟩ ?_ ?_
  · rintro i d ρ hd ⟨e, kk, rfl, h1, h2⟩
    obtain ⟨z, rfl⟩ : ∃ z, d = .int z := by
      rw [List.getElem?_map] at hd
      obtain ⟨z, _, e⟩ := Option.map_eq_some_iff.mp hd
      exact ⟨z, e.symm⟩
    have m1 : dMulS (.int e) (.int 31) = some (.int (e * 31)) := dMul_s (by omega) (by omega) (by omega) (by omega)
    refine ⟨_, rfl, ?_⟩
    simp [m1, dMod_s]
    omega
  · rintro ρ' ⟨e, kk, rfl, h1, h2⟩
    simp [dList, sqOf, tupOf, lstOf, le_size]
    exact ⟨ns, 0, 0, 0, e, rfl, hn, by decide, by decide, by decide, h1, h2⟩
theorem PoolOK.mono {m n : Int} {d : D} (h : PoolOK m d) (e : m ≤ n) : PoolOK n d := by
  obtain ⟨ns, a, b, c, s, h0, h1, h2, h3, h4, h5, h6⟩ := h
  exact ⟨ns, a, b, c, s, h0, h1, h2, h3, by omega, h5, h6⟩
/-! ### same -/
/-- plain data, so and so deep -/
def Pl : Nat → D → Prop
  | _, .non => True
  | _, .bl _ => True
  | _, .int _ => True
  | _, .str _ => True
  | n + 1, .tup ds => ds.length < 1000000 ∧ ∀ d ∈ ds, Pl n d
  | n + 1, .lst ds => ds.length < 1000000 ∧ ∀ d ∈ ds, Pl n d
  | _, _ => False
theorem dNe_blb (a b : Bool) : dNe (.bl a) (.bl b) = some (.bl (!decide (a = b))) := by
  cases a <;> cases b <;> rfl
theorem dEq_blb (a b : Bool) : dEq (.bl a) (.bl b) = some (.bl (decide (a = b))) := by
  cases a <;> cases b <;> rfl
theorem same_seq (n : Nat) (ds : List D) (x : D) (hx : x = .tup ds ∨ x = .lst ds) (hl : ds.length < 1000000) (h : ∀ d ∈ ds, frz d = d → G__law_same n [some d, some d] = .ok (.bl true) [some d, some d]) (hf : ∀ d ∈ ds, frz d = d) :
    G__law_same (n + 1) [some x, some x] = .ok (.bl true) [some x, some x] := by
  show gOf 2 1 [0, 1] (b__law_same (G__law_same n)) _ = _
  unfold b__law_same
  have hr := rg1_nat ds.length (by omega)
  have key : ∀ d ∈ rangeD 0 ds.length, (bNot (bE (eFrz (eFn (G__law_same n) [(oV (eOp2 dIx (oN 0) (oN 2))), (oV (eOp2 dIx (oN 1) (oN 2)))])))) ([some x, some x, some d]) = .ok false [some x, some x, some d] := by
    intro d hd
    obtain ⟨i, hi, rfl⟩ := rangeD_mem hd
    have e1 : ds[i]? = some ds[i] := List.getElem?_eq_getElem hi
    have e2 := h ds[i] (List.getElem_mem hi) (hf _ (List.getElem_mem hi))
    have e3 := hf ds[i] (List.getElem_mem hi)
    generalize ds[i] = y at e1 e2 e3
    rcases hx with rfl | rfl
    · have ex : dIx (.tup ds) (.int (0 + (i : Nat))) = some y := dIx_atT (by omega) e1
      simp only [Int.zero_add] at ex
      simp [ex, e2, e3]
    · have ex : dIx (.lst ds) (.int (0 + (i : Nat))) = some y := dIx_at (by omega) e1
      simp only [Int.zero_add] at ex
      simp [ex, e2, e3]
  have lc := lc_pure (v := 2) (it := iArgs rg1 [(oV (eFrz (eCall dLen [(oN 1)])))]) (tst := (bNot (bE (eFrz (eFn (G__law_same n) [(oV (eOp2 dIx (oN 0) (oN 2))), (oV (eOp2 dIx (oN 1) (oN 2)))]))))) (elt := eN 2) (ρ := [some x, some x, none]) (ρ1 := [some x, some x, none]) (ds := rangeD 0 ds.length) (fun _ => false) id (fun d => [some x, some x, some d]) (by simp) (by
      rcases hx with rfl | rfl
      · simp [dLen_t, hr]
      · simp [dLen_l, hr]) (by rw [rangeD_len]; omega) (fun d hd => ⟨key d hd, fun h => by cases h⟩)
  have hf0 : ∀ l : List D, l.filter (fun _ => false) = [] := fun l => by induction l <;> simp_all
  rw [hf0, List.map_nil] at lc
  rcases hx with rfl | rfl
  · simp only [v_gOf, v_sSeq, v_sIf, v_bOr, v_bE, v_eIsi, v_oN, v_rda, List.replicate, List.cons_append, List.nil_append, List.getElem?_cons_zero, List.getElem?_cons_succ]
    simp [isI, dNe_blb, dLen_t, dLen_l, -w_eLc, lc]
  · simp only [v_gOf, v_sSeq, v_sIf, v_bOr, v_bE, v_eIsi, v_oN, v_rda, List.replicate, List.cons_append, List.nil_append, List.getElem?_cons_zero, List.getElem?_cons_succ]
    simp [isI, dNe_blb, dLen_t, dLen_l, -w_eLc, lc]
theorem same_flat (n : Nat) (d : D) (h : d = .non ∨ (∃ b, d = .bl b) ∨ (∃ i, d = .int i) ∨ ∃ s, d = .str s) : G__law_same (n + 1) [some d, some d] = .ok (.bl true) [some d, some d] := by
  show gOf 2 1 [0, 1] (b__law_same (G__law_same n)) _ = _
  unfold b__law_same
  rcases h with rfl | ⟨b, rfl⟩ | ⟨i, rfl⟩ | ⟨s, rfl⟩
  · simp [isI, dIsN, isN]
  · simp [isI, dIsN, isN, dEq_blb]
  · simp [isI, dIsN, isN]
  · simp [isI, dIsN, isN, dEq_str]
theorem Pl.frz : ∀ {n : Nat} {d : D}, Pl n d → Dv.frz d = d
  | _, .non, _ => rfl
  | _, .bl _, _ => rfl
  | _, .int _, _ => rfl
  | _, .str _, _ => rfl
  | _, .tup _, _ => rfl
  | _, .lst _, _ => rfl
  | _, .scr _, _ => rfl
  | 0, .own _, h => by unfold Pl at h; exact h.elim
  | _ + 1, .own _, h => by unfold Pl at h; exact h.elim
  | 0, .lck _, h => by unfold Pl at h; exact h.elim
  | _ + 1, .lck _, h => by unfold Pl at h; exact h.elim
theorem same_refl : ∀ (n m : Nat) (d : D), Pl n d → n ≤ m → G__law_same (m + 1) [some d, some d] = .ok (.bl true) [some d, some d]
  | n, m, .non, _, _ => same_flat m _ (.inl rfl)
  | n, m, .bl b, _, _ => same_flat m _ (.inr (.inl ⟨b, rfl⟩))
  | n, m, .int i, _, _ => same_flat m _ (.inr (.inr (.inl ⟨i, rfl⟩)))
  | n, m, .str s, _, _ => same_flat m _ (.inr (.inr (.inr ⟨s, rfl⟩)))
  | n + 1, m + 1, .tup ds, h, hm => by
    unfold Pl at h
    exact same_seq (m + 1) ds _ (.inl rfl) h.1 (fun d hd _ => same_refl n m d (h.2 d hd) (by omega)) fun d hd => (h.2 d hd).frz
  | n + 1, m + 1, .lst ds, h, hm => by
    unfold Pl at h
    exact same_seq (m + 1) ds _ (.inr rfl) h.1 (fun d hd _ => same_refl n m d (h.2 d hd) (by omega)) fun d hd => (h.2 d hd).frz
  | n + 1, 0, .tup ds, h, hm => by omega
  | n + 1, 0, .lst ds, h, hm => by omega
  | 0, _, .tup ds, h, _ => by unfold Pl at h; exact h.elim
  | 0, _, .lst ds, h, _ => by unfold Pl at h; exact h.elim
  | 0, _, .scr ds, h, _ => by unfold Pl at h; exact h.elim
  | _ + 1, _, .scr ds, h, _ => by unfold Pl at h; exact h.elim
  | 0, _, .own ds, h, _ => by unfold Pl at h; exact h.elim
  | _ + 1, _, .own ds, h, _ => by unfold Pl at h; exact h.elim
  | 0, _, .lck ds, h, _ => by unfold Pl at h; exact h.elim
  | _ + 1, _, .lck ds, h, _ => by unfold Pl at h; exact h.elim
theorem pl_Ti (l : List Int) (h : l.length < 1000000) : Pl 1 (Ti l) := by
  unfold Ti Pl
  refine ⟨by simpa using h, fun d hd => ?_⟩
  obtain ⟨i, _, rfl⟩ := List.mem_map.mp hd
  unfold Pl
  trivial
theorem pl_Ti2 (l : List (List Int)) (h : l.length < 1000000) (h2 : ∀ r ∈ l, r.length < 1000000) : Pl 2 (Ti2 l) := by
  unfold Ti2 Pl
  refine ⟨by simpa using h, fun d hd => ?_⟩
  obtain ⟨i, hi, rfl⟩ := List.mem_map.mp hd
  exact pl_Ti i (h2 i hi)
end Lb
end
section
set_option Elab.async false
set_option linter.all false
set_option maxRecDepth 10000000
set_option maxHeartbeats 4000000
namespace Lb
open PySem PySem.Spec PyProof.Rows L2 GxR GxA Dv XcL
def b_is_numeral : Dv.Env → Dv.Flow := (sSeq (sSet 2 (eIf (bE (eFrz (eM1 dStarts (oN 0) (oV (eC (.str ("-" : Str))))))) (eSl (oN 0) (some (oV (eC (.int 1)))) none) (eN 0))) (sSeq (sIf (bOr (bNot (bE (eChain dLe dLe (oV (eC (.int 1))) (oV (eFrz (eCall dLen [(oN 2)]))) (oN 1)))) (bNot (bE (eGenB false (iV (eN 2)) (.name 3) bYes (eChain dLe dLe (oV (eC (.str ("0" : Str)))) (oN 3) (oV (eC (.str ("9" : Str))))) [3])))) (sRet (eC (.bl false))) sNext) (sSeq (sIf (bOp2 dEq (oN 2) (oV (eC (.str ("0" : Str))))) (sRet (eOp2 dEq (oN 0) (oV (eC (.str ("0" : Str)))))) sNext) (sRet (eOp2 dNe (oV (eOp2 dIx (oN 2) (oV (eC (.int 0))))) (oV (eC (.str ("0" : Str)))))))))
def G_is_numeral : Dv.Env → Out D := gOf 2 2 [0, 1] (b_is_numeral)
def b__law_is_numeral : Dv.Env → Dv.Flow := (sSeq (sSet 2 (eIf (bOp2 dEq (oV (eFrz (eSl (oN 0) none (some (oV (eC (.int 1))))))) (oV (eC (.str ("-" : Str))))) (eSl (oN 0) (some (oV (eC (.int 1)))) none) (eN 0))) (sSeq (sIf (bOr (bOp2 dLt (oV (eFrz (eCall dLen [(oN 2)]))) (oV (eC (.int 1)))) (bOr (bOp2 dGt (oV (eFrz (eCall dLen [(oN 2)]))) (oN 1)) (bOp2 dGt (oV (eFrz (eCall dLen [(oV (eFrz (eLc (iV (eN 2)) (.name 3) (bOr (bOp2 dLt (oN 3) (oV (eC (.str ("0" : Str))))) (bOp2 dGt (oN 3) (oV (eC (.str ("9" : Str)))))) (eN 3) [3])))]))) (oV (eC (.int 0)))))) (sRet (eC (.bl false))) sNext) (sRet (eOr (eOp2 dEq (oN 0) (oV (eC (.str ("0" : Str))))) (eOp2 dNe (oV (eOp2 dIx (oN 2) (oV (eC (.int 0))))) (oV (eC (.str ("0" : Str)))))))))
def G__law_is_numeral : Dv.Env → Out D := gOf 2 2 [0, 1] (b__law_is_numeral)
theorem nine (x : Str) : (dCmp (fun i j => decide (i ≤ j)) (fun x y => !decide (y < x)) (.str ("0" : Str)) (.str x)) = some (.bl (!decide (x.cps.toList < [48]))) := by
  have e : ("0" : Str).cps.toList = [48] := by decide
  show some (D.bl (!decide (x.cps.toList < ("0" : Str).cps.toList))) = _
  rw [e]
theorem nine' (x : Str) : (dCmp (fun i j => decide (i ≤ j)) (fun x y => !decide (y < x)) (.str x) (.str ("9" : Str))) = some (.bl (!decide ([57] < x.cps.toList))) := by
  have e : ("9" : Str).cps.toList = [57] := by decide
  show some (D.bl (!decide (("9" : Str).cps.toList < x.cps.toList))) = _
  rw [e]
def plainL (x : Str) : List Nat := if x.cps.toList.take 1 = [45] then x.cps.toList.tail else x.cps.toList
def numB (g : Nat) (x : Str) : Bool := decide (1 ≤ (plainL x).length) && decide ((plainL x).length ≤ g) && (plainL x).all (fun c => decide (48 ≤ c) && decide (c ≤ 57)) && (decide (x.cps.toList = [48]) || !decide ((plainL x).head? = some 48))
theorem starts_minus (x : Str) : Txt.startswith x ("-" : Str) = decide (x.cps.toList.take 1 = [45]) := by
  have e1 : ("-" : Str).length = 1 := by decide
  have e2 : ("-" : Str).cps = #[45] := by decide
  show (decide (0 + ("-" : Str).length ≤ x.length) && (x.cps.extract 0 (0 + ("-" : Str).length) == ("-" : Str).cps)) = _
  rw [e1, e2, ← len_list x]
  have e3 : (x.cps.extract 0 (0 + 1) == #[45]) = decide (x.cps.toList.take 1 = [45]) := by
    have : (x.cps.extract 0 (0 + 1) = #[45]) ↔ (x.cps.toList.take 1 = [45]) := by
      constructor
      · intro h
        have := congrArg Array.toList h
        simpa using this
      · intro h
        apply Array.toList_inj.mp
        simpa using h
    by_cases hx : x.cps.extract 0 (0 + 1) = #[45]
    · rw [hx, decide_eq_true (this.mp hx)]; rfl
    · rw [decide_eq_false (fun h => hx (this.mpr h))]; simpa using hx
  rw [e3]
  by_cases h : x.cps.toList.take 1 = [45]
  · have : 1 ≤ x.cps.toList.length := by
      rcases hl : x.cps.toList with _ | ⟨c, l⟩
      · rw [hl] at h; simp at h
      · simp
    simp only [h, decide_true, Bool.and_true]
    exact decide_eq_true (by omega)
  · simp [h]
theorem take_minus (x : Str) : (cutS x none (some 1) = ("-" : Str)) = (x.cps.toList.take 1 = [45]) := by
  rw [str_eq_iff, cut_head, show ("-" : Str).cps.toList = [45] by decide]
def plainS (x : Str) : Str := if x.cps.toList.take 1 = [45] then cutS x (some 1) none else x
theorem plainS_list (x : Str) : (plainS x).cps.toList = plainL x := by
  unfold plainS plainL
  by_cases h : x.cps.toList.take 1 = [45]
  · rw [if_pos h, if_pos h]; exact cut_tail x
  · rw [if_neg h, if_neg h]
theorem plainS_len {x : Str} (h : x.length ≤ 1000000) : (plainS x).length ≤ 1000000 := by
  unfold plainS
  split
  · exact Nat.le_trans (cut_len ..) h
  · exact h
theorem lt48 (c : Nat) : ([c] < [48]) = (c < 48) := by simp [List.cons_lt_cons_iff]
theorem lt57 (c : Nat) : ([57] < [c]) = (57 < c) := by simp [List.cons_lt_cons_iff]
theorem dIx_str0 {p : Str} {c : Nat} {l : List Nat} (hl : p.length ≤ 1000000) (h : p.cps.toList = c :: l) : dIx (.str p) (.int 0) = some (.str ⟨#[c]⟩) := by
  show (if p.length ≤ sizeLine then (atI p.cps.toList 0).map fun c => D.str ⟨#[c]⟩ else none) = _
  rw [if_pos (le_sizeB hl), h]
  unfold atI
  rw [ixN_pos (by decide) (by rw [List.length_cons]; omega)]
  rfl
theorem chars_all (p : Str) (f : D → Bool) (g : Nat → Bool) (h : ∀ c, f (.str ⟨#[c]⟩) = g c) : (chars p).all f = p.cps.toList.all g := by
  unfold chars
  rw [List.all_map]
  congr 1
  funext c
  exact h c
theorem is_num {g : Nat} {x : Str} (h : x.length ≤ 1000000) : OkR (G_is_numeral [some (.str x), some (.int g)]) (fun d ρ => d = .bl (numB g x) ∧ ρ = [some (.str x), some (.int g)]) := by
  refine okr_gOf _ _ _ _ _ ?_
  unfold b_is_numeral
  have h0 : (FlR ((Dv.Flow.next [some (D.str x), some (.int g), some (.str (plainS x)), none]).thn (sSeq (sIf (bOr (bNot (bE (eChain dLe dLe (oV (eC (.int 1))) (oV (eFrz (eCall dLen [(oN 2)]))) (oN 1)))) (bNot (bE (eGenB false (iV (eN 2)) (.name 3) bYes (eChain dLe dLe (oV (eC (.str ("0" : Str)))) (oN 3) (oV (eC (.str ("9" : Str))))) [3])))) (sRet (eC (.bl false))) sNext) (sSeq (sIf (bOp2 dEq (oN 2) (oV (eC (.str ("0" : Str))))) (sRet (eOp2 dEq (oN 0) (oV (eC (.str ("0" : Str)))))) sNext) (sRet (eOp2 dNe (oV (eOp2 dIx (oN 2) (oV (eC (.int 0))))) (oV (eC (.str ("0" : Str)))))))))
      (fun _ => False) (fun d ρ' => d = D.bl (numB g x) ∧ ρ'[0]?.join = some (D.str x) ∧ ρ'[1]?.join = some (D.int g))) := by
    have hp := plainS_list x
    have hl := plainS_len h
    generalize plainS x = p at hp hl
    obtain ⟨ρ', eg, kk, rfl⟩ := genB_all (t := .name 3) (vs := [3]) (elt := (eChain dLe dLe (oV (eC (.str ("0" : Str)))) (oN 3) (oV (eC (.str ("9" : Str)))))) (fun ρ => ∃ kk, ρ = [some (D.str x), some (.int g), some (.str p), kk]) (fun d => match d with | .str z => !decide (z.cps.toList < [48]) && !decide ([57] < z.cps.toList) | _ => false) (chars p) [some (D.str x), some (.int g), some (.str p), none] ⟨none, rfl⟩ (by
      rintro d hd ρ ⟨kk, rfl⟩
      obtain ⟨c, hc, rfl⟩ := List.mem_map.mp hd
      refine ⟨_, _, rfl, ?_, some (.str ⟨#[c]⟩), rfl⟩
      simp [nine, nine', lt48, lt57]
      by_cases h1 : c < 48 <;> simp [h1, show ¬ 48 ≤ c ↔ c < 48 by omega] <;> (try omega))
    rw [chars_all p _ (fun c => decide (48 ≤ c) && decide (c ≤ 57)) (fun c => by
      simp only [lt48, lt57]
      by_cases h1 : c < 48 <;> by_cases h2 : 57 < c <;> simp [h1, h2] <;> omega)] at eg
    have hlen : p.length = (plainL x).length := by rw [← hp, Dv.len_list]
    rw [hp] at eg
    unfold numB
    simp only [v_sSeq, thn_next]
    by_cases c1 : 1 ≤ (plainL x).length
    · by_cases c2 : (plainL x).length ≤ g
      · by_cases c3 : (plainL x).all (fun c => decide (48 ≤ c) && decide (c ≤ 57)) = true
        · rw [c3] at eg
          by_cases c4 : plainL x = [48]
          · have c5 : p = ("0" : Str) := by rw [str_eq_iff, hp, c4]; decide
            have c6 : (x = ("0" : Str)) = (x.cps.toList = [48]) := by rw [str_eq_iff]; rfl
            have c7 : (1 : Int) ≤ ((plainL x).length : Nat) := by omega
            have c8 : ((plainL x).length : Int) ≤ g := by omega
            have c9 : (p = ("0" : Str)) = True := eq_true c5
            have c20 : ¬ (g : Int) < 1 := by rw [c4] at c2; simp at c2; omega
            have c21 : 1 ≤ g := by omega
            simp [dLen_strB hl, hlen, itemsOf, eg, dEq_str, c7, c8, c1, c2, c9, c6, c3, c4, c20, c21]
          · have c7 : (1 : Int) ≤ ((plainL x).length : Nat) := by omega
            have c8 : ((plainL x).length : Int) ≤ g := by omega
            have c9 : (p = ("0" : Str)) = False := eq_false (fun e => c4 (by rw [← hp, e]; decide))
            have c10 : ¬ x.cps.toList = [48] := fun e => c4 (by unfold plainL; rw [e]; decide)
            obtain ⟨c, l, e1⟩ : ∃ c l, plainL x = c :: l := by
              cases hh : plainL x with
              | nil => rw [hh] at c1; simp at c1
              | cons c l => exact ⟨c, l, rfl⟩
            have c11 := dIx_str0 hl (hp.trans e1)
            have c12 : ((⟨#[c]⟩ : Str) = ("0" : Str)) = (c = 48) := by
              rw [str_eq_iff, show ("0" : Str).cps.toList = [48] by decide]; simp
            have e2 : (plainL x).head? = some c := by rw [e1]; rfl
            clear e1
            simp [dLen_strB hl, hlen, itemsOf, eg, dEq_str, dNe_str, c7, c8, c1, c2, c9, c10, c3, c11, c12, e2]
        · have c7 : (1 : Int) ≤ ((plainL x).length : Nat) := by omega
          have c8 : ((plainL x).length : Int) ≤ g := by omega
          rw [show ((plainL x).all fun c => decide (48 ≤ c) && decide (c ≤ 57)) = false by simpa using c3] at eg
          simp [dLen_strB hl, hlen, itemsOf, eg, dEq_str, c7, c8, c1, c2, c3]
      · have c7 : (1 : Int) ≤ ((plainL x).length : Nat) := by omega
        have c8 : ¬ ((plainL x).length : Int) ≤ g := by omega
        simp [dLen_strB hl, hlen, c7, c8, c1, c2]
    · have c7 : ¬ (1 : Int) ≤ ((plainL x).length : Nat) := by omega
      simp [dLen_strB hl, hlen, c7, c1]
  by_cases hs : x.cps.toList.take 1 = [45]
  · have e : plainS x = cutS x (some 1) none := if_pos hs
    rw [e] at h0
    simp only [v_sSeq] at h0 ⊢
    simp [dStarts, dSl_strB h, starts_minus, hs]
    simpa using h0
  · have e : plainS x = x := if_neg hs
    rw [e] at h0
    simp [dStarts, dSl_strB h, starts_minus, hs]
    simpa using h0
theorem ltz (x : Str) : (dCmp (fun i j => decide (i < j)) (fun x y => decide (x < y)) (.str x) (.str ("0" : Str))) = some (.bl (decide (x.cps.toList < [48]))) := by
  have e : ("0" : Str).cps.toList = [48] := by decide
  show some (D.bl (decide (x.cps.toList < ("0" : Str).cps.toList))) = _
  rw [e]
theorem gtn (x : Str) : (dCmp (fun i j => decide (j < i)) (fun x y => decide (y < x)) (.str x) (.str ("9" : Str))) = some (.bl (decide ([57] < x.cps.toList))) := by
  have e : ("9" : Str).cps.toList = [57] := by decide
  show some (D.bl (decide (("9" : Str).cps.toList < x.cps.toList))) = _
  rw [e]
theorem bad_count (p : Str) (f : D → Bool) (g : Nat → Bool) (h : ∀ c, f (.str ⟨#[c]⟩) = !g c) : ((chars p).filter f).length = 0 ↔ p.cps.toList.all g = true := by
  unfold chars
  rw [List.length_eq_zero_iff, List.filter_eq_nil_iff, List.all_eq_true]
  constructor
  · intro h1 c hc
    have := h1 _ (List.mem_map_of_mem hc)
    rw [h c] at this
    simpa using this
  · intro h1 d hd
    obtain ⟨c, hc, rfl⟩ := List.mem_map.mp hd
    rw [h c, h1 c hc]
    simp
theorem law_num {g : Nat} {x : Str} (h : x.length ≤ 1000000) : OkR (G__law_is_numeral [some (.str x), some (.int g)]) (fun d ρ => d = .bl (numB g x) ∧ ρ = [some (.str x), some (.int g)]) := by
  refine okr_gOf _ _ _ _ _ ?_
  unfold b__law_is_numeral
  have h0 : (FlR ((Dv.Flow.next [some (D.str x), some (.int g), some (.str (plainS x)), none]).thn (sSeq (sIf (bOr (bOp2 dLt (oV (eFrz (eCall dLen [(oN 2)]))) (oV (eC (.int 1)))) (bOr (bOp2 dGt (oV (eFrz (eCall dLen [(oN 2)]))) (oN 1)) (bOp2 dGt (oV (eFrz (eCall dLen [(oV (eFrz (eLc (iV (eN 2)) (.name 3) (bOr (bOp2 dLt (oN 3) (oV (eC (.str ("0" : Str))))) (bOp2 dGt (oN 3) (oV (eC (.str ("9" : Str)))))) (eN 3) [3])))]))) (oV (eC (.int 0)))))) (sRet (eC (.bl false))) sNext) (sRet (eOr (eOp2 dEq (oN 0) (oV (eC (.str ("0" : Str))))) (eOp2 dNe (oV (eOp2 dIx (oN 2) (oV (eC (.int 0))))) (oV (eC (.str ("0" : Str)))))))))
      (fun _ => False) (fun d ρ' => d = D.bl (numB g x) ∧ ρ'[0]?.join = some (D.str x) ∧ ρ'[1]?.join = some (D.int g))) := by
    have hp := plainS_list x
    have hl := plainS_len h
    generalize plainS x = p at hp hl
    obtain ⟨acc, ρ', eg, hacc, kk, rfl⟩ := lcL_lenB (t := .name 3) (vs := [3]) (tst := (bOr (bOp2 dLt (oN 3) (oV (eC (.str ("0" : Str))))) (bOp2 dGt (oN 3) (oV (eC (.str ("9" : Str))))))) (elt := (eN 3)) (fun ρ => ∃ kk, ρ = [some (D.str x), some (.int g), some (.str p), kk]) (fun d => match d with | .str z => decide (z.cps.toList < [48]) || decide ([57] < z.cps.toList) | _ => false) (chars p) [] [some (D.str x), some (.int g), some (.str p), none] ⟨none, rfl⟩ (by unfold chars; rw [List.length_map, Dv.len_list]; simpa using hl) (by
      rintro d hd ρ ⟨kk, rfl⟩
      obtain ⟨c, hc, rfl⟩ := List.mem_map.mp hd
      refine ⟨_, [some (D.str x), some (.int g), some (.str p), some (.str ⟨#[c]⟩)], rfl, ?_, ⟨_, rfl⟩, fun _ => ⟨_, _, rfl, _, rfl⟩⟩
      simp [ltz, gtn, lt48, lt57]
      by_cases h1 : c < 48 <;> simp [h1])
    have hz := bad_count p (fun d => match d with | .str z => decide (z.cps.toList < [48]) || decide ([57] < z.cps.toList) | _ => false) (fun c => decide (48 ≤ c) && decide (c ≤ 57)) (fun c => by
      simp only [lt48, lt57]
      by_cases h1 : c < 48 <;> by_cases h2 : 57 < c <;> simp [h1, h2] <;> omega)
    rw [List.length_nil, Nat.zero_add] at hacc
    rw [← hacc] at hz
    have hlen : p.length = (plainL x).length := by rw [← hp, Dv.len_list]
    rw [hp] at hz
    unfold numB
    simp only [v_sSeq, thn_next]
    by_cases c1 : 1 ≤ (plainL x).length
    · have c7 : ¬ ((plainL x).length : Int) < 1 := by omega
      by_cases c2 : (plainL x).length ≤ g
      · have c8 : ¬ (g : Int) < ((plainL x).length : Nat) := by omega
        by_cases c3 : (plainL x).all (fun c => decide (48 ≤ c) && decide (c ≤ 57)) = true
        · have c4 : acc.length = 0 := hz.mpr c3
          obtain ⟨c, l, e1⟩ : ∃ c l, plainL x = c :: l := by
            cases hh : plainL x with
            | nil => rw [hh] at c1; simp at c1
            | cons c l => exact ⟨c, l, rfl⟩
          have c11 := dIx_str0 hl (hp.trans e1)
          have c12 : ((⟨#[c]⟩ : Str) = ("0" : Str)) = (c = 48) := by
            rw [str_eq_iff, show ("0" : Str).cps.toList = [48] by decide]; simp
          have e2 : (plainL x).head? = some c := by rw [e1]; rfl
          clear e1
          have c6 : (x = ("0" : Str)) = (x.cps.toList = [48]) := by rw [str_eq_iff]; rfl
          by_cases c13 : x.cps.toList = [48]
          · simp [dLen_strB hl, hlen, itemsOf, eg, dLen_lst, dEq_str, dNe_str, c7, c8, c1, c2, c4, c6, c13, c3]
          · simp [dLen_strB hl, hlen, itemsOf, eg, dLen_lst, dEq_str, dNe_str, c7, c8, c1, c2, c4, c6, c13, c3, c11, c12, e2]
        · have c4 : 0 < acc.length := by
            have : acc.length ≠ 0 := fun e => c3 (hz.mp e)
            omega
          simp [dLen_strB hl, hlen, itemsOf, eg, dLen_lst, c7, c8, c1, c2, c4, c3]
      · have c8 : (g : Int) < ((plainL x).length : Nat) := by omega
        simp [dLen_strB hl, hlen, c7, c8, c1, c2]
    · have c7 : ((plainL x).length : Int) < 1 := by omega
      simp [dLen_strB hl, hlen, c7, c1]
  by_cases hs : x.cps.toList.take 1 = [45]
  · have e : plainS x = cutS x (some 1) none := if_pos hs
    rw [e] at h0
    simp only [v_sSeq] at h0 ⊢
    simp [dEq_str, dSl_strB h, take_minus, hs]
    simpa using h0
  · have e : plainS x = x := if_neg hs
    rw [e] at h0
    simp [dEq_str, dSl_strB h, take_minus, hs]
    simpa using h0
end Lb
end
section
set_option Elab.async false
set_option linter.all false
set_option maxRecDepth 100000
set_option maxHeartbeats 4000000
/-! What numerals say; written integers; bent texts. -/
namespace Lb
open PySem PySem.Spec PyProof.Rows L2 GxR GxA Dv XcL
def b__law_bent_text : Dv.Env → Dv.Flow := (sSeq (sSet 3 (eFn (G__law_draw) [(oN 0), (oV (eFrz (eOp2 dAdd (oV (eFrz (eCall dLen [(oN 1)]))) (oV (eC (.int 1))))))])) (sSeq (sSet 4 (eFn (G__law_pick) [(oN 0), (oN 2)])) (sSeq (sSet 5 (eFn (G__law_draw) [(oN 0), (oV (eC (.int 4)))])) (sSeq (sIf (bOp2 dEq (oN 5) (oV (eC (.int 0)))) (sRet (eOp2 dAdd (oV (eFrz (eOp2 dAdd (oV (eFrz (eSl (oN 1) none (some (oN 3))))) (oN 4)))) (oV (eFrz (eSl (oN 1) (some (oV (eFrz (eOp2 dAdd (oN 3) (oV (eC (.int 1))))))) none))))) sNext) (sSeq (sIf (bOp2 dEq (oN 5) (oV (eC (.int 1)))) (sRet (eOp2 dAdd (oV (eFrz (eSl (oN 1) none (some (oN 3))))) (oV (eFrz (eSl (oN 1) (some (oV (eFrz (eOp2 dAdd (oN 3) (oV (eC (.int 1))))))) none))))) sNext) (sSeq (sIf (bOp2 dEq (oN 5) (oV (eC (.int 2)))) (sRet (eOp2 dAdd (oV (eFrz (eOp2 dAdd (oV (eFrz (eSl (oN 1) none (some (oN 3))))) (oN 4)))) (oV (eFrz (eSl (oN 1) (some (oN 3)) none))))) sNext) (sSeq (sSet 6 (eM1 dSplit (oN 1) (oV (eC (.str ("\n" : Str)))))) (sSeq (sSet 7 (eFn (G__law_draw) [(oN 0), (oV (eFrz (eCall dLen [(oN 6)])))])) (sSeq (sSet 6 (eIf (bOp2 dEq (oV (eFrz (eFn (G__law_draw) [(oN 0), (oV (eC (.int 2)))]))) (oV (eC (.int 0)))) (eOp2 dAdd (oV (eFrz (eSl (oN 6) none (some (oN 7))))) (oV (eFrz (eSl (oN 6) (some (oV (eFrz (eOp2 dAdd (oN 7) (oV (eC (.int 1))))))) none)))) (eOp2 dAdd (oV (eFrz (eOp2 dAdd (oV (eFrz (eSl (oN 6) none (some (oN 7))))) (oV (eFrz (eLst [(oV (eOp2 dIx (oN 6) (oN 7)))])))))) (oV (eFrz (eSl (oN 6) (some (oN 7)) none)))))) (sRet (eM1 dJoin (oV (eC (.str ("\n" : Str)))) (oN 6))))))))))))
def G__law_bent_text : Dv.Env → Out D := gOf 3 5 [0, 1, 2] (b__law_bent_text)
def numV (x : Str) : Int := (intText? x).getD 0
theorem val_lt : ∀ (k : Nat) (cs : List Nat), cs.length = k → NumText.AllDigits cs → NumText.digitsVal cs < 10 ^ k
  | 0, [], _, _ => by decide
  | k + 1, cs, hl, h => by
    have hne : cs ≠ [] := fun e => by rw [e] at hl; simp at hl
    have e := List.dropLast_concat_getLast hne
    rw [← e, NumText.digitsVal_snoc]
    have h1 := val_lt k cs.dropLast (by rw [List.length_dropLast]; omega) (fun c hc => h c (List.dropLast_subset _ hc))
    have h2 := h _ (List.getLast_mem hne)
    rw [Nat.pow_succ]
    omega
theorem num_val {g : Nat} {x : Str} (hg : g ≤ 600) (h : numB g x = true) : dInt [.str x] = some (.int (numV x)) ∧ (numV x).natAbs < 10 ^ g := by
  unfold numB at h
  simp only [Bool.and_eq_true, decide_eq_true_eq] at h
  obtain ⟨⟨⟨h1, h2⟩, h3⟩, _⟩ := h
  have hd : NumText.AllDigits (plainL x) := fun c hc => by
    have := List.all_eq_true.mp h3 c hc
    simpa using this
  have hv := val_lt _ (plainL x) rfl hd
  have hv2 : NumText.digitsVal (plainL x) < 10 ^ g := Nat.lt_of_lt_of_le hv (Nat.pow_le_pow_right (by decide) h2)
  have hne : plainL x ≠ [] := fun e => by rw [e] at h1; simp at h1
  by_cases hs : x.cps.toList.take 1 = [45]
  · have e : plainL x = x.cps.toList.tail := if_pos hs
    obtain ⟨cs, hx⟩ : ∃ cs, x.cps.toList = 45 :: cs := by
      rcases hl : x.cps.toList with _ | ⟨c, l⟩
      · rw [hl] at hs; simp at hs
      · rw [hl] at hs
        simp at hs
        exact ⟨l, by rw [hs]⟩
    have e2 : plainL x = cs := by rw [e, hx]; rfl
    have hl : x.length ≤ g + 1 := by rw [← Dv.len_list, hx, List.length_cons, ← e2]; omega
    have hi := intText_neg hx (e2 ▸ hd) (e2 ▸ hne) (by omega)
    unfold numV
    rw [hi]
    refine ⟨?_, ?_⟩
    · show (if x.length ≤ 640 then (intText? x).map D.int else none) = _
      rw [if_pos (by omega), hi]
      rfl
    · show (-((NumText.digitsVal cs : Nat) : Int)).natAbs < _
      rw [e2] at hv2
      omega
  · have e : plainL x = x.cps.toList := if_neg hs
    have hl : x.length ≤ g + 1 := by rw [← Dv.len_list, ← e]; omega
    have hi := intText_digits (x := x) (e ▸ hd) (e ▸ hne) (by omega)
    rw [e] at hv2
    unfold numV
    rw [hi]
    refine ⟨?_, ?_⟩
    · show (if x.length ≤ 640 then (intText? x).map D.int else none) = _
      rw [if_pos (by omega), hi]
      rfl
    · show (((NumText.digitsVal x.cps.toList : Nat) : Int)).natAbs < _
      omega
def intS (z : Int) : Str := Str.ofString (toString z)
theorem intS_nat (n : Nat) : (intS n).cps.toList = TL.numL n := TL.tl_num n
theorem intS_neg (n : Nat) : (intS (Int.negSucc n)).cps.toList = 45 :: TL.numL (n + 1) := by
  have e : toString (Int.negSucc n) = "-" ++ toString ((n + 1 : Nat) : Int) := rfl
  unfold intS
  rw [e, ← TL.tl_num (n + 1)]
  show (Str.ofString ("-" ++ toString ((n + 1 : Nat) : Int))).cps.toList = 45 :: (Str.ofString (toString ((n + 1 : Nat) : Int))).cps.toList
  rw [signs_ofString, signs_ofString, String.toList_append]
  rfl
theorem numL_head : ∀ n : Nat, (TL.numL n).head? = some 48 → n = 0 := by
  intro n
  induction n using Nat.strongRecOn with
  | _ n ih =>
    intro h
    by_cases h1 : n < 10
    · rw [TL.numL_lt h1] at h
      simp at h
      omega
    · rw [TL.numL_step (by omega)] at h
      have hne := TL.numL_ne (n / 10)
      have h2 : (TL.numL (n / 10)).head? = some 48 := by
        cases hl : TL.numL (n / 10) with
        | nil => exact absurd hl hne
        | cons c l => rw [hl] at h; simpa using h
      have := ih (n / 10) (by omega) h2
      omega
theorem intS_plain (z : Int) : plainL (intS z) = TL.numL z.natAbs := by
  unfold plainL
  cases z with
  | ofNat n =>
    have e := intS_nat n
    show (if (intS (n : Int)).cps.toList.take 1 = [45] then _ else (intS (n : Int)).cps.toList) = _
    rw [if_neg, e]
    · rfl
    · rw [e]
      intro h
      have h45 : 45 ∈ TL.numL n := by
        cases hl : TL.numL n with
        | nil => rw [hl] at h; simp at h
        | cons c l => rw [hl] at h; simp at h; rw [h]; simp
      exact TL.numL_free (by omega) h45
  | negSucc n =>
    rw [if_pos, intS_neg]
    · rfl
    · rw [intS_neg]; rfl
theorem intS_numB {g : Nat} (hg : 1 ≤ g) {z : Int} (h : z.natAbs < 10 ^ g) : numB g (intS z) = true := by
  unfold numB
  rw [intS_plain]
  have h1 := TL.numL_len (by omega) h
  have h2 := TL.numL_ne z.natAbs
  have h3 := TL.numL_digits z.natAbs
  have h4 : 1 ≤ (TL.numL z.natAbs).length := by
    cases hl : TL.numL z.natAbs with
    | nil => exact absurd hl h2
    | cons c l => simp
  simp only [Bool.and_eq_true, Bool.or_eq_true, decide_eq_true_eq]
  refine ⟨⟨⟨h4, h1⟩, List.all_eq_true.mpr fun c hc => by have := h3 c hc; simp [this]⟩, ?_⟩
  by_cases h5 : (TL.numL z.natAbs).head? = some 48
  · have h6 := numL_head _ h5
    have h7 : z = 0 := by omega
    subst h7
    exact Or.inl (intS_nat 0)
  · exact Or.inr (by simp [h5])
theorem intS_val {g : Nat} (hg : 1 ≤ g) (hg2 : g ≤ 600) {z : Int} (h : z.natAbs < 10 ^ g) : numV (intS z) = z := by
  have h1 := TL.numL_len (by omega) h
  unfold numV
  cases z with
  | ofNat n =>
    have e : intText? (intS (n : Int)) = some (n : Int) := TL.int_num (Nat.le_trans h1 (by omega))
    show (intText? (intS (n : Int))).getD 0 = (n : Int)
    rw [e]; rfl
  | negSucc n =>
    have hx := intS_neg n
    have hl : (intS (Int.negSucc n)).length ≤ 4300 := by
      rw [← Dv.len_list, hx, List.length_cons]
      have : (TL.numL (n + 1)).length ≤ g := h1
      omega
    rw [intText_neg hx (TL.numL_digits _) (TL.numL_ne _) hl, TL.numL_val]
    rfl
theorem intS_free (z : Int) : 47 ∉ (intS z).cps.toList := int_text_free' 47 (by decide) z
theorem intS_len {g : Nat} (hg : 1 ≤ g) {z : Int} (h : z.natAbs < 10 ^ g) : (intS z).length ≤ g + 1 := by
  have h1 := TL.numL_len (by omega) h
  rw [← Dv.len_list]
  cases z with
  | ofNat n => 
    have e := intS_nat n
    show (intS (n : Int)).cps.toList.length ≤ g + 1
    rw [e]
    exact Nat.le_succ_of_le h1
  | negSucc n =>
    rw [intS_neg, List.length_cons]
    exact Nat.succ_le_succ h1
theorem split_parts {parts : List Str} (hne : parts ≠ []) (h : ∀ p ∈ parts, 47 ∉ p.cps.toList) : Txt.split (Str.join ("/" : Str) parts) ("/" : Str) = parts := by
  have := TL.split_join (y := ("/" : Str)) (s := 47) (S := []) (by decide) (by decide +kernel) hne h
  rw [TL.join_eq] at this
  exact this
theorem empty_cat (x : Str) : Str.empty ++ x = x := by
  apply str_ext
  show TL.tl (Str.empty ++ x) = TL.tl x
  rw [TL.tl_append]
  rfl
theorem dIx_strv {z : Str} {v : Int} (hl : z.length ≤ 1000000) (h0 : 0 ≤ v) (h1 : v < z.length) : ∃ c, dIx (.str z) (.int v) = some (.str ⟨#[c]⟩) := by
  have hv : v.toNat < z.cps.toList.length := by rw [Dv.len_list]; omega
  refine ⟨z.cps.toList[v.toNat], ?_⟩
  show (if z.length ≤ sizeLine then (atI z.cps.toList v).map fun c => D.str ⟨#[c]⟩ else none) = _
  rw [if_pos (le_sizeB hl)]
  unfold atI
  rw [ixN_pos h0 (by rw [Dv.len_list]; exact h1)]
  show (z.cps.toList[v.toNat]?).map _ = _
  rw [List.getElem?_eq_getElem hv]
  rfl
theorem pick {m : Int} (hm : m < 1000000) {d : D} (h : PoolOK m d) {z : Str} (h1 : 1 ≤ z.length) (h2 : z.length ≤ 1000000) : OkR (G__law_pick [some d, some (.str z)]) (fun x ρ => ∃ d' c, x = .str ⟨#[c]⟩ ∧ ρ = [some d', some (.str z)] ∧ PoolOK (m + 1) d') := by
  obtain ⟨x, r, e, d', v, rfl, rfl, v0, v1, h'⟩ := (draw hm h (k := (z.length : Nat)) (by omega) (by omega)).get
  obtain ⟨c, ec⟩ := dIx_strv h2 v0 v1
  refine okr_gOf _ _ _ _ _ ?_
  unfold b__law_pick
  simp [dLen_strB h2, e, ec]
  exact h'
theorem dAdd_str {x y : Str} (h : x.length + y.length ≤ 1000000) : dAdd (.str x) (.str y) = some (.str (x ++ y)) := by
  show (if x.length + y.length ≤ sizeLine then _ else _) = _
  rw [if_pos (le_sizeB h)]
theorem dAdd_lst {x y : List D} (h : x.length + y.length ≤ 1000000) : dAdd (.lst x) (.lst y) = some (.own (x ++ y)) := by
  show (if x.length + y.length ≤ sizeLine then _ else _) = _
  rw [if_pos (le_sizeB h)]
theorem dSl_lst (x : List D) (lo hi : Option Int) : dSl (.lst x) lo hi = some (.own (Dv.cutD x lo hi)) := rfl
theorem cutD_map {α β : Type} (f : α → β) (xs : List α) (lo hi : Option Int) : Dv.cutD (xs.map f) lo hi = (Dv.cutD xs lo hi).map f := by
  unfold Dv.cutD
  rw [List.map_take, List.map_drop, List.length_map]
theorem cutD_len {α : Type} (xs : List α) (lo hi : Option Int) : (Dv.cutD xs lo hi).length ≤ xs.length := by
  unfold Dv.cutD
  rw [List.length_take, List.length_drop]
  omega
theorem cutD_mem {α : Type} {xs : List α} {lo hi : Option Int} {a : α} (h : a ∈ Dv.cutD xs lo hi) : a ∈ xs := List.mem_of_mem_drop (List.mem_of_mem_take h)
theorem strsOf_map : ∀ ys : List Str, strsOf (ys.map D.str) = some ys
  | [] => rfl
  | y :: ys => by
    show (strsOf (ys.map D.str)).map _ = _
    rw [strsOf_map ys]
    rfl
theorem sum_le {n : Nat} : ∀ ys : List Str, (∀ y ∈ ys, y.length ≤ n) → (ys.map (·.length)).sum ≤ ys.length * n
  | [], _ => Nat.zero_le _
  | y :: ys, h => by
    rw [List.map_cons, List.sum_cons, List.length_cons, Nat.succ_mul]
    have h1 := sum_le ys fun z hz => h z (List.mem_cons_of_mem _ hz)
    have h2 := h y (List.mem_cons_self ..)
    omega
theorem dJoin_eq {sep : Str} {ys : List Str} (h : (ys.map (·.length)).sum + ys.length * sep.length ≤ 16777216) : dJoin sep (.lst (ys.map D.str)) = some (.str (Txt.join sep ys)) := by
  show (strsOf (ys.map D.str)).bind _ = _
  rw [strsOf_map]
  show (if (ys.map (·.length)).sum + ys.length * sep.length ≤ 16777216 then some (D.str (Txt.join sep ys)) else none) = _
  rw [if_pos h]
theorem join_len (sep : Str) (ys : List Str) : (Txt.join sep ys).length ≤ (ys.map (·.length)).sum + ys.length * sep.length := by
  have h2 := StrLaws.join_length_le sep ys
  rw [TL.join_eq]
  omega
theorem dJoin_ok {n m : Nat} {sep : Str} {ys : List Str} (hn : ys.length ≤ n) (h : ∀ y ∈ ys, y.length ≤ m) (hm : n * (m + sep.length) ≤ 1000000) : dJoin sep (.lst (ys.map D.str)) = some (.str (Txt.join sep ys)) ∧ (Txt.join sep ys).length ≤ n * (m + sep.length) := by
  have h1 := sum_le ys h
  have h2 := join_len sep ys
  have h3 : ys.length * (m + sep.length) ≤ n * (m + sep.length) := Nat.mul_le_mul_right _ hn
  rw [Nat.mul_add] at h3
  exact ⟨dJoin_eq (by omega), by omega⟩
theorem sp_any {x y : Str} (hy : (y.length == 0) = false) (h : x.length ≤ 1000000) : dSplit x (.str y) = some (.own ((Txt.split x y).map D.str)) := by
  show (if (y.length == 0) = false ∧ x.length + 2 ≤ sizeLine then _ else _) = _
  rw [if_pos ⟨hy, Nat.le_trans (show x.length + 2 ≤ 1000002 by omega) (by decide)⟩]
theorem bent {m : Int} (hm : m < 900000) {d : D} (h : PoolOK m d) {x z : Str} (hx : x.length ≤ 700) (h1 : 1 ≤ z.length) (h2 : z.length ≤ 1000000) : OkR (G__law_bent_text [some d, some (.str x), some (.str z)]) (fun r ρ => ∃ d' t, r = .str t ∧ t.length ≤ 990000 ∧ ρ = [some d', some (.str x), some (.str z)] ∧ PoolOK (m + 5) d') := by
  obtain ⟨_, _, e1, d1, v, rfl, rfl, v0, v1, p1⟩ := (draw (by omega) h (k := ((x.length : Nat) : Int) + 1) (by omega) (by omega)).get
  obtain ⟨_, _, e2, d2, c, rfl, rfl, p2⟩ := (pick (by omega) p1 h1 h2).get
  obtain ⟨_, _, e3, d3, t, rfl, rfl, t0, t1, p3⟩ := (draw (by omega) p2 (k := 4) (by omega) (by omega)).get
  have dl := dLen_strB (x := x) (by omega)
  have dn := dLen_strB h2
  have A : ∀ lo hi, (cutS x lo hi).length ≤ 700 := fun lo hi => Nat.le_trans (cut_len ..) hx
  have c1 : (⟨#[c]⟩ : Str).length = 1 := rfl
  have f1 : ∀ lo hi, dAdd (.str (cutS x lo hi)) (.str ⟨#[c]⟩) = some (.str (cutS x lo hi ++ ⟨#[c]⟩)) := fun lo hi => dAdd_str (by have := A lo hi; omega)
  have f2 : ∀ lo hi lo' hi', dAdd (.str (cutS x lo hi ++ ⟨#[c]⟩)) (.str (cutS x lo' hi')) = some (.str (cutS x lo hi ++ ⟨#[c]⟩ ++ cutS x lo' hi')) := fun lo hi lo' hi' => dAdd_str (by have := A lo hi; have := A lo' hi'; rw [len_cat]; omega)
  have f3 : ∀ lo hi lo' hi', dAdd (.str (cutS x lo hi)) (.str (cutS x lo' hi')) = some (.str (cutS x lo hi ++ cutS x lo' hi')) := fun lo hi lo' hi' => dAdd_str (by have := A lo hi; have := A lo' hi'; omega)
  have L2 : ∀ lo hi lo' hi', (cutS x lo hi ++ ⟨#[c]⟩ ++ cutS x lo' hi').length ≤ 990000 := fun lo hi lo' hi' => by have := A lo hi; have := A lo' hi'; rw [len_cat, len_cat]; omega
  have L3 : ∀ lo hi lo' hi', (cutS x lo hi ++ cutS x lo' hi').length ≤ 990000 := fun lo hi lo' hi' => by have := A lo hi; have := A lo' hi'; rw [len_cat]; omega
  have q3 : PoolOK (m + 5) d3 := p3.mono (by omega)
  have sl : ∀ lo hi, dSl (.str x) lo hi = some (.str (cutS x lo hi)) := fun lo hi => dSl_strB (by omega)
  refine okr_gOf _ _ _ _ _ ?_
  unfold b__law_bent_text
  by_cases k0 : t = 0
  · simp [dl, dn, e1, e2, e3, k0, f1, f2, f3, sl]
    exact ⟨L2 _ _ _ _, q3⟩
  · by_cases k1 : t = 1
    · simp [dl, dn, e1, e2, e3, k0, k1, f1, f2, f3, sl]
      exact ⟨L3 _ _ _ _, q3⟩
    · by_cases k2 : t = 2
      · simp [dl, dn, e1, e2, e3, k0, k1, k2, f1, f2, f3, sl]
        exact ⟨L2 _ _ _ _, q3⟩
      · have sp := sp_any (x := x) (y := ("\n" : Str)) (by decide) (by omega)
        have spos := split_pos x ("\n" : Str)
        have sle := split_le x ("\n" : Str)
        have ssh : ∀ w ∈ Txt.split x ("\n" : Str), w.length ≤ 700 := fun w hw => Nat.le_trans (part_short hw) hx
        generalize Txt.split x ("\n" : Str) = ys at sp spos sle ssh
        obtain ⟨_, _, e4, d4, k, rfl, rfl, j0, j1, p4⟩ := (draw (by omega) p3 (k := ((ys.length : Nat) : Int)) (by omega) (by omega)).get
        obtain ⟨_, _, e5, d5, u, rfl, rfl, u0, u1, p5⟩ := (draw (by omega) p4 (k := 2) (by omega) (by omega)).get
        have hk : k.toNat < ys.length := by omega
        have g0 : dIx (.lst (ys.map D.str)) (.int k) = some (.str (ys[k.toNat])) := by
          rw [dIx_lst j0 (by rw [List.length_map]; exact j1), List.getElem?_map, List.getElem?_eq_getElem hk]
          rfl
        have hy : ys[k.toNat] ∈ ys := List.getElem_mem hk
        generalize ys[k.toNat] = y at g0 hy
        have C : ∀ lo hi, (Dv.cutD ys lo hi).length ≤ 702 := fun lo hi => Nat.le_trans (cutD_len ys lo hi) (by omega)
        have g1 : ∀ lo hi lo' hi', dAdd (.lst ((Dv.cutD ys lo hi).map D.str)) (.lst ((Dv.cutD ys lo' hi').map D.str)) = some (.own ((Dv.cutD ys lo hi).map D.str ++ (Dv.cutD ys lo' hi').map D.str)) := fun lo hi lo' hi' => dAdd_lst (by have := C lo hi; have := C lo' hi'; simp only [List.length_map]; omega)
        have g3 : ∀ lo hi, dAdd (.lst ((Dv.cutD ys lo hi).map D.str)) (.lst [.str y]) = some (.own ((Dv.cutD ys lo hi).map D.str ++ [.str y])) := fun lo hi => dAdd_lst (by have := C lo hi; simp only [List.length_map, List.length_singleton]; omega)
        have g4 : ∀ lo hi lo' hi', dAdd (.lst ((Dv.cutD ys lo hi).map D.str ++ [.str y])) (.lst ((Dv.cutD ys lo' hi').map D.str)) = some (.own ((Dv.cutD ys lo hi).map D.str ++ [.str y] ++ (Dv.cutD ys lo' hi').map D.str)) := fun lo hi lo' hi' => dAdd_lst (by have := C lo hi; have := C lo' hi'; simp only [List.length_map, List.length_append, List.length_singleton]; omega)
        have J1 : ∀ lo hi lo' hi', ∃ t, dJoin ("\n" : Str) (.lst ((Dv.cutD ys lo hi).map D.str ++ (Dv.cutD ys lo' hi').map D.str)) = some (.str t) ∧ t.length ≤ 990000 := fun lo hi lo' hi' => by
          rw [← List.map_append]
          have := dJoin_ok (n := 1405) (m := 700) (sep := ("\n" : Str)) (ys := Dv.cutD ys lo hi ++ Dv.cutD ys lo' hi') (by have := C lo hi; have := C lo' hi'; rw [List.length_append]; omega) (fun w hw => by
            rcases List.mem_append.mp hw with h | h
            · exact ssh w (cutD_mem h)
            · exact ssh w (cutD_mem h)) (by decide)
          exact ⟨_, this.1, Nat.le_trans this.2 (by decide)⟩
        have J2 : ∀ lo hi lo' hi', ∃ t, dJoin ("\n" : Str) (.lst ((Dv.cutD ys lo hi).map D.str ++ [.str y] ++ (Dv.cutD ys lo' hi').map D.str)) = some (.str t) ∧ t.length ≤ 990000 := fun lo hi lo' hi' => by
          have e : (Dv.cutD ys lo hi).map D.str ++ [.str y] ++ (Dv.cutD ys lo' hi').map D.str = (Dv.cutD ys lo hi ++ [y] ++ Dv.cutD ys lo' hi').map D.str := by simp
          rw [e]
          have := dJoin_ok (n := 1405) (m := 700) (sep := ("\n" : Str)) (ys := Dv.cutD ys lo hi ++ [y] ++ Dv.cutD ys lo' hi') (by have := C lo hi; have := C lo' hi'; simp only [List.length_append, List.length_singleton]; omega) (fun w hw => by
            rcases List.mem_append.mp hw with h | h
            · rcases List.mem_append.mp h with h | h
              · exact ssh w (cutD_mem h)
              · rw [List.mem_singleton.mp h]; exact ssh y hy
            · exact ssh w (cutD_mem h)) (by decide)
          exact ⟨_, this.1, Nat.le_trans this.2 (by decide)⟩
        have q5 : PoolOK (m + 5) d5 := p5.mono (by omega)
        by_cases k3 : u = 0
        · obtain ⟨r, er, lr⟩ := J1 none (some k) (some (k + 1)) none
          simp [dl, dn, e1, e2, e3, k0, k1, k2, sp, dLen_l, e4, e5, k3, dSl_lst, cutD_map, g1, er]
          exact ⟨lr, q5⟩
        · obtain ⟨r, er, lr⟩ := J2 none (some k) (some k) none
          simp only [List.append_assoc] at er g4
          simp [dl, dn, e1, e2, e3, k0, k1, k2, sp, dLen_l, e4, e5, k3, dSl_lst, cutD_map, g0, g3, g4, le_size]
          simp at er
          simp [er]
          exact ⟨lr, q5⟩
end Lb
end
section
set_option Elab.async false
set_option linter.all false
set_option maxRecDepth 100000
set_option maxHeartbeats 4000000
namespace K60
open PySem PySem.Spec PyProof.Rows L2 GxR GxA Dv XcL
theorem e_pool : G__law_pool = Lb.G__law_pool := rfl
theorem e_draw : G__law_draw = Lb.G__law_draw := rfl
theorem e_pick : G__law_pick = Lb.G__law_pick := rfl
theorem e_bent : G__law_bent_text = Lb.G__law_bent_text := rfl
theorem e_num : G_is_numeral = Lb.G_is_numeral := rfl
theorem e_lnum : G__law_is_numeral = Lb.G__law_is_numeral := rfl
theorem e_same : ∀ n, G__law_same n = Lb.G__law_same n
  | 0 => rfl
  | n + 1 => by
    show gOf 2 1 [0, 1] (b__law_same (G__law_same n)) = gOf 2 1 [0, 1] (Lb.b__law_same (Lb.G__law_same n))
    rw [e_same n]
    rfl
/-- rows that are drawn -/
def TasOK (p g : Nat) (rows : List (List Int)) : Prop := rows.length = p ∧ ∀ r ∈ rows, r.length = g ∧ (∀ z ∈ r, 0 ≤ z ∧ z ≤ 1000) ∧ 0 < r.sum
theorem one_times {g : Nat} (h1 : 1 ≤ g) (h2 : g ≤ 8) : dMulT (.tup [.int 1]) (.int (g : Nat)) = some (Ti (List.replicate g 1)) := by
  have : g = 1 ∨ g = 2 ∨ g = 3 ∨ g = 4 ∨ g = 5 ∨ g = 6 ∨ g = 7 ∨ g = 8 := by omega
  rcases this with rfl | rfl | rfl | rfl | rfl | rfl | rfl | rfl <;> rfl
theorem tastes_ok {m : Int} (hm : m < 900000) {d : D} (h : Lb.PoolOK m d) {p g : Nat} (hp : p ≤ 5) (g1 : 1 ≤ g) (g2 : g ≤ 8) {M : Int} (M1 : 1 ≤ M) (M2 : M ≤ 1001) :
    OkR (G__law_tastes [some d, some (.int p), some (.int g), some (.int 0), some (.int M)]) (fun r ρ => ∃ d' rows, r = Ti2 rows ∧ TasOK p g rows ∧ ρ = [some d', some (.int p), some (.int g), some (.int 0), some (.int M)] ∧ Lb.PoolOK (m + 40) d') := by
  refine okr_gOf _ _ _ _ _ ?_
  unfold b__law_tastes
  have rp := rg1_nat p (by omega)
  have rg := rg1_nat g (by omega)
  simp [rp]
  refine fl_for (fun i ρ => ∃ (d' : D) (rows : List (List Int)) (a b c : Option D), ρ = [some d', some (.int p), some (.int g), some (.int 0), some (.int M), some (.own (rows.map Ti)), a, b, none] ∧ TasOK i g rows ∧ Lb.PoolOK (m + 8 * (i : Nat)) d') _ 0 _ ⟨d, [], none, none, none, rfl, ⟨rfl, fun r hr => by cases hr⟩, h.mono (by omega)⟩ ?_ ?_
  · rintro i x ρ hx ⟨d', rows, a, b, c, rfl, ⟨t1, t2⟩, P⟩
    have hi : i < p := by
      have := (List.getElem?_eq_some_iff.mp hx).1
      rwa [rangeD_len] at this
    refine ⟨_, rfl, ?_⟩
    obtain ⟨acc, ρ', el, hA⟩ := lcY_inv (t := .name 8) (vs := [8]) (elt := (eFrz (eOp2 dAdd (oN 3) (oV (eFrz (eFn (G__law_draw) [(oN 0), (oN 4)])))))) (fun k acc ρ => ∃ (d1 : D) (r : List Int) (q : Option D), ρ = [some d1, some (.int p), some (.int g), some (.int 0), some (.int M), some (.own (rows.map Ti)), some x, b, q] ∧ acc = r.map D.int ∧ r.length = k ∧ (∀ z ∈ r, 0 ≤ z ∧ z ≤ 1000) ∧ Lb.PoolOK (m + 8 * (i : Nat) + (k : Nat)) d1) (rangeD 0 g) [] 0 ([some d', some (.int p), some (.int g), some (.int 0), some (.int M), some (.own (rows.map Ti)), some x, b, none]) ⟨d', [], none, rfl, rfl, rfl, (fun z hz => by cases hz), P.mono (by omega)⟩ (by rw [rangeD_len]; simp; omega) (by
        rintro k y acc ρ hy ⟨d1, r, q, rfl, rfl, hr, hz, P1⟩
        have hk : k < g := by
          have := (List.getElem?_eq_some_iff.mp hy).1
          rwa [rangeD_len] at this
        obtain ⟨_, _, e1, d2, v, rfl, rfl, v0, v1, P2⟩ := (Lb.draw (by omega) P1 (k := M) (by omega) (by omega)).get
        refine ⟨_, .int v, [some d2, some (.int p), some (.int g), some (.int 0), some (.int M), some (.own (rows.map Ti)), some x, b, some y], rfl, ?_, d2, r ++ [v], _, rfl, by simp, by simp [hr], ?_, P2.mono (by omega)⟩
        · simp [e_draw, e1]
        · intro z hz'
          rcases List.mem_append.mp hz' with h | h
          · exact hz z h
          · rw [List.mem_singleton.mp h]; omega)
    obtain ⟨d1, r, q, rfl, rfl, hr, hz, P1⟩ := hA
    rw [rangeD_len] at hr P1
    have hr' : r.length = g := by omega
    have hsum := intsOf_map r
    have hlt : rows.length < sizeLine := lt_sizeB (by omega)
    by_cases hs : 0 < r.sum
    · simp [rg, el, dSum, lstOf, hsum, hs, dTuple, sqOf, tupOf, hlt]
      refine ⟨d1, rows ++ [r], ⟨rfl, ?_⟩, ⟨by simp [t1], ?_⟩, P1.mono (by omega)⟩
      · simp [Ti]
      · intro r' hr''
        rcases List.mem_append.mp hr'' with h | h
        · exact t2 r' h
        · rw [List.mem_singleton.mp h]; exact ⟨hr', hz, hs⟩
    · have o1 := one_times g1 g2
      simp [rg, el, dSum, lstOf, hsum, hs, o1, le_sizeB, hlt]
      refine ⟨d1, rows ++ [List.replicate g 1], ⟨rfl, ?_⟩, ⟨by simp [t1], ?_⟩, P1.mono (by omega)⟩
      · simp
      · intro r' hr''
        rcases List.mem_append.mp hr'' with h | h
        · exact t2 r' h
        · rw [List.mem_singleton.mp h]
          refine ⟨by simp, fun z hz => ?_, ?_⟩
          · rw [(List.mem_replicate.mp hz).2]; omega
          · rw [List.sum_replicate_int]; omega
  · rintro ρ' ⟨d', rows, a, b, c, rfl, T, P⟩
    rw [rangeD_len] at T P
    simp [dTuple, sqOf, tupOf, lstOf]
    exact ⟨d', rows, rfl, by rwa [Nat.zero_add] at T, rfl, P.mono (by omega)⟩
end K60
end
section
set_option Elab.async false
set_option linter.all false
set_option maxRecDepth 100000
set_option maxHeartbeats 4000000
namespace K60
open PySem PySem.Spec PyProof.Rows L2 GxR GxA Dv XcL
/-! ### words and rows -/
def okW (w : Str) : Bool := Lb.numB 4 w && !decide (w.cps.toList.take 1 = [45])
def okD : D → Bool
  | .str w => okW w
  | _ => false
def numD : D → D
  | .str w => .int (Lb.numV w)
  | d => d
theorem okW_val {w : Str} (h : okW w = true) : dInt [.str w] = some (.int (Lb.numV w)) ∧ 0 ≤ Lb.numV w ∧ Lb.numV w < 10000 := by
  unfold okW at h
  simp only [Bool.and_eq_true, Bool.not_eq_true', decide_eq_false_iff_not] at h
  obtain ⟨h1, h2⟩ := Lb.num_val (g := 4) (by omega) h.1
  refine ⟨h1, ?_, by omega⟩
  have e : Lb.plainL w = w.cps.toList := if_neg h.2
  have hb := h.1
  unfold Lb.numB at hb
  simp only [Bool.and_eq_true, decide_eq_true_eq] at hb
  obtain ⟨⟨⟨g1, g2⟩, g3⟩, _⟩ := hb
  rw [e] at g1 g2 g3
  have hd : NumText.AllDigits w.cps.toList := fun c hc => by
    have := List.all_eq_true.mp g3 c hc
    simpa using this
  have hne : w.cps.toList ≠ [] := fun e => by rw [e] at g1; simp at g1
  have hi := intText_digits (x := w) hd hne (by rw [← Dv.len_list]; omega)
  unfold Lb.numV
  rw [hi]
  exact Int.natCast_nonneg _
theorem isnum {w : Str} (h : w.length ≤ 1000000) : G_is_number [some (.str w)] = .ok (.bl (okW w)) [some (.str w)] := by
  obtain ⟨_, _, e, rfl, rfl⟩ := (Lb.is_num (g := 4) h).get
  show gOf 1 0 [0] (b_is_number) _ = _
  unfold b_is_number okW
  replace e : Lb.G_is_numeral [some (.str w), some (.int 4)] = .ok (.bl (Lb.numB 4 w)) [some (.str w), some (.int 4)] := e
  cases hb : Lb.numB 4 w <;> simp [e_num, e, hb, dStarts, Lb.starts_minus]
theorem lnum {w : Str} (h : w.length ≤ 1000000) : (bOr (bNot (bE (eFrz (eFn (G__law_is_numeral) [(oN 2), (oV (eC (.int 4)))])))) (bOp2 dEq (oV (eFrz (eSl (oN 2) none (some (oV (eC (.int 1))))))) (oV (eC (.str ("-" : Str)))))) [x, y, some (.str w)] = .ok (!okW w) [x, y, some (.str w)] := by
  obtain ⟨_, _, e, rfl, rfl⟩ := (Lb.law_num (g := 4) h).get
  unfold okW
  replace e : Lb.G__law_is_numeral [some (.str w), some (.int 4)] = .ok (.bl (Lb.numB 4 w)) [some (.str w), some (.int 4)] := e
  by_cases hb : Lb.numB 4 w = true
  · simp [e_lnum, e, hb, dSl_strB h, dEq_str, Lb.take_minus]
  · simp [e_lnum, e, hb]
def rowO (x : Str) : Option (List Int) := let ws := Txt.split x (" " : Str); if ws.all okW = true then some (ws.map Lb.numV) else none
def rowD : Option (List Int) → D
  | some r => Ti r
  | none => .non
theorem map_ok (ws : List Str) : (ws.map D.str).all okD = ws.all okW := by
  rw [List.all_map]; rfl
theorem map_num (ws : List Str) : (ws.map D.str).map numD = (ws.map Lb.numV).map D.int := by
  rw [List.map_map, List.map_map]; rfl
theorem row_told {x : Str} (h : x.length ≤ 990000) : G_row_told [some (.str x)] = .ok (rowD (rowO x)) [some (.str x)] := by
  have hs := Lb.sp_any (x := x) (y := (" " : Str)) (by decide) (by omega)
  have hle := split_le x (" " : Str)
  have hsh : ∀ w ∈ Txt.split x (" " : Str), w.length ≤ 1000000 := fun w hw => Nat.le_trans (part_short hw) (by omega)
  show gOf 1 2 [0] (b_row_told) _ = _
  unfold b_row_told rowO
  generalize Txt.split x (" " : Str) = ws at hs hle hsh
  have g := gb_pure (v := 2) (it := iV (eN 1)) (elt := (eFrz (eFn (G_is_number) [(oN 2)]))) (ρ := [some (.str x), some (.own (ws.map D.str)), none]) (ρ1 := [some (.str x), some (.lst (ws.map D.str)), none]) (ds := ws.map D.str) false okD (fun d => [some (.str x), some (.lst (ws.map D.str)), some d]) (by simp) (by simp [itemsOf, sqOf, tupOf, lstOf]) (by
    intro d hd
    obtain ⟨w, hw, rfl⟩ := List.mem_map.mp hd
    simp [isnum (hsh w hw), okD])
  rw [map_ok] at g
  by_cases ha : ws.all okW = true
  · have t := gt_pure (v := 2) (it := iV (eN 1)) (tst := bYes) (elt := (eFrz (eCall dInt [(oN 2)]))) (ρ := [some (.str x), some (.lst (ws.map D.str)), none]) (ρ1 := [some (.str x), some (.lst (ws.map D.str)), none]) (ds := ws.map D.str) (fun _ => true) numD (fun d => [some (.str x), some (.lst (ws.map D.str)), some d]) (by simp) (by simp [itemsOf, sqOf, tupOf, lstOf]) (by simp; omega) (by
      intro d hd
      obtain ⟨w, hw, rfl⟩ := List.mem_map.mp hd
      have := (okW_val (List.all_eq_true.mp ha w hw)).1
      simp [this, numD])
    have ft : ∀ l : List D, l.filter (fun _ => true) = l := fun l => by induction l <;> simp_all
    rw [ft, map_num] at t
    simp only [stil] at g t
    simp [hs, -w_eGenB, g, ha, t, rowD, Ti]
  · simp only [stil] at g
    simp [hs, -w_eGenB, g, ha, rowD]
theorem law_row_told {x : Str} (h : x.length ≤ 990000) : G__law_row_told [some (.str x)] = .ok (rowD (rowO x)) [some (.str x)] := by
  have hs := Lb.sp_any (x := x) (y := (" " : Str)) (by decide) (by omega)
  have hle := split_le x (" " : Str)
  have hsh : ∀ w ∈ Txt.split x (" " : Str), w.length ≤ 1000000 := fun w hw => Nat.le_trans (part_short hw) (by omega)
  show gOf 1 2 [0] (b__law_row_told) _ = _
  unfold b__law_row_told rowO
  generalize Txt.split x (" " : Str) = ws at hs hle hsh
  have g := lc_pure (v := 2) (it := iV (eN 1)) (tst := (bOr (bNot (bE (eFrz (eFn (G__law_is_numeral) [(oN 2), (oV (eC (.int 4)))])))) (bOp2 dEq (oV (eFrz (eSl (oN 2) none (some (oV (eC (.int 1))))))) (oV (eC (.str ("-" : Str))))))) (elt := eN 2) (ρ := [some (.str x), some (.own (ws.map D.str)), none]) (ρ1 := [some (.str x), some (.lst (ws.map D.str)), none]) (ds := ws.map D.str) (fun d => !okD d) id (fun d => [some (.str x), some (.lst (ws.map D.str)), some d]) (by simp) (by simp [itemsOf, sqOf, tupOf, lstOf]) (by simp; omega) (by
    intro d hd
    obtain ⟨w, hw, rfl⟩ := List.mem_map.mp hd
    refine ⟨lnum (hsh w hw), fun _ => by simp⟩)
  simp only [stil] at g
  by_cases ha : ws.all okW = true
  · have t := lc_pure (v := 2) (it := iV (eN 1)) (tst := bYes) (elt := (eFrz (eCall dInt [(oN 2)]))) (ρ := [some (.str x), some (.lst (ws.map D.str)), none]) (ρ1 := [some (.str x), some (.lst (ws.map D.str)), none]) (ds := ws.map D.str) (fun _ => true) numD (fun d => [some (.str x), some (.lst (ws.map D.str)), some d]) (by simp) (by simp [itemsOf, sqOf, tupOf, lstOf]) (by simp; omega) (by
      intro d hd
      obtain ⟨w, hw, rfl⟩ := List.mem_map.mp hd
      have := (okW_val (List.all_eq_true.mp ha w hw)).1
      simp [this, numD])
    have ft : ∀ l : List D, l.filter (fun _ => true) = l := fun l => by induction l <;> simp_all
    rw [ft, map_num] at t
    simp only [stil] at t
    have e0 : (ws.map D.str).filter (fun d => !okD d) = [] := by
      rw [List.filter_eq_nil_iff]
      intro d hd
      obtain ⟨w, hw, rfl⟩ := List.mem_map.mp hd
      have := List.all_eq_true.mp ha w hw
      simp [okD, this]
    rw [e0] at g
    simp [hs, -w_eLc, g, ha, t, rowD, Ti, dLen_l, dTuple, sqOf, tupOf, lstOf]
  · have e0 : 0 < ((ws.map D.str).filter (fun d => !okD d)).length := by
      rw [List.length_pos_iff]
      intro e
      rw [List.filter_eq_nil_iff] at e
      apply ha
      rw [List.all_eq_true]
      intro w hw
      have := e _ (List.mem_map_of_mem hw)
      simpa [okD] using this
    generalize (ws.map D.str).filter (fun d => !okD d) = acc at g e0
    simp [hs, -w_eLc, g, ha, rowD, dLen_l, e0]
end K60
end
section
set_option Elab.async false
set_option linter.all false
set_option maxRecDepth 100000
set_option maxHeartbeats 4000000
/-! Kinds of values. -/
namespace Lb
open PySem PySem.Spec PyProof.Rows L2 GxR GxA Dv XcL
def isInt : D → Bool
  | .int _ => true
  | _ => false
theorem is_integer_eq (d : D) (h : frz d = d) : G_is_integer [some d] = .ok (.bl (isInt d)) [some d] := by
  show gOf 1 0 [0] (b_is_integer) _ = _
  unfold b_is_integer
  cases d <;> simp [isI, isInt, h]
def isRow (d : D) (n : Int) : Bool := match d with
  | .tup ds => decide ((ds.length : Int) = n) && ds.all isInt
  | _ => false
theorem is_row_eq (d : D) (n : Int) (h : frz d = d) (h2 : ∀ ds, d = .tup ds → ∀ x ∈ ds, frz x = x) : G_is_row [some d, some (.int n)] = .ok (.bl (isRow d n)) [some d, some (.int n)] := by
  show gOf 2 1 [0, 1] (b_is_row) _ = _
  unfold b_is_row
  cases d with
  | tup ds =>
    have g := gb_pure (v := 2) (it := iV (eN 0)) (elt := (eFrz (eFn (G_is_integer) [(oN 2)]))) (ρ := [some (.tup ds), some (.int n), none]) (ρ1 := [some (.tup ds), some (.int n), none]) (ds := ds) false isInt (fun d => [some (.tup ds), some (.int n), some d]) (by simp) (by simp [itemsOf, sqOf, tupOf]) (by
      intro x hx
      simp [is_integer_eq x (h2 ds rfl x hx)])
    simp only [stil] at g
    by_cases hl : (ds.length : Int) = n
    · simp [-w_eGenB, isI, isRow, dLen_t, hl, g]
    · simp [-w_eGenB, isI, isRow, dLen_t, hl]
  | _ => simp [-w_eGenB, isI, isRow, h]
def inB (lo hi : Int) : D → Bool
  | .int z => decide (lo ≤ z) && decide (z ≤ hi)
  | _ => false
def isRowW (d : D) (n lo hi : Int) : Bool := isRow d n && match d with
  | .tup ds => ds.all (inB lo hi)
  | _ => false
theorem is_row_within_eq (d : D) (n lo hi : Int) (h : frz d = d) (h2 : ∀ ds, d = .tup ds → ∀ x ∈ ds, frz x = x) : G_is_row_within [some d, some (.int n), some (.int lo), some (.int hi)] = .ok (.bl (isRowW d n lo hi)) [some d, some (.int n), some (.int lo), some (.int hi)] := by
  have hr := is_row_eq d n h h2
  show gOf 4 1 [0, 1, 2, 3] (b_is_row_within) _ = _
  unfold b_is_row_within
  by_cases hb : isRow d n = true
  · cases d with
    | tup ds =>
      have g := gb_pure (v := 4) (it := iV (eN 0)) (elt := (eChain dLe dLe (oN 2) (oN 4) (oN 3))) (ρ := [some (.tup ds), some (.int n), some (.int lo), some (.int hi), none]) (ρ1 := [some (.tup ds), some (.int n), some (.int lo), some (.int hi), none]) (ds := ds) false (inB lo hi) (fun d => [some (.tup ds), some (.int n), some (.int lo), some (.int hi), some d]) (by simp) (by simp [itemsOf, sqOf, tupOf]) (by
        intro x hx
        have hi : isInt x = true := by
          unfold isRow at hb
          simp only [Bool.and_eq_true] at hb
          exact List.all_eq_true.mp hb.2 x hx
        cases x with
        | int z =>
          by_cases h1 : lo ≤ z <;> simp [inB, h1]
        | _ => cases hi)
      simp only [stil] at g
      simp [-w_eGenB, hr, hb, g, isRowW]
    | _ => simp [isRow] at hb
  · simp [-w_eGenB, hr, hb, isRowW]
theorem isRow_Ti (r : List Int) (n : Int) : isRow (Ti r) n = decide ((r.length : Int) = n) := by
  unfold isRow Ti
  have : (r.map D.int).all isInt = true := by
    rw [List.all_eq_true]; intro x hx
    obtain ⟨z, _, rfl⟩ := List.mem_map.mp hx
    rfl
  simp [this]
theorem isRowW_Ti (r : List Int) (n lo hi : Int) : isRowW (Ti r) n lo hi = (decide ((r.length : Int) = n) && r.all fun z => decide (lo ≤ z) && decide (z ≤ hi)) := by
  unfold isRowW
  rw [isRow_Ti]
  unfold Ti
  congr 1
  show (r.map D.int).all (inB lo hi) = _
  rw [List.all_map]
  rfl
theorem frz_ints (r : List Int) : ∀ ds, Ti r = .tup ds → ∀ x ∈ ds, frz x = x := by
  intro ds e x hx
  unfold Ti at e
  cases e
  obtain ⟨z, _, rfl⟩ := List.mem_map.mp hx
  rfl
theorem cut_last {α : Type} (xs : List α) : Dv.cutD xs none (some (-1)) = xs.dropLast := by
  unfold Dv.cutD
  have e1 : HT.sIx xs.length 0 none = 0 := rfl
  have e2 : HT.sIx xs.length xs.length (some (-1)) = xs.length - 1 := by
    unfold HT.sIx
    simp
    omega
  rw [e1, e2, List.dropLast_eq_take]
  simp
theorem rangeD_succ (lo : Int) (n : Nat) : rangeD lo (n + 1) = .int lo :: rangeD (lo + 1) n := by
  unfold rangeD
  rw [List.range_succ_eq_map, List.map_cons, List.map_map]
  congr 1
  · simp
  · apply List.map_congr_left
    intro i _
    simp
    omega
theorem lt_int (a b : Int) : PySem.W.DatumOrd.lt a b = decide (a < b) := rfl
theorem maxOf_gt (b : Int) : ∀ (ns : List Int) (n : Int), b < PySem.W.maxOf n ns ↔ b < n ∨ ∃ z ∈ ns, b < z
  | [], n => by simp [PySem.W.maxOf]
  | m :: ns, n => by
    have e : PySem.W.maxOf n (m :: ns) = PySem.W.maxOf (if n < m then m else n) ns := by
      show List.foldl _ (if PySem.W.DatumOrd.lt n m = true then m else n) ns = _
      rw [lt_int]
      simp only [decide_eq_true_eq]
      rfl
    rw [e, maxOf_gt b ns]
    constructor
    · rintro (h | ⟨z, hz, h⟩)
      · split at h
        · exact .inr ⟨m, List.mem_cons_self .., h⟩
        · exact .inl h
      · exact .inr ⟨z, List.mem_cons_of_mem _ hz, h⟩
    · rintro (h | ⟨z, hz, h⟩)
      · left; split <;> omega
      · rcases List.mem_cons.mp hz with rfl | hz
        · left; split <;> omega
        · exact .inr ⟨z, hz, h⟩
end Lb
end
section
set_option Elab.async false
set_option linter.all false
set_option maxRecDepth 100000
set_option maxHeartbeats 4000000
namespace K60
open PySem PySem.Spec PyProof.Rows L2 GxR GxA Dv XcL
theorem e_isint : G_is_integer = Lb.G_is_integer := rfl
theorem e_isrow : G_is_row = Lb.G_is_row := rfl
theorem e_isroww : G_is_row_within = Lb.G_is_row_within := rfl
/-! ### rows as they are read -/
def Good (rows : List (List Int)) : Prop := ∀ r ∈ rows, r.length = (rows.headD []).length ∧ 1 ≤ r.length ∧ r.length ≤ 999999 ∧ ∀ z ∈ r, 0 ≤ z ∧ z < 10000
def tasB (rows : List (List Int)) : Bool := decide (rows.length ≤ 5) && decide ((rows.headD []).length ≤ 8) && rows.all fun r => r.all (fun z => decide (z ≤ 1000)) && decide (0 < r.sum)
theorem sum_nonneg : ∀ r : List Int, (∀ z ∈ r, 0 ≤ z) → 0 ≤ r.sum
  | [], _ => by simp
  | z :: r, h => by
    rw [List.sum_cons]
    have := sum_nonneg r fun z hz => h z (List.mem_cons_of_mem _ hz)
    have := h z (List.mem_cons_self ..)
    omega
theorem is_tastes_eq {r0 : List Int} {rs : List (List Int)} (h : Good (r0 :: rs)) : G_is_tastes [some (Ti2 (r0 :: rs))] = .ok (.bl (tasB (r0 :: rs))) [some (Ti2 (r0 :: rs))] := by
  show gOf 1 2 [0] (b_is_tastes) _ = _
  unfold b_is_tastes tasB
  obtain ⟨_, h1, _, _⟩ := h r0 (List.mem_cons_self ..)
  have ex : dIx (Ti2 (r0 :: rs)) (.int 0) = some (Ti r0) := dIx_atT (k := 0) rfl rfl
  have el : dLen [Ti2 (r0 :: rs)] = some (.int (((r0 :: rs).length : Nat))) := by unfold Ti2; rw [dLen_t, List.length_map]
  have el0 : dLen [Ti r0] = some (.int ((r0.length : Nat))) := by unfold Ti; rw [dLen_t, List.length_map]
  have it2 : isI .tup (Ti2 (r0 :: rs)) = true := rfl
  have it1 : isI .tup (Ti r0) = true := rfl
  have g := gb_pure (v := 2) (it := iV (eN 0)) (elt := (eAnd (eFrz (eFn (G_is_row_within) [(oN 2), (oN 1), (oV (eC (.int 0))), (oV (eC (.int 1000)))])) (eOp2 dGt (oV (eFrz (eCall dSum [(oV (eFrz (eCall dList [(oN 2)])))]))) (oV (eC (.int 0)))))) (ρ := [some (Ti2 (r0 :: rs)), some (.int (r0.length : Nat)), none]) (ρ1 := [some (Ti2 (r0 :: rs)), some (.int (r0.length : Nat)), none]) (ds := (r0 :: rs).map Ti) false
    (fun d => match d with | .tup ds => ds.all (fun x => match x with | .int z => decide (z ≤ 1000) | _ => false) && decide (0 < ((intsOf ds).getD []).sum) | _ => false)
    (fun d => [some (Ti2 (r0 :: rs)), some (.int (r0.length : Nat)), some d]) (by simp) (by simp [itemsOf, sqOf, tupOf, Ti2]) (by
      intro d hd
      obtain ⟨r, hr, rfl⟩ := List.mem_map.mp hd
      obtain ⟨g1, g2, g3, g4⟩ := h r hr
      have e1 := Lb.is_row_within_eq (Ti r) (r0.length : Nat) 0 1000 rfl (Lb.frz_ints r)
      rw [Lb.isRowW_Ti] at e1
      have e2 : decide ((r.length : Int) = ((r0.length : Nat) : Int)) = true := by
        rw [decide_eq_true_eq]
        have : r.length = r0.length := g1
        omega
      rw [e2, Bool.true_and] at e1
      have e3 : (r.all fun z => decide (0 ≤ z) && decide (z ≤ 1000)) = r.all fun z => decide (z ≤ 1000) := by
        rw [Bool.eq_iff_iff, List.all_eq_true, List.all_eq_true]
        constructor
        · intro h z hz; have := h z hz; simp at this; simp [this.2]
        · intro h z hz; have := h z hz; simp at this; simp [this, (g4 z hz).1]
      rw [e3] at e1
      have e4 : (Ti r) = .tup (r.map D.int) := rfl
      have e5 : ((r.map D.int).all (fun x => match x with | .int z => decide (z ≤ 1000) | _ => false)) = r.all fun z => decide (z ≤ 1000) := by rw [List.all_map]; rfl
      have e6 := intsOf_map r
      have e7 : dList [Ti r] = some (.own (r.map D.int)) := rfl
      cases hb : r.all fun z => decide (z ≤ 1000) with
      | true =>
        rw [hb] at e1
        simp only [e4] at e7 e1 ⊢
        rw [e5, hb, e6]
        simp [e_isroww, e1, e7, dSum, lstOf, e6]
      | false =>
        rw [hb] at e1
        simp only [e4] at e7 e1 ⊢
        rw [e5, hb]
        simp [e_isroww, e1])
  have e8 : ((r0 :: rs).map Ti).all (fun d => match d with | .tup ds => ds.all (fun x => match x with | .int z => decide (z ≤ 1000) | _ => false) && decide (0 < ((intsOf ds).getD []).sum) | _ => false) = (r0 :: rs).all (fun r => r.all (fun z => decide (z ≤ 1000)) && decide (0 < r.sum)) := by
    rw [List.all_map]
    congr 1
    funext r
    show ((r.map D.int).all (fun x => match x with | .int z => decide (z ≤ 1000) | _ => false) && decide (0 < ((intsOf (r.map D.int)).getD []).sum)) = _
    rw [intsOf_map, List.all_map]
    rfl
  rw [e8] at g
  simp only [stil] at g
  generalize (r0 :: rs).all (fun r => r.all (fun z => decide (z ≤ 1000)) && decide (0 < r.sum)) = bb at g ⊢
  have hd0 : (r0 :: rs).headD [] = r0 := rfl
  rw [hd0]
  generalize hn : (r0 :: rs).length = n at el ⊢
  have n1 : 1 ≤ n := by rw [← hn]; simp
  generalize hx : Ti2 (r0 :: rs) = X at *
  have fX : frz X = X := by rw [← hx]; rfl
  have c0 : (1 : Int) ≤ n := by omega
  have c2 : (1 : Int) ≤ r0.length := by omega
  by_cases hn5 : n ≤ 5
  · have c1 : (n : Int) ≤ 5 := by omega
    by_cases h8 : r0.length ≤ 8
    · have c3 : (r0.length : Int) ≤ 8 := by omega
      simp [-w_eGenB, fX, it2, el, c0, c1, ex, it1, el0, c2, c3, g, hn5, h8]
    · have c3 : ¬ (r0.length : Int) ≤ 8 := by omega
      simp [-w_eGenB, fX, it2, el, c0, c1, ex, it1, el0, c2, c3, hn5, h8]
  · have c1 : ¬ (n : Int) ≤ 5 := by omega
    simp [-w_eGenB, fX, it2, el, c0, c1, hn5]
end K60
end
section
set_option Elab.async false
set_option linter.all false
set_option maxRecDepth 100000
set_option maxHeartbeats 4000000
namespace K60
open PySem PySem.Spec PyProof.Rows L2 GxR GxA Dv XcL
theorem are_tastes_eq {r0 : List Int} {rs : List (List Int)} (h : Good (r0 :: rs)) (hl : (r0 :: rs).length ≤ 1000000) : G__law_are_tastes [some (Ti2 (r0 :: rs))] = .ok (.bl (tasB (r0 :: rs))) [some (Ti2 (r0 :: rs))] := by
  show gOf 1 1 [0] (b__law_are_tastes) _ = _
  unfold b__law_are_tastes tasB
  obtain ⟨_, h1, _, _⟩ := h r0 (List.mem_cons_self ..)
  have ex : dIx (Ti2 (r0 :: rs)) (.int 0) = some (Ti r0) := dIx_atT (k := 0) rfl rfl
  have el : dLen [Ti2 (r0 :: rs)] = some (.int (((r0 :: rs).length : Nat))) := by unfold Ti2; rw [dLen_t, List.length_map]
  have el0 : dLen [Ti r0] = some (.int ((r0.length : Nat))) := by unfold Ti; rw [dLen_t, List.length_map]
  let P : D → Bool := fun d => match d with | .tup ds => !(ds.all (fun x => match x with | .int z => decide (z ≤ 1000) | _ => false) && decide (0 < ((intsOf ds).getD []).sum)) | _ => false
  have g := lc_pure (v := 1) (it := iV (eN 0)) (tst := (bOr (bOp2 dGt (oV (eFrz (eCall dMaxT [(oN 1)]))) (oV (eC (.int 1000)))) (bOp2 dEq (oV (eFrz (eCall dSum [(oV (eFrz (eCall dList [(oN 1)])))]))) (oV (eC (.int 0)))))) (elt := eN 1) (ρ := [some (Ti2 (r0 :: rs)), none]) (ρ1 := [some (Ti2 (r0 :: rs)), none]) (ds := (r0 :: rs).map Ti) P id
    (fun d => [some (Ti2 (r0 :: rs)), some d]) (by simp) (by simp [itemsOf, sqOf, tupOf, Ti2]) (by simpa using hl) (by
      intro d hd
      obtain ⟨r, hr, rfl⟩ := List.mem_map.mp hd
      obtain ⟨g1, g2, g3, g4⟩ := h r hr
      refine ⟨?_, fun _ => by simp⟩
      have e5 : ((r.map D.int).all (fun x => match x with | .int z => decide (z ≤ 1000) | _ => false)) = r.all fun z => decide (z ≤ 1000) := by rw [List.all_map]; rfl
      have e6 := intsOf_map r
      have e7 : dList [Ti r] = some (.own (r.map D.int)) := rfl
      have hP : P (Ti r) = !((r.all fun z => decide (z ≤ 1000)) && decide (0 < r.sum)) := by
        show (!(((r.map D.int).all (fun x => match x with | .int z => decide (z ≤ 1000) | _ => false)) && decide (0 < ((intsOf (r.map D.int)).getD []).sum))) = _
        rw [e5, e6]; rfl
      rw [hP]
      obtain ⟨n, ns, rfl⟩ : ∃ n ns, r = n :: ns := by
        cases r with
        | nil => simp at g2
        | cons n ns => exact ⟨n, ns, rfl⟩
      have em : dMaxT [Ti (n :: ns)] = some (.int (PySem.W.maxOf n ns)) := by
        show (match intsOf ((n :: ns).map D.int) with | some (n :: ns) => some (D.int (PySem.W.maxOf n ns)) | _ => none) = _
        rw [e6]
      have hmx := Lb.maxOf_gt 1000 ns n
      have hs := sum_nonneg (n :: ns) fun z hz => (g4 z hz).1
      have ea : ((n :: ns).all fun z => decide (z ≤ 1000)) = !decide (1000 < PySem.W.maxOf n ns) := by
        rw [Bool.eq_iff_iff, List.all_eq_true]
        simp only [decide_eq_true_eq, Bool.not_eq_true', decide_eq_false_iff_not, hmx]
        constructor
        · rintro hz (h | ⟨z, h1, h2⟩)
          · have := hz n (List.mem_cons_self ..); omega
          · have := hz z (List.mem_cons_of_mem _ h1); omega
        · intro hz z h1
          rcases List.mem_cons.mp h1 with rfl | h1
          · exact Int.not_lt.mp fun h => hz (.inl h)
          · exact Int.not_lt.mp fun h => hz (.inr ⟨z, h1, h⟩)
      rw [ea]
      have dS : dSum [.lst ((n :: ns).map D.int)] = some (.int (n :: ns).sum) := by
        show (intsOf ((n :: ns).map D.int)).map _ = _
        rw [e6]; rfl
      generalize (n :: ns).sum = S at hs dS ⊢
      generalize PySem.W.maxOf n ns = M at em ⊢
      have hfz : frz (Ti (n :: ns)) = Ti (n :: ns) := rfl
      generalize Ti (n :: ns) = X at *
      by_cases hM : 1000 < M
      · simp [hfz, em, hM]
      · simp [hfz, em, hM, e7, dS]
        generalize hY : (n :: ns).map D.int = Y at *
        simp at hY
        rw [hY]
        simp [dS]
        by_cases h0 : 0 < S
        · have : ¬ S = 0 := by omega
          simp [h0, this]
        · have : S = 0 := by omega
          simp [this])
  have e8 : ((r0 :: rs).map Ti).filter P = ((r0 :: rs).filter fun r => !(r.all (fun z => decide (z ≤ 1000)) && decide (0 < r.sum))).map Ti := by
    rw [List.filter_map]
    congr 1
    congr 1
    funext r
    show (!(((r.map D.int).all (fun x => match x with | .int z => decide (z ≤ 1000) | _ => false)) && decide (0 < ((intsOf (r.map D.int)).getD []).sum))) = _
    rw [intsOf_map, List.all_map]
    rfl
  rw [e8] at g
  have e9 : decide (((((r0 :: rs).filter fun r => !(r.all (fun z => decide (z ≤ 1000)) && decide (0 < r.sum))).map Ti).map id).length = 0) = (r0 :: rs).all (fun r => r.all (fun z => decide (z ≤ 1000)) && decide (0 < r.sum)) := by
    rw [List.length_map, List.length_map, Bool.eq_iff_iff, decide_eq_true_eq, List.length_eq_zero_iff, List.filter_eq_nil_iff, List.all_eq_true]
    constructor
    · intro h z hz; have := h z hz; simpa using this
    · intro h z hz; have := h z hz; simpa using this
  generalize ((((r0 :: rs).filter fun r => !(r.all (fun z => decide (z ≤ 1000)) && decide (0 < r.sum))).map Ti).map id) = acc at g e9
  generalize (r0 :: rs).all (fun r => r.all (fun z => decide (z ≤ 1000)) && decide (0 < r.sum)) = bb at e9 ⊢
  simp only [stil] at g
  have hd0 : (r0 :: rs).headD [] = r0 := rfl
  rw [hd0]
  generalize hn : (r0 :: rs).length = n at el ⊢
  generalize hx : Ti2 (r0 :: rs) = X at *
  have fX : frz X = X := by rw [← hx]; rfl
  have e10 : ((acc.length : Int) = 0) ↔ acc.length = 0 := by omega
  by_cases hn5 : n ≤ 5
  · have c1 : ¬ (5 : Int) < n := by omega
    by_cases h8 : r0.length ≤ 8
    · have c3 : ¬ (8 : Int) < r0.length := by omega
      simp [-w_eLc, fX, el, c1, ex, el0, c3, g, hn5, h8, dLen_l]
      simpa using e9
    · have c3 : (8 : Int) < r0.length := by omega
      simp [-w_eLc, fX, el, c1, ex, el0, c3, hn5, h8]
  · have c1 : (5 : Int) < n := by omega
    simp [-w_eLc, fX, el, c1, hn5]
end K60
end
section
set_option Elab.async false
set_option linter.all false
set_option maxRecDepth 100000
set_option maxHeartbeats 4000000
namespace K60
open PySem PySem.Spec PyProof.Rows L2 GxR GxA Dv XcL
def goL : Nat → List Str → List (List Int) → Int ⊕ List (List Int)
  | _, [], rows => .inr rows
  | k, l :: ls, rows => match rowO l with
    | none => .inl (k : Nat)
    | some r => if rows ≠ [] ∧ r.length ≠ (rows.headD []).length then .inl (k : Nat) else goL (k + 1) ls (rows ++ [r])
theorem rowO_good {l : Str} {r : List Int} (hl : l.length ≤ 990000) (h : rowO l = some r) : 1 ≤ r.length ∧ r.length ≤ 999999 ∧ ∀ z ∈ r, 0 ≤ z ∧ z < 10000 := by
  unfold rowO at h
  dsimp only at h
  split at h
  · rename_i ha
    cases h
    have h1 := split_pos l (" " : Str)
    have h2 := split_le l (" " : Str)
    refine ⟨by simpa using h1, by rw [List.length_map]; omega, fun z hz => ?_⟩
    obtain ⟨w, hw, rfl⟩ := List.mem_map.mp hz
    exact (okW_val (List.all_eq_true.mp ha w hw)).2
  · cases h
theorem good_add {rows : List (List Int)} {r : List Int} (h : Good rows) (hr : 1 ≤ r.length ∧ r.length ≤ 999999 ∧ ∀ z ∈ r, 0 ≤ z ∧ z < 10000) (he : ¬ (rows ≠ [] ∧ r.length ≠ (rows.headD []).length)) : Good (rows ++ [r]) := by
  cases rows with
  | nil =>
    intro q hq
    rw [List.nil_append, List.mem_singleton] at hq
    subst hq
    exact ⟨rfl, hr⟩
  | cons r0 rs =>
    have e1 : r.length = r0.length := by
      apply Decidable.byContradiction
      intro h2
      exact he ⟨by simp, h2⟩
    intro q hq
    show q.length = r0.length ∧ _
    rcases List.mem_append.mp hq with hq | hq
    · exact h q hq
    · rw [List.mem_singleton.mp hq]
      exact ⟨e1, hr⟩
theorem rowD_none {o : Option (List Int)} : dIsN (rowD o) .non = some (.bl o.isNone) := by
  cases o <;> rfl
abbrev rdBody : Dv.Env → Dv.Flow := (sSeq (sSet 5 (eFn (G_row_told) [(oN 4)])) (sSeq (sIf (bOr (bOp2 dIsN (oN 5) (oV (eC .non))) (bAnd (bOp2 dGt (oV (eFrz (eCall dLen [(oN 2)]))) (oV (eC (.int 0)))) (bOp2 dNe (oV (eFrz (eCall dLen [(oN 5)]))) (oV (eFrz (eCall dLen [(oV (eOp2 dIx (oN 2) (oV (eC (.int 0)))))])))))) (sRaiseL ("BadText" : Str) [(oN 3)]) sNext) (sDrop (eApp 2 (eN 5)))))
section
variable {x l : Str} {q1 c : Option D} {k : Nat} {rows : List (List Int)}
theorem nn0 (r : List Int) : dIsN (Ti r) .non = some (.bl false) := rfl
theorem lnT (r : List Int) : dLen [Ti r] = some (.int (r.length : Nat)) := by unfold Ti; rw [dLen_t, List.length_map]
theorem lgk (hk : k < 2000000) : k.log2 < 1920 := Nat.lt_trans (lg_lt (k := 21) (by decide) (show k < 2 ^ 21 by omega)) (by decide)
theorem rd_none (hl : l.length ≤ 990000) (hk : k < 2000000) (ho : rowO l = none) : rdBody [some (.str x), q1, some (.own (rows.map Ti)), some (.int k), some (.str l), c] = .exc ("BadText" : Str) (.int (k : Nat)) [some (.str x), q1, some (.own (rows.map Ti)), some (.int k), some (.str l), some .non] := by
  have e1 := row_told hl
  have lg := lgk hk
  simp [rdBody, e1, ho, rowD, dIsN, isN, lg]
theorem rd_bad {r : List Int} (hl : l.length ≤ 990000) (hk : k < 2000000) (ho : rowO l = some r) (hb1 : rows ≠ []) (hb2 : r.length ≠ (rows.headD []).length) : rdBody [some (.str x), q1, some (.own (rows.map Ti)), some (.int k), some (.str l), c] = .exc ("BadText" : Str) (.int (k : Nat)) [some (.str x), q1, some (.own (rows.map Ti)), some (.int k), some (.str l), some (Ti r)] := by
  have e1 : G_row_told [some (.str l)] = .ok (Ti r) [some (.str l)] := by rw [row_told hl, ho]; rfl
  have lg := lgk hk
  obtain ⟨r0, rs, rfl⟩ : ∃ r0 rs, rows = r0 :: rs := by
    cases rows with
    | nil => exact absurd rfl hb1
    | cons r0 rs => exact ⟨r0, rs, rfl⟩
  have g1 : dIx (.lst ((r0 :: rs).map Ti)) (.int 0) = some (Ti r0) := dIx_at (k := 0) rfl rfl
  have g2 : dLen [.lst ((r0 :: rs).map Ti)] = some (.int ((r0 :: rs).length : Nat)) := by rw [dLen_l, List.length_map]
  have g3 : (0 : Int) < ((r0 :: rs).length : Nat) := by rw [List.length_cons]; omega
  have g4 : ¬ ((r.length : Int) = (r0.length : Nat)) := fun e => hb2 (show r.length = r0.length by omega)
  have lr := lnT r
  have lr0 := lnT r0
  have nr := nn0 r
  have fr : frz (Ti r) = Ti r := rfl
  have fr0 : frz (Ti r0) = Ti r0 := rfl
  generalize (r0 :: rs).map Ti = Y at g1 g2 ⊢
  generalize (r0 :: rs).length = N at g2 g3
  generalize Ti r = X at *
  have g5 : ¬ (r.length = r0.length) := by omega
  have g6 : 0 < N := by omega
  simp [rdBody, e1, fr, fr0, nr, g1, g2, lr, lr0, lg, g4, g5, g6]
theorem rd_ok {r : List Int} (hl : l.length ≤ 990000) (hk : k < 2000000) (ho : rowO l = some r) (hb : ¬ (rows ≠ [] ∧ r.length ≠ (rows.headD []).length)) (hn : rows.length < 1000000) : rdBody [some (.str x), q1, some (.own (rows.map Ti)), some (.int k), some (.str l), c] = .next [some (.str x), q1, some (.own ((rows ++ [r]).map Ti)), some (.int k), some (.str l), some (Ti r)] := by
  have e1 : G_row_told [some (.str l)] = .ok (Ti r) [some (.str l)] := by rw [row_told hl, ho]; rfl
  have lr := lnT r
  have nr := nn0 r
  have fr : frz (Ti r) = Ti r := rfl
  have hlt : rows.length < sizeLine := lt_sizeB hn
  rw [List.map_append, List.map_singleton]
  cases rows with
  | nil =>
    have h0 : (0 : Nat) < sizeLine := by decide
    generalize Ti r = X at *
    simp [rdBody, e1, fr, nr, dLen_l, h0]
  | cons r0 rs =>
    have g1 : dIx (.lst ((r0 :: rs).map Ti)) (.int 0) = some (Ti r0) := dIx_at (k := 0) rfl rfl
    have g2 : dLen [.lst ((r0 :: rs).map Ti)] = some (.int ((r0 :: rs).length : Nat)) := by rw [dLen_l, List.length_map]
    have g6 : 0 < (r0 :: rs).length := by rw [List.length_cons]; omega
    have g5 : r.length = r0.length := by
      apply Decidable.byContradiction
      intro h2
      exact hb ⟨by simp, h2⟩
    have lr0 := lnT r0
    have fr0 : frz (Ti r0) = Ti r0 := rfl
    have hle : ((r0 :: rs).map Ti).length < sizeLine := by rw [List.length_map]; exact hlt
    generalize (r0 :: rs).map Ti = Y at g1 g2 hle ⊢
    generalize (r0 :: rs).length = N at g2 g6
    generalize Ti r = X at *
    simp [rdBody, e1, fr, fr0, nr, g1, g2, lr, lr0, g5, g6, hle]
end
theorem read_loop (x : Str) (q1 : Option D) : ∀ (ls : List Str) (k : Nat) (rows : List (List Int)) (a b c : Option D), (∀ l ∈ ls, l.length ≤ 990000) → rows.length + ls.length < 1000000 → k + ls.length < 2000000 →
    ∃ R a' b' c', forL (.tup [3, 4]) rdBody (enumD k (ls.map D.str)) [some (.str x), q1, some (.own (rows.map Ti)), a, b, c] = (match goL k ls rows with
      | .inl j => .exc ("BadText" : Str) (.int j) [some (.str x), q1, R, a', b', c']
      | .inr rows' => .next [some (.str x), q1, some (.own (rows'.map Ti)), a', b', c'])
  | [], k, rows, a, b, c, _, _, _ => ⟨none, a, b, c, rfl⟩
  | l :: ls, k, rows, a, b, c, hl, hn, hk => by
    rw [List.length_cons] at hn hk
    have hl0 := hl l (List.mem_cons_self ..)
    have ef : forL (.tup [3, 4]) rdBody (enumD k ((l :: ls).map D.str)) [some (.str x), q1, some (.own (rows.map Ti)), a, b, c] = (match rdBody [some (.str x), q1, some (.own (rows.map Ti)), some (.int k), some (.str l), c] with
      | .next ρ2 => forL (.tup [3, 4]) rdBody (enumD (k + 1 : Nat) (ls.map D.str)) ρ2
      | .cnt ρ2 => forL (.tup [3, 4]) rdBody (enumD (k + 1 : Nat) (ls.map D.str)) ρ2
      | .brk ρ2 => .next ρ2
      | z => z) := rfl
    rw [ef]
    unfold goL
    cases ho : rowO l with
    | none =>
      refine ⟨some (.own (rows.map Ti)), some (.int k), some (.str l), some .non, ?_⟩
      rw [rd_none hl0 (by omega) ho]
    | some r =>
      dsimp only
      by_cases hb : rows ≠ [] ∧ r.length ≠ (rows.headD []).length
      · rw [if_pos hb]
        refine ⟨some (.own (rows.map Ti)), some (.int k), some (.str l), some (Ti r), ?_⟩
        rw [rd_bad hl0 (by omega) ho hb.1 hb.2]
      · rw [if_neg hb, rd_ok hl0 (by omega) ho hb (by omega)]
        exact read_loop x q1 ls (k + 1) (rows ++ [r]) _ _ _ (fun l h => hl l (List.mem_cons_of_mem _ h)) (by rw [List.length_append, List.length_singleton]; omega) (by omega)
end K60
end
section
set_option Elab.async false
set_option linter.all false
set_option maxRecDepth 100000
set_option maxHeartbeats 4000000
namespace K60
open PySem PySem.Spec PyProof.Rows L2 GxR GxA Dv XcL
theorem goL_good : ∀ (ls : List Str) (k : Nat) (rows rows' : List (List Int)), (∀ l ∈ ls, l.length ≤ 990000) → Good rows → goL k ls rows = .inr rows' → Good rows' ∧ rows'.length = rows.length + ls.length
  | [], k, rows, rows', _, h, e => by
    unfold goL at e
    cases e
    exact ⟨h, rfl⟩
  | l :: ls, k, rows, rows', hl, h, e => by
    unfold goL at e
    cases ho : rowO l with
    | none => rw [ho] at e; cases e
    | some r =>
      rw [ho] at e
      dsimp only at e
      split at e
      · cases e
      · rename_i hb
        have := goL_good ls (k + 1) (rows ++ [r]) rows' (fun l h => hl l (List.mem_cons_of_mem _ h)) (good_add h (rowO_good (hl l (List.mem_cons_self ..)) ho) hb) e
        rw [List.length_append, List.length_singleton] at this
        exact ⟨this.1, by rw [this.2, List.length_cons]; omega⟩
/-- what is read -/
def readO (x : Str) : Int ⊕ List (List Int) := match goL 1 (Txt.split x ("\n" : Str)).dropLast [] with
  | .inl j => .inl j
  | .inr rows => if (Txt.split x ("\n" : Str)).getLastD Str.empty ≠ ("" : Str) ∨ rows = [] then .inl ((Txt.split x ("\n" : Str)).length : Nat) else if tasB rows = true then .inr rows else .inl 0
def readD (x : Str) : D := match readO x with
  | .inl j => .int j
  | .inr rows => Ti2 rows
theorem last_ix (ls : List Str) (h : 1 ≤ ls.length) : dIx (.lst (ls.map D.str)) (.int (-1)) = some (.str (ls.getLastD Str.empty)) := by
  show atI (ls.map D.str) (-1) = _
  unfold atI
  have e : ixN (ls.map D.str).length (-1) = some (ls.length - 1) := by
    rw [List.length_map]
    unfold ixN
    rw [if_neg (by omega), if_pos (by omega)]
    congr 1
    omega
  rw [e]
  show (ls.map D.str)[ls.length - 1]? = _
  rw [List.getElem?_map, ← List.getLast?_eq_getElem?]
  cases ls with
  | nil => simp at h
  | cons a l =>
    simp [List.getLastD_eq_getLast?, List.getLast?_cons]
theorem told {x : Str} (h : x.length ≤ 990000) : G__law_told [some (.str x)] = .ok (readD x) [some (.str x)] := by
  have hs := Lb.sp_any (x := x) (y := ("\n" : Str)) (by decide) (by omega)
  have hle := split_le x ("\n" : Str)
  have hpos := split_pos x ("\n" : Str)
  have hsh : ∀ w ∈ Txt.split x ("\n" : Str), w.length ≤ 990000 := fun w hw => Nat.le_trans (part_short hw) h
  show gOf 1 1 [0] (b__law_told) _ = _
  unfold b__law_told
  simp only [v_gOf, sTold]
  unfold readD readO
  generalize Txt.split x ("\n" : Str) = ls at hs hle hsh hpos
  have hl := last_ix ls hpos
  have hd : ∀ l ∈ ls.dropLast, l.length ≤ 990000 := fun l h => hsh l (List.dropLast_subset _ h)
  have hll : ls.dropLast.length ≤ ls.length := by rw [List.length_dropLast]; omega
  obtain ⟨R, a', b', c', eL⟩ := read_loop x (some (.own (ls.map D.str))) ls.dropLast 1 [] none none none hd (by simp; omega) (by omega)
  have hgood := goL_good ls.dropLast 1 [] 
  have hen : enD 1 [.lst (ls.dropLast.map D.str), .int 1] = some (enumD 1 (ls.dropLast.map D.str)) := rfl
  have hcut : Dv.cutD (ls.map D.str) none (some (-1)) = ls.dropLast.map D.str := by rw [Lb.cut_last, List.map_dropLast]
  have e1 : ((1 : Nat) : Int) = 1 := rfl
  rw [e1, List.map_nil] at eL
  unfold rdBody at eL
  generalize ls.dropLast.map D.str = Z at hen hcut eL
  generalize ls.getLastD Str.empty = E at hl ⊢
  have er : G_read_tastes [some (.str x)] = (match goL 1 ls.dropLast [] with
      | .inl j => .exc ("BadText" : Str) (.int j) [some (.str x)]
      | .inr rows => if E ≠ ("" : Str) ∨ rows = [] then .exc ("BadText" : Str) (.int (ls.length : Nat)) [some (.str x)] else if tasB rows = true then .ok (Ti2 rows) [some (.str x)] else .exc ("BadText" : Str) (.int 0) [some (.str x)]) := by
    show gOf 1 5 [0] (b_read_tastes) _ = _
    unfold b_read_tastes
    have lgn : ls.length.log2 < 1920 := lgk (by omega)
    have lg0 : Nat.log2 0 < 1920 := by decide
    cases hg : goL 1 ls.dropLast [] with
    | inl j =>
      rw [hg] at eL
      dsimp only at eL
      simp [hs, Lb.dSl_lst, hcut, hen, eL]
    | inr rows =>
      obtain ⟨G1, G2⟩ := hgood rows hd (fun r hr => by cases hr) hg
      rw [hg] at eL
      dsimp only at eL ⊢
      by_cases hb1 : E = ("" : Str)
      · cases rows with
        | nil =>
          rw [List.map_nil] at eL
          have h0 : ¬ (0 : Int) < 0 := by omega
          simp [hs, Lb.dSl_lst, hcut, hen, eL, hl, dNe_str, hb1, dLen_l, lgn]
        | cons r0 rs =>
          have et := is_tastes_eq G1
          have g2 : dLen [.lst ((r0 :: rs).map Ti)] = some (.int ((r0 :: rs).length : Nat)) := by rw [dLen_l, List.length_map]
          have g6 : ¬ (r0 :: rs).length = 0 := by rw [List.length_cons]; omega
          have g7 : dTuple [.lst ((r0 :: rs).map Ti)] = some (Ti2 (r0 :: rs)) := rfl
          have g8 : ¬ (E ≠ ("" : Str) ∨ r0 :: rs = []) := by simp [hb1]
          have g9 : frz (Ti2 (r0 :: rs)) = Ti2 (r0 :: rs) := rfl
          have g10 : ¬ (((r0 :: rs).length : Nat) : Int) = 0 := by omega
          rw [if_neg g8]
          generalize tasB (r0 :: rs) = tb at et ⊢
          generalize (r0 :: rs).map Ti = Y at *
          generalize Ti2 (r0 :: rs) = X at *
          generalize (r0 :: rs).length = N at *
          cases tb with
          | true => simp [hs, Lb.dSl_lst, hcut, hen, eL, hl, dNe_str, hb1, g2, g6, g7, g9, et]
          | false => simp [hs, Lb.dSl_lst, hcut, hen, eL, hl, dNe_str, hb1, g2, g6, g7, g9, et, lg0]
      · simp [hs, Lb.dSl_lst, hcut, hen, eL, hl, dNe_str, hb1, lgn, dLen_l]
  simp only [List.nil_append, List.cons_append, List.replicate]
  cases hg : goL 1 ls.dropLast [] with
  | inl j =>
    rw [hg] at er
    simp [er, toldR]
  | inr rows =>
    rw [hg] at er
    dsimp only at er ⊢
    by_cases hb : E ≠ ("" : Str) ∨ rows = []
    · rw [if_pos hb] at er ⊢
      simp [er, toldR]
    · rw [if_neg hb] at er ⊢
      by_cases ht : tasB rows = true
      · rw [if_pos ht] at er ⊢
        simp [er]
      · rw [if_neg ht] at er ⊢
        simp [er, toldR]
abbrev lwBody : Dv.Env → Dv.Flow := (sSeq (sSet 4 (eFn (G__law_row_told) [(oV (eOp2 dIx (oN 1) (oN 3)))])) (sSeq (sIf (bOr (bOp2 dIsN (oN 4) (oV (eC .non))) (bAnd (bOp2 dGt (oV (eFrz (eCall dLen [(oN 2)]))) (oV (eC (.int 0)))) (bOp2 dNe (oV (eFrz (eCall dLen [(oN 4)]))) (oV (eFrz (eCall dLen [(oV (eOp2 dIx (oN 2) (oV (eC (.int 0)))))])))))) (sRet (eOp2 dAdd (oN 3) (oV (eC (.int 1))))) sNext) (sDrop (eApp 2 (eN 4)))))
section
variable {x l : Str} {L : List D} {c : Option D} {i : Int} {rows : List (List Int)}
theorem lw_none (hx : dIx (.lst L) (.int i) = some (.str l)) (hl : l.length ≤ 990000) (ho : rowO l = none) : lwBody [some (.str x), some (.own L), some (.own (rows.map Ti)), some (.int i), c] = .ret (.int (i + 1)) [some (.str x), some (.own L), some (.own (rows.map Ti)), some (.int i), some .non] := by
  have e1 := law_row_told hl
  simp [lwBody, hx, e1, ho, rowD, dIsN, isN]
theorem lw_bad {r : List Int} (hx : dIx (.lst L) (.int i) = some (.str l)) (hl : l.length ≤ 990000) (ho : rowO l = some r) (hb1 : rows ≠ []) (hb2 : r.length ≠ (rows.headD []).length) : lwBody [some (.str x), some (.own L), some (.own (rows.map Ti)), some (.int i), c] = .ret (.int (i + 1)) [some (.str x), some (.own L), some (.own (rows.map Ti)), some (.int i), some (Ti r)] := by
  have e1 : G__law_row_told [some (.str l)] = .ok (Ti r) [some (.str l)] := by rw [law_row_told hl, ho]; rfl
  obtain ⟨r0, rs, rfl⟩ : ∃ r0 rs, rows = r0 :: rs := by
    cases rows with
    | nil => exact absurd rfl hb1
    | cons r0 rs => exact ⟨r0, rs, rfl⟩
  have g1 : dIx (.lst ((r0 :: rs).map Ti)) (.int 0) = some (Ti r0) := dIx_at (k := 0) rfl rfl
  have g2 : dLen [.lst ((r0 :: rs).map Ti)] = some (.int ((r0 :: rs).length : Nat)) := by rw [dLen_l, List.length_map]
  have g3 : (0 : Int) < ((r0 :: rs).length : Nat) := by rw [List.length_cons]; omega
  have g4 : ¬ ((r.length : Int) = (r0.length : Nat)) := fun e => hb2 (show r.length = r0.length by omega)
  have lr := lnT r
  have lr0 := lnT r0
  have nr := nn0 r
  have fr : frz (Ti r) = Ti r := rfl
  have fr0 : frz (Ti r0) = Ti r0 := rfl
  generalize (r0 :: rs).map Ti = Y at g1 g2 ⊢
  generalize (r0 :: rs).length = N at g2 g3
  generalize Ti r = X at *
  have g5 : ¬ (r.length = r0.length) := by omega
  have g6 : 0 < N := by omega
  simp [lwBody, hx, e1, fr, fr0, nr, g1, g2, lr, lr0, g4, g5, g6]
theorem lw_ok {r : List Int} (hx : dIx (.lst L) (.int i) = some (.str l)) (hl : l.length ≤ 990000) (ho : rowO l = some r) (hb : ¬ (rows ≠ [] ∧ r.length ≠ (rows.headD []).length)) (hn : rows.length < 1000000) : lwBody [some (.str x), some (.own L), some (.own (rows.map Ti)), some (.int i), c] = .next [some (.str x), some (.own L), some (.own ((rows ++ [r]).map Ti)), some (.int i), some (Ti r)] := by
  have e1 : G__law_row_told [some (.str l)] = .ok (Ti r) [some (.str l)] := by rw [law_row_told hl, ho]; rfl
  have lr := lnT r
  have nr := nn0 r
  have fr : frz (Ti r) = Ti r := rfl
  have hlt : rows.length < sizeLine := lt_sizeB hn
  rw [List.map_append, List.map_singleton]
  cases rows with
  | nil =>
    have h0 : (0 : Nat) < sizeLine := by decide
    generalize Ti r = X at *
    simp [lwBody, hx, e1, fr, nr, dLen_l, h0]
  | cons r0 rs =>
    have g1 : dIx (.lst ((r0 :: rs).map Ti)) (.int 0) = some (Ti r0) := dIx_at (k := 0) rfl rfl
    have g2 : dLen [.lst ((r0 :: rs).map Ti)] = some (.int ((r0 :: rs).length : Nat)) := by rw [dLen_l, List.length_map]
    have g6 : 0 < (r0 :: rs).length := by rw [List.length_cons]; omega
    have g5 : r.length = r0.length := by
      apply Decidable.byContradiction
      intro h2
      exact hb ⟨by simp, h2⟩
    have lr0 := lnT r0
    have fr0 : frz (Ti r0) = Ti r0 := rfl
    have hle : ((r0 :: rs).map Ti).length < sizeLine := by rw [List.length_map]; exact hlt
    generalize (r0 :: rs).map Ti = Y at g1 g2 hle ⊢
    generalize (r0 :: rs).length = N at g2 g6
    generalize Ti r = X at *
    simp [lwBody, hx, e1, fr, fr0, nr, g1, g2, lr, lr0, g5, g6, hle]
end
theorem law_loop (x : Str) (L : List D) : ∀ (ls : List Str) (k : Nat) (rows : List (List Int)) (b c : Option D), (∀ i l, ls[i]? = some l → L[k + i]? = some (.str l)) → (∀ l ∈ ls, l.length ≤ 990000) → rows.length + ls.length < 1000000 →
    ∃ R b' c', forL (.name 3) lwBody (rangeD (k : Nat) ls.length) [some (.str x), some (.own L), some (.own (rows.map Ti)), b, c] = (match goL (k + 1) ls rows with
      | .inl j => .ret (.int j) [some (.str x), some (.own L), R, b', c']
      | .inr rows' => .next [some (.str x), some (.own L), some (.own (rows'.map Ti)), b', c'])
  | [], k, rows, b, c, _, _, _ => ⟨none, b, c, rfl⟩
  | l :: ls, k, rows, b, c, hL, hl, hn => by
    rw [List.length_cons] at hn
    have hl0 := hl l (List.mem_cons_self ..)
    have hx : dIx (.lst L) (.int (k : Nat)) = some (.str l) := dIx_at rfl (hL 0 l rfl)
    have hL' : ∀ i m, ls[i]? = some m → L[k + 1 + i]? = some (.str m) := fun i m h => by
      have := hL (i + 1) m (by simpa using h)
      rw [show k + 1 + i = k + (i + 1) by omega]
      exact this
    have ef : forL (.name 3) lwBody (rangeD (k : Nat) (l :: ls).length) [some (.str x), some (.own L), some (.own (rows.map Ti)), b, c] = (match lwBody [some (.str x), some (.own L), some (.own (rows.map Ti)), some (.int k), c] with
      | .next ρ2 => forL (.name 3) lwBody (rangeD (k + 1 : Nat) ls.length) ρ2
      | .cnt ρ2 => forL (.name 3) lwBody (rangeD (k + 1 : Nat) ls.length) ρ2
      | .brk ρ2 => .next ρ2
      | z => z) := by
      rw [List.length_cons, Lb.rangeD_succ]
      rfl
    rw [ef]
    unfold goL
    cases ho : rowO l with
    | none =>
      refine ⟨some (.own (rows.map Ti)), some (.int k), some .non, ?_⟩
      rw [lw_none hx hl0 ho]
      rfl
    | some r =>
      dsimp only
      by_cases hb : rows ≠ [] ∧ r.length ≠ (rows.headD []).length
      · rw [if_pos hb]
        refine ⟨some (.own (rows.map Ti)), some (.int k), some (Ti r), ?_⟩
        rw [lw_bad hx hl0 ho hb.1 hb.2]
        rfl
      · rw [if_neg hb, lw_ok hx hl0 ho hb (by omega)]
        exact law_loop x L ls (k + 1) (rows ++ [r]) _ _ hL' (fun l h => hl l (List.mem_cons_of_mem _ h)) (by rw [List.length_append, List.length_singleton]; omega)
theorem due {x : Str} (h : x.length ≤ 990000) : G__law_read_tastes [some (.str x)] = .ok (readD x) [some (.str x)] := by
  have hs := Lb.sp_any (x := x) (y := ("\n" : Str)) (by decide) (by omega)
  have hle := split_le x ("\n" : Str)
  have hpos := split_pos x ("\n" : Str)
  have hsh : ∀ w ∈ Txt.split x ("\n" : Str), w.length ≤ 990000 := fun w hw => Nat.le_trans (part_short hw) h
  show gOf 1 4 [0] (b__law_read_tastes) _ = _
  unfold b__law_read_tastes readD readO
  generalize Txt.split x ("\n" : Str) = ls at hs hle hsh hpos
  have hl := last_ix ls hpos
  have hd : ∀ l ∈ ls.dropLast, l.length ≤ 990000 := fun l h => hsh l (List.dropLast_subset _ h)
  have hll : ls.dropLast.length = ls.length - 1 := by rw [List.length_dropLast]
  obtain ⟨R, b', c', eL⟩ := law_loop x (ls.map D.str) ls.dropLast 0 [] none none (fun i l hi => by
    rw [List.getElem?_map]
    have h1 : i < ls.dropLast.length := (List.getElem?_eq_some_iff.mp hi).1
    rw [List.getElem?_dropLast] at hi
    split at hi
    · rw [Nat.zero_add, hi]; rfl
    · cases hi) hd (by simp; omega)
  have hgood := goL_good ls.dropLast 1 []
  have hrg : rg1 [.int ((ls.length : Int) - 1)] = some (rangeD 0 ls.dropLast.length) := by
    rw [show (ls.length : Int) - 1 = ((ls.dropLast.length : Nat) : Int) by rw [hll]; omega]
    exact rg1_nat _ (by omega)
  have e1 : ((0 : Nat) : Int) = 0 := rfl
  rw [e1, List.map_nil] at eL
  unfold lwBody at eL
  generalize rangeD 0 ls.dropLast.length = Z at hrg eL
  generalize ls.getLastD Str.empty = E at hl ⊢
  rw [Nat.zero_add] at eL
  cases hg : goL 1 ls.dropLast [] with
  | inl j =>
    rw [hg] at eL
    dsimp only at eL
    simp [hs, hrg, eL, dLen_l]
  | inr rows =>
    obtain ⟨G1, G2⟩ := hgood rows hd (fun r hr => by cases hr) hg
    rw [hg] at eL
    dsimp only at eL ⊢
    by_cases hb1 : E = ("" : Str)
    · cases rows with
      | nil =>
        rw [List.map_nil] at eL
        have h0 : ¬ (0 : Int) < 0 := by omega
        simp [hs, hrg, eL, hl, dNe_str, hb1, dLen_l]
      | cons r0 rs =>
        have et := are_tastes_eq G1 (by rw [G2]; simp; omega)
        have g2 : dLen [.lst ((r0 :: rs).map Ti)] = some (.int ((r0 :: rs).length : Nat)) := by rw [dLen_l, List.length_map]
        have g6 : ¬ (r0 :: rs).length = 0 := by rw [List.length_cons]; omega
        have g7 : dTuple [.lst ((r0 :: rs).map Ti)] = some (Ti2 (r0 :: rs)) := rfl
        have g8 : ¬ (E ≠ ("" : Str) ∨ r0 :: rs = []) := by simp [hb1]
        have g9 : frz (Ti2 (r0 :: rs)) = Ti2 (r0 :: rs) := rfl
        rw [if_neg g8]
        generalize tasB (r0 :: rs) = tb at et ⊢
        generalize (r0 :: rs).map Ti = Y at *
        generalize hX : Ti2 (r0 :: rs) = X at *
        generalize (r0 :: rs).length = N at *
        cases tb with
        | true =>
          simp [hs, hrg, eL, hl, dNe_str, hb1, g2, g6, g7, g9, et, dLen_l]
          exact hX.symm
        | false => simp [hs, hrg, eL, hl, dNe_str, hb1, g2, g6, g7, g9, et, dLen_l]
    · simp [hs, hrg, eL, hl, dNe_str, hb1, dLen_l]
end K60
end
section
set_option Elab.async false
set_option linter.all false
set_option maxRecDepth 100000
set_option maxHeartbeats 4000000
namespace K60
open PySem PySem.Spec PyProof.Rows L2 GxR GxA Dv XcL
def strD : D → D
  | .int z => .str (Lb.intS z)
  | d => d
def rowS (r : List Int) : Str := Txt.join (" " : Str) (r.map Lb.intS)
def textT (rows : List (List Int)) : Str := Txt.join ("" : Str) (rows.map fun r => rowS r ++ ("\n" : Str))
theorem dStr_small {z : Int} (h : 0 ≤ z ∧ z ≤ 1000) : dStr [.int z] = some (.str (Lb.intS z)) := by
  show (if z.natAbs.log2 < 1920 then _ else _) = _
  rw [if_pos]
  · rfl
  · exact Nat.lt_trans (lg_lt (k := 21) (by decide) (show z.natAbs < 2 ^ 21 by omega)) (by decide)
theorem intS_sh {z : Int} (h : 0 ≤ z ∧ z ≤ 1000) : (Lb.intS z).length ≤ 5 := Lb.intS_len (g := 4) (by omega) (by omega)
theorem rowS_len {g p : Nat} {rows : List (List Int)} (T : TasOK p g rows) (hg : g ≤ 8) : ∀ r ∈ rows, ((r.map Lb.intS).map (·.length)).sum ≤ 40 ∧ (rowS r).length ≤ 48 := by
  intro r hr
  obtain ⟨t1, t2⟩ := T
  obtain ⟨h1, h2, _⟩ := t2 r hr
  have h3 := Lb.sum_le (n := 5) (r.map Lb.intS) (fun y hy => by
    obtain ⟨z, hz, rfl⟩ := List.mem_map.mp hy
    exact intS_sh (h2 z hz))
  rw [List.length_map] at h3
  have h4 := Lb.join_len (" " : Str) (r.map Lb.intS)
  rw [List.length_map] at h4
  have e : (" " : Str).length = 1 := by decide
  rw [e] at h4
  refine ⟨by omega, ?_⟩
  unfold rowS
  omega
theorem textT_len {g p : Nat} {rows : List (List Int)} (T : TasOK p g rows) (hg : g ≤ 8) (hp : p ≤ 5) : ((rows.map fun r => rowS r ++ ("\n" : Str)).map (·.length)).sum ≤ 245 ∧ (textT rows).length ≤ 245 := by
  have e : ("\n" : Str).length = 1 := by decide
  have h3 := Lb.sum_le (n := 49) (rows.map fun r => rowS r ++ ("\n" : Str)) (fun y hy => by
    obtain ⟨r, hr, rfl⟩ := List.mem_map.mp hy
    have := (rowS_len T hg r hr).2
    rw [len_cat, e]
    omega)
  have t1 := T.1
  have h4 := Lb.join_len ("" : Str) (rows.map fun r => rowS r ++ ("\n" : Str))
  rw [List.length_map] at h3 h4
  have e0 : ("" : Str).length = 0 := by decide
  rw [e0] at h4
  unfold textT
  omega
theorem flt_true (l : List D) : l.filter (fun _ => true) = l := by induction l <;> simp_all
theorem write_eq {g p : Nat} {rows : List (List Int)} (T : TasOK p g rows) (hg : g ≤ 8) (hp : p ≤ 5) : G_write_tastes [some (Ti2 rows)] = .ok (.str (textT rows)) [some (Ti2 rows)] := by
  show gOf 1 2 [0] (b_write_tastes) _ = _
  unfold b_write_tastes
  have tl := textT_len T hg hp
  have o := lc_pure (v := 2) (it := iV (eN 0)) (tst := bYes) (elt := (eFrz (eOp2 dAdd (oV (eFrz (eM1 dJoin (oV (eC (.str (" " : Str)))) (oV (eFrz (eLc (iV (eN 2)) (.name 1) bYes (eFrz (eCall dStr [(oN 1)])) [1])))))) (oV (eC (.str ("\n" : Str))))))) (ρ := [some (Ti2 rows), none, none]) (ρ1 := [some (Ti2 rows), none, none]) (ds := rows.map Ti) (fun _ => true)
    (fun d => match d with | .tup ds => .str (rowS ((intsOf ds).getD []) ++ ("\n" : Str)) | d => d) (fun d => [some (Ti2 rows), none, some d]) (by simp) (by simp [itemsOf, sqOf, tupOf, Ti2]) (by rw [List.length_map, T.1]; omega) (by
      intro d hd
      obtain ⟨r, hr, rfl⟩ := List.mem_map.mp hd
      obtain ⟨h1, h2, _⟩ := T.2 r hr
      refine ⟨by simp, fun _ => ?_⟩
      have i := lc_pure (v := 1) (it := iV (eN 2)) (tst := bYes) (elt := (eFrz (eCall dStr [(oN 1)]))) (ρ := [some (Ti2 rows), none, some (Ti r)]) (ρ1 := [some (Ti2 rows), none, some (Ti r)]) (ds := r.map D.int) (fun _ => true) strD (fun d => [some (Ti2 rows), some d, some (Ti r)]) (by simp) (by simp [itemsOf, sqOf, tupOf, Ti]) (by rw [List.length_map]; omega) (by
        intro d hd
        obtain ⟨z, hz, rfl⟩ := List.mem_map.mp hd
        have e := dStr_small (h2 z hz)
        simp [e, strD])
      rw [flt_true] at i
      simp only [stil] at i
      have e1 : (r.map D.int).map strD = (r.map Lb.intS).map D.str := by rw [List.map_map, List.map_map]; rfl
      rw [e1] at i
      obtain ⟨l1, l2⟩ := rowS_len T hg r hr
      have j : dJoin (" " : Str) (.lst ((r.map Lb.intS).map D.str)) = some (.str (rowS r)) := Lb.dJoin_eq (by rw [List.length_map, show (" " : Str).length = 1 by decide]; omega)
      have a : dAdd (.str (rowS r)) (.str ("\n" : Str)) = some (.str (rowS r ++ ("\n" : Str))) := dAdd_strB (by rw [show ("\n" : Str).length = 1 by decide]; omega)
      have e2 : (intsOf (r.map D.int)).getD [] = r := by rw [intsOf_map]; rfl
      generalize (r.map Lb.intS).map D.str = W at *
      show _ = Out.ok (D.str (rowS ((intsOf (r.map D.int)).getD []) ++ ("\n" : Str))) _
      rw [e2]
      simp [-w_eLc, i, j, a])
  rw [flt_true] at o
  have e1 : (rows.map Ti).map (fun d => match d with | .tup ds => .str (rowS ((intsOf ds).getD []) ++ ("\n" : Str)) | d => d) = (rows.map fun r => rowS r ++ ("\n" : Str)).map D.str := by
    rw [List.map_map, List.map_map]
    apply List.map_congr_left
    intro r _
    show D.str (rowS ((intsOf (r.map D.int)).getD []) ++ ("\n" : Str)) = _
    rw [intsOf_map]
    rfl
  rw [e1] at o
  simp only [stil] at o
  have j : dJoin ("" : Str) (.lst ((rows.map fun r => rowS r ++ ("\n" : Str)).map D.str)) = some (.str (textT rows)) := Lb.dJoin_eq (by rw [show ("" : Str).length = 0 by decide]; omega)
  generalize (rows.map fun r => rowS r ++ ("\n" : Str)).map D.str = W at *
  simp [-w_eLc, o, j]
theorem e_text : G__law_tastes_text = G_write_tastes := rfl
/-! ### what is written is read back -/
theorem joinE : ∀ ps : List (List Nat), TL.joinL [] (ps.map fun p => p ++ [10]) = TL.joinL [10] (ps ++ [[]])
  | [] => rfl
  | [p] => by simp [TL.joinL]
  | p :: q :: r => by
    have ih := joinE (q :: r)
    rw [List.map_cons, List.map_cons] at *
    show (p ++ [10]) ++ ([] ++ TL.joinL [] ((q ++ [10]) :: r.map fun p => p ++ [10])) = p ++ ([10] ++ TL.joinL [10] (q :: (r ++ [[]])))
    rw [ih]
    simp
theorem text_lines (rows : List (List Int)) : textT rows = Txt.join ("\n" : Str) (rows.map rowS ++ [Str.empty]) := by
  apply str_ext
  unfold textT
  rw [TL.join_eq, TL.join_eq]
  show TL.tl _ = TL.tl _
  rw [TL.tl_join, TL.tl_join]
  have e1 : TL.tl ("" : Str) = [] := by decide
  have e2 : TL.tl ("\n" : Str) = [10] := by decide
  rw [e1, e2, List.map_map, List.map_append, List.map_map]
  have e3 : rows.map (TL.tl ∘ fun r => rowS r ++ ("\n" : Str)) = (rows.map (TL.tl ∘ rowS)).map fun p => p ++ [10] := by
    rw [List.map_map]
    apply List.map_congr_left
    intro r _
    show TL.tl (rowS r ++ ("\n" : Str)) = TL.tl (rowS r) ++ [10]
    rw [TL.tl_append, e2]
  rw [e3, joinE]
  rfl
theorem mem_joinL {c s : Nat} : ∀ {ps : List (List Nat)}, c ∈ TL.joinL [s] ps → c = s ∨ ∃ p ∈ ps, c ∈ p
  | [], h => by simp [TL.joinL] at h
  | [p], h => .inr ⟨p, List.mem_cons_self .., h⟩
  | p :: q :: r, h => by
    have h : c ∈ p ++ ([s] ++ TL.joinL [s] (q :: r)) := h
    rcases List.mem_append.mp h with h | h
    · exact .inr ⟨p, List.mem_cons_self .., h⟩
    · rcases List.mem_append.mp h with h | h
      · exact .inl (List.mem_singleton.mp h)
      · rcases mem_joinL h with h | ⟨z, hz, h⟩
        · exact .inl h
        · exact .inr ⟨z, List.mem_cons_of_mem _ hz, h⟩
theorem row_free (r : List Int) : 10 ∉ TL.tl (rowS r) := by
  unfold rowS
  rw [TL.join_eq, TL.tl_join]
  have e : TL.tl (" " : Str) = [32] := by decide
  rw [e]
  intro h
  rcases mem_joinL h with h | ⟨p, hp, h⟩
  · cases h
  · obtain ⟨z, hz, rfl⟩ := List.mem_map.mp hp
    obtain ⟨i, _, rfl⟩ := List.mem_map.mp hz
    exact int_text_free' 10 (by decide) i h
theorem split_text {rows : List (List Int)} : Txt.split (textT rows) ("\n" : Str) = rows.map rowS ++ [Str.empty] := by
  rw [text_lines]
  refine TL.split_join (s := 10) (S := []) (by decide) (by decide +kernel) (by simp) fun p hp => ?_
  rcases List.mem_append.mp hp with h | h
  · obtain ⟨r, _, rfl⟩ := List.mem_map.mp h
    exact row_free r
  · rw [List.mem_singleton.mp h]
    decide
theorem split_row {r : List Int} (h : r ≠ []) : Txt.split (rowS r) (" " : Str) = r.map Lb.intS := by
  refine TL.split_join (s := 32) (S := []) (by decide) (by decide +kernel) (by simpa using h) fun p hp => ?_
  obtain ⟨i, _, rfl⟩ := List.mem_map.mp hp
  exact int_text_free' 32 (by decide) i
theorem okW_int {z : Int} (h : 0 ≤ z ∧ z ≤ 1000) : okW (Lb.intS z) = true := by
  unfold okW
  rw [Lb.intS_numB (g := 4) (by omega) (by omega), Bool.true_and]
  simp only [Bool.not_eq_true', decide_eq_false_iff_not]
  obtain ⟨n, rfl⟩ : ∃ n : Nat, z = n := ⟨z.toNat, by omega⟩
  rw [Lb.intS_nat]
  intro e
  have : 45 ∈ TL.numL n := by
    cases hl : TL.numL n with
    | nil => rw [hl] at e; simp at e
    | cons c l => rw [hl] at e; simp at e; rw [e]; simp
  exact TL.numL_free (by omega) this
theorem rowO_row {r : List Int} (h : r ≠ []) (h2 : ∀ z ∈ r, 0 ≤ z ∧ z ≤ 1000) : rowO (rowS r) = some r := by
  unfold rowO
  dsimp only
  rw [split_row h, if_pos]
  · congr 1
    rw [List.map_map]
    conv => rhs; rw [← List.map_id r]
    apply List.map_congr_left
    intro z hz
    exact Lb.intS_val (g := 4) (by omega) (by omega) (by have := h2 z hz; omega)
  · rw [List.all_eq_true]
    intro w hw
    obtain ⟨z, hz, rfl⟩ := List.mem_map.mp hw
    exact okW_int (h2 z hz)
theorem goL_rows {g : Nat} (hg : 1 ≤ g) : ∀ (rows : List (List Int)) (k : Nat) (acc : List (List Int)), (∀ r ∈ acc, r.length = g) → (∀ r ∈ rows, r.length = g ∧ ∀ z ∈ r, 0 ≤ z ∧ z ≤ 1000) → goL k (rows.map rowS) acc = .inr (acc ++ rows)
  | [], k, acc, _, _ => by simp [goL]
  | r :: rows, k, acc, h1, h2 => by
    obtain ⟨h3, h4⟩ := h2 r (List.mem_cons_self ..)
    have hne : r ≠ [] := fun e => by rw [e] at h3; simp at h3; omega
    rw [List.map_cons, goL, rowO_row hne h4]
    dsimp only
    rw [if_neg]
    · rw [goL_rows hg rows (k + 1) (acc ++ [r]) (fun q hq => by
        rcases List.mem_append.mp hq with h | h
        · exact h1 q h
        · rw [List.mem_singleton.mp h]; exact h3) fun q hq => h2 q (List.mem_cons_of_mem _ hq)]
      simp
    · rintro ⟨ha, hb⟩
      cases acc with
      | nil => exact ha rfl
      | cons a as => exact hb (by rw [h3]; exact (h1 a (List.mem_cons_self ..)).symm)
theorem read_text {g p : Nat} {rows : List (List Int)} (T : TasOK p g rows) (g1 : 1 ≤ g) (hg : g ≤ 8) (p1 : 1 ≤ p) (hp : p ≤ 5) : readD (textT rows) = Ti2 rows := by
  have e : readO (textT rows) = .inr rows := by
    unfold readO
    rw [split_text, List.dropLast_concat, goL_rows g1 rows 1 [] (fun r hr => by cases hr) fun r hr => ⟨(T.2 r hr).1, (T.2 r hr).2.1⟩]
    dsimp only
    rw [List.nil_append]
    have hne : rows ≠ [] := fun e => by have := T.1; rw [e] at this; simp at this; omega
    rw [if_neg, if_pos]
    · unfold tasB
      rw [Bool.and_eq_true, Bool.and_eq_true, decide_eq_true_eq, decide_eq_true_eq, List.all_eq_true]
      refine ⟨⟨by rw [T.1]; omega, ?_⟩, fun r hr => ?_⟩
      · cases rows with
        | nil => exact absurd rfl hne
        | cons r0 rs => 
          show r0.length ≤ 8
          rw [(T.2 r0 (List.mem_cons_self ..)).1]; omega
      · obtain ⟨_, h2, h3⟩ := T.2 r hr
        rw [Bool.and_eq_true, List.all_eq_true, decide_eq_true_eq]
        exact ⟨fun z hz => by simpa using (h2 z hz).2, h3⟩
    · rintro (h | h)
      · apply h
        simp [List.getLastD_eq_getLast?]
        decide
      · exact hne h
  unfold readD
  rw [e]
end K60
end
section
set_option Elab.async false
set_option linter.all false
set_option maxRecDepth 100000
set_option maxHeartbeats 8000000
namespace K60
open PySem PySem.Spec PyProof.Rows L2 GxR GxA Dv XcL
theorem most {v : Int} (h0 : 0 ≤ v) (h1 : v < 3) : ∃ M, dIx (.tup [.int 4, .int 30, .int 1001]) (.int v) = some (.int M) ∧ 1 ≤ M ∧ M ≤ 1001 := by
  rw [dIx_tup h0 (by simpa using h1)]
  have : v = 0 ∨ v = 1 ∨ v = 2 := by omega
  rcases this with rfl | rfl | rfl
  · exact ⟨4, rfl, by decide, by decide⟩
  · exact ⟨30, rfl, by decide, by decide⟩
  · exact ⟨1001, rfl, by decide, by decide⟩
theorem n5 : dMulS (.str ("1\n" : Str)) (.int 5) = some (.str (strRep ("1\n" : Str) 5)) := by
  show (if 2 ≤ (5 : Int) ∧ (5 : Int) ≤ 1000 ∧ 1 ≤ ("1\n" : Str).length ∧ ("1\n" : Str).length ≤ 1000 then some (D.str (strRep ("1\n" : Str) (5 : Int).toNat)) else none) = _
  rw [if_pos (by decide)]
  rfl
theorem n6 : dMulS (.str ("1\n" : Str)) (.int 6) = some (.str (strRep ("1\n" : Str) 6)) := by
  show (if 2 ≤ (6 : Int) ∧ (6 : Int) ≤ 1000 ∧ 1 ≤ ("1\n" : Str).length ∧ ("1\n" : Str).length ≤ 1000 then some (D.str (strRep ("1\n" : Str) (6 : Int).toNat)) else none) = _
  rw [if_pos (by decide)]
  rfl
theorem l5 : (strRep ("1\n" : Str) 5).length ≤ 990000 := by decide +kernel
theorem l6 : (strRep ("1\n" : Str) 6).length ≤ 990000 := by decide +kernel
theorem pl_read (x : Str) (h : x.length ≤ 990000) : Lb.Pl 2 (readD x) := by
  unfold readD readO
  have hle := split_le x ("\n" : Str)
  have hsh : ∀ w ∈ Txt.split x ("\n" : Str), w.length ≤ 990000 := fun w hw => Nat.le_trans (part_short hw) h
  generalize Txt.split x ("\n" : Str) = ls at *
  cases hg : goL 1 ls.dropLast [] with
  | inl j => exact trivial
  | inr rows =>
    obtain ⟨h1, h2⟩ := goL_good ls.dropLast 1 [] rows (fun l h => hsh l (List.dropLast_subset _ h)) (fun r hr => by cases hr) hg
    dsimp only
    split
    · rename_i j e
      exact trivial
    · rename_i r e
      split at e
      · cases e
      · split at e
        · cases e
          refine Lb.pl_Ti2 _ ?_ fun r hr => ?_
          · rw [h2, List.length_dropLast]; simp; omega
          · have := (h1 r hr).2.2.1
            omega
        · cases e
def AllS (ds : List D) : Prop := ∀ d ∈ ds, ∃ z, d = .str z ∧ z.length ≤ 990000
theorem rg10 : rg1 [D.int 10] = some (rangeD 0 10) := rfl
theorem law_ok {ns : List Int} (hn : ns.length ≤ 63) : OkR (G_law [some (.scr ns)]) (fun d ρ => d = .bl true) := by
  refine okr_gOf _ _ _ _ _ ?_
  unfold b_law
  obtain ⟨d0, _, e0, rfl, p0⟩ := (Lb.pool_ok hn).get
  obtain ⟨_, _, e1, d1, v1, rfl, rfl, a1, b1, p1⟩ := (Lb.draw (by omega) p0 (k := 5) (by omega) (by omega)).get
  obtain ⟨_, _, e2, d2, v2, rfl, rfl, a2, b2, p2⟩ := (Lb.draw (by omega) p1 (k := 8) (by omega) (by omega)).get
  obtain ⟨_, _, e3, d3, v3, rfl, rfl, a3, b3, p3⟩ := (Lb.draw (by omega) p2 (k := 3) (by omega) (by omega)).get
  obtain ⟨M, hM, M1, M2⟩ := most a3 b3
  obtain ⟨p, hp⟩ : ∃ p : Nat, 1 + v1 = ((p : Nat) : Int) := ⟨(1 + v1).toNat, by omega⟩
  obtain ⟨g, hg⟩ : ∃ g : Nat, 1 + v2 = ((g : Nat) : Int) := ⟨(1 + v2).toNat, by omega⟩
  obtain ⟨_, _, e4, d4, rows, rfl, T, rfl, p4⟩ := (tastes_ok (by omega) p3 (p := p) (g := g) (by omega) (by omega) (by omega) M1 M2).get
  have g1 : 1 ≤ g := by omega
  have g8 : g ≤ 8 := by omega
  have q1 : 1 ≤ p := by omega
  have q5 : p ≤ 5 := by omega
  have ew := write_eq T g8 q5
  have tl := (textT_len T g8 q5).2
  have et := told (x := textT rows) (by omega)
  rw [read_text T g1 g8 q1 q5] at et
  have eW : G__law_tastes_text [some (Ti2 rows)] = .ok (.str (textT rows)) [some (Ti2 rows)] := ew
  have hT : Lb.Pl 2 (Ti2 rows) := Lb.pl_Ti2 _ (by rw [T.1]; omega) fun r hr => by rw [(T.2 r hr).1]; omega
  have fT : frz (Ti2 rows) = Ti2 rows := rfl
  have es : Lb.G__law_same 40 [some (.lst [.str (textT rows), Ti2 rows]), some (.lst [.str (textT rows), Ti2 rows])] = .ok (.bl true) [some (.lst [.str (textT rows), Ti2 rows]), some (.lst [.str (textT rows), Ti2 rows])] := Lb.same_refl 3 39 _ (by
    unfold Lb.Pl
    refine ⟨by simp, fun d hd => ?_⟩
    simp only [List.mem_cons, List.not_mem_nil, or_false] at hd
    rcases hd with rfl | rfl
    · trivial
    · exact hT) (by omega)
  generalize textT rows = t at *
  have ec : ∀ lo hi, dSl (.str t) lo hi = some (.str (cutS t lo hi)) := fun lo hi => dSl_strB (by omega)
  have lc : ∀ lo hi, (cutS t lo hi).length ≤ 245 := fun lo hi => Nat.le_trans (cut_len ..) tl
  have a1' : dAdd (.str t) (.str ("\n" : Str)) = some (.str (t ++ ("\n" : Str))) := dAdd_strB (by rw [show ("\n" : Str).length = 1 by decide]; omega)
  have a2' : ∀ lo hi, dAdd (.str t) (.str (cutS t lo hi)) = some (.str (t ++ cutS t lo hi)) := fun lo hi => dAdd_strB (by have := lc lo hi; omega)
  generalize hX : Ti2 rows = X at *
  simp [e_pool, e_draw, e_same, e0, e1, e2, e3, hp, hg, hM, e4, eW, ew, et, fT, es, ec, a1', a2', n5, n6, le_sizeB, rg10]
  have fin : ∀ (ds : List D) (d5 : D) (k0 vl : Option D), AllS ds → Lb.PoolOK 200 d5 → FlR ((forL (.name 6) (sIf (bNot (bE (eFrz (eFn (Lb.G__law_same 40) [(oV (eFrz (eFn (G__law_told) [(oN 6)]))), (oV (eFrz (eFn (G__law_read_tastes) [(oN 6)])))])))) (sRet (eC (.bl false))) sNext) ds [some (.scr ns), some d5, some X, some (.str t), some (.lst ds), k0, vl]).thn (sRet (eC (.bl true)))) (fun _ => False) (fun d ρ' => d = D.bl true) := by
    intro ds d5 k0 vl hds P5
    refine fl_for (fun _ ρ => ∃ vl, ρ = [some (.scr ns), some d5, some X, some (.str t), some (.lst ds), k0, vl]) _ 0 _ ⟨vl, rfl⟩ ?_ ?_
    · rintro j d ρ hd ⟨vl, rfl⟩
      obtain ⟨w, rfl, hw⟩ := hds d (List.mem_of_getElem? hd)
      refine ⟨_, rfl, ?_⟩
      have r1 := told hw
      have r2 := due hw
      have hpl := pl_read w hw
      have r3 := Lb.same_refl 2 39 _ hpl (by omega)
      have r4 := hpl.frz
      generalize readD w = y at r1 r2 r3 r4
      simp [r1, r2, r3, r4]
    · rintro ρ' ⟨vl, rfl⟩
      simp
  refine fl_for (fun i ρ => ∃ (d5 : D) (ds : List D) (k0 : Option D), ρ = [some (.scr ns), some d5, some X, some (.str t), some (.own ds), k0, none] ∧ AllS ds ∧ ds.length ≤ 24 + i ∧ Lb.PoolOK (50 + 10 * (i : Nat)) d5) _ 0 _ ⟨d4, _, none, rfl, ?_, by simp, p4.mono (by omega)⟩ ?_ ?_
  · intro d hd
    simp only [List.mem_cons, List.not_mem_nil, or_false] at hd
    rcases hd with rfl | rfl | rfl | rfl | rfl | rfl | rfl | rfl | rfl | rfl | rfl | rfl | rfl | rfl | rfl | rfl | rfl | rfl | rfl | rfl | rfl | rfl | rfl | rfl
    all_goals first | exact ⟨_, rfl, l5⟩ | exact ⟨_, rfl, l6⟩ | exact ⟨_, rfl, Nat.le_trans (lc _ _) (by decide)⟩ | exact ⟨_, rfl, by decide⟩ | skip
    · exact ⟨_, rfl, by rw [len_cat, show ("\n" : Str).length = 1 by decide]; omega⟩
    · exact ⟨_, rfl, by have := lc none (some 3); rw [len_cat]; omega⟩
  · rintro i x ρ hx ⟨d5, ds, k0, rfl, A, L, P⟩
    have hi : i < 10 := by
      have := (List.getElem?_eq_some_iff.mp hx).1
      rwa [rangeD_len] at this
    refine ⟨_, rfl, ?_⟩
    obtain ⟨_, _, eb, d6, w, rfl, lw, rfl, P6⟩ := (Lb.bent (by omega) P (x := t) (z := ("0123 \n-x" : Str)) (by omega) (by decide) (by decide)).get
    have hlt : ds.length < sizeLine := lt_sizeB (by omega)
    simp [e_bent, eb, hlt]
    refine ⟨d6, ds ++ [.str w], ⟨rfl, rfl⟩, ?_, by simp; omega, P6.mono (by omega)⟩
    intro d hd
    rcases List.mem_append.mp hd with h | h
    · exact A d h
    · exact ⟨w, List.mem_singleton.mp h, lw⟩
  · rintro ρ' ⟨d5, ds, k0, rfl, A, L, P⟩
    rw [rangeD_len] at P
    have := fin ds d5 k0 none A (P.mono (by omega))
    simp [itemsOf, sqOf, tupOf, lstOf]
    simpa using this
theorem law_true : ∀ ns : List Int, ns.length ≤ 63 → (∀ z ∈ ns, Builtin.Int.intBits z ≤ 1048576) → ∃ ρ', G_law [some (.scr ns)] = .ok (.bl true) ρ' := fun ns hn _ => by
  obtain ⟨d, ρ, e, rfl⟩ := (law_ok hn).get
  exact ⟨ρ, e⟩
end K60
end
section
open PySem PySem.W PySem.Calls PyProof.Rows
theorem PySem.Challenge.cw_sharewright_k60_whole_tastes_texts_holds : PySem.Challenge.rw_sharewright_k60_whole_tastes_texts.Holds := by
  w_on; o_law
  refine HandSHeadRun.head_any (r := OpenLaw.row PySem.Challenge.rw_sharewright_k60_whole_tastes_texts) (q := view (OpenLaw.row PySem.Challenge.rw_sharewright_k60_whole_tastes_texts).prog [35]) (H := K60.hk) (ob := K60.ob) (M := 4000) (loose := K60.loose) (d := HandSHeadRun.topDef (OpenLaw.row PySem.Challenge.rw_sharewright_k60_whole_tastes_texts).prog 35) (kwd := [])
    K60.ob_eq (by kernel_rfl) (fun s => by kernel_rfl) K60.run (by kernel_rfl) (by kernel_rfl) (by kernel_rfl) (by rfl) (by first | assumption | decide +kernel) (by decide +kernel) ⟨rfl, rfl, rfl, rfl, rfl, by decide +kernel⟩ ?hw ?hc
  case hw => w_witness2
  case hc =>
    refine LamX.walk_ofTsE (l := PySem.Challenge.rw_sharewright_k60_whole_tastes_texts) (n := 63) (k := 84) (x := "script") (CX := fun w => L2.CX (PySem.Challenge.rw_sharewright_k60_whole_tastes_texts).prog w) rfl (by decide) (by kernel_rfl) ⟨rfl, by decide, by decide⟩ ?F (fun w => HeB.noexit w)
    intro w mg fa h Y G hmg0
    obtain ⟨K, KX, c⟩ := Y
    have hmg : mg ("law" : PySem.Str) = some (.ref fa) := by
      have e : (HandSHeadRun.topDef (OpenLaw.row PySem.Challenge.rw_sharewright_k60_whole_tastes_texts).prog 35).name = ("law" : PySem.Str) := by kernel_rfl
      rw [← e]
      exact hmg0
    obtain ⟨fd, hb, hm, hF⟩ := K60.facts KX G c
    rw [hmg] at hm
    cases hm
    exact ⟨K, KX, HeB.law_at KX c (by decide) hb K60.law_true hF⟩
end
